/- What each function comes to: equations of the evaluator. -/
import Derived.Test.YtfpfjmahdneehaaGreatDoorTab
open Int renaming toNat->À,tdiv->Æ,tmod->Ç
open Sum renaming inl->Á,inr->Â
open List renaming replicate->Ã
open UInt8 renaming ofNat->Ä
open Nat renaming ble->Å
open Go.IntKind
namespace Go.Proofs.YtfpfjmahdneehaaGreatDoor
noncomputable section
open Go Go.Ev
def Fj:Nat->af->af->ae->ae->Int->cj->bn->Int->O->ah->ah->ae->Int->Option Int:=cF 1
def Fk:Nat->af->af->ae->ae->Int->Option Int:=cF 2
def yw:Nat->af->Int->Option Int:=cF 3
def yx:Nat->Nat->Int->af->Int->Option (Sum Int Int):=cL 3 0
def yy:Nat->ae->Int->Option Int:=cF 4
def yz:Nat->Nat->Int->Int->ae->Option (Sum Int Int):=cL 4 0
def Fl:Nat->Int->Int->O->Int->Option Int:=cF 5
def Fm:Nat->cj->Int->Option Int:=cF 6
def yA:Nat->Nat->Int->Int->cj->Option (Sum Int Int):=cL 6 0
def Fo:Nat->Int->Int->Int->Int->Int->aZ->ae->ai->Int->Int->ah->O->Int->ch->ah->ah->Int->ae->ai->Int->Int->ah->O->bY->Int->bn->Int->Option Int:=cF 7
def Fp:Nat->Int->Int->Int->Int->aZ->ae->ai->Int->Int->ah->O->Int->Option Int:=cF 8
def Fq:Nat->Int->Int->aZ->Int->Option Int:=cF 9
def yB:Nat->aZ->Int->Option Int:=cF 10
def yC:Nat->Nat->Int->Int->aZ->Option (Sum Int Int):=cL 10 0
def Fs:Nat->Int->Int->Int->O->Int->Option Int:=cF 11
def yD:Nat->Int->Int->O->Int->Option Int:=cF 12
def yE:Nat->ae->ai->Int->Int->ah->O->Int->Option Int:=cF 13
def Ft:Nat->ae->ai->Int->Int->Int->Option Int:=cF 14
def Fu:Nat->ae->Int->Option Int:=cF 15
def yF:Nat->Nat->Int->Int->ae->Option (Sum Int Int):=cL 15 0
def yG:Nat->Int->Int->O->Int->Option Int:=cF 16
def Fv:Nat->ai->Int->Option Int:=cF 17
def yH:Nat->Nat->Int->Int->ai->Option (Sum Int Int):=cL 17 0
def Fw:Nat->Int->O->Int->Int->O->Int->Option Int:=cF 18
def qp:Nat->ah->Int->Option Int:=cF 19
def Fx:Nat->ch->Int->Option Int:=cF 20
def Fy:Nat->bY->Int->Int->Option Int:=cF 21
def Fz:Nat->bY->Int->Option Int:=cF 22
def yI:Nat->bn->Int->Option Int:=cF 23
def yJ:Nat->Nat->Int->Int->bn->Option (Sum Int Int):=cL 23 0
def FA:Nat->Int->Int->Int->Int->Int->Int->Int->aZ->Bool->O->Int->Option Int:=cF 24
def FB:Nat->Int->O->Int->Option Int:=cF 25
def FC:Nat->ae->Int->Option Int:=cF 26
def yK:Nat->Nat->Int->Int->ae->Option (Sum Int Int):=cL 26 0
def uN:Nat->af->af->ae->ae->Int->cj->bn->Int->O->ah->ah->ae->Option (af×af×ae×ae×Int×cj×bn×Int×O×ah×ah×ae):=cF 27
def FD:Nat->af->af->ae->ae->Option (af×af×ae×ae):=cF 28
def yL:Nat->af->Option af:=cF 29
def yM:Nat->Nat->Int->af->af->Option (Sum af af):=cL 29 0
def yN:Nat->ae->Option ae:=cF 30
def yO:Nat->Nat->Int->ae->ae->Option (Sum ae ae):=cL 30 0
def FE:Nat->Int->Int->O->Option eA:=cF 31
def FF:Nat->cj->Option cj:=cF 32
def yP:Nat->Nat->Int->cj->cj->Option (Sum cj cj):=cL 32 0
def FH:Nat->Int->Int->Int->Int->Int->aZ->ae->ai->Int->Int->ah->O->Int->ch->ah->ah->Int->ae->ai->Int->Int->ah->O->bY->Int->bn->Option ql:=cF 33
def FI:Nat->Int->Int->Int->Int->aZ->ae->ai->Int->Int->ah->O->Option (Int×Int×Int×Int×aZ×ae×ai×Int×Int×ah×O):=cF 34
def FJ:Nat->Int->Int->aZ->Option (Int×Int×aZ):=cF 35
def yQ:Nat->aZ->Option aZ:=cF 36
def yR:Nat->Nat->Int->aZ->aZ->Option (Sum aZ aZ):=cL 36 0
def FK:Nat->Int->Int->Int->O->Option OD:=cF 37
def yS:Nat->Int->Int->O->Option eA:=cF 38
def yT:Nat->ae->ai->Int->Int->ah->O->Option (ae×ai×Int×Int×ah×O):=cF 39
def FL:Nat->ae->ai->Int->Int->Option (ae×ai×Int×Int):=cF 40
def FM:Nat->ae->Option ae:=cF 41
def yU:Nat->Nat->Int->ae->ae->Option (Sum ae ae):=cL 41 0
def yV:Nat->Int->Int->O->Option eA:=cF 42
def FN:Nat->ai->Option ai:=cF 43
def yW:Nat->Nat->Int->ai->ai->Option (Sum ai ai):=cL 43 0
def FO:Nat->Int->O->Int->Int->O->Option rS:=cF 44
def qq:Nat->ah->Option ah:=cF 45
def yX:Nat->Nat->Int->ah->ah->Option (Sum ah ah):=cL 45 0
def FP:Nat->ch->Option ch:=cF 46
def yY:Nat->Nat->Int->ch->ch->Option (Sum ch ch):=cL 46 0
def FQ:Nat->bY->Int->Option (bY×Int):=cF 47
def FR:Nat->bY->Option bY:=cF 48
def yZ:Nat->Nat->Int->bY->bY->Option (Sum bY bY):=cL 48 0
def za:Nat->bn->Option bn:=cF 49
def zd:Nat->Nat->Int->bn->bn->Option (Sum bn bn):=cL 49 0
def FT:Nat->Int->Int->Int->Int->Int->Int->Int->aZ->Bool->O->Option ED:=cF 50
def FU:Nat->Int->O->Option (Int×O):=cF 51
def FV:Nat->ae->Option ae:=cF 52
def zf:Nat->Nat->Int->ae->ae->Option (Sum ae ae):=cL 52 0
def FW:Nat->af->af->ae->ae->Int->cj->bn->Int->O->ah->ah->ae->Option Bool:=cF 54
def uO:Nat->Nat->af->af->ae->ae->Int->cj->bn->Int->O->ah->ah->ae->Int->Option (Sum (af×af×ae×ae×Int×cj×bn×Int×O×ah×ah×ae) Bool):=cL 54 0
def uP:Nat->Nat->af->af->ae->ae->Int->cj->bn->Int->O->ah->ah->ae->Int->Option (Sum (af×af×ae×ae×Int×cj×bn×Int×O×ah×ah×ae) Bool):=cL 54 2
def uQ:Nat->Nat->af->af->ae->ae->Int->cj->bn->Int->O->ah->ah->ae->Int->Option (Sum Unit Bool):=cL 54 4
def uR:Nat->af->af->ae->ae->Option Bool:=cF 55
def rX:Nat->Nat->af->af->ae->ae->Int->Option (Sum (af×af×ae×ae) Bool):=cL 55 0
def rY:Nat->Nat->af->af->ae->ae->Int->Option (Sum (af×af×ae×ae) Bool):=cL 55 2
def zg:Nat->O->Option Bool:=cF 56
def zh:Nat->Nat->Int->O->Option (Sum O Bool):=cL 56 0
def FX:Nat->UInt8->Option Bool:=cF 57
def cq:Nat->Int->Int->Int->Option Bool:=cF 58
def FY:Nat->O->Option Bool:=cF 59
def qs:Nat->af->O->Option Bool:=cF 60
def zi:Nat->Nat->Int->O->af->Option (Sum Unit Bool):=cL 60 0
def zj:Nat->Option af:=cF 61
def zk:Nat->ae->Int->Int->Option Bool:=cF 62
def uT:Nat->Nat->Int->Int->Int->Int->ae->Option (Sum Unit Bool):=cL 62 0
def FZ:Nat->Int->Int->O->Int->Int->Int->Option Bool:=cF 63
def iH:Nat->Int->Option Bool:=cF 64
def uU:Nat->O->Option (Int×Int×O×Bool×aT×Bool):=cF 65
def uV:Nat->O->Int->Bool->Int->Option (Int×Int×O×Bool×aT×O×Int×Bool):=cF 66
def qt:Nat->Nat->O->Int->Bool->Int->Int->O->Bool->Int->aT->Option (Sum (O×Int×Bool×Int×Int×O×Bool×aT) (Int×Int×O×Bool×aT×O×Int×Bool)):=cL 66 0
def zl:Nat->O->Int->Bool->Int->Option (Int×Int×O×Bool×aT×O×Int×Bool):=cF 67
def uW:Nat->Nat->O->Int->Bool->Int->Int->O->Bool->Int->aT->Option (Sum (O×Int×Bool×Int×Int×O×Bool×aT) (Int×Int×O×Bool×aT×O×Int×Bool)):=cL 67 0
def Ga:Nat->O->Int->Bool->Int->Option (Int×Int×O×Bool×aT×O×Int×Bool):=cF 68
def qu:Nat->Nat->O->Int->Bool->Int->Int->O->Bool->Int->Int->O->Bool->aT->Option (Sum (O×Int×Bool×Int×Int×O×Bool×Int×Int×O×Bool×aT) (Int×Int×O×Bool×aT×O×Int×Bool)):=cL 68 0
def uX:Nat->O->Int->Bool->Int->Option (Int×Int×O×Bool×aT×O×Int×Bool):=cF 69
def eR:Nat->O->Int->Bool->UInt8->Option (Bool×O×Int×Bool):=cF 70
def Gb:Nat->O->Int->Bool->Option (Int×Int×O×Bool×O×Int×Bool):=cF 71
def jH:Nat->Nat->O->Int->Bool->Int->Int->O->Bool->Int->Int->O->Bool->Int->ch->Bool->UInt8->O->Int->Int->Int->Option (Sum (O×Int×Bool×Int×Int×O×Bool×Int×Int×O×Bool×ch×Bool×UInt8×O×Int×Int) (Int×Int×O×Bool×O×Int×Bool)):=cL 71 2
def gL:Nat->Nat->O->Int->Bool->Int->Int->O->Bool->Int->Int->O->Bool->ch->Int->Option (Sum (O×Int×Bool×Int×Int×O×Bool×Int×Int×O×Bool×ch×Int) (Int×Int×O×Bool×O×Int×Bool)):=cL 71 0
def kT:Nat->Nat->O->Int->Bool->Int->Int->O->Bool->Int->Int->O->Bool->Int->bY->ch->Option (Sum (O×Int×Bool×Int×Int×O×Bool×Int×Int×O×Bool×bY) (Int×Int×O×Bool×O×Int×Bool)):=cL 71 4
def uY:Nat->Int->Int->O->Bool->aT->Option Int:=cF 72
def uZ:Nat->Nat->Int->Int->O->Bool->aT->Int->Int->Option (Sum Int Int):=cL 72 0
def qv:Nat->Int->Int->Option Int:=cF 73
def Gc:Nat->Int->O->Option Bool:=cF 74
def zm:Nat->ah->Option Bool:=cF 75
def vd:Nat->Nat->Int->ah->Option (Sum ah Bool):=cL 75 0
def Gd:Nat->af->af->ae->ae->Int->Int->Int->Int->Int->aZ->ae->ai->Int->Int->ah->O->Int->ch->ah->ah->Int->ae->ai->Int->Int->ah->O->bY->Int->bn->Int->Option Bool:=cF 76
def ve:Nat->Nat->Int->Int->Int->Int->Int->aZ->ae->ai->Int->Int->ah->O->Int->ch->ah->ah->Int->ae->ai->Int->Int->ah->O->bY->Int->bn->af->af->ae->ae->Int->Int->Int->Option (Sum (Int×Int×Int×Int×Int×aZ×ae×ai×Int×Int×ah×O×Int×ch×ah×ah×Int×ae×ai×Int×Int×ah×O×bY×Int×bn×af×af×ae×ae×Int×Int) Bool):=cL 76 0
def vf:Nat->Nat->Int->Int->Int->Int->Int->aZ->ae->ai->Int->Int->ah->O->Int->ch->ah->ah->Int->ae->ai->Int->Int->ah->O->bY->Int->bn->af->af->ae->ae->Int->Int->Int->Option (Sum (Int×Int×Int×Int×Int×aZ×ae×ai×Int×Int×ah×O×Int×ch×ah×ah×Int×ae×ai×Int×Int×ah×O×bY×Int×bn×af×af×ae×ae×Int) Bool):=cL 76 2
def Ge:Nat->af->af->ae->ae->Int->Int->Int->Int->aZ->ae->ai->Int->Int->ah->O->Option Bool:=cF 77
def zn:Nat->Int->Int->aZ->Option (Int×Int):=cF 78
def Gf:Nat->Int->Int->aZ->Option Bool:=cF 79
def vg:Nat->Nat->Int->Int->aZ->Int->Int->Option (Sum Unit Bool):=cL 79 0
def rZ:Nat->Int->Int->O->Option Bool:=cF 80
def Gg:Nat->O->Option Bool:=cF 81
def vh:Nat->Nat->Int->O->Option (Sum Unit Bool):=cL 81 0
def zo:Nat->af->af->ae->ae->ae->ai->Int->Int->ah->O->Option Bool:=cF 82
def vi:Nat->Nat->ae->ai->Int->Int->ah->O->af->af->ae->ae->Int->Option (Sum (ae×ai×Int×Int×ah×O×af×af×ae×ae) Bool):=cL 82 0
def Gh:Nat->ae->ai->Int->Int->Int->Int->Option Bool:=cF 83
def vj:Nat->Nat->ae->ai->Int->Int->Int->Int->Int->Option (Sum (ae×ai×Int×Int×Int×Int) Bool):=cL 83 0
def sa:Nat->Nat->ae->ai->Int->Int->Int->Int->Int->Option (Sum (ae×ai×Int×Int×Int) Bool):=cL 83 2
def zp:Nat->Int->Int->O->Option Bool:=cF 84
def vk:Nat->O->Option (Int×Bool):=cF 85
def zq:Nat->Nat->Int->O->Int->Option (Sum Int (Int×Bool)):=cL 85 0
def zr:Nat->O->Option (Int×Int):=cF 86
def vm:Nat->Nat->Int->O->Option (Sum (O×Int) (Int×Int)):=cL 86 0
def oG:Nat->Nat->Int->Int->O->Int->Bool->Option (Sum (Int×O×Int×Bool×Int) (Int×Int)):=cL 86 2
def qw:Nat->Nat->Int->Int->Int->O->Int->Bool->Option (Sum (Int×Int×Bool×Int) (Int×Int)):=cL 86 4
def kV:Nat->UInt8->Option Bool:=cF 87
def zt:Nat->Int->O->Int->Int->O->Int->O->Option Bool:=cF 88
def zu:Nat->Int->Int->Int->Int->Int->Int->Int->aZ->Bool->O->Int->Option Bool:=cF 89
def Gi:Nat->aZ->Int->Option Bool:=cF 90
def vn:Nat->Nat->Int->aZ->Int->Option (Sum aZ Bool):=cL 90 0
def Gj:Nat->bY->Int->Option Bool:=cF 91
def Gk:Nat->af->af->ae->ae->ae->Option (ae×ai×Int×Int×ah×O):=cF 92
def vo:Nat->Nat->ae->ai->Int->Int->ah->O->af->af->ae->ae->Int->Int->O->Int->ae->Option (Sum (Int×Int×O×ae×ai×Int×Int×ah×O) (ae×ai×Int×Int×ah×O)):=cL 92 0
def Gl:Nat->af->af->ae->ae->Option (ae×ai×Int×Int×ah×O):=cF 93
def Gm:Nat->af->af->ae->ae->Option (ae×ai×eA):=cF 94
def zv:Nat->Int->Option (ae×Int×Int):=cF 95
def zw:Nat->Int->Int->Option Int:=cF 96
def oH:Nat->ae->ai->Int->Int->Option (ae×ai×Int×Int):=cF 97
def oI:Nat->ae->ai->Int->Int->af->af->O->af->O->Int->Bool->ae->Option (ae×ai×Int×Int×af×af×O×af×O×Int×Bool):=cF 98
def vr:Nat->Nat->ae->ai->Int->Int->af->af->O->af->O->Int->Bool->ae->Int->Int->ae->Option (Sum (ae×ai×Int×Int×af×af×O×af×O×Int×Bool) (ae×ai×Int×Int×af×af×O×af×O×Int×Bool)):=cL 98 0
def ib:Nat->ae->ai->Int->Int->af->af->O->af->O->Int->Bool->Int->Option (ae×ai×Int×Int×af×af×O×af×O×Int×Bool):=cF 99
def zx:Nat->ae->ai->Int->Int->af->af->O->af->O->Int->Bool->ae->Int->Int->O->Int->Option (Int×Bool×ae×ai×Int×Int×af×af×O×af×O×Int×Bool×ae):=cF 100
def zA:Nat->Int->Int->O->Option Int:=cF 101
def vu:Nat->Int->Int->O->Option Bool:=cF 102
def lU:Nat->ae->ai->Int->Int->af->af->O->af->O->Int->Bool->O->Option (ae×ai×Int×Int×af×af×O×af×O×Int×Bool):=cF 103
def gg:Nat->Int->Int->O->Option O:=cF 104
def Gn:Nat->Int->Option O:=cF 105
def zB:Nat->Nat->O->Int->O->Option (Sum (Int×O×O) O):=cL 105 0
def vv:Nat->Int->Option Int:=cF 106
def zC:Nat->Int->Option O:=cF 107
def zD:Nat->Nat->Int->O->Option (Sum O O):=cL 107 0
def lV:Nat->ae->ai->Int->Int->af->af->O->af->O->Int->Bool->ae->Int->Int->O->ae->Option (ae×ai×Int×Int×af×af×O×af×O×Int×Bool×ae):=cF 108
def ek:Nat->ae->ai->Int->Int->af->af->O->af->O->Int->Bool->ae->Int->Int->O->Option (ae×ai×Int×Int×af×af×O×af×O×Int×Bool×ae):=cF 109
def gM:Nat->Int->Int->O->Option Int:=cF 110
def vx:Nat->ae->ai->Int->Int->af->af->O->af->O->Int->Bool->Int->Int->Int->Option (Int×Int×O×ae×ai×Int×Int×af×af×O×af×O×Int×Bool):=cF 111
def Gp:Nat->Int->Int->Option (Int×Bool):=cF 112
def na:Nat->Int->Option (Int×Bool):=cF 113
def gh:Nat->Int->Option eA:=cF 114
def Gq:Nat->Int->Int->Option (Int×Bool):=cF 115
def Gr:Nat->Int->Int->Option (Int×Bool):=cF 116
def Gs:Nat->Int->Int->Option (Int×Bool):=cF 117
def sb:Nat->Int->Int->O->Option O:=cF 118
def zE:Nat->ae->ai->Int->Int->Int->O->Option eA:=cF 119
def nc:Nat->ae->ai->Int->Int->Int->O->Option Int:=cF 120
def sd:Nat->Nat->ae->ai->Int->Int->Int->O->Int->Option (Sum Unit Int):=cL 120 0
def vy:Nat->ae->ai->Int->Int->af->af->O->af->O->Int->Bool->ae->Int->O->Int->Int->O->Option (ae×ai×Int×Int×af×af×O×af×O×Int×Bool×ae):=cF 121
def Gt:Nat->ae->ai->Int->Int->Int->O->Int->Int->O->Option (ae×ai×Int×Int×Bool):=cF 122
def vz:Nat->Nat->Int->Int->ae->ai->Int->Int->ae->ai->Int->Int->Int->Int->O->Int->O->Int->Option (Sum (Int×Int×ae×ai×Int×Int×ae×ai×Int×Int×Int×Int×O×Int×O×Int) (ae×ai×Int×Int×Bool)):=cL 122 0
def Gu:Nat->ae->ai->Int->Int->Int->O->Option (ae×ai×Int×Int):=cF 123
def zF:Nat->ae->ai->Int->Int->af->af->O->af->O->Int->Bool->ae->Int->Int->O->ae->Option (ae×ai×Int×Int×af×af×O×af×O×Int×Bool×ae):=cF 124
def Gv:Nat->ae->ai->Int->Int->af->af->O->af->O->Int->Bool->Int->Int->O->Option (Int×Int×O×ae×ai×Int×Int×af×af×O×af×O×Int×Bool):=cF 125
def vA:Nat->O->Option eA:=cF 126
def Gw:Nat->ae->ai->Int->Int->af->af->O->af->O->Int->Bool->Int->Int->O->Int->Int->O->Option (Int×Int×O×ae×ai×Int×Int×af×af×O×af×O×Int×Bool):=cF 127
def vC:Nat->O->O->Option eA:=cF 128
def Gx:Nat->Int->Int->O->Bool->aT->O->Option Bool:=cF 129
def Gy:Nat->Int->Int->O->Bool->aT->Option bZ:=cF 130
def Gz:Nat->Int->Int->O->Bool->aT->Option Bool:=cF 131
def vD:Nat->Int->Int->O->Bool->aT->Option Bool:=cF 132
def zG:Nat->Nat->Int->Int->O->Bool->aT->Int->Option (Sum (Int×Int×O×Bool×aT) Bool):=cL 132 0
def se:Nat->O->Option Bool:=cF 133
def zH:Nat->Nat->Int->O->Option (Sum Unit Bool):=cL 133 0
def lW:Nat->bZ->Int->Int->O->Bool->aT->Option bZ:=cF 134
def zI:Nat->Nat->Int->Int->O->Bool->aT->Int->bZ->Option (Sum bZ bZ):=cL 134 1
def lX:Nat->bZ->Int->Option bZ:=cF 135
def GC:Nat->bZ->aT->Option bZ:=cF 136
def zJ:Nat->Nat->Int->ah->aT->bZ->Option (Sum (ah×aT×bZ) bZ):=cL 136 0
def oJ:Nat->Nat->Int->bZ->ah->Option (Sum bZ bZ):=cL 136 2
def GD:Nat->bZ->O->Option (Int×Int×Bool):=cF 137
def sf:Nat->Nat->Int->O->bZ->Option (Sum Unit (Int×Int×Bool)):=cL 137 0
def zK:Nat->bZ->O->Int->Option Int:=cF 138
def qx:Nat->Nat->ah->Int->O->bZ->Int->Option (Sum Int Int):=cL 138 0
def qy:Nat->Nat->Int->ah->ah->Int->O->bZ->Int->Option (Sum (O×bZ×Int×Int×ah) Int):=cL 138 2
def GF:Nat->bZ->Option Bool:=cF 139
def zL:Nat->Nat->Int->Int->bZ->Option (Sum Int Bool):=cL 139 0
def zM:Nat->Int->Int->O->Bool->Int->Int->Int->Option Bool:=cF 140
def sg:Nat->bZ->ah->Bool->Bool->Option ah:=cF 141
def zN:Nat->Nat->Int->Bool->Bool->ah->ch->bZ->Option (Sum ch ah):=cL 141 0
def GG:Nat->bZ->ch->Int->Bool->Bool->Option ch:=cF 142
def gj:Nat->Nat->Bool->Bool->bZ->ch->ah->Option (Sum ch ch):=cL 142 0
def OS:Nat->ch->Option ah:=cF 143
def vE:Nat->Nat->Int->ah->ch->Option (Sum ah ah):=cL 143 0
def GH:Nat->Int->Int->O->Bool->Int->Int->UInt8->Option Bool:=cF 144
def GI:Nat->O->UInt8->Option Bool:=cF 145
def zO:Nat->Nat->Int->UInt8->O->Option (Sum Unit Bool):=cL 145 0
def sj:Nat->Bool->Option eA:=cF 146
def sk:Nat->Bool->Option Int:=cF 147
def GJ:Nat->O->ae->Option eA:=cF 148
def vF:Nat->O->ae->Option eA:=cF 149
def GK:Nat->Int->Option Int:=cF 150
def GL:Nat->O->O->Option Int:=cF 151
def zP:Nat->Nat->Int->O->O->Option (Sum Unit Int):=cL 151 0
def sn:Nat->O->UInt8->UInt8->Option O:=cF 152
def oK:Nat->Nat->Int->UInt8->UInt8->bY->Option (Sum bY O):=cL 152 0
def GM:Nat->ae->Option O:=cF 153
def GN:Nat->Int->Int->Int->O->Int->Int->O->Option eA:=cF 154
def GQ:Nat->Int->Int->O->Int->Int->O->Option Int:=cF 155
def vG:Nat->ae->ai->Int->Int->af->af->O->af->O->Int->Bool->ae->ai->Int->Int->Option (ae×ai×Int×Int×O×Int×Int×af×af×O×af×O×Int×Bool):=cF 156
def GR:Nat->af->af->ae->ae->ae->ai->Int->Int->ah->O->Int->Int->O->Option (ae×ai×Int×Int×ah×O):=cF 157
def GU:Nat->ae->ai->Int->Int->ah->O->Option (ae×ai×Int×Int×ah×O):=cF 158
def GV:Nat->af->af->ae->ae->ae->ai->Int->Int->O->Option (ae×ai×eA):=cF 159
def GX:Nat->O->Option af:=cF 160
def gN:Nat->Nat->Int->Int->O->af->Option (Sum af af):=cL 160 0
def GY:Nat->af->af->ae->ae->Int->cj->bn->Int->O->ah->ah->ae->Option Bool:=cF 162
def vH:Nat->Nat->af->af->ae->ae->Int->cj->bn->Int->O->ah->ah->ae->Int->cj->Int->Option (Sum (af×af×ae×ae×Int×cj×bn×Int×O×ah×ah×ae) Bool):=cL 162 0
def qz:Nat->af->af->ae->ae->Option Bool:=cF 163
def zQ:Nat->af->Option Bool:=cF 164
def so:Nat->Nat->Int->af->af->Int->Option (Sum af Bool):=cL 164 0
def GZ:Nat->O->Option Bool:=cF 165
def cR:Nat->Int->Int->Int->Option Bool:=cF 166
def zR:Nat->O->Int->Option Int:=cF 167
def vJ:Nat->Nat->Int->Int->O->Option (Sum Int Int):=cL 167 0
def Ha:Nat->UInt8->Option Bool:=cF 168
def Hb:Nat->O->Option Bool:=cF 169
def zS:Nat->Option af:=cF 170
def vK:Nat->af->O->Option Bool:=cF 171
def OT:Nat->af->O->Option Int:=cF 172
def zT:Nat->Nat->Int->af->O->Int->Option (Sum Unit Int):=cL 172 0
def Hc:Nat->af->af->ae->ae->af->Option (Bool×af×af×ae×ae):=cF 173
def OU:Nat->af->af->ae->ae->af->Option (Int×af×af×ae×ae):=cF 174
def zU:Nat->Nat->af->af->ae->ae->Int->af->Int->Option (Sum (af×af×ae×ae) (Int×af×af×ae×ae)):=cL 174 0
def Hd:Nat->af->af->ae->ae->O->Option (Bool×af×af×ae×ae):=cF 175
def zV:Nat->ae->Int->Int->Option Bool:=cF 176
def He:Nat->ae->Int->Int->ae->Option (Bool×ae×Int×Int):=cF 177
def OV:Nat->ae->Int->Int->ae->Option (Int×ae×Int×Int):=cF 178
def zW:Nat->Nat->ae->Int->Int->Int->ae->Int->Option (Sum (ae×Int×Int) (Int×ae×Int×Int)):=cL 178 0
def Hf:Nat->ae->Int->Int->Int->Int->O->Option (Bool×ae×Int×Int):=cF 179
def Hg:Nat->Int->Int->O->Int->Int->Int->Option Bool:=cF 180
def zX:Nat->Int->Option (O×O):=cF 181
def ic:Nat->Int->Option Bool:=cF 182
def zY:Nat->O->Option Bool:=cF 183
def zZ:Nat->O->Option (Int×Int×O×Bool×aT×Bool):=cF 184
def vL:Nat->O->Bool->Option (Int×Int×O×Bool×aT×O×Bool):=cF 185
def vM:Nat->Nat->O->Bool->Int->Int->O->Bool->aT->Option (Sum (O×Bool×Int×Int×O×Bool×aT) (Int×Int×O×Bool×aT×O×Bool)):=cL 185 0
def Aa:Nat->O->Bool->Option (Int×Int×O×Bool×aT×O×Bool):=cF 186
def Ab:Nat->Nat->O->Bool->Int->Int->O->Bool->aT->Option (Sum (O×Bool×Int×Int×O×Bool×aT) (Int×Int×O×Bool×aT×O×Bool)):=cL 186 0
def qA:Nat->O->Bool->Option (UInt8×Bool×O×Bool):=cF 187
def Hh:Nat->O->Bool->Option (Int×Int×O×Bool×aT×O×Bool):=cF 188
def Ac:Nat->Nat->O->Bool->Int->Int->O->Bool->Int->Int->O->Bool->aT->Option (Sum Unit (Int×Int×O×Bool×aT×O×Bool)):=cL 188 0
def Ad:Nat->O->Bool->Option (Int×Int×O×Bool×aT×O×Bool):=cF 189
def nf:Nat->O->Bool->UInt8->Option (Bool×O×Bool):=cF 190
def Hj:Nat->O->Bool->Option (Int×Int×O×Bool×O×Bool):=cF 191
def ng:Nat->Nat->O->Bool->Int->Int->O->Bool->Int->Int->O->Bool->Int->ch->O->Int->Int->Option (Sum (O×Bool×Int×Int×O×Bool×Int×Int×O×Bool×ch×O×Int) (Int×Int×O×Bool×O×Bool)):=cL 191 2
def oL:Nat->Nat->O->Bool->Int->Int->O->Bool->Int->Int->O->Bool->ch->Int->O->Option (Sum (O×Bool×Int×Int×O×Bool×Int×Int×O×Bool×ch) (Int×Int×O×Bool×O×Bool)):=cL 191 0
def sr:Nat->Nat->O->Bool->Int->Int->O->Bool->Int->Int->O->Bool->Int->bY->ch->Int->Option (Sum (O×Bool×Int×Int×O×Bool×Int×Int×O×Bool×bY) (Int×Int×O×Bool×O×Bool)):=cL 191 4
def ss:Nat->O->UInt8->Option Int:=cF 192
def Ae:Nat->UInt8->Option Int:=cF 193
def Af:Nat->Int->Int->O->Bool->aT->Option Int:=cF 194
def vN:Nat->Nat->Int->Int->aT->Int->Option (Sum Int Int):=cL 194 0
def Hk:Nat->Int->O->Option Bool:=cF 195
def lY:Nat->Int->Option Bool:=cF 196
def Hl:Nat->af->af->ae->ae->Int->Int->Int->Int->Int->aZ->ae->ai->Int->Int->ah->O->Int->ch->ah->ah->Int->ae->ai->Int->Int->ah->O->bY->Int->bn->Int->Option Bool:=cF 197
def Hm:Nat->af->af->ae->ae->Int->Int->Int->Int->aZ->ae->ai->Int->Int->ah->O->Option Bool:=cF 198
def Ag:Nat->Int->Int->aZ->Option (Int×Int):=cF 199
def Hn:Nat->Int->Option Bool:=cF 200
def Ho:Nat->Int->Int->aZ->Option Bool:=cF 201
def vO:Nat->Nat->Int->Int->aZ->Int->Option (Sum Unit Bool):=cL 201 0
def sv:Nat->Int->Int->O->Option Bool:=cF 202
def Hp:Nat->O->Option Bool:=cF 203
def sw:Nat->O->O->Option Bool:=cF 204
def vP:Nat->af->af->ae->ae->ae->ai->Int->Int->ah->O->Option Bool:=cF 205
def Ah:Nat->ae->ai->Int->Int->Int->Int->Option Bool:=cF 206
def sx:Nat->Nat->ae->ai->Int->Int->Int->Int->ai->Int->Option (Sum Unit Bool):=cL 206 0
def Hq:Nat->ae->Option Bool:=cF 207
def OW:Nat->ae->Option Int:=cF 208
def Ai:Nat->Nat->Int->ae->Int->Option (Sum Unit Int):=cL 208 0
def Hr:Nat->Int->Int->O->Option Bool:=cF 209
def Aj:Nat->Int->Int->O->Option Bool:=cF 210
def Ak:Nat->O->Option (Int×Bool):=cF 211
def Al:Nat->O->Option (Int×Int):=cF 212
def Am:Nat->O->O->Option O:=cF 213
def An:Nat->O->UInt8->Option O:=cF 214
def Ao:Nat->Nat->O->UInt8->Option (Sum O O):=cL 214 0
def nh:Nat->O->Int->Option Int:=cF 215
def vQ:Nat->Nat->Int->Int->O->Option (Sum Int Int):=cL 215 0
def jI:Nat->O->O->Option (Int×Bool):=cF 216
def OX:Nat->O->Option (Int×Bool):=cF 217
def qB:Nat->Int->Option (Int×Bool):=cF 218
def Hs:Nat->O->O->Option O:=cF 219
def vR:Nat->O->UInt8->Option O:=cF 220
def vT:Nat->Nat->O->UInt8->Option (Sum O O):=cL 220 0
def vV:Nat->Int->O->Int->Int->O->Int->O->Int->Int->O->Option Int:=cF 221
def Ht:Nat->O->O->Option Int:=cF 222
def Hu:Nat->ah->Option Bool:=cF 223
def OY:Nat->ah->Option Int:=cF 224
def Ap:Nat->Nat->Int->ah->Int->Option (Sum Unit Int):=cL 224 0
def Hv:Nat->Int->Option Bool:=cF 225
def qC:Nat->ah->Int->Int->Int->Option Bool:=cF 226
def Hw:Nat->Int->Int->ah->Option (Bool×Int×Int):=cF 227
def OZ:Nat->Int->Int->ah->Option (Int×Int×Int):=cF 228
def Aq:Nat->Nat->Int->Int->Int->ah->Int->Option (Sum (Int×Int) (Int×Int×Int)):=cL 228 0
def Hy:Nat->Int->Int->Int->Option (Bool×Int×Int):=cF 229
def Hz:Nat->bY->Int->Option Bool:=cF 230
def HA:Nat->Int->Int->Int->Int->Int->Int->aZ->ae->ai->Int->Int->ah->O->Int->ch->ah->ah->Int->ae->ai->Int->Int->ah->O->bY->Int->bn->bn->Option (Bool×Int×ql):=cF 231
def Pb:Nat->Int->Int->Int->Int->Int->Int->aZ->ae->ai->Int->Int->ah->O->Int->ch->ah->ah->Int->ae->ai->Int->Int->ah->O->bY->Int->bn->bn->Option (Int×Int×ql):=cF 232
def Ar:Nat->Nat->Int->Int->Int->Int->Int->Int->aZ->ae->ai->Int->Int->ah->O->Int->ch->ah->ah->Int->ae->ai->Int->Int->ah->O->bY->Int->bn->Int->bn->Int->Option (Sum (Int×ql) (Int×Int×ql)):=cL 232 0
def HB:Nat->Int->Int->Int->Int->Int->Int->aZ->ae->ai->Int->Int->ah->O->Int->ch->ah->ah->Int->ae->ai->Int->Int->ah->O->bY->Int->bn->Int->Int->Int->Int->Int->Int->Int->aZ->Bool->O->Option (Bool×Int×ql):=cF 233
def As:Nat->Int->Int->Int->Int->Int->Int->Int->aZ->Bool->O->Int->Option Bool:=cF 234
def HC:Nat->aZ->Int->Option Bool:=cF 235
def HD:Nat->Int->aZ->Option (Bool×Int):=cF 236
def Pc:Nat->Int->aZ->Option (Int×Int):=cF 237
def Au:Nat->Nat->Int->Int->aZ->Int->Option (Sum Int (Int×Int)):=cL 237 0
def HE:Nat->Int->Int->Int->Int->O->Option (Bool×Int):=cF 238
def HF:Nat->af->af->ae->ae->Int->cj->bn->Int->O->ah->ah->ae->bn->Option (Bool×af×af×ae×ae×Int×cj×bn×Int×O×ah×ah×ae):=cF 239
def Pd:Nat->af->af->ae->ae->Int->cj->bn->Int->O->ah->ah->ae->bn->Option (Int×af×af×ae×ae×Int×cj×bn×Int×O×ah×ah×ae):=cF 240
def Av:Nat->Nat->af->af->ae->ae->Int->cj->bn->Int->O->ah->ah->ae->Int->bn->Int->Option (Sum (af×af×ae×ae×Int×cj×bn×Int×O×ah×ah×ae) (Int×af×af×ae×ae×Int×cj×bn×Int×O×ah×ah×ae)):=cL 240 0
def HG:Nat->af->af->ae->ae->Int->cj->bn->Int->O->ah->ah->ae->Int->Int->Int->Int->Int->Int->Int->aZ->Bool->O->Option (Bool×af×af×ae×ae×Int×cj×bn×Int×O×ah×ah×ae):=cF 241
def HH:Nat->ae->Option Bool:=cF 242
def Pe:Nat->ae->Option Int:=cF 243
def Aw:Nat->Nat->Int->ae->Int->Option (Sum Unit Int):=cL 243 0
def HI:Nat->Int->Int->O->Option Bool:=cF 244
def HJ:Nat->af->af->ae->ae->ae->Option (ae×ai×Int×Int×ah×O):=cF 245
def Ax:Nat->Nat->ae->ai->Int->Int->ah->O->af->af->ae->ae->Int->Int->O->Int->ae->Int->Option (Sum (Int×Int×O×ae×ai×Int×Int×ah×O) (ae×ai×Int×Int×ah×O)):=cL 245 0
def HK:Nat->af->af->ae->ae->Option (ae×ai×Int×Int×ah×O):=cF 246
def HL:Nat->af->af->ae->ae->Option (ae×ai×eA):=cF 247
def Ay:Nat->Int->Option (ae×Int×Int):=cF 248
def ni:Nat->ae->ai->Int->Int->Option (ae×ai×Int×Int):=cF 249
def Az:Nat->ae->Option ae:=cF 250
def Pf:Nat->ai->Option ai:=cF 251
def sy:Nat->ae->ai->Int->Int->O->O->ae->Int->ae->Option (ae×ai×Int×Int×O×O×ae×Int):=cF 252
def fA:Nat->Nat->ae->ai->Int->Int->O->O->ae->Int->Int->Int->ae->Option (Sum (ae×ai×Int×Int×O×O×ae×Int) (ae×ai×Int×Int×O×O×ae×Int)):=cL 252 0
def kr:Nat->ae->ai->Int->Int->O->O->ae->Int->Int->Option (ae×ai×Int×Int×O×O×ae×Int):=cF 253
def AD:Nat->Int->Int->O->Option Int:=cF 254
def AE:Nat->ae->ai->Int->Int->O->O->ae->Int->Int->Option (ae×ae×ai×Int×Int×O×O×ae×Int):=cF 255
def vW:Nat->Int->Int->O->Option Bool:=cF 256
def nj:Nat->ae->ai->Int->Int->O->O->ae->Int->Int->Int->O->ae->Option (ae×ai×Int×Int×O×O×ae×Int):=cF 257
def fj:Nat->ae->ai->Int->Int->O->O->ae->Int->Int->Int->O->Option (ae×ai×Int×Int×O×O×ae×Int):=cF 258
def AF:Nat->ae->ai->Int->Int->O->O->ae->Int->Int->Int->O->Int->Int->O->Option (Int×Int×O×ae×ai×Int×Int×O×O×ae×Int):=cF 259
def kW:Nat->Int->Int->O->Option Int:=cF 260
def AG:Nat->Int->Int->Option (Int×Bool):=cF 261
def iI:Nat->Int->Option eA:=cF 262
def gO:Nat->Int->Int->O->Option O:=cF 263
def HM:Nat->Int->Option O:=cF 264
def kX:Nat->Int->Option O:=cF 265
def sA:Nat->O->O->Option O:=cF 266
def oM:Nat->O->Option O:=cF 267
def sB:Nat->ae->ai->Int->Int->O->O->ae->Int->Int->O->Int->Int->O->Option (ae×ai×Int×Int×O×O×ae×Int):=cF 268
def HN:Nat->ae->ai->Int->Int->Int->O->Int->Int->O->Option (ae×ai×Int×Int×Bool):=cF 269
def nk:Nat->ae->ai->Int->Int->Int->O->Option Int:=cF 270
def HO:Nat->Int->O->ai->Option eA:=cF 271
def vX:Nat->Nat->Int->O->Int->ai->Int->Option (Sum (Int×O) eA):=cL 271 0
def Pg:Nat->Int->O->Int->O->Int->Int->O->Option (Bool×Int×O):=cF 272
def HP:Nat->Int->O->Int->Int->O->ai->Option (Int×rS):=cF 273
def vY:Nat->Nat->Int->O->Int->Int->O->Int->ai->Int->Option (Sum rS (Int×rS)):=cL 273 0
def HQ:Nat->Int->O->Int->Int->O->Int->O->Int->Int->O->Option (Bool×rS):=cF 274
def AH:Nat->ai->Int->ai->Option ai:=cF 275
def AI:Nat->ae->ai->Int->Int->Int->O->Option eA:=cF 276
def HR:Nat->ae->ai->Int->Int->Int->O->Option (ae×ai×Int×Int):=cF 277
def Ph:Nat->ai->Int->Int->Option ai:=cF 278
def sC:Nat->ae->ai->Int->Int->O->O->ae->Int->O->Option (ae×ai×Int×Int×O×O×ae×Int):=cF 279
def HS:Nat->ae->ai->Int->Int->O->O->ae->Int->Int->Int->O->ae->Option (ae×ai×Int×Int×O×O×ae×Int):=cF 280
def nn:Nat->O->Option eA:=cF 281
def vZ:Nat->Int->Int->O->Option Int:=cF 282
def AJ:Nat->Int->Option Int:=cF 283
def HT:Nat->O->Int->Option eA:=cF 284
def wa:Nat->O->Option eA:=cF 285
def AK:Nat->O->Option af:=cF 286
def wc:Nat->O->O->Option Bool:=cF 287
def HU:Nat->Int->Int->O->Bool->aT->O->Option Bool:=cF 288
def HV:Nat->Int->Int->O->Bool->aT->Option bZ:=cF 289
def HW:Nat->Int->Int->O->Bool->aT->Option Bool:=cF 290
def AL:Nat->Int->Int->O->Bool->aT->Int->Option Bool:=cF 291
def ji:Nat->Int->aT->Option (Bool×Int):=cF 292
def Pj:Nat->Int->aT->Option (Int×Int):=cF 293
def AM:Nat->Nat->Int->Int->aT->Int->Option (Sum Int (Int×Int)):=cL 293 0
def AO:Nat->Int->Int->Int->O->Bool->aT->Option (Bool×Int):=cF 294
def AP:Nat->Int->Int->O->Bool->aT->Option Bool:=cF 295
def we:Nat->Nat->Int->Int->O->Bool->aT->Int->Int->Option (Sum (Int×Int×O×Bool×aT) Bool):=cL 295 0
def jJ:Nat->bZ->Int->Int->O->Bool->aT->Option bZ:=cF 296
def AQ:Nat->Nat->Int->bZ->aT->Int->Option (Sum bZ bZ):=cL 296 1
def HX:Nat->bZ->aT->Option bZ:=cF 297
def AR:Nat->Nat->Int->ah->bZ->aT->aT->Int->Option (Sum (ah×aT×bZ) bZ):=cL 297 0
def oN:Nat->Nat->Int->bZ->ah->Int->Option (Sum bZ bZ):=cL 297 2
def HY:Nat->bZ->O->Option (Int×Int×Bool):=cF 298
def sD:Nat->Nat->Int->O->bZ->Option (Sum Unit (Int×Int×Bool)):=cL 298 0
def AS:Nat->bZ->Option Bool:=cF 299
def AU:Nat->Nat->Int->bZ->bZ->Int->Option (Sum Unit Bool):=cL 299 0
def AV:Nat->Int->Int->O->Bool->Int->Int->Int->Bool->Option Bool:=cF 300
def AW:Nat->bZ->O->Int->Option Int:=cF 301
def qD:Nat->Nat->Int->O->bZ->Int->ah->Option (Sum Unit Int):=cL 301 0
def qE:Nat->Nat->Int->ah->Int->O->bZ->ah->Bool->Int->Int->Int->Option (Sum (O×bZ×Bool×Int×ah×Int×Int×ah) Int):=cL 301 2
def AX:Nat->bZ->ah->Bool->Bool->Option ah:=cF 302
def AY:Nat->Nat->bZ->ch->ah->Int->ah->Bool->Bool->Int->Option (Sum (bZ×ch×ah×Bool×Bool) ah):=cL 302 0
def eo:Nat->Nat->bZ->ch->ah->Int->Bool->Bool->Option (Sum ah ah):=cL 302 2
def jj:Nat->bZ->ch->ah->Int->Option (bZ×ch×ah):=cF 303
def Pk:Nat->ah->Option ah:=cF 304
def AZ:Nat->ah->Int->Option Bool:=cF 305
def Pm:Nat->ah->Int->Option Int:=cF 306
def Ba:Nat->Nat->Int->ah->Int->Int->Option (Sum Unit Int):=cL 306 0
def HZ:Nat->Int->Int->O->Bool->Int->Int->UInt8->Option Bool:=cF 307
def qF:Nat->Bool->Option eA:=cF 308
def Ia:Nat->O->ae->Option eA:=cF 309
def Bc:Nat->Nat->Int->Int->O->ae->O->Option (Sum (Int×Int×O×ae×O) eA):=cL 309 0
def sE:Nat->O->UInt8->UInt8->Option O:=cF 310
def oO:Nat->Nat->Int->UInt8->UInt8->bY->Int->Option (Sum bY O):=cL 310 0
def Ib:Nat->O->O->Option Int:=cF 311
def Bd:Nat->O->Int->Int->Option O:=cF 312
def Ic:Nat->Int->Int->Int->O->Int->Int->O->Option (Int×Int×O×Int):=cF 313
def Ie:Nat->Int->Int->Int->Option (Int×Int):=cF 314
def Ig:Nat->Int->Int->Option (Int×Bool):=cF 315
def Ih:Nat->Int->Int->Option (Int×Bool):=cF 316
def Be:Nat->Int->Option Int:=cF 317
def Ii:Nat->Int->Int->Option (Int×Int):=cF 318
def Ij:Nat->Int->Int->Int->Option (Int×Int):=cF 319
def wh:Nat->Nat->Int->Int->Int->Int->Int->Int->Int->Int->Int->Option (Sum (Int×Int×Int×Int×Int×Int×Int×Int) (Int×Int)):=cL 319 0
def wi:Nat->Nat->Int->Int->Int->Int->Int->Int->Int->Int->Int->Option (Sum (Int×Int×Int×Int×Int×Int) (Int×Int)):=cL 319 2
def Ik:Nat->Int->Option Int:=cF 320
def anH:Nat->Int->Option Int:=cF 321
def Il:Nat->Int->Int->Option (Int×Bool):=cF 322
def Im:Nat->Int->Int->O->Int->Int->O->Option Int:=cF 323
def Io:Nat->Int->Int->Option Bool:=cF 324
def wj:Nat->ae->ai->Int->Int->O->O->ae->Int->ae->ai->Int->Int->Option (ae×ai×Int×Int×O×Int×Int×O×O×ae×Int):=cF 325
def Ip:Nat->af->af->ae->ae->ae->ai->Int->Int->ah->O->Int->Int->O->Option (ae×ai×Int×Int×ah×O):=cF 326
def Iq:Nat->ae->ai->Int->Int->ah->O->Option (ae×ai×Int×Int×ah×O):=cF 327
def Pn:Nat->ah->Option ah:=cF 328
def Ir:Nat->af->af->ae->ae->ae->ai->Int->Int->O->Option (ae×ai×eA):=cF 329
def Is:Nat->af->af->ae->ae->Int->cj->bn->Int->O->ah->ah->ae->af->af->ae->ae->Int->cj->bn->Int->O->ah->ah->ae->Option Bool:=cF 332
def Iu:Nat->af->af->ae->ae->af->af->ae->ae->Option Bool:=cF 333
def Bf:Nat->af->af->Option Bool:=cF 334
def Bg:Nat->Nat->Int->af->af->Option (Sum Unit Bool):=cL 334 0
def Bh:Nat->ae->ae->Option Bool:=cF 335
def Bi:Nat->Nat->Int->ae->ae->Option (Sum Unit Bool):=cL 335 0
def Iv:Nat->Int->Int->O->Int->Int->O->Option Bool:=cF 336
def Iw:Nat->cj->cj->Option Bool:=cF 337
def Bj:Nat->Nat->Int->cj->cj->Option (Sum Unit Bool):=cL 337 0
def Ix:Nat->Int->Int->Int->Int->Int->aZ->ae->ai->Int->Int->ah->O->Int->ch->ah->ah->Int->ae->ai->Int->Int->ah->O->bY->Int->bn->Int->Int->Int->Int->Int->aZ->ae->ai->Int->Int->ah->O->Int->ch->ah->ah->Int->ae->ai->Int->Int->ah->O->bY->Int->bn->Option Bool:=cF 338
def Iy:Nat->Int->Int->Int->Int->aZ->ae->ai->Int->Int->ah->O->Int->Int->Int->Int->aZ->ae->ai->Int->Int->ah->O->Option Bool:=cF 339
def Iz:Nat->Int->Int->aZ->Int->Int->aZ->Option Bool:=cF 340
def Bk:Nat->aZ->aZ->Option Bool:=cF 341
def Bm:Nat->Nat->Int->aZ->aZ->Option (Sum Unit Bool):=cL 341 0
def IA:Nat->Int->Int->Int->O->Int->Int->Int->O->Option Bool:=cF 342
def Bn:Nat->Int->Int->O->Int->Int->O->Option Bool:=cF 343
def Bo:Nat->ae->ai->Int->Int->ah->O->ae->ai->Int->Int->ah->O->Option Bool:=cF 344
def IB:Nat->ae->ai->Int->Int->ae->ai->Int->Int->Option Bool:=cF 345
def IC:Nat->ae->ae->Option Bool:=cF 346
def Bp:Nat->Nat->Int->ae->ae->Option (Sum Unit Bool):=cL 346 0
def Bq:Nat->Int->Int->O->Int->Int->O->Option Bool:=cF 347
def ID:Nat->ai->ai->Option Bool:=cF 348
def Br:Nat->Nat->Int->ai->ai->Option (Sum Unit Bool):=cL 348 0
def IE:Nat->Int->O->Int->Int->O->Int->O->Int->Int->O->Option Bool:=cF 349
def qG:Nat->ah->ah->Option Bool:=cF 350
def Bs:Nat->Nat->Int->ah->ah->Option (Sum Unit Bool):=cL 350 0
def IF:Nat->ch->ch->Option Bool:=cF 351
def Bt:Nat->Nat->Int->ch->ch->Option (Sum Unit Bool):=cL 351 0
def IG:Nat->bY->Int->bY->Int->Option Bool:=cF 352
def IH:Nat->bY->bY->Option Bool:=cF 353
def Bu:Nat->Nat->Int->bY->bY->Option (Sum Unit Bool):=cL 353 0
def Bv:Nat->bn->bn->Option Bool:=cF 354
def Bw:Nat->Nat->Int->bn->bn->Option (Sum Unit Bool):=cL 354 0
def II:Nat->Int->Int->Int->Int->Int->Int->Int->aZ->Bool->O->Int->Int->Int->Int->Int->Int->Int->aZ->Bool->O->Option Bool:=cF 355
def IJ:Nat->Int->O->Int->O->Option Bool:=cF 356
def IK:Nat->ae->ae->Option Bool:=cF 357
def Bx:Nat->Nat->Int->ae->ae->Option (Sum Unit Bool):=cL 357 0
def Po:Nat->af->af->ae->ae->Int->cj->bn->Int->O->ah->ah->ae->Option Bool:=cF 358
def IL:Nat->af->af->ae->ae->Int->cj->bn->Int->O->ah->ah->ae->Option Bool:=cF 359
def wq:Nat->Nat->ae->ai->Int->Int->ah->O->af->af->ae->ae->Int->cj->bn->Int->O->ah->ah->ae->Int->Option (Sum (af×af×ae×ae×Int×cj×bn×Int×O×ah×ah×ae) Bool):=cL 359 0
def sF:Nat->Nat->af->af->ae->ae->Int->cj->bn->Int->O->ah->ah->ae->Int->Option (Sum Unit Bool):=cL 359 2
def IM:Nat->af->af->ae->ae->Int->cj->bn->Int->O->ah->ah->ae->Option Bool:=cF 360
def wx:Nat->Nat->ae->ai->Int->Int->ah->O->af->af->ae->ae->Int->cj->bn->Int->O->ah->ah->ae->Int->Option (Sum (af×af×ae×ae×Int×cj×bn×Int×O×ah×ah×ae) Bool):=cL 360 0
def sG:Nat->Nat->af->af->ae->ae->Int->cj->bn->Int->O->ah->ah->ae->Int->ae->Int->Option (Sum Unit Bool):=cL 360 2
theorem anI (n g h i j x4 k m p q r b d f):Fj (n+1) g h i j x4 k m p q r b d f=(Fk n g h i j f).bind fun s=>cond (decide (s<0)) (some (-1:Int)) ((Fm n k s).bind fun t=>cond (decide (t<0)) (some (-1:Int)) ((yI n m t).bind fun u=>cond (decide (u<0)) (some (-1:Int)) ((FB n p q u).bind fun z=>cond (decide (z<0)) (some (-1:Int)) ((qp n r z).bind fun y4=>cond (decide (y4<0)) (some (-1:Int)) ((qp n b y4).bind fun y5=>cond (decide (y5<0)) (some (-1:Int)) ((FC n d y5).bind fun y6=>cond (decide (y6<0)) (some (-1:Int)) (some y6))))))):=by kernel_rfl
theorem anJ (n b d f g h):Fk (n+1) b d f g h=(yw n b h).bind fun i=>cond (decide (i<0)) (some (-1:Int)) ((yw n d i).bind fun j=>cond (decide (j<0)) (some (-1:Int)) ((yy n f j).bind fun k=>cond (decide (k<0)) (some (-1:Int)) ((yy n g k).bind fun m=>cond (decide (m<0)) (some (-1:Int)) (some m)))):=by kernel_rfl
theorem Pp (n b d):yw (n+1) b d=letI a:=wrap .i64 (d-(b.length:Int));cond (decide (a<0)) (some (-1:Int)) ((yx n n 0 b a).bind fun f=>ay f (fun g=>some g) (fun h=>some h)):=by kernel_rfl
theorem Pq (n m b d f):yx n (m+1) b d f=letI c:=wrap .i64;cond (decide (b<(d.length:Int))) ((au d b).bind fun g=>letI a:=c (f-(g.length:Int));cond (decide (a<0)) (some (Â (-1:Int))) (yx n m (c (b+1)) d a)) (some (Á f)):=by kernel_rfl
theorem Pr (n b d):yy (n+1) b d=letI a:=wrap .i64 (d-(b.length:Int));cond (decide (a<0)) (some (-1:Int)) ((yz n n 0 a b).bind fun f=>ay f (fun g=>some g) (fun h=>some h)):=by kernel_rfl
theorem Ps (n m b f d):yz n (m+1) b f d=cond (decide (b<(d.length:Int))) ((au d b).bind fun g=>(Fl n g.1 g.2.1 g.2.2 f).bind fun h=>cond (decide (h<0)) (some (Â (-1:Int))) (yz n m (wrap .i64 (b+1)) h d)) (some (Á f)):=by kernel_rfl
theorem anK (n f g b d):Fl (n+1) f g b d=letI a:=wrap .i64 (d-(b.length:Int));cond (decide (a<0)) (some (-1:Int)) (some a):=by kernel_rfl
theorem Pt (n b d):Fm (n+1) b d=letI a:=wrap .i64 (d-(b.length:Int));cond (decide (a<0)) (some (-1:Int)) ((yA n n 0 a b).bind fun f=>ay f (fun g=>some g) (fun h=>some h)):=by kernel_rfl
theorem Pu (n m d g f):yA n (m+1) d g f=cond (decide (d<(f.length:Int))) ((au f d).bind fun b=>letI j:=b.2.2.2;letI e:=j.2.2.2;letI k:=e.2.2.2;letI a:=k.2.2.2;letI l:=a.2.2.2;letI c:=l.2.2.2;letI i:=c.2.2.2;(Fo n b.1 b.2.1 b.2.2.1 j.1 j.2.1 j.2.2.1 e.1 e.2.1 e.2.2.1 k.1 k.2.1 k.2.2.1 a.1 a.2.1 a.2.2.1 l.1 l.2.1 l.2.2.1 c.1 c.2.1 c.2.2.1 i.1 i.2.1 i.2.2.1 i.2.2.2.1 i.2.2.2.2 g).bind fun h=>cond (decide (h<0)) (some (Â (-1:Int))) (yA n m (wrap .i64 (d+1)) h f)) (some (Á g)):=by kernel_rfl
theorem anL (n x0 x1 x2 x3 x4 x5 x6 x7 x8 x9 b d z f g h ad i j k m p q r s t u):Fo (n+1) x0 x1 x2 x3 x4 x5 x6 x7 x8 x9 b d z f g h ad i j k m p q r s t u=(Fp n x1 x2 x3 x4 x5 x6 x7 x8 x9 b d u).bind fun y0=>cond (decide (y0<0)) (some (-1:Int)) ((Fx n f y0).bind fun y1=>cond (decide (y1<0)) (some (-1:Int)) ((qp n g y1).bind fun y2=>cond (decide (y2<0)) (some (-1:Int)) ((qp n h y2).bind fun y3=>cond (decide (y3<0)) (some (-1:Int)) ((yE n i j k m p q y3).bind fun y4=>cond (decide (y4<0)) (some (-1:Int)) ((Fy n r s y4).bind fun y5=>cond (decide (y5<0)) (some (-1:Int)) ((yI n t y5).bind fun y6=>cond (decide (y6<0)) (some (-1:Int)) (some y6))))))):=by kernel_rfl
theorem anM (n s t f g h i j k m p b d):Fp (n+1) s t f g h i j k m p b d=(Fq n f g h d).bind fun q=>cond (decide (q<0)) (some (-1:Int)) ((yE n i j k m p b q).bind fun r=>cond (decide (r<0)) (some (-1:Int)) (some r)):=by kernel_rfl
theorem anN (n g h b d):Fq (n+1) g h b d=(yB n b d).bind fun f=>cond (decide (f<0)) (some (-1:Int)) (some f):=by kernel_rfl
theorem Pv (n b d):yB (n+1) b d=letI a:=wrap .i64 (d-(b.length:Int));cond (decide (a<0)) (some (-1:Int)) ((yC n n 0 a b).bind fun f=>ay f (fun g=>some g) (fun h=>some h)):=by kernel_rfl
theorem Pw (n m b g d):yC n (m+1) b g d=cond (decide (b<(d.length:Int))) ((au d b).bind fun f=>(Fs n f.1 f.2.1 f.2.2.1 f.2.2.2 g).bind fun h=>cond (decide (h<0)) (some (Â (-1:Int))) (yC n m (wrap .i64 (b+1)) h d)) (some (Á g)):=by kernel_rfl
theorem anO (n i b d f g):Fs (n+1) i b d f g=(yD n b d f g).bind fun h=>cond (decide (h<0)) (some (-1:Int)) (some h):=by kernel_rfl
theorem anP (n f g b d):yD (n+1) f g b d=letI a:=wrap .i64 (d-(b.length:Int));cond (decide (a<0)) (some (-1:Int)) (some a):=by kernel_rfl
theorem anQ (n f g h i j b k):yE (n+1) f g h i j b k=(Ft n f g h i k).bind fun m=>cond (decide (m<0)) (some (-1:Int)) ((qp n j m).bind fun d=>letI a:=wrap .i64 (d-(b.length:Int));cond (decide (d<0)) (some (-1:Int)) (cond (decide (a<0)) (some (-1:Int)) (some a))):=by kernel_rfl
theorem anR (n b d i j f):Ft (n+1) b d i j f=(Fu n b f).bind fun g=>cond (decide (g<0)) (some (-1:Int)) ((Fv n d g).bind fun h=>cond (decide (h<0)) (some (-1:Int)) (some h)):=by kernel_rfl
theorem Px (n b d):Fu (n+1) b d=letI a:=wrap .i64 (d-(b.length:Int));cond (decide (a<0)) (some (-1:Int)) ((yF n n 0 a b).bind fun f=>ay f (fun g=>some g) (fun h=>some h)):=by kernel_rfl
theorem Py (n m b f d):yF n (m+1) b f d=cond (decide (b<(d.length:Int))) ((au d b).bind fun g=>(yG n g.1 g.2.1 g.2.2 f).bind fun h=>cond (decide (h<0)) (some (Â (-1:Int))) (yF n m (wrap .i64 (b+1)) h d)) (some (Á f)):=by kernel_rfl
theorem anS (n f g b d):yG (n+1) f g b d=letI a:=wrap .i64 (d-(b.length:Int));cond (decide (a<0)) (some (-1:Int)) (some a):=by kernel_rfl
theorem Pz (n b d):Fv (n+1) b d=letI a:=wrap .i64 (d-(b.length:Int));cond (decide (a<0)) (some (-1:Int)) ((yH n n 0 a b).bind fun f=>ay f (fun g=>some g) (fun h=>some h)):=by kernel_rfl
theorem PA (n m d g f):yH n (m+1) d g f=cond (decide (d<(f.length:Int))) ((au f d).bind fun b=>(Fw n b.1 b.2.1 b.2.2.1 b.2.2.2.1 b.2.2.2.2 g).bind fun h=>cond (decide (h<0)) (some (Â (-1:Int))) (yH n m (wrap .i64 (d+1)) h f)) (some (Á g)):=by kernel_rfl
theorem anT (n j b f g h d):Fw (n+1) j b f g h d=letI a:=wrap .i64 (d-(b.length:Int));cond (decide (a<0)) (some (-1:Int)) ((yG n f g h a).bind fun i=>cond (decide (i<0)) (some (-1:Int)) (some i)):=by kernel_rfl
theorem anU (n b d):qp (n+1) b d=letI a:=wrap .i64 (d-(b.length:Int));cond (decide (a<0)) (some (-1:Int)) (some a):=by kernel_rfl
theorem anV (n b d):Fx (n+1) b d=letI a:=wrap .i64 (d-(b.length:Int));cond (decide (a<0)) (some (-1:Int)) (some a):=by kernel_rfl
theorem anW (n b g d):Fy (n+1) b g d=(Fz n b d).bind fun f=>cond (decide (f<0)) (some (-1:Int)) (some f):=by kernel_rfl
theorem anX (n b d):Fz (n+1) b d=letI a:=wrap .i64 (d-(b.length:Int));cond (decide (a<0)) (some (-1:Int)) (some a):=by kernel_rfl
theorem PB (n b d):yI (n+1) b d=letI a:=wrap .i64 (d-(b.length:Int));cond (decide (a<0)) (some (-1:Int)) ((yJ n n 0 a b).bind fun f=>ay f (fun g=>some g) (fun h=>some h)):=by kernel_rfl
theorem PD (n m d g f):yJ n (m+1) d g f=cond (decide (d<(f.length:Int))) ((au f d).bind fun b=>letI a:=b.2.2.2.2;(FA n b.1 b.2.1 b.2.2.1 b.2.2.2.1 a.1 a.2.1 a.2.2.1 a.2.2.2.1 a.2.2.2.2.1 a.2.2.2.2.2 g).bind fun h=>cond (decide (h<0)) (some (Â (-1:Int))) (yJ n m (wrap .i64 (d+1)) h f)) (some (Á g)):=by kernel_rfl
theorem anY (n h i j k m p q g r d b):FA (n+1) h i j k m p q g r d b=(yB n g b).bind fun f=>letI a:=wrap .i64 (f-(d.length:Int));cond (decide (f<0)) (some (-1:Int)) (cond (decide (a<0)) (some (-1:Int)) (some a)):=by kernel_rfl
theorem anZ (n f b d):FB (n+1) f b d=letI a:=wrap .i64 (d-(b.length:Int));cond (decide (a<0)) (some (-1:Int)) (some a):=by kernel_rfl
theorem PE (n b d):FC (n+1) b d=letI a:=wrap .i64 (d-(b.length:Int));cond (decide (a<0)) (some (-1:Int)) ((yK n n 0 a b).bind fun f=>ay f (fun g=>some g) (fun h=>some h)):=by kernel_rfl
theorem PF (n m b f d):yK n (m+1) b f d=cond (decide (b<(d.length:Int))) ((au d b).bind fun g=>(yD n g.1 g.2.1 g.2.2 f).bind fun h=>cond (decide (h<0)) (some (Â (-1:Int))) (yK n m (wrap .i64 (b+1)) h d)) (some (Á f)):=by kernel_rfl
theorem aoA (n g h i j k m p q r s b d):uN (n+1) g h i j k m p q r s b d=(FD n g h i j).bind fun f=>(FF n m).bind fun u=>(za n p).bind fun z=>(FU n q r).bind fun t=>(qq n s).bind fun y4=>(qq n b).bind fun y5=>(FV n d).bind fun y6=>some (f.1,f.2.1,f.2.2.1,f.2.2.2,k,u,z,t.1,t.2,y4,y5,y6):=by kernel_rfl
theorem aoB (n b d f g):FD (n+1) b d f g=(yL n b).bind fun h=>(yL n d).bind fun i=>(yN n f).bind fun j=>(yN n g).bind fun k=>some (h,i,j,k):=by kernel_rfl
theorem aoC (n b):yL (n+1) b=letI a:=(b.length:Int);cond (decide (0<=a/\a<=a/\a<=(aD:Int))) ((yM n n 0 b (Ã (À a) ([]:O))).bind fun d=>ay d (fun f=>some f) (fun g=>some g)) none:=by kernel_rfl
theorem PG (n m b f d):yM n (m+1) b f d=letI a:=À b;cond (decide (b<(f.length:Int))) ((au f b).bind fun g=>cond (decide (0<=b/\b<(d.length:Int))) ((aM d a).bind fun _=>yM n m (wrap .i64 (b+1)) f (d.set a g)) none) (some (Á d)):=by kernel_rfl
theorem aoD (n b):yN (n+1) b=letI a:=(b.length:Int);cond (decide (0<=a/\a<=a/\a<=(aD:Int))) ((yO n n 0 b (Ã (À a) ((0:Int),(0:Int),([]:O)))).bind fun d=>ay d (fun f=>some f) (fun g=>some g)) none:=by kernel_rfl
theorem PH (n m b f d):yO n (m+1) b f d=letI a:=À b;cond (decide (b<(f.length:Int))) ((au f b).bind fun g=>(FE n g.1 g.2.1 g.2.2).bind fun h=>cond (decide (0<=b/\b<(d.length:Int))) ((aM d a).bind fun _=>yO n m (wrap .i64 (b+1)) f (d.set a (h.1,h.2.1,h.2.2))) none) (some (Á d)):=by kernel_rfl
theorem aoE (n b d f):FE (n+1) b d f=some (b,d,f):=by kernel_rfl
theorem aoF (n b):FF (n+1) b=letI a:=(b.length:Int);cond (decide (0<=a/\a<=a/\a<=(aD:Int))) ((yP n n 0 b (Ã (À a) ((0:Int),(0:Int),(0:Int),(0:Int),(0:Int),([]:aZ),([]:ae),([]:ai),(0:Int),(0:Int),([]:ah),([]:O),(0:Int),([]:ch),([]:ah),([]:ah),(0:Int),([]:ae),([]:ai),(0:Int),(0:Int),([]:ah),([]:O),([]:bY),(0:Int),([]:bn)))).bind fun d=>ay d (fun f=>some f) (fun g=>some g)) none:=by kernel_rfl
theorem PI (n m f h g):yP n (m+1) f h g=letI w:=À f;cond (decide (f<(h.length:Int))) ((au h f).bind fun b=>letI q:=b.2.2.2;letI k:=q.2.2.2;letI r:=k.2.2.2;letI a:=r.2.2.2;letI s:=a.2.2.2;letI e:=s.2.2.2;letI o:=e.2.2.2;(FH n b.1 b.2.1 b.2.2.1 q.1 q.2.1 q.2.2.1 k.1 k.2.1 k.2.2.1 r.1 r.2.1 r.2.2.1 a.1 a.2.1 a.2.2.1 s.1 s.2.1 s.2.2.1 e.1 e.2.1 e.2.2.1 o.1 o.2.1 o.2.2.1 o.2.2.2.1 o.2.2.2.2).bind fun d=>letI t:=d.2.2.2;letI l:=t.2.2.2;letI u:=l.2.2.2;letI c:=u.2.2.2;letI v:=c.2.2.2;letI j:=v.2.2.2;letI p:=j.2.2.2;cond (decide (0<=f/\f<(g.length:Int))) ((aM g w).bind fun _=>yP n m (wrap .i64 (f+1)) h (g.set w (d.1,d.2.1,d.2.2.1,t.1,t.2.1,t.2.2.1,l.1,l.2.1,l.2.2.1,u.1,u.2.1,u.2.2.1,c.1,c.2.1,c.2.2.1,v.1,v.2.1,v.2.2.1,j.1,j.2.1,j.2.2.1,p.1,p.2.1,p.2.2.1,p.2.2.2.1,p.2.2.2.2))) none) (some (Á g)):=by kernel_rfl
theorem aoG (n x0 x1 x2 x3 x4 x5 x6 x7 x8 x9 f g h i j k m p q r s t u z ad ae):FH (n+1) x0 x1 x2 x3 x4 x5 x6 x7 x8 x9 f g h i j k m p q r s t u z ad ae=(FI n x1 x2 x3 x4 x5 x6 x7 x8 x9 f g).bind fun b=>letI a:=b.2.2.2.2.2;(FP n i).bind fun y1=>(qq n j).bind fun y2=>(qq n k).bind fun y3=>(yT n p q r s t u).bind fun d=>(FQ n z ad).bind fun y5=>(za n ae).bind fun y6=>some (x0,b.1,b.2.1,b.2.2.1,b.2.2.2.1,b.2.2.2.2.1,a.1,a.2.1,a.2.2.1,a.2.2.2.1,a.2.2.2.2.1,a.2.2.2.2.2,h,y1,y2,y3,m,d.1,d.2.1,d.2.2.1,d.2.2.2.1,d.2.2.2.2.1,d.2.2.2.2.2,y5.1,y5.2,y6):=by kernel_rfl
theorem aoH (n g h i j k m p q r s d):FI (n+1) g h i j k m p q r s d=(FJ n i j k).bind fun f=>(yT n m p q r s d).bind fun b=>some (g,h,f.1,f.2.1,f.2.2,b.1,b.2.1,b.2.2.1,b.2.2.2.1,b.2.2.2.2.1,b.2.2.2.2.2):=by kernel_rfl
theorem aoI (n b d f):FJ (n+1) b d f=(yQ n f).bind fun g=>some (b,d,g):=by kernel_rfl
theorem aoJ (n b):yQ (n+1) b=letI a:=(b.length:Int);cond (decide (0<=a/\a<=a/\a<=(aD:Int))) ((yR n n 0 b (Ã (À a) ((0:Int),(0:Int),(0:Int),([]:O)))).bind fun d=>ay d (fun f=>some f) (fun g=>some g)) none:=by kernel_rfl
theorem PJ (n m b f d):yR n (m+1) b f d=letI a:=À b;cond (decide (b<(f.length:Int))) ((au f b).bind fun g=>(FK n g.1 g.2.1 g.2.2.1 g.2.2.2).bind fun h=>cond (decide (0<=b/\b<(d.length:Int))) ((aM d a).bind fun _=>yR n m (wrap .i64 (b+1)) f (d.set a (h.1,h.2.1,h.2.2.1,h.2.2.2))) none) (some (Á d)):=by kernel_rfl
theorem aoK (n d f g h):FK (n+1) d f g h=(yS n f g h).bind fun b=>some (d,b.1,b.2.1,b.2.2):=by kernel_rfl
theorem aoL (n b d f):yS (n+1) b d f=some (b,d,f):=by kernel_rfl
theorem aoM (n d f g h i j):yT (n+1) d f g h i j=(FL n d f g h).bind fun b=>(qq n i).bind fun k=>some (b.1,b.2.1,b.2.2.1,b.2.2.2,k,j):=by kernel_rfl
theorem aoN (n b d f g):FL (n+1) b d f g=(FM n b).bind fun h=>(FN n d).bind fun i=>some (h,i,f,g):=by kernel_rfl
theorem aoO (n b):FM (n+1) b=letI a:=(b.length:Int);cond (decide (0<=a/\a<=a/\a<=(aD:Int))) ((yU n n 0 b (Ã (À a) ((0:Int),(0:Int),([]:O)))).bind fun d=>ay d (fun f=>some f) (fun g=>some g)) none:=by kernel_rfl
theorem PK (n m b f d):yU n (m+1) b f d=letI a:=À b;cond (decide (b<(f.length:Int))) ((au f b).bind fun g=>(yV n g.1 g.2.1 g.2.2).bind fun h=>cond (decide (0<=b/\b<(d.length:Int))) ((aM d a).bind fun _=>yU n m (wrap .i64 (b+1)) f (d.set a (h.1,h.2.1,h.2.2))) none) (some (Á d)):=by kernel_rfl
theorem aoP (n b d f):yV (n+1) b d f=some (b,d,f):=by kernel_rfl
theorem aoQ (n b):FN (n+1) b=letI a:=(b.length:Int);cond (decide (0<=a/\a<=a/\a<=(aD:Int))) ((yW n n 0 b (Ã (À a) ((0:Int),([]:O),(0:Int),(0:Int),([]:O)))).bind fun d=>ay d (fun f=>some f) (fun g=>some g)) none:=by kernel_rfl
theorem PL (n m b h d):yW n (m+1) b h d=letI a:=À b;cond (decide (b<(h.length:Int))) ((au h b).bind fun f=>(FO n f.1 f.2.1 f.2.2.1 f.2.2.2.1 f.2.2.2.2).bind fun g=>cond (decide (0<=b/\b<(d.length:Int))) ((aM d a).bind fun _=>yW n m (wrap .i64 (b+1)) h (d.set a (g.1,g.2.1,g.2.2.1,g.2.2.2.1,g.2.2.2.2))) none) (some (Á d)):=by kernel_rfl
theorem aoR (n d f g h i):FO (n+1) d f g h i=(yV n g h i).bind fun b=>some (d,f,b.1,b.2.1,b.2.2):=by kernel_rfl
theorem aoS (n b):qq (n+1) b=letI a:=(b.length:Int);cond (decide (0<=a/\a<=a/\a<=(aD:Int))) ((yX n n 0 b (Ã (À a) (0:Int))).bind fun d=>ay d (fun f=>some f) (fun g=>some g)) none:=by kernel_rfl
theorem PM (n m b f d):yX n (m+1) b f d=letI a:=À b;cond (decide (b<(f.length:Int))) ((au f b).bind fun g=>cond (decide (0<=b/\b<(d.length:Int))) ((aM d a).bind fun _=>yX n m (wrap .i64 (b+1)) f (d.set a g)) none) (some (Á d)):=by kernel_rfl
theorem aoT (n b):FP (n+1) b=letI a:=(b.length:Int);cond (decide (0<=a/\a<=a/\a<=(aD:Int))) ((yY n n 0 b (Ã (À a) false)).bind fun d=>ay d (fun f=>some f) (fun g=>some g)) none:=by kernel_rfl
theorem PN (n m b f d):yY n (m+1) b f d=letI a:=À b;cond (decide (b<(f.length:Int))) ((au f b).bind fun g=>cond (decide (0<=b/\b<(d.length:Int))) ((aM d a).bind fun _=>yY n m (wrap .i64 (b+1)) f (d.set a g)) none) (some (Á d)):=by kernel_rfl
theorem aoU (n b d):FQ (n+1) b d=(FR n b).bind fun f=>some (f,d):=by kernel_rfl
theorem aoV (n b):FR (n+1) b=letI a:=(b.length:Int);cond (decide (0<=a/\a<=a/\a<=(aD:Int))) ((yZ n n 0 b (Ã (À a) (0:UInt8))).bind fun d=>ay d (fun f=>some f) (fun g=>some g)) none:=by kernel_rfl
theorem PQ (n m b f d):yZ n (m+1) b f d=letI a:=À b;cond (decide (b<(f.length:Int))) ((au f b).bind fun g=>cond (decide (0<=b/\b<(d.length:Int))) ((aM d a).bind fun _=>yZ n m (wrap .i64 (b+1)) f (d.set a (Ä (À ((g).toNat:Int))))) none) (some (Á d)):=by kernel_rfl
theorem aoW (n b):za (n+1) b=letI a:=(b.length:Int);cond (decide (0<=a/\a<=a/\a<=(aD:Int))) ((zd n n 0 b (Ã (À a) ((0:Int),(0:Int),(0:Int),(0:Int),(0:Int),(0:Int),(0:Int),([]:aZ),false,([]:O)))).bind fun d=>ay d (fun f=>some f) (fun g=>some g)) none:=by kernel_rfl
theorem PR (n m f h g):zd n (m+1) f h g=letI e:=À f;cond (decide (f<(h.length:Int))) ((au h f).bind fun b=>letI a:=b.2.2.2.2;(FT n b.1 b.2.1 b.2.2.1 b.2.2.2.1 a.1 a.2.1 a.2.2.1 a.2.2.2.1 a.2.2.2.2.1 a.2.2.2.2.2).bind fun d=>letI c:=d.2.2.2.2;cond (decide (0<=f/\f<(g.length:Int))) ((aM g e).bind fun _=>zd n m (wrap .i64 (f+1)) h (g.set e (d.1,d.2.1,d.2.2.1,d.2.2.2.1,c.1,c.2.1,c.2.2.1,c.2.2.2.1,c.2.2.2.2.1,c.2.2.2.2.2))) none) (some (Á g)):=by kernel_rfl
theorem aoX (n b d f g h i j k m p):FT (n+1) b d f g h i j k m p=(yQ n k).bind fun q=>some (b,d,f,g,h,i,j,q,m,p):=by kernel_rfl
theorem aoY (n b d):FU (n+1) b d=some (b,d):=by kernel_rfl
theorem aoZ (n b):FV (n+1) b=letI a:=(b.length:Int);cond (decide (0<=a/\a<=a/\a<=(aD:Int))) ((zf n n 0 b (Ã (À a) ((0:Int),(0:Int),([]:O)))).bind fun d=>ay d (fun f=>some f) (fun g=>some g)) none:=by kernel_rfl
theorem PS (n m b f d):zf n (m+1) b f d=letI a:=À b;cond (decide (b<(f.length:Int))) ((au f b).bind fun g=>(yS n g.1 g.2.1 g.2.2).bind fun h=>cond (decide (0<=b/\b<(d.length:Int))) ((aM d a).bind fun _=>zf n m (wrap .i64 (b+1)) f (d.set a (h.1,h.2.1,h.2.2))) none) (some (Á d)):=by kernel_rfl
theorem PT (n g h i j f k m p q r b d):FW (n+1) g h i j f k m p q r b d=((uR n g h i j).bind fun y0=>cond (!y0) (some true) ((cq n f 1 5).bind fun y1=>cond (!y1) (some true) (cond ((k.length:Int) !=f) (some true) (cond (decide (40<(m.length:Int))) (some true) ((Gc n p q).bind fun y2=>cond (!y2) (some true) ((zm n r).bind fun y3=>cond (!y3) (some true) ((zm n b).bind fun y4=>cond (!y4) (some true) (some (decide (300<(d.length:Int))))))))))).bind fun s=>cond s (some false) ((uO n n g h i j f k m p q r b d 0).bind fun t=>ay t (fun z22=>letI e:=z22.2.2;letI a:=e.2.2.2;letI l:=a.2.2.2;(uP n n z22.1 z22.2.1 e.1 e.2.1 e.2.2.1 a.1 a.2.1 a.2.2.1 l.1 l.2.1 l.2.2.1 l.2.2.2 0).bind fun u=>ay u (fun z23=>letI o:=z23.2.2;letI c:=o.2.2.2;letI v:=c.2.2.2;(uQ n n z23.1 z23.2.1 o.1 o.2.1 o.2.2.1 c.1 c.2.1 c.2.2.1 v.1 v.2.1 v.2.2.1 v.2.2.2 0).bind fun z=>ay z (fun _=>some true) (fun ad=>some ad)) (fun ae=>some ae)) (fun af=>some af)):=by kernel_rfl
theorem PU (n m j k p q h i r s t u f g d):uO n (m+1) j k p q h i r s t u f g d=cond (decide (d<h)) ((au i d).bind fun z=>cond (z.1 !=d) (some (Â false)) ((au i d).bind fun b=>letI o:=b.2.2.2;letI e:=o.2.2.2;letI v:=e.2.2.2;letI a:=v.2.2.2;letI w:=a.2.2.2;letI c:=w.2.2.2;letI l:=c.2.2.2;(Gd n j k p q b.1 b.2.1 b.2.2.1 o.1 o.2.1 o.2.2.1 e.1 e.2.1 e.2.2.1 v.1 v.2.1 v.2.2.1 a.1 a.2.1 a.2.2.1 w.1 w.2.1 w.2.2.1 c.1 c.2.1 c.2.2.1 l.1 l.2.1 l.2.2.1 l.2.2.2.1 l.2.2.2.2 h).bind fun y2=>cond (!y2) (some (Â false)) (uO n m j k p q h i r s t u f g (wrap .i64 (d+1))))) (some (Á (j,k,p,q,h,i,r,s,t,u,f,g))):=by kernel_rfl
theorem PV (n m j k p q i r h s t u f g d):uP n (m+1) j k p q i r h s t u f g d=cond (decide (d<(h.length:Int))) ((au h d).bind fun b=>letI a:=b.2.2.2.2;(zu n b.1 b.2.1 b.2.2.1 b.2.2.2.1 a.1 a.2.1 a.2.2.1 a.2.2.2.1 a.2.2.2.2.1 a.2.2.2.2.2 i).bind fun z=>cond (!z) (some (Â false)) (uP n m j k p q i r h s t u f g (wrap .i64 (d+1)))) (some (Á (j,k,p,q,i,r,h,s,t,u,f,g))):=by kernel_rfl
theorem PX (n m h i j k p q r s t u f b d):uQ n (m+1) h i j k p q r s t u f b d=cond (decide (d<(b.length:Int))) ((au b d).bind fun g=>(rZ n g.1 g.2.1 g.2.2).bind fun z=>cond (!z) (some (Â false)) (uQ n m h i j k p q r s t u f b (wrap .i64 (d+1)))) (some (Á ())):=by kernel_rfl
theorem apA (n f g h i):uR (n+1) f g h i=(rX n n f g h i 0).bind fun j=>ay j (fun b=>(rY n n b.1 b.2.1 b.2.2.1 b.2.2.2 0).bind fun k=>ay k (fun z2=>letI c:=(z2.1.length:Int);letI a:=(z2.2.1.length:Int);(cond (decide (c<=8)) (cond (decide (a<=8)) ((zk n z2.2.2.1 c a).bind fun m=>cond m ((zk n z2.2.2.2 c a).bind fun p=>some p) (some false)) (some false)) (some false)).bind fun d=>some d) (fun q=>some q)) (fun r=>some r):=by kernel_rfl
theorem PY (n m b f g h d):rX n (m+1) b f g h d=letI c:=wrap .i64;letI a:=rX n m b f g h (c (d+1));cond (decide (d<(b.length:Int))) ((au b d).bind fun i=>(zg n i).bind fun j=>cond (!j) (some (Â false)) ((au b d).bind fun k=>(qs n f k).bind fun p=>cond p (some (Â false)) (cond (decide (0<d)) ((au b (c (d-1))).bind fun q=>(au b d).bind fun r=>cond (!(Op.bytesLess q r)) (some (Â false)) a) a))) (some (Á (b,f,g,h))):=by kernel_rfl
theorem PZ (n m f b g h d):rY n (m+1) f b g h d=letI c:=wrap .i64;letI a:=rY n m f b g h (c (d+1));cond (decide (d<(b.length:Int))) ((au b d).bind fun i=>(zg n i).bind fun j=>cond (!j) (some (Â false)) (cond (decide (0<d)) ((au b (c (d-1))).bind fun k=>(au b d).bind fun p=>cond (!(Op.bytesLess k p)) (some (Â false)) a) a)) (some (Á (f,b,g,h))):=by kernel_rfl
theorem apB (n d):zg (n+1) d=(zh n n 0 d).bind fun g=>ay g (fun f=>((cq n (f.length:Int) 1 8).bind fun h=>cond h ((FY n f).bind fun i=>some (!i)) (some false)).bind fun b=>some b) (fun j=>some j):=by kernel_rfl
theorem Qa (n m d b):zh n (m+1) d b=cond (decide (d<(b.length:Int))) ((bF b d).bind fun f=>(FX n (Ä (À ((f).toNat:Int)))).bind fun g=>cond (!g) (some (Â false)) (zh n m (wrap .i64 (d+1)) b)) (some (Á b)):=by kernel_rfl
theorem apC (n b):FX (n+1) b=letI a:=((b).toNat:Int);letI e:=decide (a<=90);letI c:=decide (65<=a);(cond (decide (97<=a)) (cond (decide (a<=122)) (some true) (cond c (some e) (some false))) (cond c (some e) (some false))).bind fun d=>some d:=by kernel_rfl
theorem wz (n b f g):cq (n+1) b f g=(cond (decide (f<=b)) (some (decide (b<=g))) (some false)).bind fun d=>some d:=by kernel_rfl
theorem apD (n b):FY (n+1) b=((qs n ([([66,69,71,73,78]:O),([112,114,105,110,116]:O),([105,102]:O),([101,108,115,101]:O),([119,104,105,108,101]:O),([110,101,120,116]:O),([100,101,108,101,116,101]:O),([78,82]:O),([78,70]:O)]:af) b).bind fun f=>cond f (some true) ((zj n).bind fun g=>(qs n g b).bind fun h=>some h)).bind fun d=>some d:=by kernel_rfl
theorem apE (n b d):qs (n+1) b d=(zi n n 0 d b).bind fun f=>ay f (fun _=>some false) (fun g=>some g):=by kernel_rfl
theorem Qb (n m b f d):zi n (m+1) b f d=cond (decide (b<(d.length:Int))) ((au d b).bind fun g=>cond (g==f) (some (Â true)) (zi n m (wrap .i64 (b+1)) f d)) (some (Á ())):=by kernel_rfl
theorem apF (n):zj (n+1)=some ([([108,101,110,103,116,104]:O),([115,117,98,115,116,114]:O),([105,110,100,101,120]:O),([105,110,116]:O),([117,112,112,101,114]:O),([108,111,119,101,114]:O)]:af):=by kernel_rfl
theorem Qc (n b h i):zk (n+1) b h i=letI a:=(b.length:Int);((cq n a 1 1500).bind fun j=>cond (!j) (some true) ((au b (wrap .i64 (a-1))).bind fun k=>some (k.1 !=36))).bind fun d=>cond d (some false) ((uT n n 0 i h a b).bind fun f=>ay f (fun _=>some true) (fun g=>some g)):=by kernel_rfl
theorem Qd (n m b f g d h):uT n (m+1) b f g d h=cond (decide (b<d)) ((au h b).bind fun i=>(FZ n i.1 i.2.1 i.2.2 d g f).bind fun j=>cond (!j) (some (Â false)) (uT n m (wrap .i64 (b+1)) f g d h)) (some (Á ())):=by kernel_rfl
theorem apG (n f d g m k j):FZ (n+1) f d g m k j=letI o:=decide (d<k);letI l:=cq n d 0 (wrap .i64 (m-1));letI e:=decide (d<j);letI c:=decide (0<=d);letI a:=g==([]:O);cond (f==1) (((iH n d).bind fun h=>cond h (some a) (some false)).bind fun b=>some b) (cond (f==2) (some (d==0)) (cond (f==3) ((cond c (cond o (some a) (some false)) (some false)).bind fun b=>some b) (cond (f==4) ((cond c (cond o (some a) (some false)) (some false)).bind fun b=>some b) (cond (f==5) ((cond c (cond o (some a) (some false)) (some false)).bind fun b=>some b) (cond (f==6) ((cond c (cond e (some a) (some false)) (some false)).bind fun b=>some b) (cond (f==7) ((cond c (cond e (some a) (some false)) (some false)).bind fun b=>some b) (cond (f==8) ((cond c (cond e (some a) (some false)) (some false)).bind fun b=>some b) (cond (f==35) ((cond c (cond e (some a) (some false)) (some false)).bind fun b=>some b) (cond (f==24) ((uU n g).bind fun h=>(cond h.2.2.2.2.2 (some (d==0)) (some false)).bind fun i=>some i) (cond (f==25) ((uU n g).bind fun h=>(cond h.2.2.2.2.2 (some (d==0)) (some false)).bind fun i=>some i) (cond (f==29) (((cq n d 1 3).bind fun h=>cond h ((zj n).bind fun p=>(qs n p g).bind fun q=>some q) (some false)).bind fun b=>some b) (cond (f==30) ((l.bind fun h=>cond h (some a) (some false)).bind fun b=>some b) (cond (f==31) ((l.bind fun h=>cond h (some a) (some false)).bind fun b=>some b) (cond (f==33) (((cq n d 0 1).bind fun h=>cond h (some a) (some false)).bind fun b=>some b) (((cq n f 1 36).bind fun h=>cond h (cond (d==0) (some a) (some false)) (some false)).bind fun b=>some b))))))))))))))):=by kernel_rfl
theorem Qe (n b):iH (n+1) b=(cq n b (-9000000000000) 9000000000000).bind fun d=>some d:=by kernel_rfl
theorem IP (n d):uU (n+1) d=letI a:=((0:Int),(0:Int),([]:O),false,([]:aT),false);cond (decide (60<(d.length:Int))) (some a) ((uV n d 0 false 0).bind fun b=>letI c:=b.2.2.2;(cond c.2.2.2.2 (some true) (cond (c.2.2.2.1 !=(d.length:Int)) (some true) ((uY n b.1 b.2.1 b.2.2.1 c.1 c.2.1).bind fun g=>some (decide (12<g))))).bind fun f=>cond f (some a) (some (b.1,b.2.1,b.2.2.1,c.1,c.2.1,true))):=by kernel_rfl
theorem Qf (n g h i f):uV (n+1) g h i f=(zl n g h i f).bind fun b=>letI c:=b.2.2.2;(qt n n c.2.2.1 c.2.2.2.1 c.2.2.2.2 0 0 ([]:O) false f ([kO (b.1,b.2.1,b.2.2.1,c.1,c.2.1)]:aT)).bind fun j=>ay j (fun z2=>letI e:=z2.2.2;letI a:=(z2.2.2.2.2.2.2.2.length:Int);cond (a==1) (cond (decide ((0:Int)<=0/\(0:Int)<a)) ((lS e.2.2.2.2.2 0).bind fun d=>some (d.1,d.2.1,d.2.2.1,d.2.2.2.1,d.2.2.2.2,z2.1,z2.2.1,e.1)) none) (some ((7:Int),(0:Int),([]:O),false,e.2.2.2.2.2,z2.1,z2.2.1,e.1))) (fun k=>some k):=by kernel_rfl
theorem sH (n m p q r g h i j k f):qt n (m+1) p q r g h i j k f=(eR n p q r ((Ä (À 124)):UInt8)).bind fun d=>cond d.1 ((zl n d.2.1 (wrap .i64 (d.2.2.1+1)) d.2.2.2 k).bind fun b=>letI a:=b.2.2.2;cond (Å (f.length+1) aD) (qt n m a.2.2.1 a.2.2.2.1 a.2.2.2.2 g h i j k (f++[kO (b.1,b.2.1,b.2.2.1,a.1,a.2.1)])) none) (some (Á (d.2.1,d.2.2.1,d.2.2.2,g,h,i,j,f))):=by kernel_rfl
theorem apH (n f g h i):zl (n+1) f g h i=(uW n n f g h 0 0 ([]:O) false i ([]:aT)).bind fun j=>ay j (fun b=>letI c:=b.2.2;letI a:=(b.2.2.2.2.2.2.2.length:Int);cond (a==0) (some ((11:Int),(0:Int),([]:O),false,([]:aT),b.1,b.2.1,c.1)) (cond (a==1) (cond (decide ((0:Int)<=0/\(0:Int)<a)) ((lS c.2.2.2.2.2 0).bind fun d=>some (d.1,d.2.1,d.2.2.1,d.2.2.2.1,d.2.2.2.2,b.1,b.2.1,c.1)) none) (some ((6:Int),(0:Int),([]:O),false,c.2.2.2.2.2,b.1,b.2.1,c.1)))) (fun k=>some k):=by kernel_rfl
theorem wA (n m b d g i j k p q h):uW n (m+1) b d g i j k p q h=letI a:=(b,d,g,i,j,k,p,h);cond (!g) (cond (decide (d<(b.length:Int))) ((bF b d).bind fun r=>cond (((r).toNat:Int) !=124) ((bF b d).bind fun s=>cond (((s).toNat:Int) !=41) ((Ga n b d g q).bind fun f=>letI c:=f.2.2.2;cond (Å (h.length+1) aD) (uW n m c.2.2.1 c.2.2.2.1 c.2.2.2.2 i j k p q (h++[kO (f.1,f.2.1,f.2.2.1,c.1,c.2.1)])) none) (some (Á a))) (some (Á a))) (some (Á a))) (some (Á a)):=by kernel_rfl
theorem Qg (n d f g h):Ga (n+1) d f g h=(uX n d f g h).bind fun b=>letI c:=b.2.2.2;(qu n n c.2.2.1 c.2.2.2.1 c.2.2.2.2 0 0 ([]:O) false b.1 b.2.1 b.2.2.1 c.1 c.2.1).bind fun i=>ay i (fun z2=>letI a:=z2.2.2.2.2.2.2.2;some (a.1,a.2.1,a.2.2.1,a.2.2.2.1,a.2.2.2.2,z2.1,z2.2.1,z2.2.2.1)) (fun j=>some j):=by kernel_rfl
theorem By (n m u z t i j k p q r s b d):qu n (m+1) u z t i j k p q r s b d=letI c:=wrap .i64;letI a:=([kO (q,r,s,b,d)]:aT);cond (!t) ((eR n u z t ((Ä (À 42)):UInt8)).bind fun f=>cond f.1 (qu n m f.2.1 (c (f.2.2.1+1)) f.2.2.2 i j k p (8:Int) (0:Int) ([]:O) false a) ((eR n f.2.1 f.2.2.1 f.2.2.2 ((Ä (À 43)):UInt8)).bind fun g=>cond g.1 (qu n m g.2.1 (c (g.2.2.1+1)) g.2.2.2 i j k p (9:Int) (0:Int) ([]:O) false a) ((eR n g.2.1 g.2.2.1 g.2.2.2 ((Ä (À 63)):UInt8)).bind fun h=>cond h.1 (qu n m h.2.1 (c (h.2.2.1+1)) h.2.2.2 i j k p (10:Int) (0:Int) ([]:O) false a) (some (Á (h.2.1,h.2.2.1,h.2.2.2,i,j,k,p,q,r,s,b,d)))))) (some (Á (u,z,t,i,j,k,p,q,r,s,b,d))):=by kernel_rfl
theorem Qh (n f g i j):uX (n+1) f g i j=letI a:=wrap .i64;letI m:=a (g+1);(cond i (some true) (cond (decide ((f.length:Int)<=g)) (some true) (some (decide (40<j))))).bind fun k=>cond k (some ((0:Int),(0:Int),([]:O),false,([]:aT),f,g,true)) ((bF f g).bind fun d=>letI c:=((d).toNat:Int);letI e:=((1:Int),a c,([]:O),false,([]:aT),f,a (g+1),true);cond (c==40) ((uV n f m i (a (j+1))).bind fun b=>letI l:=b.2.2.2;(eR n l.2.2.1 l.2.2.2.1 l.2.2.2.2 ((Ä (À 41)):UInt8)).bind fun h=>cond (!h.1) (some (b.1,b.2.1,b.2.2.1,l.1,l.2.1,h.2.1,a (h.2.2.1+1),true)) (some (b.1,b.2.1,b.2.2.1,l.1,l.2.1,h.2.1,a (h.2.2.1+1),h.2.2.2))) (cond (c==46) (some ((2:Int),(0:Int),([]:O),false,([]:aT),f,a (g+1),i)) (cond (c==94) (some ((4:Int),(0:Int),([]:O),false,([]:aT),f,a (g+1),i)) (cond (c==36) (some ((5:Int),(0:Int),([]:O),false,([]:aT),f,a (g+1),i)) (cond (c==91) ((Gb n f m i).bind fun b=>letI o:=b.2.2.2;some (b.1,b.2.1,b.2.2.1,o.1,([]:aT),o.2.1,o.2.2.1,o.2.2.2)) (cond (c==92) (cond (decide ((f.length:Int)<=m)) (some ((0:Int),(0:Int),([]:O),false,([]:aT),f,a (g+1),true)) ((bF f m).bind fun b=>some ((1:Int),a ((b).toNat:Int),([]:O),false,([]:aT),f,a (m+1),i))) (cond (c==42) (some e) (cond (c==43) (some e) (cond (c==63) (some e) (some ((1:Int),a c,([]:O),false,([]:aT),f,a (g+1),i))))))))))):=by kernel_rfl
theorem Qi (n b d f h):eR (n+1) b d f h=(cond (!f) (cond (decide (d<(b.length:Int))) ((bF b d).bind fun i=>some (((i).toNat:Int)==((h).toNat:Int))) (some false)) (some false)).bind fun g=>some (g,b,d,f):=by kernel_rfl
theorem Qj (n j k m):Gb (n+1) j k m=letI x:=kT n n;letI s:=Ã (À (256:Int)) false;letI l:=decide ((0:Int)<=256/\(256:Int)<=256/\(256:Int)<=(aD:Int));letI e:=wrap .i64;(eR n j k m ((Ä (À 94)):UInt8)).bind fun f=>cond f.1 (cond l ((gL n n f.2.1 (e (f.2.2.1+1)) f.2.2.2 (0:Int) (0:Int) ([]:O) false (3:Int) (0:Int) ([]:O) true s (0:Int)).bind fun h=>ay h (fun z2=>letI y:=e (z2.2.1+1);letI t:=z2.2.2.2;letI a:=t.2.2.2;letI v:=a.2.2.2;(cond (decide ((z2.1.length:Int)<=z2.2.1)) (some true) (some (v.2.2.2==0))).bind fun g=>cond g ((x z2.1 y true t.1 t.2.1 t.2.2.1 a.1 a.2.1 a.2.2.1 v.1 v.2.1 (0:Int) ([]:bY) v.2.2.1).bind fun b=>ay b (fun z24=>letI o:=z24.2.2.2.2.2.2.2;some (o.1,o.2.1,o.2.2.2.2,o.2.2.2.1,z24.1,z24.2.1,z24.2.2.1)) (fun d=>some d)) ((x z2.1 y z2.2.2.1 t.1 t.2.1 t.2.2.1 a.1 a.2.1 a.2.2.1 v.1 v.2.1 (0:Int) ([]:bY) v.2.2.1).bind fun b=>ay b (fun z24=>letI p:=z24.2.2.2.2.2.2.2;some (p.1,p.2.1,p.2.2.2.2,p.2.2.2.1,z24.1,z24.2.1,z24.2.2.1)) (fun d=>some d))) (fun i=>some i)) none) (cond l ((gL n n f.2.1 f.2.2.1 f.2.2.2 0 0 ([]:O) false 3 0 ([]:O) false s (0:Int)).bind fun h=>ay h (fun z2=>letI z:=e (z2.2.1+1);letI u:=z2.2.2.2;letI c:=u.2.2.2;letI w:=c.2.2.2;(cond (decide ((z2.1.length:Int)<=z2.2.1)) (some true) (some (w.2.2.2==0))).bind fun g=>cond g ((x z2.1 z true u.1 u.2.1 u.2.2.1 c.1 c.2.1 c.2.2.1 w.1 w.2.1 (0:Int) ([]:bY) w.2.2.1).bind fun b=>ay b (fun z24=>letI q:=z24.2.2.2.2.2.2.2;some (q.1,q.2.1,q.2.2.2.2,q.2.2.2.1,z24.1,z24.2.1,z24.2.2.1)) (fun d=>some d)) ((x z2.1 z z2.2.2.1 u.1 u.2.1 u.2.2.1 c.1 c.2.1 c.2.2.1 w.1 w.2.1 (0:Int) ([]:bY) w.2.2.1).bind fun b=>ay b (fun z24=>letI r:=z24.2.2.2.2.2.2.2;some (r.1,r.2.1,r.2.2.2.2,r.2.2.2.1,z24.1,z24.2.1,z24.2.2.1)) (fun d=>some d))) (fun i=>some i)) none):=by kernel_rfl
theorem Qk (n m q r s t u z x6 x7 x8 x9 f b d g h i j k p):jH n (m+1) q r s t u z x6 x7 x8 x9 f b d g h i j k p=letI c:=À b;letI a:=À ((h).toNat:Int);cond (decide (b<=p)) (cond (decide (0<=b/\b<(d.length:Int))) ((aM d c).bind fun _=>jH n m q r s t u z x6 x7 x8 x9 f (wrap .i64 (b+1)) (d.set c true) g (Ä a) i j k p) none) (some (Á (q,r,s,t,u,z,x6,x7,x8,x9,f,d,g,Ä a,i,j,k))):=by kernel_rfl
theorem IQ (n m d f x2 p q r s t u z g h i):gL n (m+1) d f x2 p q r s t u z g h i=letI ax:=jH n n d;letI aj:=(d,f,x2,p,q,r,s,t,u,z,g,h,i);letI ah:=gL n m;letI a:=wrap .i64;letI af:=a (f+1);letI az:=a (af+1);cond (decide (f<(d.length:Int))) ((bF d f).bind fun k=>letI bf:=((k).toNat:Int);letI l:=bf !=93;letI e:=Ä (À bf);cond l ((bF d f).bind fun j=>letI c:=a ((j).toNat:Int);letI ai:=decide (c<c);letI v:=ax af x2 p q r s t u z g c h l e d f i c;letI o:=ax af true p q r s t u z g c h l e d f i c;cond (decide (az<(d.length:Int))) ((bF d af).bind fun y2=>cond (((y2).toNat:Int)==45) ((bF d az).bind fun y3=>cond (((y3).toNat:Int) !=93) ((bF d az).bind fun y4=>letI ag:=a ((y4).toNat:Int);cond (decide (ag<c)) ((ax (a (af+2)) true p q r s t u z g c h l e d f i ag).bind fun y5=>ay y5 (fun b=>letI ba:=b.2.2.2;letI ad:=ba.2.2.2;letI ak:=ad.2.2.2;ah b.1 b.2.1 b.2.2.1 ba.1 ba.2.1 ba.2.2.1 ad.1 ad.2.1 ad.2.2.1 ak.1 ak.2.1 ak.2.2.1 (a (ak.2.2.2.2.2.2.2+1))) (fun w6=>some (Â w6))) ((ax (a (af+2)) x2 p q r s t u z g c h l e d f i ag).bind fun y5=>ay y5 (fun b=>letI bb:=b.2.2.2;letI ae:=bb.2.2.2;letI al:=ae.2.2.2;ah b.1 b.2.1 b.2.2.1 bb.1 bb.2.1 bb.2.2.1 ae.1 ae.2.1 ae.2.2.1 al.1 al.2.1 al.2.2.1 (a (al.2.2.2.2.2.2.2+1))) (fun w6=>some (Â w6)))) (cond ai (o.bind fun y4=>ay y4 (fun z5=>letI am:=z5.2.2.2;letI w:=am.2.2.2;letI bc:=w.2.2.2;ah z5.1 z5.2.1 z5.2.2.1 am.1 am.2.1 am.2.2.1 w.1 w.2.1 w.2.2.1 bc.1 bc.2.1 bc.2.2.1 (a (bc.2.2.2.2.2.2.2+1))) (fun w5=>some (Â w5))) (v.bind fun y4=>ay y4 (fun z5=>letI an:=z5.2.2.2;letI x:=an.2.2.2;letI bd:=x.2.2.2;ah z5.1 z5.2.1 z5.2.2.1 an.1 an.2.1 an.2.2.1 x.1 x.2.1 x.2.2.1 bd.1 bd.2.1 bd.2.2.1 (a (bd.2.2.2.2.2.2.2+1))) (fun w5=>some (Â w5))))) (cond ai (o.bind fun y3=>ay y3 (fun z4=>letI ao:=z4.2.2.2;letI y:=ao.2.2.2;letI be:=y.2.2.2;ah z4.1 z4.2.1 z4.2.2.1 ao.1 ao.2.1 ao.2.2.1 y.1 y.2.1 y.2.2.1 be.1 be.2.1 be.2.2.1 (a (be.2.2.2.2.2.2.2+1))) (fun w4=>some (Â w4))) (v.bind fun y3=>ay y3 (fun z4=>letI ap:=z4.2.2.2;letI aa:=ap.2.2.2;letI aq:=aa.2.2.2;ah z4.1 z4.2.1 z4.2.2.1 ap.1 ap.2.1 ap.2.2.1 aa.1 aa.2.1 aa.2.2.1 aq.1 aq.2.1 aq.2.2.1 (a (aq.2.2.2.2.2.2.2+1))) (fun w4=>some (Â w4))))) (cond ai (o.bind fun y2=>ay y2 (fun z3=>letI ar:=z3.2.2.2;letI ab:=ar.2.2.2;letI au:=ab.2.2.2;ah z3.1 z3.2.1 z3.2.2.1 ar.1 ar.2.1 ar.2.2.1 ab.1 ab.2.1 ab.2.2.1 au.1 au.2.1 au.2.2.1 (a (au.2.2.2.2.2.2.2+1))) (fun w3=>some (Â w3))) (v.bind fun y2=>ay y2 (fun z3=>letI av:=z3.2.2.2;letI ac:=av.2.2.2;letI aw:=ac.2.2.2;ah z3.1 z3.2.1 z3.2.2.1 av.1 av.2.1 av.2.2.1 ac.1 ac.2.1 ac.2.2.1 aw.1 aw.2.1 aw.2.2.1 (a (aw.2.2.2.2.2.2.2+1))) (fun w3=>some (Â w3))))) (some (Á aj))) (some (Á aj)):=by kernel_rfl
theorem Ql (n m h i j k p q r s t u g b d f):kT n (m+1) h i j k p q r s t u g b d f=letI c:=wrap .i64 (b+1);letI a:=kT n m h i j k p q r s t u g;cond (decide (b<256)) (cond (decide (0<=b/\b<(f.length:Int))) ((aM f (À b)).bind fun z=>cond z (cond (Å (d.length+1) aD) (a c (d++[Ä (À (wrap .u8 b))]) f) none) (a c d f)) none) (some (Á (h,i,j,k,p,q,r,s,t,u,g,d))):=by kernel_rfl
theorem apI (n b d f g h):uY (n+1) b d f g h=(uZ n n b d f g h 0 0).bind fun i=>ay i (fun j=>some (wrap .i64 (j+1))) (fun k=>some k):=by kernel_rfl
theorem Qm (n m h i j k d f g):uZ n (m+1) h i j k d f g=cond (decide (f<(d.length:Int))) ((fO d f).bind fun b=>(uY n b.1 b.2.1 b.2.2.1 b.2.2.2.1 b.2.2.2.2).bind fun p=>(qv n g p).bind fun q=>uZ n m h i j k d (wrap .i64 (f+1)) q) (some (Á g)):=by kernel_rfl
theorem Qn (n b d):qv (n+1) b d=cond (decide (d<b)) (some b) (some d):=by kernel_rfl
theorem apJ (n d f):Gc (n+1) d f=((cq n d 0 300).bind fun g=>cond g (some (decide ((f.length:Int)<=1500))) (some false)).bind fun b=>some b:=by kernel_rfl
theorem apK (n b):zm (n+1) b=(vd n n 0 b).bind fun d=>ay d (fun f=>some ((f.length:Int)==3)) (fun g=>some g):=by kernel_rfl
theorem Qo (n m d b):vd n (m+1) d b=cond (decide (d<(b.length:Int))) ((au b d).bind fun f=>(cq n f 0 100000).bind fun g=>cond (!g) (some (Â false)) (vd n m (wrap .i64 (d+1)) b)) (some (Á b)):=by kernel_rfl
theorem Qp (n x0 x1 x2 x3 x4 x5 x6 x7 x8 x9 d f g h i j k m p q r s t u z ad ae af ag ah b):Gd (n+1) x0 x1 x2 x3 x4 x5 x6 x7 x8 x9 d f g h i j k m p q r s t u z ad ae af ag ah b=((cq n b 1 5).bind fun y0=>cond (!y0) (some true) ((cq n x4 0 (wrap .i64 (b-1))).bind fun y1=>cond (!y1) (some true) ((Ge n x0 x1 x2 x3 x5 x6 x7 x8 x9 d f g h i j).bind fun y2=>cond (!y2) (some true) (cond (decide (b<=x6)) (some true) ((cq n k 0 2).bind fun y3=>cond (!y3) (some true) (cond ((m.length:Int) !=b) (some true) (cond ((p.length:Int) !=b) (some true) (some ((q.length:Int) !=b))))))))).bind fun ax=>cond ax (some false) ((zn n x7 x8 x9).bind fun az=>(ve n n x4 x5 x6 x7 x8 x9 d f g h i j k m p q r s t u z ad ae af ag ah x0 x1 x2 x3 0 az.1 b).bind fun a1=>ay a1 (fun z23=>letI v:=z23.2.2.2;letI e:=v.2.2.2.2;letI w:=e.2.2.2.2;letI a:=w.2.2.2.2;letI x:=a.2.2.2.2;letI l:=x.2.2.2.2;letI y:=l.2.2.2.2;(vf n n z23.1 z23.2.1 z23.2.2.1 v.1 v.2.1 v.2.2.1 v.2.2.2.1 e.1 e.2.1 e.2.2.1 e.2.2.2.1 w.1 w.2.1 w.2.2.1 w.2.2.2.1 a.1 a.2.1 a.2.2.1 a.2.2.2.1 x.1 x.2.1 x.2.2.1 x.2.2.2.1 l.1 l.2.1 l.2.2.1 l.2.2.2.1 y.1 y.2.1 y.2.2.1 0 y.2.2.2.1 y.2.2.2.2).bind fun a6=>ay a6 (fun z24=>letI c:=z24.2.2.2.2.2.2.2.2.2.2.2.2.2.2.2.2;letI ab:=c.2.2.2;letI o:=ab.2.2.2;letI aa:=o.2.2.2.2;((cq n c.1 z24.2.2.2.1 aa.2.2.2.2).bind fun a7=>cond a7 ((zo n aa.1 aa.2.1 aa.2.2.1 aa.2.2.2.1 c.2.1 c.2.2.1 ab.1 ab.2.1 ab.2.2.1 o.1).bind fun a8=>cond a8 ((Gj n o.2.1 o.2.2.1).bind fun bd=>cond bd (some (decide ((z24.2.2.2.2.2.2.2.2.2.2.2.2.2.2.2.2.2.2.2.2.2.2.2.2.2.1.length:Int)<=40))) (some false)) (some false)) (some false)).bind fun bf=>some bf) (fun bg=>some bg)) (fun bh=>some bh)):=by kernel_rfl
theorem Qq (n m x0 x1 x2 x3 x4 x5 x6 x7 x8 x9 i j k p f g q r s t u z ad ae af ag ah ai aj ak b d h):ve n (m+1) x0 x1 x2 x3 x4 x5 x6 x7 x8 x9 i j k p f g q r s t u z ad ae af ag ah ai aj ak b d h=letI a:=wrap .i64;cond (decide (b<h)) ((au f b).bind fun y0=>(cq n y0 1 (a (d+1))).bind fun y1=>cond (!y1) (some (Â false)) ((au g b).bind fun y2=>(cq n y2 0 d).bind fun y3=>cond (!y3) (some (Â false)) (ve n m x0 x1 x2 x3 x4 x5 x6 x7 x8 x9 i j k p f g q r s t u z ad ae af ag ah ai aj ak (a (b+1)) d h))) (some (Á (x0,x1,x2,x3,x4,x5,x6,x7,x8,x9,i,j,k,p,f,g,q,r,s,t,u,z,ad,ae,af,ag,ah,ai,aj,ak,h,d))):=by kernel_rfl
theorem Qr (n m x0 x1 x2 x3 x4 x5 x6 x7 x8 x9 g h i j k p q r s t u z ad ae af b ag ah ai aj d ak al):vf n (m+1) x0 x1 x2 x3 x4 x5 x6 x7 x8 x9 g h i j k p q r s t u z ad ae af b ag ah ai aj d ak al=cond (decide (d<(b.length:Int))) ((au b d).bind fun f=>letI a:=f.2.2.2.2;(zu n f.1 f.2.1 f.2.2.1 f.2.2.2.1 a.1 a.2.1 a.2.2.1 a.2.2.2.1 a.2.2.2.2.1 a.2.2.2.2.2 ak).bind fun y1=>cond (!y1) (some (Â false)) ((au b d).bind fun y2=>cond (y2.2.1 !=x0) (some (Â false)) (vf n m x0 x1 x2 x3 x4 x5 x6 x7 x8 x9 g h i j k p q r s t u z ad ae af b ag ah ai aj (wrap .i64 (d+1)) ak al))) (some (Á (x0,x1,x2,x3,x4,x5,x6,x7,x8,x9,g,h,i,j,k,p,q,r,s,t,u,z,ad,ae,af,b,ag,ah,ai,aj,al))):=by kernel_rfl
theorem apL (n q r s t i u j k m z b d f g h):Ge (n+1) q r s t i u j k m z b d f g h=(zn n j k m).bind fun y0=>((cq n i 0 300).bind fun y1=>cond y1 ((cq n u (-1) 4).bind fun y2=>cond y2 ((Gf n j k m).bind fun y3=>cond y3 (cond (decide (y0.2<=i)) ((zo n q r s t z b d f g h).bind fun y4=>some y4) (some false)) (some false)) (some false)) (some false)).bind fun p=>some p:=by kernel_rfl
theorem apM (n d f b):zn (n+1) d f b=letI c:=wrap .i64;letI a:=(b.length:Int);cond (a==0) (some (d,f)) ((au b (c (a-1))).bind fun g=>some (c (d+a),g.1)):=by kernel_rfl
theorem Qs (n b d f):Gf (n+1) b d f=((cq n b 0 300).bind fun j=>cond (!j) (some true) ((cq n d 0 300).bind fun k=>cond (!k) (some true) (some (decide ((wrap .i64 (300-b))<(f.length:Int)))))).bind fun g=>cond g (some false) ((vg n n b d f 0 d).bind fun h=>ay h (fun _=>some true) (fun i=>some i)):=by kernel_rfl
theorem Qt (n m g h b d i):vg n (m+1) g h b d i=cond (decide (d<(b.length:Int))) ((au b d).bind fun j=>(cq n j.1 i 300).bind fun k=>cond (!k) (some (Â false)) ((au b d).bind fun f=>(rZ n f.2.1 f.2.2.1 f.2.2.2).bind fun p=>cond (!p) (some (Â false)) ((au b d).bind fun q=>vg n m g h b (wrap .i64 (d+1)) q.1))) (some (Á ())):=by kernel_rfl
theorem apN (n f g d):rZ (n+1) f g d=cond (f==(-1:Int)) ((cond (g==0) (some (d==([]:O))) (some false)).bind fun b=>some b) (((cq n f 0 2).bind fun h=>cond h ((cq n g 1 100000).bind fun i=>cond i (cond (decide ((d.length:Int)<=60)) ((Gg n d).bind fun j=>some j) (some false)) (some false)) (some false)).bind fun b=>some b):=by kernel_rfl
theorem apO (n b):Gg (n+1) b=(vh n n 0 b).bind fun d=>ay d (fun _=>some true) (fun f=>some f):=by kernel_rfl
theorem Qu (n m b d):vh n (m+1) b d=cond (decide (b<(d.length:Int))) ((bF d b).bind fun f=>cond (((f).toNat:Int)==10) (some (Â false)) (vh n m (wrap .i64 (b+1)) d)) (some (Á ())):=by kernel_rfl
theorem apP (n f g h i j k m p q r):zo (n+1) f g h i j k m p q r=(vi n n j k m p q r f g h i 0).bind fun s=>ay s (fun b=>letI a:=b.2.2.2.2.2.2;((uR n a.1 a.2.1 a.2.2.1 a.2.2.2).bind fun t=>cond t ((Gh n b.1 b.2.1 b.2.2.1 b.2.2.2.1 (b.2.2.2.2.2.2.1.length:Int) (b.2.2.2.2.2.2.2.1.length:Int)).bind fun u=>cond u (cond ((b.2.2.2.2.1.length:Int)==3) (some (decide ((b.2.2.2.2.2.1.length:Int)<=1500))) (some false)) (some false)) (some false)).bind fun d=>some d) (fun z=>some z):=by kernel_rfl
theorem Qv (n m f g h i d j k p q r b):vi n (m+1) f g h i d j k p q r b=cond (decide (b<(d.length:Int))) ((au d b).bind fun s=>(cq n s 0 100000).bind fun t=>cond (!t) (some (Â false)) (vi n m f g h i d j k p q r (wrap .i64 (b+1)))) (some (Á (f,g,h,i,d,j,k,p,q,r))):=by kernel_rfl
theorem apQ (n f g h i j k):Gh (n+1) f g h i j k=(vj n n f g h i 0 k j).bind fun m=>ay m (fun b=>(sa n n b.1 b.2.1 b.2.2.1 b.2.2.2.1 0 b.2.2.2.2.1 b.2.2.2.2.2).bind fun p=>ay p (fun z2=>(cond ((z2.1.length:Int)==z2.2.2.2.2) (cond (decide ((z2.2.1.length:Int)<=40)) ((cq n z2.2.2.1 0 1000000).bind fun q=>cond q ((cq n z2.2.2.2.1 0 7).bind fun r=>some r) (some false)) (some false)) (some false)).bind fun d=>some d) (fun s=>some s)) (fun t=>some t):=by kernel_rfl
theorem Qw (n m b f g h d i j):vj n (m+1) b f g h d i j=cond (decide (d<(b.length:Int))) ((au b d).bind fun k=>(zp n k.1 k.2.1 k.2.2).bind fun p=>cond (!p) (some (Â false)) (vj n m b f g h (wrap .i64 (d+1)) i j)) (some (Á (b,f,g,h,i,j))):=by kernel_rfl
theorem Qx (n m h d i j f k p):sa n (m+1) h d i j f k p=letI c:=wrap .i64;letI a:=sa n m h d i j (c (f+1)) k p;cond (decide (f<(d.length:Int))) ((au d f).bind fun b=>cond (decide (b.1<0)) (some (Â false)) (cond (decide (k<=b.1)) (some (Â false)) (cond (decide (300<(b.2.1.length:Int))) (some (Â false)) ((zp n b.2.2.1 b.2.2.2.1 b.2.2.2.2).bind fun q=>cond (!q) (some (Â false)) (cond (decide (0<f)) ((au d (c (f-1))).bind fun g=>(zt n g.1 g.2.1 g.2.2.1 g.2.2.2.1 g.2.2.2.2 b.1 b.2.1).bind fun r=>cond (!r) (some (Â false)) a) a))))) (some (Á (h,d,i,j,p))):=by kernel_rfl
theorem Qy (n b d f):zp (n+1) b d f=letI a:=f==([]:O);((cq n b 0 3).bind fun k=>cond (!k) (some true) ((iH n d).bind fun m=>cond (!m) (some true) (some (decide (300<(f.length:Int)))))).bind fun h=>cond h (some false) (cond (b==0) ((cond (d==0) (some a) (some false)).bind fun i=>some i) (cond (b==1) (some a) (cond (b==2) (some (d==0)) ((vk n f).bind fun g=>(cond g.2 (some (g.1==d)) (some false)).bind fun j=>some j)))):=by kernel_rfl
theorem apR (n b):vk (n+1) b=(zr n b).bind fun d=>cond (d.2==0) (some ((0:Int),false)) ((zq n n d.2 b d.1).bind fun f=>ay f (fun z2=>some (z2,true)) (fun g=>some g)):=by kernel_rfl
theorem IU (n m b d f):zq n (m+1) b d f=cond (decide (b<(d.length:Int))) ((bF d b).bind fun g=>cond (((g).toNat:Int) !=32) (some (Â ((0:Int),false))) (zq n m (wrap .i64 (b+1)) d f)) (some (Á f)):=by kernel_rfl
theorem apS (n u):zr (n+1) u=letI l:=((0:Int),(0:Int));letI a:=wrap .i64;(vm n n 0 u).bind fun z=>ay z (fun b=>letI x:=bF b.1 b.2;letI o:=decide (b.2<(b.1.length:Int));(cond o (x.bind fun y1=>some (((y1).toNat:Int)==45)) (some false)).bind fun q=>(cond o (x.bind fun r=>cond (((r).toNat:Int)==45) (some true) (x.bind fun s=>some (((s).toNat:Int)==43))) (some false)).bind fun t=>cond t ((oG n n 0 (a (b.2+1)) b.1 (0:Int) q).bind fun d=>ay d (fun z44=>letI c:=z44.2.2;letI v:=a (c.2.2+1);(cond (decide (v<(z44.2.1.length:Int))) ((bF z44.2.1 c.2.2).bind fun f=>cond (((f).toNat:Int)==46) ((bF z44.2.1 v).bind fun g=>(kV n (Ä (À ((g).toNat:Int)))).bind fun h=>some h) (some false)) (some false)).bind fun i=>cond i ((qw n n v z44.1 (100000:Int) z44.2.1 c.1 c.2.1).bind fun j=>ay j (fun z66=>(cond (z66.2.2.2==0) (some true) (some (decide (9000000000000<z66.2.1)))).bind fun k=>cond k (some l) (cond z66.2.2.1 (some (a (0-z66.2.1),z66.1)) (some (z66.2.1,z66.1)))) (fun m=>some m)) ((cond (z44.1==0) (some true) (some (decide (9000000000000<c.1)))).bind fun p=>cond p (some l) (cond c.2.1 (some (a (0-c.1),c.2.2)) (some (c.1,c.2.2))))) (fun np=>some np)) ((oG n n 0 b.2 b.1 0 q).bind fun d=>ay d (fun z44=>letI e:=z44.2.2;letI w:=a (e.2.2+1);(cond (decide (w<(z44.2.1.length:Int))) ((bF z44.2.1 e.2.2).bind fun f=>cond (((f).toNat:Int)==46) ((bF z44.2.1 w).bind fun g=>(kV n (Ä (À ((g).toNat:Int)))).bind fun h=>some h) (some false)) (some false)).bind fun i=>cond i ((qw n n w z44.1 (100000:Int) z44.2.1 e.1 e.2.1).bind fun j=>ay j (fun z66=>(cond (z66.2.2.2==0) (some true) (some (decide (9000000000000<z66.2.1)))).bind fun k=>cond k (some l) (cond z66.2.2.1 (some (a (0-z66.2.1),z66.1)) (some (z66.2.1,z66.1)))) (fun m=>some m)) ((cond (z44.1==0) (some true) (some (decide (9000000000000<e.1)))).bind fun p=>cond p (some l) (cond e.2.1 (some (a (0-e.1),e.2.2)) (some (e.1,e.2.2))))) (fun np=>some np))) (fun w1=>some w1):=by kernel_rfl
theorem IW (n m b d):vm n (m+1) b d=cond (decide (b<(d.length:Int))) ((bF d b).bind fun f=>cond (((f).toNat:Int)==32) (vm n m (wrap .i64 (b+1)) d) (some (Á (d,b)))) (some (Á (d,b))):=by kernel_rfl
theorem IX (n m g b d f h):oG n (m+1) g b d f h=letI a:=wrap .i64;cond (decide (b<(d.length:Int))) ((bF d b).bind fun i=>(kV n (Ä (À ((i).toNat:Int)))).bind fun j=>cond j (cond (decide (f<=9000000000000)) ((bF d b).bind fun k=>oG n m (a (g+1)) (a (b+1)) d (a ((a (10*f))+(a ((a ((a ((k).toNat:Int))-48))*1000000)))) h) (oG n m (a (g+1)) (a (b+1)) d f h)) (some (Á (g,d,f,h,b)))) (some (Á (g,d,f,h,b))):=by kernel_rfl
theorem IY (n m b f i d g h):qw n (m+1) b f i d g h=letI a:=wrap .i64;cond (decide (b<(d.length:Int))) ((bF d b).bind fun j=>(kV n (Ä (À ((j).toNat:Int)))).bind fun k=>cond k ((bF d b).bind fun p=>qw n m (a (b+1)) (a (f+1)) (a (Æ i (10:Int))) d (a (g+(a ((a ((a ((p).toNat:Int))-48))*i)))) h) (some (Á (b,g,h,f)))) (some (Á (b,g,h,f))):=by kernel_rfl
theorem apT (n b):kV (n+1) b=letI a:=((b).toNat:Int);(cond (decide (48<=a)) (some (decide (a<=57))) (some false)).bind fun d=>some d:=by kernel_rfl
theorem apU (n b g i j k d h):zt (n+1) b g i j k d h=(cond (decide (b<d)) (some true) (cond (b==d) (some (Op.bytesLess g h)) (some false))).bind fun f=>some f:=by kernel_rfl
theorem apV (n r d f g s t u z x8 x9 b):zu (n+1) r d f g s t u z x8 x9 b=letI a:=wrap .i64 (b-1);((cq n r 1 5).bind fun y0=>cond (!y0) (some true) ((cq n b 1 5).bind fun y1=>cond (!y1) (some true) ((cq n d 0 a).bind fun y2=>cond (!y2) (some true) ((cq n f 0 a).bind fun y3=>cond (!y3) (some true) (some (d==f)))))).bind fun h=>cond h (some false) (((cq n g 0 300).bind fun i=>cond i ((cq n s 0 300).bind fun j=>cond j ((cq n t 0 300).bind fun k=>cond k ((cq n u 0 300).bind fun m=>cond m ((Gi n z g).bind fun p=>cond p (some (decide ((x9.length:Int)<=30000))) (some false)) (some false)) (some false)) (some false)) (some false)).bind fun q=>some q):=by kernel_rfl
theorem apW (n b d):Gi (n+1) b d=(vn n n 0 b d).bind fun f=>ay f (fun g=>some (decide ((g.length:Int)<=40))) (fun h=>some h):=by kernel_rfl
theorem Qz (n m d b f):vn n (m+1) d b f=cond (decide (d<(b.length:Int))) ((au b d).bind fun h=>(cq n h.1 0 f).bind fun i=>cond (!i) (some (Â false)) ((au b d).bind fun g=>(rZ n g.2.1 g.2.2.1 g.2.2.2).bind fun j=>cond (!j) (some (Â false)) (vn n m (wrap .i64 (d+1)) b f))) (some (Á b)):=by kernel_rfl
theorem apX (n b f):Gj (n+1) b f=(cond (decide ((b.length:Int)<=80000)) ((cq n f 0 (b.length:Int)).bind fun g=>some g) (some false)).bind fun d=>some d:=by kernel_rfl
theorem apY (n d f g h i):Gk (n+1) d f g h i=(uR n d f g h).bind fun j=>cond (!j) (some (([]:ae),([]:ai),(0:Int),(0:Int),([]:ah),([]:O))) ((Gl n d f g h).bind fun b=>(vo n n b.1 b.2.1 b.2.2.1 b.2.2.2.1 b.2.2.2.2.1 b.2.2.2.2.2 d f g h 0 0 ([]:O) 0 i).bind fun k=>ay k (fun z3=>letI a:=z3.2.2.2.2;some (z3.2.2.2.1,a.1,a.2.1,a.2.2.1,a.2.2.2.1,a.2.2.2.2)) (fun m=>some m)):=by kernel_rfl
theorem IZ (n m j k p q r s t u z x9 f g h b d):vo n (m+1) j k p q r s t u z x9 f g h b d=letI a:=wrap .i64 (b+1);cond (decide (b<(d.length:Int))) ((au d b).bind fun y0=>(rZ n y0.1 y0.2.1 y0.2.2).bind fun y1=>cond y1 ((au d b).bind fun y2=>(GR n t u z x9 j k p q r s y2.1 y2.2.1 y2.2.2).bind fun i=>vo n m i.1 i.2.1 i.2.2.1 i.2.2.2.1 i.2.2.2.2.1 i.2.2.2.2.2 t u z x9 f g h a d) (vo n m j k p q r s t u z x9 f g h a d)) (some (Á (f,g,h,j,k,p,q,r,s))):=by kernel_rfl
theorem apZ (n d f g h):Gl (n+1) d f g h=letI c:=À (3:Int);letI a:=decide ((0:Int)<=3/\(3:Int)<=3/\(3:Int)<=(aD:Int));(Gm n d f g h).bind fun b=>cond (decide (1500<(b.2.2.2.2.length:Int))) ((zv n (d.length:Int)).bind fun i=>cond a (some (i.1,([]:ai),i.2.1,(5:Int),Ã c (0:Int),([]:O))) none) (cond a (some (b.1,b.2.1,b.2.2.1,b.2.2.2.1,Ã c (0:Int),b.2.2.2.2)) none):=by kernel_rfl
theorem aqA (n h j i k):Gm (n+1) h j i k=(zv n (h.length:Int)).bind fun d=>(oH n d.1 ([]:ai) d.2.1 d.2.2).bind fun g=>(oI n g.1 g.2.1 g.2.2.1 g.2.2.2 ([]:af) ([]:af) ([]:O) ([]:af) ([]:O) 0 false i).bind fun b=>letI a:=b.2.2.2.2.2;(vG n b.1 b.2.1 b.2.2.1 b.2.2.2.1 b.2.2.2.2.1 a.1 a.2.1 a.2.2.1 a.2.2.2.1 a.2.2.2.2.1 a.2.2.2.2.2 d.1 ([]:ai) d.2.1 d.2.2).bind fun f=>some (f.1,f.2.1,f.2.2.1,f.2.2.2.1,f.2.2.2.2.1):=by kernel_rfl
theorem aqB (n d):zv (n+1) d=(zw n d 8).bind fun f=>(qv n 0 f).bind fun b=>cond (decide (0<=b/\b<=b/\b<=(aD:Int))) (some (Ã (À b) ((0:Int),(0:Int),([]:O)),(0:Int),(0:Int))) none:=by kernel_rfl
theorem aqC (n b d):zw (n+1) b d=cond (decide (b<d)) (some b) (some d):=by kernel_rfl
theorem aqD (n b d f g):oH (n+1) b d f g=cond (Å (0+b.length) aD) (cond (Å (0+d.length) aD) (some (b,d,f,g)) none) none:=by kernel_rfl
theorem QA (n g h i j k m p q r s d f):oI (n+1) g h i j k m p q r s d f=(vr n n g h i j k m p q r s d ([]:ae) 0 0 f).bind fun t=>ay t (fun b=>letI a:=b.2.2.2.2.2;some (b.1,b.2.1,b.2.2.1,b.2.2.2.1,b.2.2.2.2.1,a.1,a.2.1,a.2.2.1,a.2.2.2.1,a.2.2.2.2.1,a.2.2.2.2.2)) (fun u=>some u):=by kernel_rfl
theorem sI (n m p q r j s t u z x8 x9 f k g h i):vr n (m+1) p q r j s t u z x8 x9 f k g h i=cond (j==0) (cond (g==20000) ((ib n p q r j s t u z x8 x9 f 6).bind fun d=>letI c:=d.2.2.2.2.2;some (Â (d.1,d.2.1,d.2.2.1,d.2.2.2.1,d.2.2.2.2.1,c.1,c.2.1,c.2.2.1,c.2.2.2.1,c.2.2.2.2.1,c.2.2.2.2.2))) ((au i h).bind fun d=>(zx n p q r j s t u z x8 x9 f k d.1 d.2.1 d.2.2 h).bind fun b=>letI l:=b.2.2.2;letI a:=l.2.2.2;letI e:=a.2.2.2;letI o:=e.2.2;cond (!b.2.1) (some (Â (b.2.2.1,l.1,l.2.1,l.2.2.1,a.1,a.2.1,a.2.2.1,e.1,e.2.1,o.1,o.2.1))) (vr n m b.2.2.1 l.1 l.2.1 l.2.2.1 a.1 a.2.1 a.2.2.1 e.1 e.2.1 o.1 o.2.1 o.2.2 (wrap .i64 (g+1)) b.1 i))) (some (Á (p,q,r,j,s,t,u,z,x8,x9,f))):=by kernel_rfl
theorem aqE (n f g h i j k m p q r b d):ib (n+1) f g h i j k m p q r b d=cond (i==0) (some (f,g,h,d,j,k,m,p,q,r,b)) (some (f,g,h,i,j,k,m,p,q,r,b)):=by kernel_rfl
theorem lZ (n m p q r s t u z x8 x9 h b g j k i):zx (n+1) m p q r s t u z x8 x9 h b g j k i=letI ai:=lU n m p q r s t u z x8 x9 h;letI e:=wrap .i64;(zA n g j k).bind fun f=>letI v:=e ((b.length:Int)-f);letI ao:=decide (0<=v/\v<=(b.length:Int));letI a:=À v;letI an:=(j,true,m,p,q,r,s,t,u,z,x8,x9,h,b.take a);letI am:=(e (i+1),true,m,p,q,r,s,t,u,z,x8,x9,h,b.take a);letI o:=(b.drop a).take (b.length-a);letI w:=decide ((0:Int)<=0/\(0:Int)<(o.length:Int));letI l:=Å a b.length;letI c:=lV n m p q r s t u z x8 x9 h (b.take a) g j k o;cond (decide (v<0)) ((ib n m p q r s t u z x8 x9 h 7).bind fun d=>letI aj:=d.2.2.2.2.2;some (i,false,d.1,d.2.1,d.2.2.1,d.2.2.2.1,d.2.2.2.2.1,aj.1,aj.2.1,aj.2.2.1,aj.2.2.2.1,aj.2.2.2.2.1,aj.2.2.2.2.2,b)) (cond ao (cond (Å (0+o.length) aD) (cond ao (cond (g==36) (cond l (some (i,false,m,p,q,r,s,t,u,z,x8,x9,h,b.take a)) none) (cond (g==30) (cond l (some an) none) (cond (g==31) (cond w ((aM o 0).bind fun d=>(vu n d.1 d.2.1 d.2.2).bind fun y2=>cond (!y2) (cond l (some an) none) (cond l (some am) none)) none) (cond (g==32) (cond l (some am) none) (cond (g==33) (cond (j==1) ((ai ([32]:O)).bind fun d=>letI ak:=d.2.2.2.2.2;cond w ((aM o 0).bind fun y2=>(gg n y2.1 y2.2.1 y2.2.2).bind fun y3=>(lU n d.1 d.2.1 d.2.2.1 d.2.2.2.1 d.2.2.2.2.1 ak.1 ak.2.1 ak.2.2.1 ak.2.2.2.1 ak.2.2.2.2.1 ak.2.2.2.2.2 y3).bind fun y4=>letI ag:=y4.2.2.2.2.2;cond l (some (e (i+1),true,y4.1,y4.2.1,y4.2.2.1,y4.2.2.2.1,y4.2.2.2.2.1,ag.1,ag.2.1,ag.2.2.1,ag.2.2.2.1,ag.2.2.2.2.1,ag.2.2.2.2.2,b.take a)) none) none) (cond w ((aM o 0).bind fun d=>(gg n d.1 d.2.1 d.2.2).bind fun y2=>(ai y2).bind fun y3=>letI ah:=y3.2.2.2.2.2;cond l (some (e (i+1),true,y3.1,y3.2.1,y3.2.2.1,y3.2.2.2.1,y3.2.2.2.2.1,ah.1,ah.2.1,ah.2.2.1,ah.2.2.2.1,ah.2.2.2.2.1,ah.2.2.2.2.2,b.take a)) none) none)) (cond (g==34) ((ai ([10]:O)).bind fun d=>letI al:=d.2.2.2.2.2;cond l (some (e (i+1),true,d.1,d.2.1,d.2.2.1,d.2.2.2.1,d.2.2.2.2.1,al.1,al.2.1,al.2.2.1,al.2.2.2.1,al.2.2.2.2.1,al.2.2.2.2.2,b.take a)) none) (cond (g==3) (cond l (c.bind fun d=>letI x:=d.2.2.2.2.2;letI ax:=x.2.2.2;some (e (i+1),true,d.1,d.2.1,d.2.2.1,d.2.2.2.1,d.2.2.2.2.1,x.1,x.2.1,x.2.2.1,ax.1,ax.2.1,ax.2.2.1,ax.2.2.2)) none) (cond (g==4) (cond l (c.bind fun d=>letI y:=d.2.2.2.2.2;letI ay:=y.2.2.2;some (e (i+1),true,d.1,d.2.1,d.2.2.1,d.2.2.2.1,d.2.2.2.2.1,y.1,y.2.1,y.2.2.1,ay.1,ay.2.1,ay.2.2.1,ay.2.2.2)) none) (cond (g==5) (cond l (c.bind fun d=>letI aa:=d.2.2.2.2.2;letI ap:=aa.2.2.2;some (e (i+1),true,d.1,d.2.1,d.2.2.1,d.2.2.2.1,d.2.2.2.2.1,aa.1,aa.2.1,aa.2.2.1,ap.1,ap.2.1,ap.2.2.1,ap.2.2.2)) none) (cond (g==6) (cond l (c.bind fun d=>letI ab:=d.2.2.2.2.2;letI aq:=ab.2.2.2;some (e (i+1),true,d.1,d.2.1,d.2.2.1,d.2.2.2.1,d.2.2.2.2.1,ab.1,ab.2.1,ab.2.2.1,aq.1,aq.2.1,aq.2.2.1,aq.2.2.2)) none) (cond (g==7) (cond l (c.bind fun d=>letI ac:=d.2.2.2.2.2;letI ar:=ac.2.2.2;some (e (i+1),true,d.1,d.2.1,d.2.2.1,d.2.2.2.1,d.2.2.2.2.1,ac.1,ac.2.1,ac.2.2.1,ar.1,ar.2.1,ar.2.2.1,ar.2.2.2)) none) (cond (g==8) (cond l (c.bind fun d=>letI ad:=d.2.2.2.2.2;letI au:=ad.2.2.2;some (e (i+1),true,d.1,d.2.1,d.2.2.1,d.2.2.2.1,d.2.2.2.2.1,ad.1,ad.2.1,ad.2.2.1,au.1,au.2.1,au.2.2.1,au.2.2.2)) none) (cond (g==35) (cond l (c.bind fun d=>letI ae:=d.2.2.2.2.2;letI av:=ae.2.2.2;some (e (i+1),true,d.1,d.2.1,d.2.2.1,d.2.2.2.1,d.2.2.2.2.1,ae.1,ae.2.1,ae.2.2.1,av.1,av.2.1,av.2.2.1,av.2.2.2)) none) (cond l ((zF n m p q r s t u z x8 x9 h (b.take a) g j k o).bind fun d=>letI af:=d.2.2.2.2.2;letI aw:=af.2.2.2;some (e (i+1),true,d.1,d.2.1,d.2.2.1,d.2.2.2.1,d.2.2.2.2.1,af.1,af.2.1,af.2.2.1,aw.1,aw.2.1,aw.2.2.1,aw.2.2.2)) none)))))))))))))) none) none) none):=by kernel_rfl
theorem aqF (n b d f):zA (n+1) b d f=cond (b==1) (some (0:Int)) (cond (b==2) (some (0:Int)) (cond (b==3) (some (0:Int)) (cond (b==10) (some (0:Int)) (cond (b==11) (some (0:Int)) (cond (b==25) (some (0:Int)) (cond (b==30) (some (0:Int)) (cond (b==34) (some (0:Int)) (cond (b==36) (some (0:Int)) (cond (b==7) (some (2:Int)) (cond (b==8) (some (2:Int)) (cond (b==29) (some d) ((cq n b 12 23).bind fun g=>cond g (some (2:Int)) (some (1:Int)))))))))))))):=by kernel_rfl
theorem aqG (n b d f):vu (n+1) b d f=cond (b==1) (some (d !=0)) (cond (b==3) (some (d !=0)) (cond (b==2) (some (!(f==([]:O)))) (some false))):=by kernel_rfl
theorem aqH (n h i j k m p q r g s f d):lU (n+1) h i j k m p q r g s f d=cond (decide (600<(wrap .i64 ((g.length:Int)+(d.length:Int))))) ((ib n h i j k m p q r g s f 5).bind fun b=>letI a:=b.2.2.2.2.2;some (b.1,b.2.1,b.2.2.1,b.2.2.2.1,b.2.2.2.2.1,a.1,a.2.1,a.2.2.1,a.2.2.2.1,a.2.2.2.2.1,a.2.2.2.2.2)) (cond (Å (g.length+d.length) mx) (some (h,i,j,k,m,p,q,r,g++d,s,f)) none):=by kernel_rfl
theorem aqI (n b d f):gg (n+1) b d f=cond (b==1) ((Gn n d).bind fun g=>some g) (some f):=by kernel_rfl
theorem QB (n b):Gn (n+1) b=letI k:=wrap .i64;(iH n b).bind fun h=>cond (!h) (some ([]:O)) ((vv n b).bind fun f=>letI c:=Ç f (1000000:Int);(zC n (k (Æ f (1000000:Int)))).bind fun d=>cond (decide (0<c)) ((zC n (k (1000000+c))).bind fun g=>cond (decide ((0:Int)<=1/\(1:Int)<=(g.length:Int))) ((zB n n ((g.drop 1).take (g.length-1)) b d).bind fun i=>ay i (fun z5=>letI a:=z5.2.2++([46]:O);letI e:=a++z5.2.1;cond (Å (z5.2.2.length+1) mx) (cond (Å (a.length+z5.2.1.length) mx) (cond (decide (z5.1<0)) (cond (Å (1+e.length) mx) (some (([45]:O)++e)) none) (some e)) none) none) (fun j=>some j)) none) (cond (decide (b<0)) (cond (Å (1+d.length) mx) (some (([45]:O)++d)) none) (some d))):=by kernel_rfl
theorem aqJ (n m b d f):zB n (m+1) b d f=letI a:=wrap .i64 ((b.length:Int)-1);(bF b a).bind fun g=>cond (((g).toNat:Int)==48) (cond (decide (0<=a/\a<=(b.length:Int))) (zB n m (b.take ((À a)-0)) d f) none) (some (Á (d,b,f))):=by kernel_rfl
theorem aqK (n b):vv (n+1) b=cond (decide (b<0)) (some (wrap .i64 (0-b))) (some b):=by kernel_rfl
theorem aqL (n b):zC (n+1) b=cond (decide (b<=0)) (some ([48]:O)) ((zD n n b ([]:O)).bind fun d=>ay d (fun f=>some f) (fun g=>some g)):=by kernel_rfl
theorem QC (n m b d):zD n (m+1) b d=letI a:=wrap .i64;cond (decide (0<b)) (cond (Å (1+d.length) mx) (zD n m (a (Æ b (10:Int))) ([Ä (À (wrap .u8 (a (48+(Ç b (10:Int))))))]++d)) none) (some (Á d)):=by kernel_rfl
theorem qH (n q t u z x4 x5 x6 x7 x8 x9 p k r d aj m):lV (n+1) q t u z x4 x5 x6 x7 x8 x9 p k r d aj m=letI ah:=vx n q t u z x4 x5 x6 x7 x8 x9 p 0;letI ag:=ek n q t u z x4 x5 x6 x7 x8 x9 p k;letI ab:=À d;letI ap:=aM q ab;letI l:=decide (0<=d/\d<(q.length:Int));letI e:=au m (0:Int);cond (r==3) (cond l (ap.bind fun h=>(ag h.1 h.2.1 h.2.2).bind fun i=>letI o:=i.2.2.2.2.2;letI ak:=o.2.2.2;some (i.1,i.2.1,i.2.2.1,i.2.2.2.1,i.2.2.2.2.1,o.1,o.2.1,o.2.2.1,ak.1,ak.2.1,ak.2.2.1,ak.2.2.2)) none) (cond (r==4) (e.bind fun h=>cond l (ap.bind fun _=>e.bind fun j=>(ek n (q.set ab (h.1,h.2.1,h.2.2)) t u z x4 x5 x6 x7 x8 x9 p k j.1 j.2.1 j.2.2).bind fun b=>letI v:=b.2.2.2.2.2;letI al:=v.2.2.2;some (b.1,b.2.1,b.2.2.1,b.2.2.2.1,b.2.2.2.2.1,v.1,v.2.1,v.2.2.1,al.1,al.2.1,al.2.2.1,al.2.2.2)) none) (cond (r==5) (cond l (ap.bind fun h=>(gM n h.1 h.2.1 h.2.2).bind fun i=>e.bind fun j=>(gM n j.1 j.2.1 j.2.2).bind fun b=>(ah i b).bind fun g=>letI ae:=g.2.2.2;letI a:=ae.2.2.2;letI ac:=a.2.2.2.2;cond (a.1==0) (cond (decide (0<=d/\d<(g.2.2.2.1.length:Int))) ((aM ae.1 ab).bind fun _=>(ek n (g.2.2.2.1.set ab (g.1,g.2.1,g.2.2.1)) ae.2.1 ae.2.2.1 a.1 a.2.1 a.2.2.1 a.2.2.2.1 ac.1 ac.2.1 ac.2.2.1 ac.2.2.2 k g.1 g.2.1 g.2.2.1).bind fun f=>letI w:=f.2.2.2.2.2;letI am:=w.2.2.2;some (f.1,f.2.1,f.2.2.1,f.2.2.2.1,f.2.2.2.2.1,w.1,w.2.1,w.2.2.1,am.1,am.2.1,am.2.2.1,am.2.2.2)) none) (some (ae.1,ae.2.1,ae.2.2.1,a.1,a.2.1,a.2.2.1,a.2.2.2.1,ac.1,ac.2.1,ac.2.2.1,ac.2.2.2,k))) none) (cond (r==6) (e.bind fun h=>(sb n h.1 h.2.1 h.2.2).bind fun i=>(zE n q t u z d i).bind fun j=>(ag j.1 j.2.1 j.2.2).bind fun b=>letI x:=b.2.2.2.2.2;letI an:=x.2.2.2;some (b.1,b.2.1,b.2.2.1,b.2.2.2.1,b.2.2.2.2.1,x.1,x.2.1,x.2.2.1,an.1,an.2.1,an.2.2.1,an.2.2.2)) (cond (r==7) (e.bind fun h=>(sb n h.1 h.2.1 h.2.2).bind fun i=>(au m (1:Int)).bind fun j=>(vy n q t u z x4 x5 x6 x7 x8 x9 p k d i j.1 j.2.1 j.2.2).bind fun b=>letI y:=b.2.2.2.2.2;letI ao:=y.2.2.2;some (b.1,b.2.1,b.2.2.1,b.2.2.2.1,b.2.2.2.2.1,y.1,y.2.1,y.2.2.1,ao.1,ao.2.1,ao.2.2.1,ao.2.2.2)) (cond (r==8) (e.bind fun h=>(sb n h.1 h.2.1 h.2.2).bind fun i=>(zE n q t u z d i).bind fun j=>(gM n j.1 j.2.1 j.2.2).bind fun b=>(au m (1:Int)).bind fun g=>(gM n g.1 g.2.1 g.2.2).bind fun y5=>(ah b y5).bind fun f=>letI af:=f.2.2.2;letI c:=af.2.2.2;letI ad:=c.2.2.2.2;cond (c.1==0) ((vy n af.1 af.2.1 af.2.2.1 c.1 c.2.1 c.2.2.1 c.2.2.2.1 ad.1 ad.2.1 ad.2.2.1 ad.2.2.2 k d i f.1 f.2.1 f.2.2.1).bind fun s=>letI aa:=s.2.2.2.2.2;letI ai:=aa.2.2.2;some (s.1,s.2.1,s.2.2.1,s.2.2.2.1,s.2.2.2.2.1,aa.1,aa.2.1,aa.2.2.1,ai.1,ai.2.1,ai.2.2.1,ai.2.2.2)) (some (af.1,af.2.1,af.2.2.1,c.1,c.2.1,c.2.2.1,c.2.2.2.1,ad.1,ad.2.1,ad.2.2.1,ad.2.2.2,k))) (cond (r==35) (e.bind fun h=>(sb n h.1 h.2.1 h.2.2).bind fun i=>(Gu n q t u z d i).bind fun j=>some (j.1,j.2.1,j.2.2.1,j.2.2.2,x4,x5,x6,x7,x8,x9,p,k)) (some (q,t,u,z,x4,x5,x6,x7,x8,x9,p,k)))))))):=by kernel_rfl
theorem aqM (n j k m p q r s t u z f b g h i):ek (n+1) j k m p q r s t u z f b g h i=cond ((b.length:Int)==64) ((ib n j k m p q r s t u z f 7).bind fun d=>letI a:=d.2.2.2.2.2;some (d.1,d.2.1,d.2.2.1,d.2.2.2.1,d.2.2.2.2.1,a.1,a.2.1,a.2.2.1,a.2.2.2.1,a.2.2.2.2.1,a.2.2.2.2.2,b)) (cond (Å (b.length+1) aD) (some (j,k,m,p,q,r,s,t,u,z,f,b++[(g,h,i)])) none):=by kernel_rfl
theorem aqN (n b d f):gM (n+1) b d f=cond (b==1) (some d) (cond (b==3) (some d) (cond (b==2) ((zr n f).bind fun g=>some g.1) (some (0:Int)))):=by kernel_rfl
theorem sJ (n j k m p q r s t u z f ad i g):vx (n+1) j k m p q r s t u z f ad i g=letI a:=ib n j k m p q r s t u z f;cond (ad==0) ((Gp n i g).bind fun d=>cond (!d.2) ((a 1).bind fun b=>letI c:=b.2.2.2.2.2;(gh n d.1).bind fun h=>some (h.1,h.2.1,h.2.2,b.1,b.2.1,b.2.2.1,b.2.2.2.1,b.2.2.2.2.1,c.1,c.2.1,c.2.2.1,c.2.2.2.1,c.2.2.2.2.1,c.2.2.2.2.2)) ((gh n d.1).bind fun b=>some (b.1,b.2.1,b.2.2,j,k,m,p,q,r,s,t,u,z,f))) (cond (ad==1) ((Gq n i g).bind fun d=>cond (!d.2) ((a 1).bind fun b=>letI e:=b.2.2.2.2.2;(gh n d.1).bind fun h=>some (h.1,h.2.1,h.2.2,b.1,b.2.1,b.2.2.1,b.2.2.2.1,b.2.2.2.2.1,e.1,e.2.1,e.2.2.1,e.2.2.2.1,e.2.2.2.2.1,e.2.2.2.2.2)) ((gh n d.1).bind fun b=>some (b.1,b.2.1,b.2.2,j,k,m,p,q,r,s,t,u,z,f))) (cond (ad==2) ((Gr n i g).bind fun d=>cond (!d.2) ((a 1).bind fun b=>letI l:=b.2.2.2.2.2;(gh n d.1).bind fun h=>some (h.1,h.2.1,h.2.2,b.1,b.2.1,b.2.2.1,b.2.2.2.1,b.2.2.2.2.1,l.1,l.2.1,l.2.2.1,l.2.2.2.1,l.2.2.2.2.1,l.2.2.2.2.2)) ((gh n d.1).bind fun b=>some (b.1,b.2.1,b.2.2,j,k,m,p,q,r,s,t,u,z,f))) (cond (g==0) ((a 2).bind fun d=>letI o:=d.2.2.2.2.2;some ((0:Int),(0:Int),([]:O),d.1,d.2.1,d.2.2.1,d.2.2.2.1,d.2.2.2.2.1,o.1,o.2.1,o.2.2.1,o.2.2.2.1,o.2.2.2.2.1,o.2.2.2.2.2)) ((Gs n i g).bind fun d=>cond (ad==4) (cond (g !=0) ((gh n (Ç i g)).bind fun b=>some (b.1,b.2.1,b.2.2,j,k,m,p,q,r,s,t,u,z,f)) none) (cond (!d.2) ((a 1).bind fun b=>letI v:=b.2.2.2.2.2;(gh n d.1).bind fun h=>some (h.1,h.2.1,h.2.2,b.1,b.2.1,b.2.2.1,b.2.2.2.1,b.2.2.2.2.1,v.1,v.2.1,v.2.2.1,v.2.2.2.1,v.2.2.2.2.1,v.2.2.2.2.2)) ((gh n d.1).bind fun b=>some (b.1,b.2.1,b.2.2,j,k,m,p,q,r,s,t,u,z,f))))))):=by kernel_rfl
theorem aqO (n d f):Gp (n+1) d f=((iH n d).bind fun h=>cond (!h) (some true) ((iH n f).bind fun i=>some (!i))).bind fun g=>cond g (some ((0:Int),false)) ((na n (wrap .i64 (d+f))).bind fun b=>some (b.1,b.2)):=by kernel_rfl
theorem aqP (n b):na (n+1) b=(iH n b).bind fun d=>cond (!d) (some ((0:Int),false)) (some (b,true)):=by kernel_rfl
theorem aqQ (n b):gh (n+1) b=some ((1:Int),b,([]:O)):=by kernel_rfl
theorem aqR (n d f):Gq (n+1) d f=((iH n d).bind fun h=>cond (!h) (some true) ((iH n f).bind fun i=>some (!i))).bind fun g=>cond g (some ((0:Int),false)) ((na n (wrap .i64 (d-f))).bind fun b=>some (b.1,b.2)):=by kernel_rfl
theorem Ja (n g h):Gr (n+1) g h=letI l:=((0:Int),false);letI a:=wrap .i64;((iH n g).bind fun k=>cond (!k) (some true) ((iH n h).bind fun m=>some (!m))).bind fun i=>cond i (some l) ((vv n g).bind fun d=>letI e:=a (Æ d (1000000:Int));(vv n h).bind fun b=>letI c:=a ((a (e*b))+(a (Æ (a ((Ç d (1000000:Int))*b)) (1000000:Int))));(cond (decide (0<b)) (cond (b !=0) (some (decide ((a (Æ (9000000000000:Int) b))<e))) none) (some false)).bind fun j=>cond j (some l) (cond (!((decide (g<0))==(decide (h<0)))) ((na n (a (0-c))).bind fun f=>some (f.1,f.2)) ((na n c).bind fun f=>some (f.1,f.2)))):=by kernel_rfl
theorem aqS (n f b):Gs (n+1) f b=letI a:=wrap .i64;((iH n f).bind fun h=>cond (!h) (some true) ((iH n b).bind fun i=>cond (!i) (some true) (some (b==0)))).bind fun g=>cond g (some ((0:Int),false)) (cond (b !=0) ((na n (a (Æ (a (f*1000000)) b))).bind fun d=>some (d.1,d.2)) none):=by kernel_rfl
theorem aqT (n d f g):sb (n+1) d f g=(gg n d f g).bind fun b=>cond (decide (300<(b.length:Int))) (cond (decide ((0:Int)<=300/\(300:Int)<=(b.length:Int))) (some (b.take (300-0))) none) (some b):=by kernel_rfl
theorem aqU (n f b g h i j):zE (n+1) f b g h i j=(nc n f b g h i j).bind fun k=>cond (decide (k<0)) (some ((0:Int),(0:Int),([]:O))) ((au b k).bind fun d=>some (d.2.2.1,d.2.2.2.1,d.2.2.2.2)):=by kernel_rfl
theorem aqV (n b d f g h i):nc (n+1) b d f g h i=(sd n n b d f g 0 i h).bind fun j=>ay j (fun _=>some (-1:Int)) (fun k=>some k):=by kernel_rfl
theorem QD (n m h d i j b f g):sd n (m+1) h d i j b f g=letI a:=sd n m h d i j (wrap .i64 (b+1)) f g;cond (decide (b<(d.length:Int))) ((au d b).bind fun k=>cond (k.1==g) ((au d b).bind fun p=>cond (p.2.1==f) (some (Â b)) a) a) (some (Á ())):=by kernel_rfl
theorem QE (n p q r s t u z x7 x8 x9 d f j k g h i):vy (n+1) p q r s t u z x7 x8 x9 d f j k g h i=(Gt n p q r s j k g h i).bind fun m=>cond (!m.2.2.2.2) ((ib n p q r s t u z x7 x8 x9 d 4).bind fun b=>letI c:=b.2.2.2.2.2;some (b.1,b.2.1,b.2.2.1,b.2.2.2.1,b.2.2.2.2.1,c.1,c.2.1,c.2.2.1,c.2.2.2.1,c.2.2.2.2.1,c.2.2.2.2.2,f)) ((ek n m.1 m.2.1 m.2.2.1 m.2.2.2.1 t u z x7 x8 x9 d f g h i).bind fun b=>letI a:=b.2.2.2.2.2;letI e:=a.2.2.2;some (b.1,b.2.1,b.2.2.1,b.2.2.2.1,b.2.2.2.2.1,a.1,a.2.1,a.2.2.1,e.1,e.2.1,e.2.2.1,e.2.2.2)):=by kernel_rfl
theorem QF (n g d h i k m p q r):Gt (n+1) g d h i k m p q r=(oH n g d h i).bind fun b=>letI v:=b.2.2;(nc n g d h i k m).bind fun f=>letI x:=À f;cond (decide (0<=f)) (cond (decide (0<=f/\f<(b.2.1.length:Int))) ((aM b.2.1 x).bind fun j=>some (b.1,b.2.1.set x (j.1,j.2.1,p,q,r),v.1,v.2,true)) none) (cond (decide (40<=(d.length:Int))) (some (b.1,b.2.1,v.1,v.2,false)) ((vz n n 0 0 b.1 b.2.1 v.1 v.2 g d h i p q r 0 m k).bind fun j=>ay j (fun z3=>letI w:=z3.2.2.2.2;letI a:=w.2.2.2.2.2.2;letI u:=a.2.2.2;letI t:=À u.1;letI l:=decide (0<=u.1/\u.1<=(z3.2.2.2.2.2.2.2.1.length:Int));letI e:=(z3.2.2.2.2.2.2.2.1.drop t).take (z3.2.2.2.2.2.2.2.1.length-t);letI c:=(z3.2.2.2.2.2.2.2.1.drop 0).take (t-0);letI o:=c++[(u.2.2,u.2.1,a.1,a.2.1,a.2.2.1)];cond l (cond (Å (0+c.length) aD) (cond (Å (c.length+1) aD) (cond l (cond (Å (o.length+e.length) aD) (some (z3.2.2.1,o++e,w.1,w.2.1,true)) none) none) none) none) none) (fun s=>some s))):=by kernel_rfl
theorem QG (n m p q r s t u z j x8 x9 g h i b d f):vz n (m+1) p q r s t u z j x8 x9 g h i b d f=letI a:=(p,q,r,s,t,u,z,j,x8,x9,g,h,i,b,d,f);cond (decide (b<(j.length:Int))) ((au j b).bind fun k=>(zt n k.1 k.2.1 k.2.2.1 k.2.2.2.1 k.2.2.2.2 f d).bind fun y1=>cond y1 (vz n m p q r s t u z j x8 x9 g h i (wrap .i64 (b+1)) d f) (some (Á a))) (some (Á a)):=by kernel_rfl
theorem QH (n g b h i j k):Gu (n+1) g b h i j k=(oH n g b h i).bind fun f=>(nc n g b h i j k).bind fun d=>letI c:=(b.drop 0).take ((À d)-0);letI a:=wrap .i64 (d+1);letI l:=À a;letI e:=(b.drop l).take (b.length-l);cond (decide (0<=d)) (cond (decide (0<=d/\d<=(b.length:Int))) (cond (Å (0+c.length) aD) (cond (decide (0<=a/\a<=(b.length:Int))) (cond (Å (c.length+e.length) aD) (some (f.1,c++e,f.2.2.1,f.2.2.2)) none) none) none) none) (some (f.1,f.2.1,f.2.2.1,f.2.2.2)):=by kernel_rfl
theorem jk (n r s m j t u p q z x9 i g k ai ag ae):zF (n+1) r s m j t u p q z x9 i g k ai ag ae=letI bc:=au ae (1:Int);letI y:=wrap .i64;letI w:=au ae (0:Int);letI c:=(r,s,m,j,t,u,p,q,z,x9,i,g);letI a:=ek n r s m j t u p q z x9 i g;cond (k==1) ((gh n ai).bind fun d=>cond (j==0) ((a d.1 d.2.1 d.2.2).bind fun b=>letI aa:=b.2.2.2.2.2;letI bd:=aa.2.2.2;some (b.1,b.2.1,b.2.2.1,b.2.2.2.1,b.2.2.2.2.1,aa.1,aa.2.1,aa.2.2.1,bd.1,bd.2.1,bd.2.2.1,bd.2.2.2)) (some c)) (cond (k==2) (cond (decide (300<(ag.length:Int))) ((ib n r s m j t u p q z x9 i 3).bind fun d=>letI ba:=d.2.2.2;letI v:=ba.2.2;letI bb:=v.2.2.2;cond (ba.1==0) ((ek n d.1 d.2.1 d.2.2.1 ba.1 ba.2.1 v.1 v.2.1 v.2.2.1 bb.1 bb.2.1 bb.2.2 g 2 0 ag).bind fun b=>letI ab:=b.2.2.2.2.2;letI be:=ab.2.2.2;some (b.1,b.2.1,b.2.2.1,b.2.2.2.1,b.2.2.2.2.1,ab.1,ab.2.1,ab.2.2.1,be.1,be.2.1,be.2.2.1,be.2.2.2)) (some (d.1,d.2.1,d.2.2.1,ba.1,ba.2.1,v.1,v.2.1,v.2.2.1,bb.1,bb.2.1,bb.2.2,g))) (cond (j==0) ((a 2 0 ag).bind fun d=>letI ac:=d.2.2.2.2.2;letI bf:=ac.2.2.2;some (d.1,d.2.1,d.2.2.1,d.2.2.2.1,d.2.2.2.2.1,ac.1,ac.2.1,ac.2.2.1,bf.1,bf.2.1,bf.2.2.1,bf.2.2.2)) (some c))) (cond (k==9) (w.bind fun d=>(Gv n r s m j t u p q z x9 i d.1 d.2.1 d.2.2).bind fun b=>letI ay:=b.2.2.2;letI l:=ay.2.2.2;letI ar:=l.2.2.2.2;cond (l.1==0) ((ek n ay.1 ay.2.1 ay.2.2.1 l.1 l.2.1 l.2.2.1 l.2.2.2.1 ar.1 ar.2.1 ar.2.2.1 ar.2.2.2 g b.1 b.2.1 b.2.2.1).bind fun h=>letI ad:=h.2.2.2.2.2;letI bg:=ad.2.2.2;some (h.1,h.2.1,h.2.2.1,h.2.2.2.1,h.2.2.2.2.1,ad.1,ad.2.1,ad.2.2.1,bg.1,bg.2.1,bg.2.2.1,bg.2.2.2)) (some (ay.1,ay.2.1,ay.2.2.1,l.1,l.2.1,l.2.2.1,l.2.2.2.1,ar.1,ar.2.1,ar.2.2.1,ar.2.2.2,g))) (cond (k==10) ((gh n (y (1000000*m))).bind fun d=>cond (j==0) ((a d.1 d.2.1 d.2.2).bind fun b=>letI af:=b.2.2.2.2.2;letI bh:=af.2.2.2;some (b.1,b.2.1,b.2.2.1,b.2.2.2.1,b.2.2.2.2.1,af.1,af.2.1,af.2.2.1,bh.1,bh.2.1,bh.2.2.1,bh.2.2.2)) (some c)) (cond (k==11) ((gh n (y (1000000*(q.length:Int)))).bind fun d=>cond (j==0) ((a d.1 d.2.1 d.2.2).bind fun b=>letI ah:=b.2.2.2.2.2;letI bi:=ah.2.2.2;some (b.1,b.2.1,b.2.2.1,b.2.2.2.1,b.2.2.2.2.1,ah.1,ah.2.1,ah.2.2.1,bi.1,bi.2.1,bi.2.2.1,bi.2.2.2)) (some c)) (cond (k==17) (w.bind fun d=>bc.bind fun b=>(Gw n r s m j t u p q z x9 i d.1 d.2.1 d.2.2 b.1 b.2.1 b.2.2).bind fun h=>letI az:=h.2.2.2;letI o:=az.2.2.2;letI av:=o.2.2.2.2;cond (o.1==0) ((ek n az.1 az.2.1 az.2.2.1 o.1 o.2.1 o.2.2.1 o.2.2.2.1 av.1 av.2.1 av.2.2.1 av.2.2.2 g h.1 h.2.1 h.2.2.1).bind fun f=>letI aj:=f.2.2.2.2.2;letI bj:=aj.2.2.2;some (f.1,f.2.1,f.2.2.1,f.2.2.2.1,f.2.2.2.2.1,aj.1,aj.2.1,aj.2.2.1,bj.1,bj.2.1,bj.2.2.1,bj.2.2.2)) (some (az.1,az.2.1,az.2.2.1,o.1,o.2.1,o.2.2.1,o.2.2.2.1,av.1,av.2.1,av.2.2.1,av.2.2.2,g))) (cond (k==24) (w.bind fun d=>(gg n d.1 d.2.1 d.2.2).bind fun b=>(vC n ag b).bind fun h=>cond (j==0) ((a h.1 h.2.1 h.2.2).bind fun f=>letI ak:=f.2.2.2.2.2;letI bk:=ak.2.2.2;some (f.1,f.2.1,f.2.2.1,f.2.2.2.1,f.2.2.2.2.1,ak.1,ak.2.1,ak.2.2.1,bk.1,bk.2.1,bk.2.2.1,bk.2.2.2)) (some c)) (cond (k==25) ((vC n ag p).bind fun d=>cond (j==0) ((a d.1 d.2.1 d.2.2).bind fun b=>letI al:=b.2.2.2.2.2;letI bl:=al.2.2.2;some (b.1,b.2.1,b.2.2.1,b.2.2.2.1,b.2.2.2.2.1,al.1,al.2.1,al.2.2.1,bl.1,bl.2.1,bl.2.2.1,bl.2.2.2)) (some c)) (cond (k==26) (w.bind fun d=>(vu n d.1 d.2.1 d.2.2).bind fun b=>(sj n (!b)).bind fun h=>cond (j==0) ((a h.1 h.2.1 h.2.2).bind fun f=>letI am:=f.2.2.2.2.2;letI bm:=am.2.2.2;some (f.1,f.2.1,f.2.2.1,f.2.2.2.1,f.2.2.2.2.1,am.1,am.2.1,am.2.2.1,bm.1,bm.2.1,bm.2.2.1,bm.2.2.2)) (some c)) (cond (k==27) (w.bind fun d=>(gM n d.1 d.2.1 d.2.2).bind fun b=>(gh n (y (0-b))).bind fun h=>cond (j==0) ((a h.1 h.2.1 h.2.2).bind fun f=>letI an:=f.2.2.2.2.2;letI bn:=an.2.2.2;some (f.1,f.2.1,f.2.2.1,f.2.2.2.1,f.2.2.2.2.1,an.1,an.2.1,an.2.2.1,bn.1,bn.2.1,bn.2.2.1,bn.2.2.2)) (some c)) (cond (k==28) (w.bind fun d=>(vu n d.1 d.2.1 d.2.2).bind fun b=>(sj n b).bind fun h=>cond (j==0) ((a h.1 h.2.1 h.2.2).bind fun f=>letI ao:=f.2.2.2.2.2;letI bo:=ao.2.2.2;some (f.1,f.2.1,f.2.2.1,f.2.2.2.1,f.2.2.2.2.1,ao.1,ao.2.1,ao.2.2.1,bo.1,bo.2.1,bo.2.2.1,bo.2.2.2)) (some c)) (cond (k==29) ((GJ n ag ae).bind fun d=>cond (j==0) ((a d.1 d.2.1 d.2.2).bind fun b=>letI ap:=b.2.2.2.2.2;letI bp:=ap.2.2.2;some (b.1,b.2.1,b.2.2.1,b.2.2.2.1,b.2.2.2.2.1,ap.1,ap.2.1,ap.2.2.1,bp.1,bp.2.1,bp.2.2.1,bp.2.2.2)) (some c)) (cond (decide (k<=16)) (w.bind fun d=>(gM n d.1 d.2.1 d.2.2).bind fun b=>bc.bind fun h=>(gM n h.1 h.2.1 h.2.2).bind fun f=>(vx n r s m j t u p q z x9 i (y (k-12)) b f).bind fun y4=>letI ax:=y4.2.2.2;letI e:=ax.2.2.2;letI aw:=e.2.2.2.2;cond (e.1==0) ((ek n ax.1 ax.2.1 ax.2.2.1 e.1 e.2.1 e.2.2.1 e.2.2.2.1 aw.1 aw.2.1 aw.2.2.1 aw.2.2.2 g y4.1 y4.2.1 y4.2.2.1).bind fun y5=>letI x:=y5.2.2.2.2.2;letI br:=x.2.2.2;some (y5.1,y5.2.1,y5.2.2.1,y5.2.2.2.1,y5.2.2.2.2.1,x.1,x.2.1,x.2.2.1,br.1,br.2.1,br.2.2.1,br.2.2.2)) (some (ax.1,ax.2.1,ax.2.2.1,e.1,e.2.1,e.2.2.1,e.2.2.2.1,aw.1,aw.2.1,aw.2.2.1,aw.2.2.2,g))) (w.bind fun d=>bc.bind fun b=>(GN n (y (k-18)) d.1 d.2.1 d.2.2 b.1 b.2.1 b.2.2).bind fun h=>cond (j==0) ((a h.1 h.2.1 h.2.2).bind fun f=>letI aq:=f.2.2.2.2.2;letI bq:=aq.2.2.2;some (f.1,f.2.1,f.2.2.1,f.2.2.2.1,f.2.2.2.2.1,aq.1,aq.2.1,aq.2.2.1,bq.1,bq.2.1,bq.2.2.1,bq.2.2.2)) (some c)))))))))))))):=by kernel_rfl
theorem QI (n p q r s t u f d z x9 b g h i):Gv (n+1) p q r s t u f d z x9 b g h i=letI e:=wrap .i64;(gM n g h i).bind fun j=>letI a:=e (Æ j (1000000:Int));letI c:=e (a-1);cond (a==0) ((vA n f).bind fun k=>some (k.1,k.2.1,k.2.2,p,q,r,s,t,u,f,d,z,x9,b)) ((cq n a (1:Int) (d.length:Int)).bind fun k=>cond (!k) ((vA n ([]:O)).bind fun m=>some (m.1,m.2.1,m.2.2,p,q,r,s,t,u,f,d,z,x9,b)) (cond (decide (0<=c/\c<(d.length:Int))) ((aM d (À c)).bind fun m=>(vA n m).bind fun y3=>some (y3.1,y3.2.1,y3.2.2,p,q,r,s,t,u,f,d,z,x9,b)) none)):=by kernel_rfl
theorem aqW (n b):vA (n+1) b=cond (decide (300<(b.length:Int))) (cond (decide ((0:Int)<=300/\(300:Int)<=(b.length:Int))) ((vk n (b.take (300-0))).bind fun d=>cond d.2 (some ((3:Int),d.1,b.take (300-0))) (some ((2:Int),(0:Int),b.take (300-0)))) none) ((vk n b).bind fun d=>cond d.2 (some ((3:Int),d.1,b)) (some ((2:Int),(0:Int),b))):=by kernel_rfl
theorem aqX (n m p q r s t u z x8 x9 d f g h i j k):Gw (n+1) m p q r s t u z x8 x9 d f g h i j k=(gg n f g h).bind fun y0=>(gg n i j k).bind fun y1=>cond (Å (y0.length+y1.length) mx) (cond (decide (300<((y0++y1).length:Int))) ((ib n m p q r s t u z x8 x9 d 3).bind fun b=>letI a:=b.2.2.2.2.2;some ((0:Int),(0:Int),([]:O),b.1,b.2.1,b.2.2.1,b.2.2.2.1,b.2.2.2.2.1,a.1,a.2.1,a.2.2.1,a.2.2.2.1,a.2.2.2.2.1,a.2.2.2.2.2)) (some ((2:Int),(0:Int),y0++y1,m,p,q,r,s,t,u,z,x8,x9,d))) none:=by kernel_rfl
theorem aqY (n f g):vC (n+1) f g=(uU n f).bind fun b=>(Gx n b.1 b.2.1 b.2.2.1 b.2.2.2.1 b.2.2.2.2.1 g).bind fun h=>(sj n h).bind fun d=>some (d.1,d.2.1,d.2.2):=by kernel_rfl
theorem aqZ (n b d f g h i):Gx (n+1) b d f g h i=(Gy n b d f g h).bind fun j=>(GD n j i).bind fun k=>some k.2.2:=by kernel_rfl
theorem arA (n b d f g h):Gy (n+1) b d f g h=(Gz n b d f g h).bind fun i=>cond (!i) (some ([]:bZ)) ((lW n ([]:bZ) b d f g h).bind fun j=>(lX n j 8).bind fun k=>some k):=by kernel_rfl
theorem arB (n b d f g h):Gz (n+1) b d f g h=((uY n b d f g h).bind fun j=>cond (decide (j<=12)) ((vD n b d f g h).bind fun k=>some k) (some false)).bind fun i=>some i:=by kernel_rfl
theorem arC (n g h i j k):vD (n+1) g h i j k=(zG n n g h i j k 0).bind fun m=>ay m (fun b=>letI l:=b.2.1==0;letI e:=!b.2.2.2.1;letI c:=b.2.2.1==([]:O);letI a:=(b.2.2.2.2.length:Int);letI o:=decide (2<=a);cond (b.1==1) (((cq n b.2.1 0 255).bind fun f=>cond f (cond c (cond e (some (a==0)) (some false)) (some false)) (some false)).bind fun d=>some d) (cond (b.1==3) ((cond l (cond (! c) ((se n b.2.2.1).bind fun f=>cond f (some (a==0)) (some false)) (some false)) (some false)).bind fun d=>some d) (cond (b.1==6) ((cond l (cond c (cond e (some o) (some false)) (some false)) (some false)).bind fun d=>some d) (cond (b.1==7) ((cond l (cond c (cond e (some o) (some false)) (some false)) (some false)).bind fun d=>some d) (cond (b.1==8) ((cond l (cond c (cond e (some (a==1)) (some false)) (some false)) (some false)).bind fun d=>some d) (cond (b.1==9) ((cond l (cond c (cond e (some (a==1)) (some false)) (some false)) (some false)).bind fun d=>some d) (cond (b.1==10) ((cond l (cond c (cond e (some (a==1)) (some false)) (some false)) (some false)).bind fun d=>some d) (((cq n b.1 2 11).bind fun f=>cond f (cond l (cond c (cond e (some (a==0)) (some false)) (some false)) (some false)) (some false)).bind fun d=>some d)))))))) (fun p=>some p):=by kernel_rfl
theorem arD (n m g h i j b f):zG n (m+1) g h i j b f=cond (decide (f<(b.length:Int))) ((fO b f).bind fun d=>(vD n d.1 d.2.1 d.2.2.1 d.2.2.2.1 d.2.2.2.2).bind fun k=>cond (!k) (some (Â false)) (zG n m g h i j b (wrap .i64 (f+1)))) (some (Á (g,h,i,j,b))):=by kernel_rfl
theorem arE (n b):se (n+1) b=(zH n n 1 b).bind fun d=>ay d (fun _=>some true) (fun f=>some f):=by kernel_rfl
theorem arF (n m b d):zH n (m+1) b d=letI a:=wrap .i64;cond (decide (b<(d.length:Int))) ((bF d (a (b-1))).bind fun f=>(bF d b).bind fun g=>cond (decide (((g).toNat:Int)<=((f).toNat:Int))) (some (Â false)) (zH n m (a (b+1)) d)) (some (Á ())):=by kernel_rfl
theorem kY (n b i m p q k):lW (n+1) b i m p q k=letI w:=lX n b;letI v:=Å (b.length+1) aD;letI u:=fO k (0:Int);letI t:=wrap .i64;letI c:=(b.length:Int);letI o:=À c;cond (i==1) (cond v (some (b++[((1:Int),m,([]:O),false,(0:Int),(0:Int))])) none) (cond (i==2) ((w 2).bind fun f=>some f) (cond (i==3) (cond v (some (b++[((3:Int),(0:Int),p,q,(0:Int),(0:Int))])) none) (cond (i==4) ((w 4).bind fun f=>some f) (cond (i==5) ((w 5).bind fun f=>some f) (cond (i==6) ((zI n n i m p q k 0 b).bind fun f=>ay f (fun r=>some r) (fun s=>some s)) (cond (i==7) ((GC n b k).bind fun f=>some f) (cond (i==8) ((w 7).bind fun f=>u.bind fun g=>(lW n f g.1 g.2.1 g.2.2.1 g.2.2.2.1 g.2.2.2.2).bind fun h=>letI l:=h++[((6:Int),(0:Int),([]:O),false,c,(0:Int))];cond (Å (h.length+1) aD) (cond (decide (0<=c/\c<(l.length:Int))) ((aM l o).bind fun d=>letI a:=l.set o (d.1,d.2.1,d.2.2.1,d.2.2.2.1,t (c+1),d.2.2.2.2.2);cond (decide (0<=c/\c<(a.length:Int))) ((aM a o).bind fun j=>some (a.set o (j.1,j.2.1,j.2.2.1,j.2.2.2.1,j.2.2.2.2.1,(a.length:Int)))) none) none) none) (cond (i==9) (u.bind fun f=>(lW n b f.1 f.2.1 f.2.2.1 f.2.2.2.1 f.2.2.2.2).bind fun g=>cond (Å (g.length+1) aD) (some (g++[((7:Int),(0:Int),([]:O),false,c,t ((g.length:Int)+1))])) none) (cond (i==10) ((w 7).bind fun f=>u.bind fun g=>(lW n f g.1 g.2.1 g.2.2.1 g.2.2.2.1 g.2.2.2.2).bind fun h=>cond (decide (0<=c/\c<(h.length:Int))) ((aM h o).bind fun d=>letI e:=h.set o (d.1,d.2.1,d.2.2.1,d.2.2.2.1,t (c+1),d.2.2.2.2.2);cond (decide (0<=c/\c<(e.length:Int))) ((aM e o).bind fun j=>some (e.set o (j.1,j.2.1,j.2.2.1,j.2.2.2.1,j.2.2.2.2.1,(e.length:Int)))) none) none) (some b)))))))))):=by kernel_rfl
theorem QJ (n m h i j k d f g):zI n (m+1) h i j k d f g=cond (decide (f<(d.length:Int))) ((fO d f).bind fun b=>(lW n g b.1 b.2.1 b.2.2.1 b.2.2.2.1 b.2.2.2.2).bind fun p=>zI n m h i j k d (wrap .i64 (f+1)) p) (some (Á g)):=by kernel_rfl
theorem Bz (n b d):lX (n+1) b d=cond (Å (b.length+1) aD) (some (b++[(d,(0:Int),([]:O),false,(0:Int),(0:Int))])) none:=by kernel_rfl
theorem arG (n f g):GC (n+1) f g=(zJ n n 0 ([]:ah) g f).bind fun h=>ay h (fun d=>(fO d.2.1 (wrap .i64 ((d.2.1.length:Int)-1))).bind fun b=>(lW n d.2.2 b.1 b.2.1 b.2.2.1 b.2.2.2.1 b.2.2.2.2).bind fun i=>(oJ n n 0 i d.1).bind fun j=>ay j (fun z4=>some z4) (fun k=>some k)) (fun m=>some m):=by kernel_rfl
theorem QK (n m j k g d):zJ n (m+1) j k g d=letI l:=wrap .i64;letI c:=(d.length:Int);letI e:=À c;cond (decide (j<(l ((g.length:Int)-1)))) ((lX n d 7).bind fun q=>(fO g j).bind fun h=>(lW n q h.1 h.2.1 h.2.2.1 h.2.2.2.1 h.2.2.2.2).bind fun p=>cond (Å (k.length+1) aD) ((lX n p 6).bind fun f=>cond (decide (0<=c/\c<(f.length:Int))) ((aM f e).bind fun b=>letI a:=f.set e (b.1,b.2.1,b.2.2.1,b.2.2.2.1,l (c+1),b.2.2.2.2.2);cond (decide (0<=c/\c<(a.length:Int))) ((aM a e).bind fun i=>zJ n m (l (j+1)) (k++[(p.length:Int)]) g (a.set e (i.1,i.2.1,i.2.2.1,i.2.2.2.1,i.2.2.2.2.1,(a.length:Int)))) none) none) none) (some (Á (k,g,d))):=by kernel_rfl
end
end Go.Proofs.YtfpfjmahdneehaaGreatDoor
