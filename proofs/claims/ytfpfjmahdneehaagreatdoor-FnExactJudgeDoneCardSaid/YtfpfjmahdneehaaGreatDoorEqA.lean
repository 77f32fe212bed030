/- What each function comes to: equations of the evaluator. -/
import Derived.Test.YtfpfjmahdneehaaGreatDoorTab
open Int renaming toNat->À,tdiv->Æ,tmod->Ç
open Sum renaming inl->Á,inr->Â
open List renaming replicate->Ã
open UInt8 renaming ofNat->Ä
open Nat renaming ble->Å
open Go.IntKind
namespace Go.Proofs.YtfpfjmahdneehaaGreatDoor
noncomputable section
open Go Go.Ev
def Gc:Nat->af->af->ae->ae->Int->bZ->bh->Int->O->ag->ag->ae->Int->Option Int:=cF 1
def Gd:Nat->af->af->ae->ae->Int->Option Int:=cF 2
def za:Nat->af->Int->Option Int:=cF 3
def zd:Nat->Nat->Int->af->Int->Option (Sum Int Int):=cL 3 0
def zf:Nat->ae->Int->Option Int:=cF 4
def zg:Nat->Nat->Int->Int->ae->Option (Sum Int Int):=cL 4 0
def Ge:Nat->Int->Int->O->Int->Option Int:=cF 5
def Gf:Nat->bZ->Int->Option Int:=cF 6
def zh:Nat->Nat->Int->Int->bZ->Option (Sum Int Int):=cL 6 0
def Gg:Nat->Int->Int->Int->Int->Int->aW->ae->ai->Int->Int->ag->O->Int->cf->ag->ag->Int->ae->ai->Int->Int->ag->O->bu->Int->bh->Int->Option Int:=cF 7
def Gh:Nat->Int->Int->Int->Int->aW->ae->ai->Int->Int->ag->O->Int->Option Int:=cF 8
def Gi:Nat->Int->Int->aW->Int->Option Int:=cF 9
def zi:Nat->aW->Int->Option Int:=cF 10
def zj:Nat->Nat->Int->Int->aW->Option (Sum Int Int):=cL 10 0
def Gj:Nat->Int->Int->Int->O->Int->Option Int:=cF 11
def zk:Nat->Int->Int->O->Int->Option Int:=cF 12
def zl:Nat->ae->ai->Int->Int->ag->O->Int->Option Int:=cF 13
def Gk:Nat->ae->ai->Int->Int->Int->Option Int:=cF 14
def Gl:Nat->ae->Int->Option Int:=cF 15
def zm:Nat->Nat->Int->Int->ae->Option (Sum Int Int):=cL 15 0
def zn:Nat->Int->Int->O->Int->Option Int:=cF 16
def Gm:Nat->ai->Int->Option Int:=cF 17
def zo:Nat->Nat->Int->Int->ai->Option (Sum Int Int):=cL 17 0
def Gn:Nat->Int->O->Int->Int->O->Int->Option Int:=cF 18
def qK:Nat->ag->Int->Option Int:=cF 19
def Gp:Nat->cf->Int->Option Int:=cF 20
def Gq:Nat->bu->Int->Int->Option Int:=cF 21
def Gr:Nat->bu->Int->Option Int:=cF 22
def zp:Nat->bh->Int->Option Int:=cF 23
def zq:Nat->Nat->Int->Int->bh->Option (Sum Int Int):=cL 23 0
def Gs:Nat->Int->Int->Int->Int->Int->Int->Int->aW->Bool->O->Int->Option Int:=cF 24
def Gt:Nat->Int->O->Int->Option Int:=cF 25
def Gu:Nat->ae->Int->Option Int:=cF 26
def zr:Nat->Nat->Int->Int->ae->Option (Sum Int Int):=cL 26 0
def vm:Nat->af->af->ae->ae->Int->bZ->bh->Int->O->ag->ag->ae->Option (af×af×ae×ae×Int×bZ×bh×Int×O×ag×ag×ae):=cF 27
def Gv:Nat->af->af->ae->ae->Option (af×af×ae×ae):=cF 28
def zt:Nat->af->Option af:=cF 29
def zu:Nat->Nat->Int->af->af->Option (Sum af af):=cL 29 0
def zv:Nat->ae->Option ae:=cF 30
def zw:Nat->Nat->Int->ae->ae->Option (Sum ae ae):=cL 30 0
def Gw:Nat->Int->Int->O->Option eA:=cF 31
def Gx:Nat->bZ->Option bZ:=cF 32
def zx:Nat->Nat->Int->bZ->bZ->Option (Sum bZ bZ):=cL 32 0
def Gy:Nat->Int->Int->Int->Int->Int->aW->ae->ai->Int->Int->ag->O->Int->cf->ag->ag->Int->ae->ai->Int->Int->ag->O->bu->Int->bh->Option qG:=cF 33
def Gz:Nat->Int->Int->Int->Int->aW->ae->ai->Int->Int->ag->O->Option (Int×Int×Int×Int×aW×ae×ai×Int×Int×ag×O):=cF 34
def GC:Nat->Int->Int->aW->Option (Int×Int×aW):=cF 35
def zA:Nat->aW->Option aW:=cF 36
def zB:Nat->Nat->Int->aW->aW->Option (Sum aW aW):=cL 36 0
def GD:Nat->Int->Int->Int->O->Option PL:=cF 37
def zC:Nat->Int->Int->O->Option eA:=cF 38
def zD:Nat->ae->ai->Int->Int->ag->O->Option (ae×ai×Int×Int×ag×O):=cF 39
def GF:Nat->ae->ai->Int->Int->Option (ae×ai×Int×Int):=cF 40
def GG:Nat->ae->Option ae:=cF 41
def zE:Nat->Nat->Int->ae->ae->Option (Sum ae ae):=cL 41 0
def zF:Nat->Int->Int->O->Option eA:=cF 42
def GH:Nat->ai->Option ai:=cF 43
def zG:Nat->Nat->Int->ai->ai->Option (Sum ai ai):=cL 43 0
def GI:Nat->Int->O->Int->Int->O->Option sv:=cF 44
def qL:Nat->ag->Option ag:=cF 45
def zH:Nat->Nat->Int->ag->ag->Option (Sum ag ag):=cL 45 0
def GJ:Nat->cf->Option cf:=cF 46
def zI:Nat->Nat->Int->cf->cf->Option (Sum cf cf):=cL 46 0
def GK:Nat->bu->Int->Option (bu×Int):=cF 47
def GL:Nat->bu->Option bu:=cF 48
def zJ:Nat->Nat->Int->bu->bu->Option (Sum bu bu):=cL 48 0
def zK:Nat->bh->Option bh:=cF 49
def zL:Nat->Nat->Int->bh->bh->Option (Sum bh bh):=cL 49 0
def GM:Nat->Int->Int->Int->Int->Int->Int->Int->aW->Bool->O->Option Fx:=cF 50
def GN:Nat->Int->O->Option (Int×O):=cF 51
def GQ:Nat->ae->Option ae:=cF 52
def zM:Nat->Nat->Int->ae->ae->Option (Sum ae ae):=cL 52 0
def GR:Nat->af->af->ae->ae->Int->bZ->bh->Int->O->ag->ag->ae->Option Bool:=cF 54
def vn:Nat->Nat->af->af->ae->ae->Int->bZ->bh->Int->O->ag->ag->ae->Int->Option (Sum (af×af×ae×ae×Int×bZ×bh×Int×O×ag×ag×ae) Bool):=cL 54 0
def vo:Nat->Nat->af->af->ae->ae->Int->bZ->bh->Int->O->ag->ag->ae->Int->Option (Sum (af×af×ae×ae×Int×bZ×bh×Int×O×ag×ag×ae) Bool):=cL 54 2
def vr:Nat->Nat->af->af->ae->ae->Int->bZ->bh->Int->O->ag->ag->ae->Int->Option (Sum Unit Bool):=cL 54 4
def vu:Nat->af->af->ae->ae->Option Bool:=cF 55
def sB:Nat->Nat->af->af->ae->ae->Int->Option (Sum (af×af×ae×ae) Bool):=cL 55 0
def sC:Nat->Nat->af->af->ae->ae->Int->Option (Sum (af×af×ae×ae) Bool):=cL 55 2
def zN:Nat->O->Option Bool:=cF 56
def zO:Nat->Nat->Int->O->Option (Sum O Bool):=cL 56 0
def GU:Nat->UInt8->Option Bool:=cF 57
def cq:Nat->Int->Int->Int->Option Bool:=cF 58
def GV:Nat->O->Option Bool:=cF 59
def qM:Nat->af->O->Option Bool:=cF 60
def zP:Nat->Nat->Int->O->af->Option (Sum Unit Bool):=cL 60 0
def zQ:Nat->Option af:=cF 61
def zR:Nat->ae->Int->Int->Option Bool:=cF 62
def vv:Nat->Nat->Int->Int->Int->Int->ae->Option (Sum Unit Bool):=cL 62 0
def GX:Nat->Int->Int->O->Int->Int->Int->Option Bool:=cF 63
def iL:Nat->Int->Option Bool:=cF 64
def vx:Nat->O->Option (Int×Int×O×Bool×aT×Bool):=cF 65
def vy:Nat->O->Int->Bool->Int->Option (Int×Int×O×Bool×aT×O×Int×Bool):=cF 66
def qN:Nat->Nat->O->Int->Bool->Int->Int->O->Bool->Int->aT->Option (Sum (O×Int×Bool×Int×Int×O×Bool×aT) (Int×Int×O×Bool×aT×O×Int×Bool)):=cL 66 0
def zS:Nat->O->Int->Bool->Int->Option (Int×Int×O×Bool×aT×O×Int×Bool):=cF 67
def vz:Nat->Nat->O->Int->Bool->Int->Int->O->Bool->Int->aT->Option (Sum (O×Int×Bool×Int×Int×O×Bool×aT) (Int×Int×O×Bool×aT×O×Int×Bool)):=cL 67 0
def GY:Nat->O->Int->Bool->Int->Option (Int×Int×O×Bool×aT×O×Int×Bool):=cF 68
def qO:Nat->Nat->O->Int->Bool->Int->Int->O->Bool->Int->Int->O->Bool->aT->Option (Sum (O×Int×Bool×Int×Int×O×Bool×Int×Int×O×Bool×aT) (Int×Int×O×Bool×aT×O×Int×Bool)):=cL 68 0
def vA:Nat->O->Int->Bool->Int->Option (Int×Int×O×Bool×aT×O×Int×Bool):=cF 69
def eT:Nat->O->Int->Bool->UInt8->Option (Bool×O×Int×Bool):=cF 70
def GZ:Nat->O->Int->Bool->Option (Int×Int×O×Bool×O×Int×Bool):=cF 71
def jO:Nat->Nat->O->Int->Bool->Int->Int->O->Bool->Int->Int->O->Bool->Int->cf->Bool->UInt8->O->Int->Int->Int->Option (Sum (O×Int×Bool×Int×Int×O×Bool×Int×Int×O×Bool×cf×Bool×UInt8×O×Int×Int) (Int×Int×O×Bool×O×Int×Bool)):=cL 71 2
def gP:Nat->Nat->O->Int->Bool->Int->Int->O->Bool->Int->Int->O->Bool->cf->Int->Option (Sum (O×Int×Bool×Int×Int×O×Bool×Int×Int×O×Bool×cf×Int) (Int×Int×O×Bool×O×Int×Bool)):=cL 71 0
def lk:Nat->Nat->O->Int->Bool->Int->Int->O->Bool->Int->Int->O->Bool->Int->bu->cf->Option (Sum (O×Int×Bool×Int×Int×O×Bool×Int×Int×O×Bool×bu) (Int×Int×O×Bool×O×Int×Bool)):=cL 71 4
def vC:Nat->Int->Int->O->Bool->aT->Option Int:=cF 72
def vD:Nat->Nat->Int->Int->O->Bool->aT->Int->Int->Option (Sum Int Int):=cL 72 0
def qP:Nat->Int->Int->Option Int:=cF 73
def Ha:Nat->Int->O->Option Bool:=cF 74
def zT:Nat->ag->Option Bool:=cF 75
def vE:Nat->Nat->Int->ag->Option (Sum ag Bool):=cL 75 0
def Hb:Nat->af->af->ae->ae->Int->Int->Int->Int->Int->aW->ae->ai->Int->Int->ag->O->Int->cf->ag->ag->Int->ae->ai->Int->Int->ag->O->bu->Int->bh->Int->Option Bool:=cF 76
def vF:Nat->Nat->Int->Int->Int->Int->Int->aW->ae->ai->Int->Int->ag->O->Int->cf->ag->ag->Int->ae->ai->Int->Int->ag->O->bu->Int->bh->af->af->ae->ae->Int->Int->Int->Option (Sum (Int×Int×Int×Int×Int×aW×ae×ai×Int×Int×ag×O×Int×cf×ag×ag×Int×ae×ai×Int×Int×ag×O×bu×Int×bh×af×af×ae×ae×Int×Int) Bool):=cL 76 0
def vG:Nat->Nat->Int->Int->Int->Int->Int->aW->ae->ai->Int->Int->ag->O->Int->cf->ag->ag->Int->ae->ai->Int->Int->ag->O->bu->Int->bh->af->af->ae->ae->Int->Int->Int->Option (Sum (Int×Int×Int×Int×Int×aW×ae×ai×Int×Int×ag×O×Int×cf×ag×ag×Int×ae×ai×Int×Int×ag×O×bu×Int×bh×af×af×ae×ae×Int) Bool):=cL 76 2
def Hc:Nat->af->af->ae->ae->Int->Int->Int->Int->aW->ae->ai->Int->Int->ag->O->Option Bool:=cF 77
def zU:Nat->Int->Int->aW->Option (Int×Int):=cF 78
def Hd:Nat->Int->Int->aW->Option Bool:=cF 79
def vH:Nat->Nat->Int->Int->aW->Int->Int->Option (Sum Unit Bool):=cL 79 0
def sD:Nat->Int->Int->O->Option Bool:=cF 80
def He:Nat->O->Option Bool:=cF 81
def vJ:Nat->Nat->Int->O->Option (Sum Unit Bool):=cL 81 0
def zV:Nat->af->af->ae->ae->ae->ai->Int->Int->ag->O->Option Bool:=cF 82
def vK:Nat->Nat->ae->ai->Int->Int->ag->O->af->af->ae->ae->Int->Option (Sum (ae×ai×Int×Int×ag×O×af×af×ae×ae) Bool):=cL 82 0
def Hf:Nat->ae->ai->Int->Int->Int->Int->Option Bool:=cF 83
def vL:Nat->Nat->ae->ai->Int->Int->Int->Int->Int->Option (Sum (ae×ai×Int×Int×Int×Int) Bool):=cL 83 0
def sE:Nat->Nat->ae->ai->Int->Int->Int->Int->Int->Option (Sum (ae×ai×Int×Int×Int) Bool):=cL 83 2
def zW:Nat->Int->Int->O->Option Bool:=cF 84
def vM:Nat->O->Option (Int×Bool):=cF 85
def zX:Nat->Nat->Int->O->Int->Option (Sum Int (Int×Bool)):=cL 85 0
def zY:Nat->O->Option (Int×Int):=cF 86
def vN:Nat->Nat->Int->O->Option (Sum (O×Int) (Int×Int)):=cL 86 0
def oY:Nat->Nat->Int->Int->O->Int->Bool->Option (Sum (Int×O×Int×Bool×Int) (Int×Int)):=cL 86 2
def qQ:Nat->Nat->Int->Int->Int->O->Int->Bool->Option (Sum (Int×Int×Bool×Int) (Int×Int)):=cL 86 4
def ll:Nat->UInt8->Option Bool:=cF 87
def zZ:Nat->Int->O->Int->Int->O->Int->O->Option Bool:=cF 88
def Aa:Nat->Int->Int->Int->Int->Int->Int->Int->aW->Bool->O->Int->Option Bool:=cF 89
def Hg:Nat->aW->Int->Option Bool:=cF 90
def vO:Nat->Nat->Int->aW->Int->Option (Sum aW Bool):=cL 90 0
def Hh:Nat->bu->Int->Option Bool:=cF 91
def Ab:Nat->af->af->ae->ae->ae->Option (ae×ai×Int×Int×ag×O):=cF 92
def vP:Nat->Nat->ae->ai->Int->Int->ag->O->af->af->ae->ae->Int->Int->O->Int->ae->Option (Sum (Int×Int×O×ae×ai×Int×Int×ag×O) (ae×ai×Int×Int×ag×O)):=cL 92 0
def Hj:Nat->af->af->ae->ae->Option (ae×ai×Int×Int×ag×O):=cF 93
def Hk:Nat->af->af->ae->ae->Option (ae×ai×eA):=cF 94
def Ac:Nat->Int->Option (ae×Int×Int):=cF 95
def Ad:Nat->Int->Int->Option Int:=cF 96
def oZ:Nat->ae->ai->Int->Int->Option (ae×ai×Int×Int):=cF 97
def pa:Nat->ae->ai->Int->Int->af->af->O->af->O->Int->Bool->ae->Option (ae×ai×Int×Int×af×af×O×af×O×Int×Bool):=cF 98
def vQ:Nat->Nat->ae->ai->Int->Int->af->af->O->af->O->Int->Bool->ae->Int->Int->ae->Option (Sum (ae×ai×Int×Int×af×af×O×af×O×Int×Bool) (ae×ai×Int×Int×af×af×O×af×O×Int×Bool)):=cL 98 0
def ig:Nat->ae->ai->Int->Int->af->af->O->af->O->Int->Bool->Int->Option (ae×ai×Int×Int×af×af×O×af×O×Int×Bool):=cF 99
def Ae:Nat->ae->ai->Int->Int->af->af->O->af->O->Int->Bool->ae->Int->Int->O->Int->Option (Int×Bool×ae×ai×Int×Int×af×af×O×af×O×Int×Bool×ae):=cF 100
def Af:Nat->Int->Int->O->Option Int:=cF 101
def vR:Nat->Int->Int->O->Option Bool:=cF 102
def mo:Nat->ae->ai->Int->Int->af->af->O->af->O->Int->Bool->O->Option (ae×ai×Int×Int×af×af×O×af×O×Int×Bool):=cF 103
def gj:Nat->Int->Int->O->Option O:=cF 104
def Hl:Nat->Int->Option O:=cF 105
def Ag:Nat->Nat->O->Int->O->Option (Sum (Int×O×O) O):=cL 105 0
def vT:Nat->Int->Option Int:=cF 106
def Ah:Nat->Int->Option O:=cF 107
def Ai:Nat->Nat->Int->O->Option (Sum O O):=cL 107 0
def my:Nat->ae->ai->Int->Int->af->af->O->af->O->Int->Bool->ae->Int->Int->O->ae->Option (ae×ai×Int×Int×af×af×O×af×O×Int×Bool×ae):=cF 108
def ej:Nat->ae->ai->Int->Int->af->af->O->af->O->Int->Bool->ae->Int->Int->O->Option (ae×ai×Int×Int×af×af×O×af×O×Int×Bool×ae):=cF 109
def gQ:Nat->Int->Int->O->Option Int:=cF 110
def vV:Nat->ae->ai->Int->Int->af->af->O->af->O->Int->Bool->Int->Int->Int->Option (Int×Int×O×ae×ai×Int×Int×af×af×O×af×O×Int×Bool):=cF 111
def Hm:Nat->Int->Int->Option (Int×Bool):=cF 112
def nx:Nat->Int->Option (Int×Bool):=cF 113
def gk:Nat->Int->Option eA:=cF 114
def Hn:Nat->Int->Int->Option (Int×Bool):=cF 115
def Ho:Nat->Int->Int->Option (Int×Bool):=cF 116
def Hp:Nat->Int->Int->Option (Int×Bool):=cF 117
def sF:Nat->Int->Int->O->Option O:=cF 118
def Aj:Nat->ae->ai->Int->Int->Int->O->Option eA:=cF 119
def ny:Nat->ae->ai->Int->Int->Int->O->Option Int:=cF 120
def sG:Nat->Nat->ae->ai->Int->Int->Int->O->Int->Option (Sum Unit Int):=cL 120 0
def vW:Nat->ae->ai->Int->Int->af->af->O->af->O->Int->Bool->ae->Int->O->Int->Int->O->Option (ae×ai×Int×Int×af×af×O×af×O×Int×Bool×ae):=cF 121
def Hq:Nat->ae->ai->Int->Int->Int->O->Int->Int->O->Option (ae×ai×Int×Int×Bool):=cF 122
def vX:Nat->Nat->Int->Int->ae->ai->Int->Int->ae->ai->Int->Int->Int->Int->O->Int->O->Int->Option (Sum (Int×Int×ae×ai×Int×Int×ae×ai×Int×Int×Int×Int×O×Int×O×Int) (ae×ai×Int×Int×Bool)):=cL 122 0
def Hr:Nat->ae->ai->Int->Int->Int->O->Option (ae×ai×Int×Int):=cF 123
def Ak:Nat->ae->ai->Int->Int->af->af->O->af->O->Int->Bool->ae->Int->Int->O->ae->Option (ae×ai×Int×Int×af×af×O×af×O×Int×Bool×ae):=cF 124
def Hs:Nat->ae->ai->Int->Int->af->af->O->af->O->Int->Bool->Int->Int->O->Option (Int×Int×O×ae×ai×Int×Int×af×af×O×af×O×Int×Bool):=cF 125
def vY:Nat->O->Option eA:=cF 126
def Ht:Nat->ae->ai->Int->Int->af->af->O->af->O->Int->Bool->Int->Int->O->Int->Int->O->Option (Int×Int×O×ae×ai×Int×Int×af×af×O×af×O×Int×Bool):=cF 127
def vZ:Nat->O->O->Option eA:=cF 128
def Hu:Nat->Int->Int->O->Bool->aT->O->Option Bool:=cF 129
def Hv:Nat->Int->Int->O->Bool->aT->Option ch:=cF 130
def Hw:Nat->Int->Int->O->Bool->aT->Option Bool:=cF 131
def wa:Nat->Int->Int->O->Bool->aT->Option Bool:=cF 132
def Al:Nat->Nat->Int->Int->O->Bool->aT->Int->Option (Sum (Int×Int×O×Bool×aT) Bool):=cL 132 0
def sH:Nat->O->Option Bool:=cF 133
def Am:Nat->Nat->Int->O->Option (Sum Unit Bool):=cL 133 0
def mA:Nat->ch->Int->Int->O->Bool->aT->Option ch:=cF 134
def An:Nat->Nat->Int->Int->O->Bool->aT->Int->ch->Option (Sum ch ch):=cL 134 1
def mB:Nat->ch->Int->Option ch:=cF 135
def Hy:Nat->ch->aT->Option ch:=cF 136
def Ao:Nat->Nat->Int->ag->aT->ch->Option (Sum (ag×aT×ch) ch):=cL 136 0
def pc:Nat->Nat->Int->ch->ag->Option (Sum ch ch):=cL 136 2
def Hz:Nat->ch->O->Option (Int×Int×Bool):=cF 137
def sI:Nat->Nat->Int->O->ch->Option (Sum Unit (Int×Int×Bool)):=cL 137 0
def Ap:Nat->ch->O->Int->Option Int:=cF 138
def qR:Nat->Nat->ag->Int->O->ch->Int->Option (Sum Int Int):=cL 138 0
def qS:Nat->Nat->Int->ag->ag->Int->O->ch->Int->Option (Sum (O×ch×Int×Int×ag) Int):=cL 138 2
def HA:Nat->ch->Option Bool:=cF 139
def Aq:Nat->Nat->Int->Int->ch->Option (Sum Int Bool):=cL 139 0
def Ar:Nat->Int->Int->O->Bool->Int->Int->Int->Option Bool:=cF 140
def sJ:Nat->ch->ag->Bool->Bool->Option ag:=cF 141
def As:Nat->Nat->Int->Bool->Bool->ag->cf->ch->Option (Sum cf ag):=cL 141 0
def HB:Nat->ch->cf->Int->Bool->Bool->Option cf:=cF 142
def gm:Nat->Nat->Bool->Bool->ch->cf->ag->Option (Sum cf cf):=cL 142 0
def Qa:Nat->cf->Option ag:=cF 143
def wc:Nat->Nat->Int->ag->cf->Option (Sum ag ag):=cL 143 0
def HC:Nat->Int->Int->O->Bool->Int->Int->UInt8->Option Bool:=cF 144
def HD:Nat->O->UInt8->Option Bool:=cF 145
def Au:Nat->Nat->Int->UInt8->O->Option (Sum Unit Bool):=cL 145 0
def sK:Nat->Bool->Option eA:=cF 146
def sL:Nat->Bool->Option Int:=cF 147
def HE:Nat->O->ae->Option eA:=cF 148
def we:Nat->O->ae->Option eA:=cF 149
def HF:Nat->Int->Option Int:=cF 150
def HG:Nat->O->O->Option Int:=cF 151
def Av:Nat->Nat->Int->O->O->Option (Sum Unit Int):=cL 151 0
def sM:Nat->O->UInt8->UInt8->Option O:=cF 152
def pd:Nat->Nat->Int->UInt8->UInt8->bu->Option (Sum bu O):=cL 152 0
def HH:Nat->ae->Option O:=cF 153
def HI:Nat->Int->Int->Int->O->Int->Int->O->Option eA:=cF 154
def HJ:Nat->Int->Int->O->Int->Int->O->Option Int:=cF 155
def wh:Nat->ae->ai->Int->Int->af->af->O->af->O->Int->Bool->ae->ai->Int->Int->Option (ae×ai×Int×Int×O×Int×Int×af×af×O×af×O×Int×Bool):=cF 156
def HK:Nat->af->af->ae->ae->ae->ai->Int->Int->ag->O->Int->Int->O->Option (ae×ai×Int×Int×ag×O):=cF 157
def HL:Nat->ae->ai->Int->Int->ag->O->Option (ae×ai×Int×Int×ag×O):=cF 158
def HM:Nat->af->af->ae->ae->ae->ai->Int->Int->O->Option (ae×ai×eA):=cF 159
def HN:Nat->O->Option af:=cF 160
def gR:Nat->Nat->Int->Int->O->af->Option (Sum af af):=cL 160 0
def HO:Nat->af->af->ae->ae->Int->bZ->bh->Int->O->ag->ag->ae->Option Bool:=cF 162
def wi:Nat->Nat->af->af->ae->ae->Int->bZ->bh->Int->O->ag->ag->ae->Int->bZ->Int->Option (Sum (af×af×ae×ae×Int×bZ×bh×Int×O×ag×ag×ae) Bool):=cL 162 0
def qT:Nat->af->af->ae->ae->Option Bool:=cF 163
def Aw:Nat->af->Option Bool:=cF 164
def sN:Nat->Nat->Int->af->af->Int->Option (Sum af Bool):=cL 164 0
def HP:Nat->O->Option Bool:=cF 165
def cT:Nat->Int->Int->Int->Option Bool:=cF 166
def Ax:Nat->O->Int->Option Int:=cF 167
def wj:Nat->Nat->Int->Int->O->Option (Sum Int Int):=cL 167 0
def HQ:Nat->UInt8->Option Bool:=cF 168
def HR:Nat->O->Option Bool:=cF 169
def Ay:Nat->Option af:=cF 170
def wq:Nat->af->O->Option Bool:=cF 171
def Qb:Nat->af->O->Option Int:=cF 172
def Az:Nat->Nat->Int->af->O->Int->Option (Sum Unit Int):=cL 172 0
def HS:Nat->af->af->ae->ae->af->Option (Bool×af×af×ae×ae):=cF 173
def Qc:Nat->af->af->ae->ae->af->Option (Int×af×af×ae×ae):=cF 174
def AD:Nat->Nat->af->af->ae->ae->Int->af->Int->Option (Sum (af×af×ae×ae) (Int×af×af×ae×ae)):=cL 174 0
def HT:Nat->af->af->ae->ae->O->Option (Bool×af×af×ae×ae):=cF 175
def AE:Nat->ae->Int->Int->Option Bool:=cF 176
def HU:Nat->ae->Int->Int->ae->Option (Bool×ae×Int×Int):=cF 177
def Qd:Nat->ae->Int->Int->ae->Option (Int×ae×Int×Int):=cF 178
def AF:Nat->Nat->ae->Int->Int->Int->ae->Int->Option (Sum (ae×Int×Int) (Int×ae×Int×Int)):=cL 178 0
def HV:Nat->ae->Int->Int->Int->Int->O->Option (Bool×ae×Int×Int):=cF 179
def HW:Nat->Int->Int->O->Int->Int->Int->Option Bool:=cF 180
def AG:Nat->Int->Option (O×O):=cF 181
def ij:Nat->Int->Option Bool:=cF 182
def AH:Nat->O->Option Bool:=cF 183
def AI:Nat->O->Option (Int×Int×O×Bool×aT×Bool):=cF 184
def wx:Nat->O->Bool->Option (Int×Int×O×Bool×aT×O×Bool):=cF 185
def wz:Nat->Nat->O->Bool->Int->Int->O->Bool->aT->Option (Sum (O×Bool×Int×Int×O×Bool×aT) (Int×Int×O×Bool×aT×O×Bool)):=cL 185 0
def AJ:Nat->O->Bool->Option (Int×Int×O×Bool×aT×O×Bool):=cF 186
def AK:Nat->Nat->O->Bool->Int->Int->O->Bool->aT->Option (Sum (O×Bool×Int×Int×O×Bool×aT) (Int×Int×O×Bool×aT×O×Bool)):=cL 186 0
def qU:Nat->O->Bool->Option (UInt8×Bool×O×Bool):=cF 187
def HX:Nat->O->Bool->Option (Int×Int×O×Bool×aT×O×Bool):=cF 188
def AL:Nat->Nat->O->Bool->Int->Int->O->Bool->Int->Int->O->Bool->aT->Option (Sum Unit (Int×Int×O×Bool×aT×O×Bool)):=cL 188 0
def AM:Nat->O->Bool->Option (Int×Int×O×Bool×aT×O×Bool):=cF 189
def nz:Nat->O->Bool->UInt8->Option (Bool×O×Bool):=cF 190
def HY:Nat->O->Bool->Option (Int×Int×O×Bool×O×Bool):=cF 191
def nA:Nat->Nat->O->Bool->Int->Int->O->Bool->Int->Int->O->Bool->Int->cf->O->Int->Int->Option (Sum (O×Bool×Int×Int×O×Bool×Int×Int×O×Bool×cf×O×Int) (Int×Int×O×Bool×O×Bool)):=cL 191 2
def pf:Nat->Nat->O->Bool->Int->Int->O->Bool->Int->Int->O->Bool->cf->Int->O->Option (Sum (O×Bool×Int×Int×O×Bool×Int×Int×O×Bool×cf) (Int×Int×O×Bool×O×Bool)):=cL 191 0
def sO:Nat->Nat->O->Bool->Int->Int->O->Bool->Int->Int->O->Bool->Int->bu->cf->Int->Option (Sum (O×Bool×Int×Int×O×Bool×Int×Int×O×Bool×bu) (Int×Int×O×Bool×O×Bool)):=cL 191 4
def sP:Nat->O->UInt8->Option Int:=cF 192
def AO:Nat->UInt8->Option Int:=cF 193
def AP:Nat->Int->Int->O->Bool->aT->Option Int:=cF 194
def wA:Nat->Nat->Int->Int->aT->Int->Option (Sum Int Int):=cL 194 0
def HZ:Nat->Int->O->Option Bool:=cF 195
def mC:Nat->Int->Option Bool:=cF 196
def Ia:Nat->af->af->ae->ae->Int->Int->Int->Int->Int->aW->ae->ai->Int->Int->ag->O->Int->cf->ag->ag->Int->ae->ai->Int->Int->ag->O->bu->Int->bh->Int->Option Bool:=cF 197
def Ib:Nat->af->af->ae->ae->Int->Int->Int->Int->aW->ae->ai->Int->Int->ag->O->Option Bool:=cF 198
def AQ:Nat->Int->Int->aW->Option (Int×Int):=cF 199
def Ic:Nat->Int->Option Bool:=cF 200
def Ie:Nat->Int->Int->aW->Option Bool:=cF 201
def wB:Nat->Nat->Int->Int->aW->Int->Option (Sum Unit Bool):=cL 201 0
def sQ:Nat->Int->Int->O->Option Bool:=cF 202
def Ig:Nat->O->Option Bool:=cF 203
def sR:Nat->O->O->Option Bool:=cF 204
def wC:Nat->af->af->ae->ae->ae->ai->Int->Int->ag->O->Option Bool:=cF 205
def AR:Nat->ae->ai->Int->Int->Int->Int->Option Bool:=cF 206
def sS:Nat->Nat->ae->ai->Int->Int->Int->Int->ai->Int->Option (Sum Unit Bool):=cL 206 0
def Ih:Nat->ae->Option Bool:=cF 207
def Qe:Nat->ae->Option Int:=cF 208
def AS:Nat->Nat->Int->ae->Int->Option (Sum Unit Int):=cL 208 0
def Ii:Nat->Int->Int->O->Option Bool:=cF 209
def AU:Nat->Int->Int->O->Option Bool:=cF 210
def AV:Nat->O->Option (Int×Bool):=cF 211
def AW:Nat->O->Option (Int×Int):=cF 212
def AX:Nat->O->O->Option O:=cF 213
def AY:Nat->O->UInt8->Option O:=cF 214
def AZ:Nat->Nat->O->UInt8->Option (Sum O O):=cL 214 0
def nB:Nat->O->Int->Option Int:=cF 215
def wD:Nat->Nat->Int->Int->O->Option (Sum Int Int):=cL 215 0
def jP:Nat->O->O->Option (Int×Bool):=cF 216
def Qf:Nat->O->Option (Int×Bool):=cF 217
def qV:Nat->Int->Option (Int×Bool):=cF 218
def Ij:Nat->O->O->Option O:=cF 219
def wE:Nat->O->UInt8->Option O:=cF 220
def wF:Nat->Nat->O->UInt8->Option (Sum O O):=cL 220 0
def wG:Nat->Int->O->Int->Int->O->Int->O->Int->Int->O->Option Int:=cF 221
def Ik:Nat->O->O->Option Int:=cF 222
def Il:Nat->ag->Option Bool:=cF 223
def Qg:Nat->ag->Option Int:=cF 224
def Ba:Nat->Nat->Int->ag->Int->Option (Sum Unit Int):=cL 224 0
def Im:Nat->Int->Option Bool:=cF 225
def qW:Nat->ag->Int->Int->Int->Option Bool:=cF 226
def Io:Nat->Int->Int->ag->Option (Bool×Int×Int):=cF 227
def Qh:Nat->Int->Int->ag->Option (Int×Int×Int):=cF 228
def Bc:Nat->Nat->Int->Int->Int->ag->Int->Option (Sum (Int×Int) (Int×Int×Int)):=cL 228 0
def Ip:Nat->Int->Int->Int->Option (Bool×Int×Int):=cF 229
def Iq:Nat->bu->Int->Option Bool:=cF 230
def Ir:Nat->Int->Int->Int->Int->Int->Int->aW->ae->ai->Int->Int->ag->O->Int->cf->ag->ag->Int->ae->ai->Int->Int->ag->O->bu->Int->bh->bh->Option (Bool×Int×qG):=cF 231
def Qi:Nat->Int->Int->Int->Int->Int->Int->aW->ae->ai->Int->Int->ag->O->Int->cf->ag->ag->Int->ae->ai->Int->Int->ag->O->bu->Int->bh->bh->Option (Int×Int×qG):=cF 232
def Bd:Nat->Nat->Int->Int->Int->Int->Int->Int->aW->ae->ai->Int->Int->ag->O->Int->cf->ag->ag->Int->ae->ai->Int->Int->ag->O->bu->Int->bh->Int->bh->Int->Option (Sum (Int×qG) (Int×Int×qG)):=cL 232 0
def Is:Nat->Int->Int->Int->Int->Int->Int->aW->ae->ai->Int->Int->ag->O->Int->cf->ag->ag->Int->ae->ai->Int->Int->ag->O->bu->Int->bh->Int->Int->Int->Int->Int->Int->Int->aW->Bool->O->Option (Bool×Int×qG):=cF 233
def Be:Nat->Int->Int->Int->Int->Int->Int->Int->aW->Bool->O->Int->Option Bool:=cF 234
def Iu:Nat->aW->Int->Option Bool:=cF 235
def Iv:Nat->Int->aW->Option (Bool×Int):=cF 236
def Qj:Nat->Int->aW->Option (Int×Int):=cF 237
def Bf:Nat->Nat->Int->Int->aW->Int->Option (Sum Int (Int×Int)):=cL 237 0
def Iw:Nat->Int->Int->Int->Int->O->Option (Bool×Int):=cF 238
def Ix:Nat->af->af->ae->ae->Int->bZ->bh->Int->O->ag->ag->ae->bh->Option (Bool×af×af×ae×ae×Int×bZ×bh×Int×O×ag×ag×ae):=cF 239
def Qk:Nat->af->af->ae->ae->Int->bZ->bh->Int->O->ag->ag->ae->bh->Option (Int×af×af×ae×ae×Int×bZ×bh×Int×O×ag×ag×ae):=cF 240
def Bg:Nat->Nat->af->af->ae->ae->Int->bZ->bh->Int->O->ag->ag->ae->Int->bh->Int->Option (Sum (af×af×ae×ae×Int×bZ×bh×Int×O×ag×ag×ae) (Int×af×af×ae×ae×Int×bZ×bh×Int×O×ag×ag×ae)):=cL 240 0
def Iy:Nat->af->af->ae->ae->Int->bZ->bh->Int->O->ag->ag->ae->Int->Int->Int->Int->Int->Int->Int->aW->Bool->O->Option (Bool×af×af×ae×ae×Int×bZ×bh×Int×O×ag×ag×ae):=cF 241
def Iz:Nat->ae->Option Bool:=cF 242
def Ql:Nat->ae->Option Int:=cF 243
def Bh:Nat->Nat->Int->ae->Int->Option (Sum Unit Int):=cL 243 0
def IA:Nat->Int->Int->O->Option Bool:=cF 244
def Bi:Nat->af->af->ae->ae->ae->Option (ae×ai×Int×Int×ag×O):=cF 245
def Bj:Nat->Nat->ae->ai->Int->Int->ag->O->af->af->ae->ae->Int->Int->O->Int->ae->Int->Option (Sum (Int×Int×O×ae×ai×Int×Int×ag×O) (ae×ai×Int×Int×ag×O)):=cL 245 0
def IB:Nat->af->af->ae->ae->Option (ae×ai×Int×Int×ag×O):=cF 246
def IC:Nat->af->af->ae->ae->Option (ae×ai×eA):=cF 247
def Bk:Nat->Int->Option (ae×Int×Int):=cF 248
def nC:Nat->ae->ai->Int->Int->Option (ae×ai×Int×Int):=cF 249
def Bm:Nat->ae->Option ae:=cF 250
def Qm:Nat->ai->Option ai:=cF 251
def sU:Nat->ae->ai->Int->Int->O->O->ae->Int->ae->Option (ae×ai×Int×Int×O×O×ae×Int):=cF 252
def fD:Nat->Nat->ae->ai->Int->Int->O->O->ae->Int->Int->Int->ae->Option (Sum (ae×ai×Int×Int×O×O×ae×Int) (ae×ai×Int×Int×O×O×ae×Int)):=cL 252 0
def kF:Nat->ae->ai->Int->Int->O->O->ae->Int->Int->Option (ae×ai×Int×Int×O×O×ae×Int):=cF 253
def Bn:Nat->Int->Int->O->Option Int:=cF 254
def Bo:Nat->ae->ai->Int->Int->O->O->ae->Int->Int->Option (ae×ae×ai×Int×Int×O×O×ae×Int):=cF 255
def wH:Nat->Int->Int->O->Option Bool:=cF 256
def nD:Nat->ae->ai->Int->Int->O->O->ae->Int->Int->Int->O->ae->Option (ae×ai×Int×Int×O×O×ae×Int):=cF 257
def fm:Nat->ae->ai->Int->Int->O->O->ae->Int->Int->Int->O->Option (ae×ai×Int×Int×O×O×ae×Int):=cF 258
def Bp:Nat->ae->ai->Int->Int->O->O->ae->Int->Int->Int->O->Int->Int->O->Option (Int×Int×O×ae×ai×Int×Int×O×O×ae×Int):=cF 259
def ln:Nat->Int->Int->O->Option Int:=cF 260
def Bq:Nat->Int->Int->Option (Int×Bool):=cF 261
def iM:Nat->Int->Option eA:=cF 262
def gS:Nat->Int->Int->O->Option O:=cF 263
def ID:Nat->Int->Option O:=cF 264
def lu:Nat->Int->Option O:=cF 265
def sV:Nat->O->O->Option O:=cF 266
def ph:Nat->O->Option O:=cF 267
def sW:Nat->ae->ai->Int->Int->O->O->ae->Int->Int->O->Int->Int->O->Option (ae×ai×Int×Int×O×O×ae×Int):=cF 268
def IE:Nat->ae->ai->Int->Int->Int->O->Int->Int->O->Option (ae×ai×Int×Int×Bool):=cF 269
def nE:Nat->ae->ai->Int->Int->Int->O->Option Int:=cF 270
def IF:Nat->Int->O->ai->Option eA:=cF 271
def wI:Nat->Nat->Int->O->Int->ai->Int->Option (Sum (Int×O) eA):=cL 271 0
def Qn:Nat->Int->O->Int->O->Int->Int->O->Option (Bool×Int×O):=cF 272
def IG:Nat->Int->O->Int->Int->O->ai->Option (Int×sv):=cF 273
def wJ:Nat->Nat->Int->O->Int->Int->O->Int->ai->Int->Option (Sum sv (Int×sv)):=cL 273 0
def IH:Nat->Int->O->Int->Int->O->Int->O->Int->Int->O->Option (Bool×sv):=cF 274
def Br:Nat->ai->Int->ai->Option ai:=cF 275
def Bs:Nat->ae->ai->Int->Int->Int->O->Option eA:=cF 276
def II:Nat->ae->ai->Int->Int->Int->O->Option (ae×ai×Int×Int):=cF 277
def Qo:Nat->ai->Int->Int->Option ai:=cF 278
def sX:Nat->ae->ai->Int->Int->O->O->ae->Int->O->Option (ae×ai×Int×Int×O×O×ae×Int):=cF 279
def IJ:Nat->ae->ai->Int->Int->O->O->ae->Int->Int->Int->O->ae->Option (ae×ai×Int×Int×O×O×ae×Int):=cF 280
def nF:Nat->O->Option eA:=cF 281
def wK:Nat->Int->Int->O->Option Int:=cF 282
def Bt:Nat->Int->Option Int:=cF 283
def IK:Nat->O->Int->Option eA:=cF 284
def wL:Nat->O->Option eA:=cF 285
def Bu:Nat->O->Option af:=cF 286
def wM:Nat->O->O->Option Bool:=cF 287
def IL:Nat->Int->Int->O->Bool->aT->O->Option Bool:=cF 288
def IM:Nat->Int->Int->O->Bool->aT->Option ch:=cF 289
def IP:Nat->Int->Int->O->Bool->aT->Option Bool:=cF 290
def Bv:Nat->Int->Int->O->Bool->aT->Int->Option Bool:=cF 291
def jn:Nat->Int->aT->Option (Bool×Int):=cF 292
def Qp:Nat->Int->aT->Option (Int×Int):=cF 293
def Bw:Nat->Nat->Int->Int->aT->Int->Option (Sum Int (Int×Int)):=cL 293 0
def Bx:Nat->Int->Int->Int->O->Bool->aT->Option (Bool×Int):=cF 294
def By:Nat->Int->Int->O->Bool->aT->Option Bool:=cF 295
def wN:Nat->Nat->Int->Int->O->Bool->aT->Int->Int->Option (Sum (Int×Int×O×Bool×aT) Bool):=cL 295 0
def jQ:Nat->ch->Int->Int->O->Bool->aT->Option ch:=cF 296
def Bz:Nat->Nat->Int->ch->aT->Int->Option (Sum ch ch):=cL 296 1
def IQ:Nat->ch->aT->Option ch:=cF 297
def BA:Nat->Nat->Int->ag->ch->aT->aT->Int->Option (Sum (ag×aT×ch) ch):=cL 297 0
def pj:Nat->Nat->Int->ch->ag->Int->Option (Sum ch ch):=cL 297 2
def IU:Nat->ch->O->Option (Int×Int×Bool):=cF 298
def sY:Nat->Nat->Int->O->ch->Option (Sum Unit (Int×Int×Bool)):=cL 298 0
def BB:Nat->ch->Option Bool:=cF 299
def BC:Nat->Nat->Int->ch->ch->Int->Option (Sum Unit Bool):=cL 299 0
def BD:Nat->Int->Int->O->Bool->Int->Int->Int->Bool->Option Bool:=cF 300
def BE:Nat->ch->O->Int->Option Int:=cF 301
def qX:Nat->Nat->Int->O->ch->Int->ag->Option (Sum Unit Int):=cL 301 0
def qY:Nat->Nat->Int->ag->Int->O->ch->ag->Bool->Int->Int->Int->Option (Sum (O×ch×Bool×Int×ag×Int×Int×ag) Int):=cL 301 2
def BF:Nat->ch->ag->Bool->Bool->Option ag:=cF 302
def BG:Nat->Nat->ch->cf->ag->Int->ag->Bool->Bool->Int->Option (Sum (ch×cf×ag×Bool×Bool) ag):=cL 302 0
def ek:Nat->Nat->ch->cf->ag->Int->Bool->Bool->Option (Sum ag ag):=cL 302 2
def jo:Nat->ch->cf->ag->Int->Option (ch×cf×ag):=cF 303
def Qq:Nat->ag->Option ag:=cF 304
def BH:Nat->ag->Int->Option Bool:=cF 305
def Qr:Nat->ag->Int->Option Int:=cF 306
def BI:Nat->Nat->Int->ag->Int->Int->Option (Sum Unit Int):=cL 306 0
def IW:Nat->Int->Int->O->Bool->Int->Int->UInt8->Option Bool:=cF 307
def qZ:Nat->Bool->Option eA:=cF 308
def IX:Nat->O->ae->Option eA:=cF 309
def BJ:Nat->Nat->Int->Int->O->ae->O->Option (Sum (Int×Int×O×ae×O) eA):=cL 309 0
def sZ:Nat->O->UInt8->UInt8->Option O:=cF 310
def pk:Nat->Nat->Int->UInt8->UInt8->bu->Int->Option (Sum bu O):=cL 310 0
def IY:Nat->O->O->Option Int:=cF 311
def BK:Nat->O->Int->Int->Option O:=cF 312
def IZ:Nat->Int->Int->Int->O->Int->Int->O->Option (Int×Int×O×Int):=cF 313
def Ja:Nat->Int->Int->Int->Option (Int×Int):=cF 314
def Jb:Nat->Int->Int->Option (Int×Bool):=cF 315
def Jc:Nat->Int->Int->Option (Int×Bool):=cF 316
def BL:Nat->Int->Option Int:=cF 317
def Jd:Nat->Int->Int->Option (Int×Int):=cF 318
def Je:Nat->Int->Int->Int->Option (Int×Int):=cF 319
def wO:Nat->Nat->Int->Int->Int->Int->Int->Int->Int->Int->Int->Option (Sum (Int×Int×Int×Int×Int×Int×Int×Int) (Int×Int)):=cL 319 0
def wP:Nat->Nat->Int->Int->Int->Int->Int->Int->Int->Int->Int->Option (Sum (Int×Int×Int×Int×Int×Int) (Int×Int)):=cL 319 2
def Jf:Nat->Int->Option Int:=cF 320
def apX:Nat->Int->Option Int:=cF 321
def Jg:Nat->Int->Int->Option (Int×Bool):=cF 322
def Jh:Nat->Int->Int->O->Int->Int->O->Option Int:=cF 323
def Ji:Nat->Int->Int->Option Bool:=cF 324
def wQ:Nat->ae->ai->Int->Int->O->O->ae->Int->ae->ai->Int->Int->Option (ae×ai×Int×Int×O×Int×Int×O×O×ae×Int):=cF 325
def Jj:Nat->af->af->ae->ae->ae->ai->Int->Int->ag->O->Int->Int->O->Option (ae×ai×Int×Int×ag×O):=cF 326
def Jk:Nat->ae->ai->Int->Int->ag->O->Option (ae×ai×Int×Int×ag×O):=cF 327
def Qs:Nat->ag->Option ag:=cF 328
def Jl:Nat->af->af->ae->ae->ae->ai->Int->Int->O->Option (ae×ai×eA):=cF 329
def Jm:Nat->af->af->ae->ae->Int->bZ->bh->Int->O->ag->ag->ae->af->af->ae->ae->Int->bZ->bh->Int->O->ag->ag->ae->Option Bool:=cF 332
def Jn:Nat->af->af->ae->ae->af->af->ae->ae->Option Bool:=cF 333
def BM:Nat->af->af->Option Bool:=cF 334
def BN:Nat->Nat->Int->af->af->Option (Sum Unit Bool):=cL 334 0
def BO:Nat->ae->ae->Option Bool:=cF 335
def BP:Nat->Nat->Int->ae->ae->Option (Sum Unit Bool):=cL 335 0
def Jo:Nat->Int->Int->O->Int->Int->O->Option Bool:=cF 336
def Jp:Nat->bZ->bZ->Option Bool:=cF 337
def BQ:Nat->Nat->Int->bZ->bZ->Option (Sum Unit Bool):=cL 337 0
def Jq:Nat->Int->Int->Int->Int->Int->aW->ae->ai->Int->Int->ag->O->Int->cf->ag->ag->Int->ae->ai->Int->Int->ag->O->bu->Int->bh->Int->Int->Int->Int->Int->aW->ae->ai->Int->Int->ag->O->Int->cf->ag->ag->Int->ae->ai->Int->Int->ag->O->bu->Int->bh->Option Bool:=cF 338
def Jr:Nat->Int->Int->Int->Int->aW->ae->ai->Int->Int->ag->O->Int->Int->Int->Int->aW->ae->ai->Int->Int->ag->O->Option Bool:=cF 339
def Js:Nat->Int->Int->aW->Int->Int->aW->Option Bool:=cF 340
def BR:Nat->aW->aW->Option Bool:=cF 341
def BS:Nat->Nat->Int->aW->aW->Option (Sum Unit Bool):=cL 341 0
def Jt:Nat->Int->Int->Int->O->Int->Int->Int->O->Option Bool:=cF 342
def BT:Nat->Int->Int->O->Int->Int->O->Option Bool:=cF 343
def BU:Nat->ae->ai->Int->Int->ag->O->ae->ai->Int->Int->ag->O->Option Bool:=cF 344
def Ju:Nat->ae->ai->Int->Int->ae->ai->Int->Int->Option Bool:=cF 345
def Jv:Nat->ae->ae->Option Bool:=cF 346
def BV:Nat->Nat->Int->ae->ae->Option (Sum Unit Bool):=cL 346 0
def BW:Nat->Int->Int->O->Int->Int->O->Option Bool:=cF 347
def Jw:Nat->ai->ai->Option Bool:=cF 348
def BX:Nat->Nat->Int->ai->ai->Option (Sum Unit Bool):=cL 348 0
def Jx:Nat->Int->O->Int->Int->O->Int->O->Int->Int->O->Option Bool:=cF 349
def ra:Nat->ag->ag->Option Bool:=cF 350
def BY:Nat->Nat->Int->ag->ag->Option (Sum Unit Bool):=cL 350 0
def Jy:Nat->cf->cf->Option Bool:=cF 351
def BZ:Nat->Nat->Int->cf->cf->Option (Sum Unit Bool):=cL 351 0
def Jz:Nat->bu->Int->bu->Int->Option Bool:=cF 352
def JA:Nat->bu->bu->Option Bool:=cF 353
def Ca:Nat->Nat->Int->bu->bu->Option (Sum Unit Bool):=cL 353 0
def Cb:Nat->bh->bh->Option Bool:=cF 354
def Cc:Nat->Nat->Int->bh->bh->Option (Sum Unit Bool):=cL 354 0
def JB:Nat->Int->Int->Int->Int->Int->Int->Int->aW->Bool->O->Int->Int->Int->Int->Int->Int->Int->aW->Bool->O->Option Bool:=cF 355
def JC:Nat->Int->O->Int->O->Option Bool:=cF 356
def JD:Nat->ae->ae->Option Bool:=cF 357
def Cd:Nat->Nat->Int->ae->ae->Option (Sum Unit Bool):=cL 357 0
def Qt:Nat->af->af->ae->ae->Int->bZ->bh->Int->O->ag->ag->ae->Option Bool:=cF 361
def JE:Nat->af->af->ae->ae->Int->bZ->bh->Int->O->ag->ag->ae->Option Bool:=cF 362
def wR:Nat->Nat->af->af->ae->ae->Int->bZ->bh->Int->O->ag->ag->ae->Int->Int->Int->Int->Int->aW->ae->ai->Int->Int->ag->O->Int->cf->ag->ag->Int->ae->ai->Int->Int->ag->O->bu->Int->bh->Int->Bool->Bool->ae->ai->Int->Int->ag->O->ae->ai->Int->Int->ag->O->af->af->ae->ae->ae->ae->Int->Int->Option (Sum (af×af×ae×ae×Int×bZ×bh×Int×O×ag×ag×ae×Int×Int×Int×Int×Int×aW×ae×ai×Int×Int×ag×O×Int×cf×ag×ag×Int×ae×ai×Int×Int×ag×O×bu×Int×bh×Bool×Bool×ae×ai×Int×Int×ag×O×ae×ai×Int×Int×ag×O×af×af×ae×ae×ae×ae×Int×Int) Bool):=cL 362 2
def pn:Nat->Nat->af->af->ae->ae->Int->bZ->bh->Int->O->ag->ag->ae->Int->Option (Sum Unit Bool):=cL 362 0
def Ce:Nat->ae->ai->Int->Int->ag->O->ae->ai->Int->Int->ag->O->Option Bool:=cF 363
def Cf:Nat->ae->ai->Int->Int->ag->O->Option bu:=cF 364
def wS:Nat->Nat->ae->ai->Int->Int->ae->ai->Int->Int->ag->O->Int->bu->Option (Sum (ae×ai×Int×Int×ae×ai×Int×Int×ag×O×bu) bu):=cL 364 0
def wT:Nat->Nat->ae->ai->Int->Int->ae->ai->Int->Int->ag->O->Int->bu->Option (Sum (ae×ai×Int×Int×ag×O×ae×ai×Int×Int×bu) bu):=cL 364 2
def wU:Nat->Nat->ae->ai->Int->Int->ag->O->Int->bu->Option (Sum (ae×ai×Int×Int×ag×O×bu) bu):=cL 364 4
def kG:Nat->Int->Option bu:=cF 365
def wV:Nat->Nat->Int->bu->Option (Sum (Int×bu) bu):=cL 365 0
def Cg:Nat->Int->Int->O->Option bu:=cF 366
def JF:Nat->Int->Option bu:=cF 367
def wW:Nat->O->Option bu:=cF 368
def JG:Nat->af->af->ae->ae->Int->bZ->bh->Int->O->ag->ag->ae->Option Bool:=cF 369
def wX:Nat->Nat->af->af->ae->ae->Int->bZ->bh->Int->O->ag->ag->ae->Int->Int->Int->Int->Int->aW->ae->ai->Int->Int->ag->O->Int->cf->ag->ag->Int->ae->ai->Int->Int->ag->O->bu->Int->bh->Int->Int->Bool->Bool->ae->ai->Int->Int->ag->O->ae->ai->Int->Int->ag->O->af->af->ae->ae->ae->ae->Int->bZ->Int->Int->Option (Sum (af×af×ae×ae×Int×bZ×bh×Int×O×ag×ag×ae×Int×Int×Int×Int×Int×aW×ae×ai×Int×Int×ag×O×Int×cf×ag×ag×Int×ae×ai×Int×Int×ag×O×bu×Int×bh×Bool×Bool×ae×ai×Int×Int×ag×O×ae×ai×Int×Int×ag×O×af×af×ae×ae×ae×ae×Int×bZ×Int×Int) Bool):=cL 369 2
def po:Nat->Nat->af->af->ae->ae->Int->bZ->bh->Int->O->ag->ag->ae->Int->bZ->Int->Option (Sum Unit Bool):=cL 369 0
def Ch:Nat->ae->ai->Int->Int->ag->O->ae->ai->Int->Int->ag->O->Option Bool:=cF 370
def JH:Nat->ae->ae->Option Bool:=cF 371
def wY:Nat->Nat->Int->ae->ae->Int->Option (Sum Unit Bool):=cL 371 0
def JI:Nat->ai->ai->Option Bool:=cF 372
def wZ:Nat->Nat->Int->ai->ai->Int->Option (Sum Unit Bool):=cL 372 0
def JJ:Nat->ag->ag->Option Bool:=cF 373
def xa:Nat->Nat->Int->ag->ag->Int->Option (Sum Unit Bool):=cL 373 0
theorem apY (n g h i j x4 k m p q r b d f):Gc (n+1) g h i j x4 k m p q r b d f=(Gd n g h i j f).bind fun s=>cond (decide (s<0)) (some (-1:Int)) ((Gf n k s).bind fun t=>cond (decide (t<0)) (some (-1:Int)) ((zp n m t).bind fun u=>cond (decide (u<0)) (some (-1:Int)) ((Gt n p q u).bind fun z=>cond (decide (z<0)) (some (-1:Int)) ((qK n r z).bind fun y4=>cond (decide (y4<0)) (some (-1:Int)) ((qK n b y4).bind fun y5=>cond (decide (y5<0)) (some (-1:Int)) ((Gu n d y5).bind fun y6=>cond (decide (y6<0)) (some (-1:Int)) (some y6))))))):=by kernel_rfl
theorem apZ (n b d f g h):Gd (n+1) b d f g h=(za n b h).bind fun i=>cond (decide (i<0)) (some (-1:Int)) ((za n d i).bind fun j=>cond (decide (j<0)) (some (-1:Int)) ((zf n f j).bind fun k=>cond (decide (k<0)) (some (-1:Int)) ((zf n g k).bind fun m=>cond (decide (m<0)) (some (-1:Int)) (some m)))):=by kernel_rfl
theorem Qu (n b d):za (n+1) b d=letI a:=wrap .i64 (d-(b.length:Int));cond (decide (a<0)) (some (-1:Int)) ((zd n n 0 b a).bind fun f=>aw f (fun g=>some g) (fun h=>some h)):=by kernel_rfl
theorem Qv (n m b d f):zd n (m+1) b d f=letI c:=wrap .i64;cond (decide (b<(d.length:Int))) ((ar d b).bind fun g=>letI a:=c (f-(g.length:Int));cond (decide (a<0)) (some (Â (-1:Int))) (zd n m (c (b+1)) d a)) (some (Á f)):=by kernel_rfl
theorem Qw (n b d):zf (n+1) b d=letI a:=wrap .i64 (d-(b.length:Int));cond (decide (a<0)) (some (-1:Int)) ((zg n n 0 a b).bind fun f=>aw f (fun g=>some g) (fun h=>some h)):=by kernel_rfl
theorem Qx (n m b f d):zg n (m+1) b f d=cond (decide (b<(d.length:Int))) ((ar d b).bind fun g=>(Ge n g.1 g.2.1 g.2.2 f).bind fun h=>cond (decide (h<0)) (some (Â (-1:Int))) (zg n m (wrap .i64 (b+1)) h d)) (some (Á f)):=by kernel_rfl
theorem aqA (n f g b d):Ge (n+1) f g b d=letI a:=wrap .i64 (d-(b.length:Int));cond (decide (a<0)) (some (-1:Int)) (some a):=by kernel_rfl
theorem Qy (n b d):Gf (n+1) b d=letI a:=wrap .i64 (d-(b.length:Int));cond (decide (a<0)) (some (-1:Int)) ((zh n n 0 a b).bind fun f=>aw f (fun g=>some g) (fun h=>some h)):=by kernel_rfl
theorem Qz (n m d g f):zh n (m+1) d g f=cond (decide (d<(f.length:Int))) ((ar f d).bind fun b=>letI j:=b.2.2.2;letI e:=j.2.2.2;letI k:=e.2.2.2;letI a:=k.2.2.2;letI l:=a.2.2.2;letI c:=l.2.2.2;letI i:=c.2.2.2;(Gg n b.1 b.2.1 b.2.2.1 j.1 j.2.1 j.2.2.1 e.1 e.2.1 e.2.2.1 k.1 k.2.1 k.2.2.1 a.1 a.2.1 a.2.2.1 l.1 l.2.1 l.2.2.1 c.1 c.2.1 c.2.2.1 i.1 i.2.1 i.2.2.1 i.2.2.2.1 i.2.2.2.2 g).bind fun h=>cond (decide (h<0)) (some (Â (-1:Int))) (zh n m (wrap .i64 (d+1)) h f)) (some (Á g)):=by kernel_rfl
theorem aqB (n x0 x1 x2 x3 x4 x5 x6 x7 x8 x9 b d z f g h ad i j k m p q r s t u):Gg (n+1) x0 x1 x2 x3 x4 x5 x6 x7 x8 x9 b d z f g h ad i j k m p q r s t u=(Gh n x1 x2 x3 x4 x5 x6 x7 x8 x9 b d u).bind fun y0=>cond (decide (y0<0)) (some (-1:Int)) ((Gp n f y0).bind fun y1=>cond (decide (y1<0)) (some (-1:Int)) ((qK n g y1).bind fun y2=>cond (decide (y2<0)) (some (-1:Int)) ((qK n h y2).bind fun y3=>cond (decide (y3<0)) (some (-1:Int)) ((zl n i j k m p q y3).bind fun y4=>cond (decide (y4<0)) (some (-1:Int)) ((Gq n r s y4).bind fun y5=>cond (decide (y5<0)) (some (-1:Int)) ((zp n t y5).bind fun y6=>cond (decide (y6<0)) (some (-1:Int)) (some y6))))))):=by kernel_rfl
theorem aqC (n s t f g h i j k m p b d):Gh (n+1) s t f g h i j k m p b d=(Gi n f g h d).bind fun q=>cond (decide (q<0)) (some (-1:Int)) ((zl n i j k m p b q).bind fun r=>cond (decide (r<0)) (some (-1:Int)) (some r)):=by kernel_rfl
theorem aqD (n g h b d):Gi (n+1) g h b d=(zi n b d).bind fun f=>cond (decide (f<0)) (some (-1:Int)) (some f):=by kernel_rfl
theorem QA (n b d):zi (n+1) b d=letI a:=wrap .i64 (d-(b.length:Int));cond (decide (a<0)) (some (-1:Int)) ((zj n n 0 a b).bind fun f=>aw f (fun g=>some g) (fun h=>some h)):=by kernel_rfl
theorem QB (n m b g d):zj n (m+1) b g d=cond (decide (b<(d.length:Int))) ((ar d b).bind fun f=>(Gj n f.1 f.2.1 f.2.2.1 f.2.2.2 g).bind fun h=>cond (decide (h<0)) (some (Â (-1:Int))) (zj n m (wrap .i64 (b+1)) h d)) (some (Á g)):=by kernel_rfl
theorem aqE (n i b d f g):Gj (n+1) i b d f g=(zk n b d f g).bind fun h=>cond (decide (h<0)) (some (-1:Int)) (some h):=by kernel_rfl
theorem aqF (n f g b d):zk (n+1) f g b d=letI a:=wrap .i64 (d-(b.length:Int));cond (decide (a<0)) (some (-1:Int)) (some a):=by kernel_rfl
theorem aqG (n f g h i j b k):zl (n+1) f g h i j b k=(Gk n f g h i k).bind fun m=>cond (decide (m<0)) (some (-1:Int)) ((qK n j m).bind fun d=>letI a:=wrap .i64 (d-(b.length:Int));cond (decide (d<0)) (some (-1:Int)) (cond (decide (a<0)) (some (-1:Int)) (some a))):=by kernel_rfl
theorem aqH (n b d i j f):Gk (n+1) b d i j f=(Gl n b f).bind fun g=>cond (decide (g<0)) (some (-1:Int)) ((Gm n d g).bind fun h=>cond (decide (h<0)) (some (-1:Int)) (some h)):=by kernel_rfl
theorem QC (n b d):Gl (n+1) b d=letI a:=wrap .i64 (d-(b.length:Int));cond (decide (a<0)) (some (-1:Int)) ((zm n n 0 a b).bind fun f=>aw f (fun g=>some g) (fun h=>some h)):=by kernel_rfl
theorem QD (n m b f d):zm n (m+1) b f d=cond (decide (b<(d.length:Int))) ((ar d b).bind fun g=>(zn n g.1 g.2.1 g.2.2 f).bind fun h=>cond (decide (h<0)) (some (Â (-1:Int))) (zm n m (wrap .i64 (b+1)) h d)) (some (Á f)):=by kernel_rfl
theorem aqI (n f g b d):zn (n+1) f g b d=letI a:=wrap .i64 (d-(b.length:Int));cond (decide (a<0)) (some (-1:Int)) (some a):=by kernel_rfl
theorem QE (n b d):Gm (n+1) b d=letI a:=wrap .i64 (d-(b.length:Int));cond (decide (a<0)) (some (-1:Int)) ((zo n n 0 a b).bind fun f=>aw f (fun g=>some g) (fun h=>some h)):=by kernel_rfl
theorem QF (n m d g f):zo n (m+1) d g f=cond (decide (d<(f.length:Int))) ((ar f d).bind fun b=>(Gn n b.1 b.2.1 b.2.2.1 b.2.2.2.1 b.2.2.2.2 g).bind fun h=>cond (decide (h<0)) (some (Â (-1:Int))) (zo n m (wrap .i64 (d+1)) h f)) (some (Á g)):=by kernel_rfl
theorem aqJ (n j b f g h d):Gn (n+1) j b f g h d=letI a:=wrap .i64 (d-(b.length:Int));cond (decide (a<0)) (some (-1:Int)) ((zn n f g h a).bind fun i=>cond (decide (i<0)) (some (-1:Int)) (some i)):=by kernel_rfl
theorem aqK (n b d):qK (n+1) b d=letI a:=wrap .i64 (d-(b.length:Int));cond (decide (a<0)) (some (-1:Int)) (some a):=by kernel_rfl
theorem aqL (n b d):Gp (n+1) b d=letI a:=wrap .i64 (d-(b.length:Int));cond (decide (a<0)) (some (-1:Int)) (some a):=by kernel_rfl
theorem aqM (n b g d):Gq (n+1) b g d=(Gr n b d).bind fun f=>cond (decide (f<0)) (some (-1:Int)) (some f):=by kernel_rfl
theorem aqN (n b d):Gr (n+1) b d=letI a:=wrap .i64 (d-(b.length:Int));cond (decide (a<0)) (some (-1:Int)) (some a):=by kernel_rfl
theorem QG (n b d):zp (n+1) b d=letI a:=wrap .i64 (d-(b.length:Int));cond (decide (a<0)) (some (-1:Int)) ((zq n n 0 a b).bind fun f=>aw f (fun g=>some g) (fun h=>some h)):=by kernel_rfl
theorem QH (n m d g f):zq n (m+1) d g f=cond (decide (d<(f.length:Int))) ((ar f d).bind fun b=>letI a:=b.2.2.2.2;(Gs n b.1 b.2.1 b.2.2.1 b.2.2.2.1 a.1 a.2.1 a.2.2.1 a.2.2.2.1 a.2.2.2.2.1 a.2.2.2.2.2 g).bind fun h=>cond (decide (h<0)) (some (Â (-1:Int))) (zq n m (wrap .i64 (d+1)) h f)) (some (Á g)):=by kernel_rfl
theorem aqO (n h i j k m p q g r d b):Gs (n+1) h i j k m p q g r d b=(zi n g b).bind fun f=>letI a:=wrap .i64 (f-(d.length:Int));cond (decide (f<0)) (some (-1:Int)) (cond (decide (a<0)) (some (-1:Int)) (some a)):=by kernel_rfl
theorem aqP (n f b d):Gt (n+1) f b d=letI a:=wrap .i64 (d-(b.length:Int));cond (decide (a<0)) (some (-1:Int)) (some a):=by kernel_rfl
theorem QI (n b d):Gu (n+1) b d=letI a:=wrap .i64 (d-(b.length:Int));cond (decide (a<0)) (some (-1:Int)) ((zr n n 0 a b).bind fun f=>aw f (fun g=>some g) (fun h=>some h)):=by kernel_rfl
theorem QJ (n m b f d):zr n (m+1) b f d=cond (decide (b<(d.length:Int))) ((ar d b).bind fun g=>(zk n g.1 g.2.1 g.2.2 f).bind fun h=>cond (decide (h<0)) (some (Â (-1:Int))) (zr n m (wrap .i64 (b+1)) h d)) (some (Á f)):=by kernel_rfl
theorem aqQ (n g h i j k m p q r s b d):vm (n+1) g h i j k m p q r s b d=(Gv n g h i j).bind fun f=>(Gx n m).bind fun u=>(zK n p).bind fun z=>(GN n q r).bind fun t=>(qL n s).bind fun y4=>(qL n b).bind fun y5=>(GQ n d).bind fun y6=>some (f.1,f.2.1,f.2.2.1,f.2.2.2,k,u,z,t.1,t.2,y4,y5,y6):=by kernel_rfl
theorem aqR (n b d f g):Gv (n+1) b d f g=(zt n b).bind fun h=>(zt n d).bind fun i=>(zv n f).bind fun j=>(zv n g).bind fun k=>some (h,i,j,k):=by kernel_rfl
theorem aqS (n b):zt (n+1) b=letI a:=(b.length:Int);cond (decide (0<=a/\a<=a/\a<=(aC:Int))) ((zu n n 0 b (Ã (À a) ([]:O))).bind fun d=>aw d (fun f=>some f) (fun g=>some g)) none:=by kernel_rfl
theorem QK (n m b f d):zu n (m+1) b f d=letI a:=À b;cond (decide (b<(f.length:Int))) ((ar f b).bind fun g=>cond (decide (0<=b/\b<(d.length:Int))) ((aN d a).bind fun _=>zu n m (wrap .i64 (b+1)) f (d.set a g)) none) (some (Á d)):=by kernel_rfl
theorem aqT (n b):zv (n+1) b=letI a:=(b.length:Int);cond (decide (0<=a/\a<=a/\a<=(aC:Int))) ((zw n n 0 b (Ã (À a) ((0:Int),(0:Int),([]:O)))).bind fun d=>aw d (fun f=>some f) (fun g=>some g)) none:=by kernel_rfl
theorem QL (n m b f d):zw n (m+1) b f d=letI a:=À b;cond (decide (b<(f.length:Int))) ((ar f b).bind fun g=>(Gw n g.1 g.2.1 g.2.2).bind fun h=>cond (decide (0<=b/\b<(d.length:Int))) ((aN d a).bind fun _=>zw n m (wrap .i64 (b+1)) f (d.set a (h.1,h.2.1,h.2.2))) none) (some (Á d)):=by kernel_rfl
theorem aqU (n b d f):Gw (n+1) b d f=some (b,d,f):=by kernel_rfl
theorem aqV (n b):Gx (n+1) b=letI a:=(b.length:Int);cond (decide (0<=a/\a<=a/\a<=(aC:Int))) ((zx n n 0 b (Ã (À a) ((0:Int),(0:Int),(0:Int),(0:Int),(0:Int),([]:aW),([]:ae),([]:ai),(0:Int),(0:Int),([]:ag),([]:O),(0:Int),([]:cf),([]:ag),([]:ag),(0:Int),([]:ae),([]:ai),(0:Int),(0:Int),([]:ag),([]:O),([]:bu),(0:Int),([]:bh)))).bind fun d=>aw d (fun f=>some f) (fun g=>some g)) none:=by kernel_rfl
theorem QM (n m f h g):zx n (m+1) f h g=letI w:=À f;cond (decide (f<(h.length:Int))) ((ar h f).bind fun b=>letI q:=b.2.2.2;letI k:=q.2.2.2;letI r:=k.2.2.2;letI a:=r.2.2.2;letI s:=a.2.2.2;letI e:=s.2.2.2;letI o:=e.2.2.2;(Gy n b.1 b.2.1 b.2.2.1 q.1 q.2.1 q.2.2.1 k.1 k.2.1 k.2.2.1 r.1 r.2.1 r.2.2.1 a.1 a.2.1 a.2.2.1 s.1 s.2.1 s.2.2.1 e.1 e.2.1 e.2.2.1 o.1 o.2.1 o.2.2.1 o.2.2.2.1 o.2.2.2.2).bind fun d=>letI t:=d.2.2.2;letI l:=t.2.2.2;letI u:=l.2.2.2;letI c:=u.2.2.2;letI v:=c.2.2.2;letI j:=v.2.2.2;letI p:=j.2.2.2;cond (decide (0<=f/\f<(g.length:Int))) ((aN g w).bind fun _=>zx n m (wrap .i64 (f+1)) h (g.set w (d.1,d.2.1,d.2.2.1,t.1,t.2.1,t.2.2.1,l.1,l.2.1,l.2.2.1,u.1,u.2.1,u.2.2.1,c.1,c.2.1,c.2.2.1,v.1,v.2.1,v.2.2.1,j.1,j.2.1,j.2.2.1,p.1,p.2.1,p.2.2.1,p.2.2.2.1,p.2.2.2.2))) none) (some (Á g)):=by kernel_rfl
theorem aqW (n x0 x1 x2 x3 x4 x5 x6 x7 x8 x9 f g h i j k m p q r s t u z ad ae):Gy (n+1) x0 x1 x2 x3 x4 x5 x6 x7 x8 x9 f g h i j k m p q r s t u z ad ae=(Gz n x1 x2 x3 x4 x5 x6 x7 x8 x9 f g).bind fun b=>letI a:=b.2.2.2.2.2;(GJ n i).bind fun y1=>(qL n j).bind fun y2=>(qL n k).bind fun y3=>(zD n p q r s t u).bind fun d=>(GK n z ad).bind fun y5=>(zK n ae).bind fun y6=>some (x0,b.1,b.2.1,b.2.2.1,b.2.2.2.1,b.2.2.2.2.1,a.1,a.2.1,a.2.2.1,a.2.2.2.1,a.2.2.2.2.1,a.2.2.2.2.2,h,y1,y2,y3,m,d.1,d.2.1,d.2.2.1,d.2.2.2.1,d.2.2.2.2.1,d.2.2.2.2.2,y5.1,y5.2,y6):=by kernel_rfl
theorem aqX (n g h i j k m p q r s d):Gz (n+1) g h i j k m p q r s d=(GC n i j k).bind fun f=>(zD n m p q r s d).bind fun b=>some (g,h,f.1,f.2.1,f.2.2,b.1,b.2.1,b.2.2.1,b.2.2.2.1,b.2.2.2.2.1,b.2.2.2.2.2):=by kernel_rfl
theorem aqY (n b d f):GC (n+1) b d f=(zA n f).bind fun g=>some (b,d,g):=by kernel_rfl
theorem aqZ (n b):zA (n+1) b=letI a:=(b.length:Int);cond (decide (0<=a/\a<=a/\a<=(aC:Int))) ((zB n n 0 b (Ã (À a) ((0:Int),(0:Int),(0:Int),([]:O)))).bind fun d=>aw d (fun f=>some f) (fun g=>some g)) none:=by kernel_rfl
theorem QN (n m b f d):zB n (m+1) b f d=letI a:=À b;cond (decide (b<(f.length:Int))) ((ar f b).bind fun g=>(GD n g.1 g.2.1 g.2.2.1 g.2.2.2).bind fun h=>cond (decide (0<=b/\b<(d.length:Int))) ((aN d a).bind fun _=>zB n m (wrap .i64 (b+1)) f (d.set a (h.1,h.2.1,h.2.2.1,h.2.2.2))) none) (some (Á d)):=by kernel_rfl
theorem arA (n d f g h):GD (n+1) d f g h=(zC n f g h).bind fun b=>some (d,b.1,b.2.1,b.2.2):=by kernel_rfl
theorem arB (n b d f):zC (n+1) b d f=some (b,d,f):=by kernel_rfl
theorem arC (n d f g h i j):zD (n+1) d f g h i j=(GF n d f g h).bind fun b=>(qL n i).bind fun k=>some (b.1,b.2.1,b.2.2.1,b.2.2.2,k,j):=by kernel_rfl
theorem arD (n b d f g):GF (n+1) b d f g=(GG n b).bind fun h=>(GH n d).bind fun i=>some (h,i,f,g):=by kernel_rfl
theorem arE (n b):GG (n+1) b=letI a:=(b.length:Int);cond (decide (0<=a/\a<=a/\a<=(aC:Int))) ((zE n n 0 b (Ã (À a) ((0:Int),(0:Int),([]:O)))).bind fun d=>aw d (fun f=>some f) (fun g=>some g)) none:=by kernel_rfl
theorem QO (n m b f d):zE n (m+1) b f d=letI a:=À b;cond (decide (b<(f.length:Int))) ((ar f b).bind fun g=>(zF n g.1 g.2.1 g.2.2).bind fun h=>cond (decide (0<=b/\b<(d.length:Int))) ((aN d a).bind fun _=>zE n m (wrap .i64 (b+1)) f (d.set a (h.1,h.2.1,h.2.2))) none) (some (Á d)):=by kernel_rfl
theorem arF (n b d f):zF (n+1) b d f=some (b,d,f):=by kernel_rfl
theorem arG (n b):GH (n+1) b=letI a:=(b.length:Int);cond (decide (0<=a/\a<=a/\a<=(aC:Int))) ((zG n n 0 b (Ã (À a) ((0:Int),([]:O),(0:Int),(0:Int),([]:O)))).bind fun d=>aw d (fun f=>some f) (fun g=>some g)) none:=by kernel_rfl
theorem QP (n m b h d):zG n (m+1) b h d=letI a:=À b;cond (decide (b<(h.length:Int))) ((ar h b).bind fun f=>(GI n f.1 f.2.1 f.2.2.1 f.2.2.2.1 f.2.2.2.2).bind fun g=>cond (decide (0<=b/\b<(d.length:Int))) ((aN d a).bind fun _=>zG n m (wrap .i64 (b+1)) h (d.set a (g.1,g.2.1,g.2.2.1,g.2.2.2.1,g.2.2.2.2))) none) (some (Á d)):=by kernel_rfl
theorem arH (n d f g h i):GI (n+1) d f g h i=(zF n g h i).bind fun b=>some (d,f,b.1,b.2.1,b.2.2):=by kernel_rfl
theorem arI (n b):qL (n+1) b=letI a:=(b.length:Int);cond (decide (0<=a/\a<=a/\a<=(aC:Int))) ((zH n n 0 b (Ã (À a) (0:Int))).bind fun d=>aw d (fun f=>some f) (fun g=>some g)) none:=by kernel_rfl
theorem QQ (n m b f d):zH n (m+1) b f d=letI a:=À b;cond (decide (b<(f.length:Int))) ((ar f b).bind fun g=>cond (decide (0<=b/\b<(d.length:Int))) ((aN d a).bind fun _=>zH n m (wrap .i64 (b+1)) f (d.set a g)) none) (some (Á d)):=by kernel_rfl
theorem arJ (n b):GJ (n+1) b=letI a:=(b.length:Int);cond (decide (0<=a/\a<=a/\a<=(aC:Int))) ((zI n n 0 b (Ã (À a) false)).bind fun d=>aw d (fun f=>some f) (fun g=>some g)) none:=by kernel_rfl
theorem QR (n m b f d):zI n (m+1) b f d=letI a:=À b;cond (decide (b<(f.length:Int))) ((ar f b).bind fun g=>cond (decide (0<=b/\b<(d.length:Int))) ((aN d a).bind fun _=>zI n m (wrap .i64 (b+1)) f (d.set a g)) none) (some (Á d)):=by kernel_rfl
theorem arK (n b d):GK (n+1) b d=(GL n b).bind fun f=>some (f,d):=by kernel_rfl
theorem arL (n b):GL (n+1) b=letI a:=(b.length:Int);cond (decide (0<=a/\a<=a/\a<=(aC:Int))) ((zJ n n 0 b (Ã (À a) (0:UInt8))).bind fun d=>aw d (fun f=>some f) (fun g=>some g)) none:=by kernel_rfl
theorem QS (n m b f d):zJ n (m+1) b f d=letI a:=À b;cond (decide (b<(f.length:Int))) ((ar f b).bind fun g=>cond (decide (0<=b/\b<(d.length:Int))) ((aN d a).bind fun _=>zJ n m (wrap .i64 (b+1)) f (d.set a (Ä (À ((g).toNat:Int))))) none) (some (Á d)):=by kernel_rfl
theorem arM (n b):zK (n+1) b=letI a:=(b.length:Int);cond (decide (0<=a/\a<=a/\a<=(aC:Int))) ((zL n n 0 b (Ã (À a) ((0:Int),(0:Int),(0:Int),(0:Int),(0:Int),(0:Int),(0:Int),([]:aW),false,([]:O)))).bind fun d=>aw d (fun f=>some f) (fun g=>some g)) none:=by kernel_rfl
theorem QT (n m f h g):zL n (m+1) f h g=letI e:=À f;cond (decide (f<(h.length:Int))) ((ar h f).bind fun b=>letI a:=b.2.2.2.2;(GM n b.1 b.2.1 b.2.2.1 b.2.2.2.1 a.1 a.2.1 a.2.2.1 a.2.2.2.1 a.2.2.2.2.1 a.2.2.2.2.2).bind fun d=>letI c:=d.2.2.2.2;cond (decide (0<=f/\f<(g.length:Int))) ((aN g e).bind fun _=>zL n m (wrap .i64 (f+1)) h (g.set e (d.1,d.2.1,d.2.2.1,d.2.2.2.1,c.1,c.2.1,c.2.2.1,c.2.2.2.1,c.2.2.2.2.1,c.2.2.2.2.2))) none) (some (Á g)):=by kernel_rfl
theorem arN (n b d f g h i j k m p):GM (n+1) b d f g h i j k m p=(zA n k).bind fun q=>some (b,d,f,g,h,i,j,q,m,p):=by kernel_rfl
theorem arO (n b d):GN (n+1) b d=some (b,d):=by kernel_rfl
theorem arP (n b):GQ (n+1) b=letI a:=(b.length:Int);cond (decide (0<=a/\a<=a/\a<=(aC:Int))) ((zM n n 0 b (Ã (À a) ((0:Int),(0:Int),([]:O)))).bind fun d=>aw d (fun f=>some f) (fun g=>some g)) none:=by kernel_rfl
theorem QU (n m b f d):zM n (m+1) b f d=letI a:=À b;cond (decide (b<(f.length:Int))) ((ar f b).bind fun g=>(zC n g.1 g.2.1 g.2.2).bind fun h=>cond (decide (0<=b/\b<(d.length:Int))) ((aN d a).bind fun _=>zM n m (wrap .i64 (b+1)) f (d.set a (h.1,h.2.1,h.2.2))) none) (some (Á d)):=by kernel_rfl
theorem QV (n g h i j f k m p q r b d):GR (n+1) g h i j f k m p q r b d=((vu n g h i j).bind fun y0=>cond (!y0) (some true) ((cq n f 1 5).bind fun y1=>cond (!y1) (some true) (cond ((k.length:Int) !=f) (some true) (cond (decide (40<(m.length:Int))) (some true) ((Ha n p q).bind fun y2=>cond (!y2) (some true) ((zT n r).bind fun y3=>cond (!y3) (some true) ((zT n b).bind fun y4=>cond (!y4) (some true) (some (decide (300<(d.length:Int))))))))))).bind fun s=>cond s (some false) ((vn n n g h i j f k m p q r b d 0).bind fun t=>aw t (fun z22=>letI e:=z22.2.2;letI a:=e.2.2.2;letI l:=a.2.2.2;(vo n n z22.1 z22.2.1 e.1 e.2.1 e.2.2.1 a.1 a.2.1 a.2.2.1 l.1 l.2.1 l.2.2.1 l.2.2.2 0).bind fun u=>aw u (fun z23=>letI o:=z23.2.2;letI c:=o.2.2.2;letI v:=c.2.2.2;(vr n n z23.1 z23.2.1 o.1 o.2.1 o.2.2.1 c.1 c.2.1 c.2.2.1 v.1 v.2.1 v.2.2.1 v.2.2.2 0).bind fun z=>aw z (fun _=>some true) (fun ad=>some ad)) (fun ae=>some ae)) (fun af=>some af)):=by kernel_rfl
theorem QW (n m j k p q h i r s t u f g d):vn n (m+1) j k p q h i r s t u f g d=cond (decide (d<h)) ((ar i d).bind fun z=>cond (z.1 !=d) (some (Â false)) ((ar i d).bind fun b=>letI o:=b.2.2.2;letI e:=o.2.2.2;letI v:=e.2.2.2;letI a:=v.2.2.2;letI w:=a.2.2.2;letI c:=w.2.2.2;letI l:=c.2.2.2;(Hb n j k p q b.1 b.2.1 b.2.2.1 o.1 o.2.1 o.2.2.1 e.1 e.2.1 e.2.2.1 v.1 v.2.1 v.2.2.1 a.1 a.2.1 a.2.2.1 w.1 w.2.1 w.2.2.1 c.1 c.2.1 c.2.2.1 l.1 l.2.1 l.2.2.1 l.2.2.2.1 l.2.2.2.2 h).bind fun y2=>cond (!y2) (some (Â false)) (vn n m j k p q h i r s t u f g (wrap .i64 (d+1))))) (some (Á (j,k,p,q,h,i,r,s,t,u,f,g))):=by kernel_rfl
theorem QX (n m j k p q i r h s t u f g d):vo n (m+1) j k p q i r h s t u f g d=cond (decide (d<(h.length:Int))) ((ar h d).bind fun b=>letI a:=b.2.2.2.2;(Aa n b.1 b.2.1 b.2.2.1 b.2.2.2.1 a.1 a.2.1 a.2.2.1 a.2.2.2.1 a.2.2.2.2.1 a.2.2.2.2.2 i).bind fun z=>cond (!z) (some (Â false)) (vo n m j k p q i r h s t u f g (wrap .i64 (d+1)))) (some (Á (j,k,p,q,i,r,h,s,t,u,f,g))):=by kernel_rfl
theorem QY (n m h i j k p q r s t u f b d):vr n (m+1) h i j k p q r s t u f b d=cond (decide (d<(b.length:Int))) ((ar b d).bind fun g=>(sD n g.1 g.2.1 g.2.2).bind fun z=>cond (!z) (some (Â false)) (vr n m h i j k p q r s t u f b (wrap .i64 (d+1)))) (some (Á ())):=by kernel_rfl
theorem arQ (n f g h i):vu (n+1) f g h i=(sB n n f g h i 0).bind fun j=>aw j (fun b=>(sC n n b.1 b.2.1 b.2.2.1 b.2.2.2 0).bind fun k=>aw k (fun z2=>letI c:=(z2.1.length:Int);letI a:=(z2.2.1.length:Int);(cond (decide (c<=8)) (cond (decide (a<=8)) ((zR n z2.2.2.1 c a).bind fun m=>cond m ((zR n z2.2.2.2 c a).bind fun p=>some p) (some false)) (some false)) (some false)).bind fun d=>some d) (fun q=>some q)) (fun r=>some r):=by kernel_rfl
theorem QZ (n m b f g h d):sB n (m+1) b f g h d=letI c:=wrap .i64;letI a:=sB n m b f g h (c (d+1));cond (decide (d<(b.length:Int))) ((ar b d).bind fun i=>(zN n i).bind fun j=>cond (!j) (some (Â false)) ((ar b d).bind fun k=>(qM n f k).bind fun p=>cond p (some (Â false)) (cond (decide (0<d)) ((ar b (c (d-1))).bind fun q=>(ar b d).bind fun r=>cond (!(Op.bytesLess q r)) (some (Â false)) a) a))) (some (Á (b,f,g,h))):=by kernel_rfl
theorem Ra (n m f b g h d):sC n (m+1) f b g h d=letI c:=wrap .i64;letI a:=sC n m f b g h (c (d+1));cond (decide (d<(b.length:Int))) ((ar b d).bind fun i=>(zN n i).bind fun j=>cond (!j) (some (Â false)) (cond (decide (0<d)) ((ar b (c (d-1))).bind fun k=>(ar b d).bind fun p=>cond (!(Op.bytesLess k p)) (some (Â false)) a) a)) (some (Á (f,b,g,h))):=by kernel_rfl
theorem arR (n d):zN (n+1) d=(zO n n 0 d).bind fun g=>aw g (fun f=>((cq n (f.length:Int) 1 8).bind fun h=>cond h ((GV n f).bind fun i=>some (!i)) (some false)).bind fun b=>some b) (fun j=>some j):=by kernel_rfl
theorem Rb (n m d b):zO n (m+1) d b=cond (decide (d<(b.length:Int))) ((bG b d).bind fun f=>(GU n (Ä (À ((f).toNat:Int)))).bind fun g=>cond (!g) (some (Â false)) (zO n m (wrap .i64 (d+1)) b)) (some (Á b)):=by kernel_rfl
theorem arS (n b):GU (n+1) b=letI a:=((b).toNat:Int);letI e:=decide (a<=90);letI c:=decide (65<=a);(cond (decide (97<=a)) (cond (decide (a<=122)) (some true) (cond c (some e) (some false))) (cond c (some e) (some false))).bind fun d=>some d:=by kernel_rfl
theorem xc (n b f g):cq (n+1) b f g=(cond (decide (f<=b)) (some (decide (b<=g))) (some false)).bind fun d=>some d:=by kernel_rfl
theorem arT (n b):GV (n+1) b=((qM n ([([66,69,71,73,78]:O),([112,114,105,110,116]:O),([105,102]:O),([101,108,115,101]:O),([119,104,105,108,101]:O),([110,101,120,116]:O),([100,101,108,101,116,101]:O),([78,82]:O),([78,70]:O)]:af) b).bind fun f=>cond f (some true) ((zQ n).bind fun g=>(qM n g b).bind fun h=>some h)).bind fun d=>some d:=by kernel_rfl
theorem arU (n b d):qM (n+1) b d=(zP n n 0 d b).bind fun f=>aw f (fun _=>some false) (fun g=>some g):=by kernel_rfl
theorem Rc (n m b f d):zP n (m+1) b f d=cond (decide (b<(d.length:Int))) ((ar d b).bind fun g=>cond (g==f) (some (Â true)) (zP n m (wrap .i64 (b+1)) f d)) (some (Á ())):=by kernel_rfl
theorem arV (n):zQ (n+1)=some ([([108,101,110,103,116,104]:O),([115,117,98,115,116,114]:O),([105,110,100,101,120]:O),([105,110,116]:O),([117,112,112,101,114]:O),([108,111,119,101,114]:O)]:af):=by kernel_rfl
theorem Re (n b h i):zR (n+1) b h i=letI a:=(b.length:Int);((cq n a 1 1500).bind fun j=>cond (!j) (some true) ((ar b (wrap .i64 (a-1))).bind fun k=>some (k.1 !=36))).bind fun d=>cond d (some false) ((vv n n 0 i h a b).bind fun f=>aw f (fun _=>some true) (fun g=>some g)):=by kernel_rfl
theorem Rf (n m b f g d h):vv n (m+1) b f g d h=cond (decide (b<d)) ((ar h b).bind fun i=>(GX n i.1 i.2.1 i.2.2 d g f).bind fun j=>cond (!j) (some (Â false)) (vv n m (wrap .i64 (b+1)) f g d h)) (some (Á ())):=by kernel_rfl
theorem arW (n f d g m k j):GX (n+1) f d g m k j=letI o:=decide (d<k);letI l:=cq n d 0 (wrap .i64 (m-1));letI e:=decide (d<j);letI c:=decide (0<=d);letI a:=g==([]:O);cond (f==1) (((iL n d).bind fun h=>cond h (some a) (some false)).bind fun b=>some b) (cond (f==2) (some (d==0)) (cond (f==3) ((cond c (cond o (some a) (some false)) (some false)).bind fun b=>some b) (cond (f==4) ((cond c (cond o (some a) (some false)) (some false)).bind fun b=>some b) (cond (f==5) ((cond c (cond o (some a) (some false)) (some false)).bind fun b=>some b) (cond (f==6) ((cond c (cond e (some a) (some false)) (some false)).bind fun b=>some b) (cond (f==7) ((cond c (cond e (some a) (some false)) (some false)).bind fun b=>some b) (cond (f==8) ((cond c (cond e (some a) (some false)) (some false)).bind fun b=>some b) (cond (f==35) ((cond c (cond e (some a) (some false)) (some false)).bind fun b=>some b) (cond (f==24) ((vx n g).bind fun h=>(cond h.2.2.2.2.2 (some (d==0)) (some false)).bind fun i=>some i) (cond (f==25) ((vx n g).bind fun h=>(cond h.2.2.2.2.2 (some (d==0)) (some false)).bind fun i=>some i) (cond (f==29) (((cq n d 1 3).bind fun h=>cond h ((zQ n).bind fun p=>(qM n p g).bind fun q=>some q) (some false)).bind fun b=>some b) (cond (f==30) ((l.bind fun h=>cond h (some a) (some false)).bind fun b=>some b) (cond (f==31) ((l.bind fun h=>cond h (some a) (some false)).bind fun b=>some b) (cond (f==33) (((cq n d 0 1).bind fun h=>cond h (some a) (some false)).bind fun b=>some b) (((cq n f 1 36).bind fun h=>cond h (cond (d==0) (some a) (some false)) (some false)).bind fun b=>some b))))))))))))))):=by kernel_rfl
theorem Rg (n b):iL (n+1) b=(cq n b (-9000000000000) 9000000000000).bind fun d=>some d:=by kernel_rfl
theorem JK (n d):vx (n+1) d=letI a:=((0:Int),(0:Int),([]:O),false,([]:aT),false);cond (decide (60<(d.length:Int))) (some a) ((vy n d 0 false 0).bind fun b=>letI c:=b.2.2.2;(cond c.2.2.2.2 (some true) (cond (c.2.2.2.1 !=(d.length:Int)) (some true) ((vC n b.1 b.2.1 b.2.2.1 c.1 c.2.1).bind fun g=>some (decide (12<g))))).bind fun f=>cond f (some a) (some (b.1,b.2.1,b.2.2.1,c.1,c.2.1,true))):=by kernel_rfl
theorem Ri (n g h i f):vy (n+1) g h i f=(zS n g h i f).bind fun b=>letI c:=b.2.2.2;(qN n n c.2.2.1 c.2.2.2.1 c.2.2.2.2 0 0 ([]:O) false f ([ld (b.1,b.2.1,b.2.2.1,c.1,c.2.1)]:aT)).bind fun j=>aw j (fun z2=>letI e:=z2.2.2;letI a:=(z2.2.2.2.2.2.2.2.length:Int);cond (a==1) (cond (decide ((0:Int)<=0/\(0:Int)<a)) ((mj e.2.2.2.2.2 0).bind fun d=>some (d.1,d.2.1,d.2.2.1,d.2.2.2.1,d.2.2.2.2,z2.1,z2.2.1,e.1)) none) (some ((7:Int),(0:Int),([]:O),false,e.2.2.2.2.2,z2.1,z2.2.1,e.1))) (fun k=>some k):=by kernel_rfl
theorem ta (n m p q r g h i j k f):qN n (m+1) p q r g h i j k f=(eT n p q r ((Ä (À 124)):UInt8)).bind fun d=>cond d.1 ((zS n d.2.1 (wrap .i64 (d.2.2.1+1)) d.2.2.2 k).bind fun b=>letI a:=b.2.2.2;cond (Å (f.length+1) aC) (qN n m a.2.2.1 a.2.2.2.1 a.2.2.2.2 g h i j k (f++[ld (b.1,b.2.1,b.2.2.1,a.1,a.2.1)])) none) (some (Á (d.2.1,d.2.2.1,d.2.2.2,g,h,i,j,f))):=by kernel_rfl
theorem arX (n f g h i):zS (n+1) f g h i=(vz n n f g h 0 0 ([]:O) false i ([]:aT)).bind fun j=>aw j (fun b=>letI c:=b.2.2;letI a:=(b.2.2.2.2.2.2.2.length:Int);cond (a==0) (some ((11:Int),(0:Int),([]:O),false,([]:aT),b.1,b.2.1,c.1)) (cond (a==1) (cond (decide ((0:Int)<=0/\(0:Int)<a)) ((mj c.2.2.2.2.2 0).bind fun d=>some (d.1,d.2.1,d.2.2.1,d.2.2.2.1,d.2.2.2.2,b.1,b.2.1,c.1)) none) (some ((6:Int),(0:Int),([]:O),false,c.2.2.2.2.2,b.1,b.2.1,c.1)))) (fun k=>some k):=by kernel_rfl
theorem xd (n m b d g i j k p q h):vz n (m+1) b d g i j k p q h=letI a:=(b,d,g,i,j,k,p,h);cond (!g) (cond (decide (d<(b.length:Int))) ((bG b d).bind fun r=>cond (((r).toNat:Int) !=124) ((bG b d).bind fun s=>cond (((s).toNat:Int) !=41) ((GY n b d g q).bind fun f=>letI c:=f.2.2.2;cond (Å (h.length+1) aC) (vz n m c.2.2.1 c.2.2.2.1 c.2.2.2.2 i j k p q (h++[ld (f.1,f.2.1,f.2.2.1,c.1,c.2.1)])) none) (some (Á a))) (some (Á a))) (some (Á a))) (some (Á a)):=by kernel_rfl
theorem Rj (n d f g h):GY (n+1) d f g h=(vA n d f g h).bind fun b=>letI c:=b.2.2.2;(qO n n c.2.2.1 c.2.2.2.1 c.2.2.2.2 0 0 ([]:O) false b.1 b.2.1 b.2.2.1 c.1 c.2.1).bind fun i=>aw i (fun z2=>letI a:=z2.2.2.2.2.2.2.2;some (a.1,a.2.1,a.2.2.1,a.2.2.2.1,a.2.2.2.2,z2.1,z2.2.1,z2.2.2.1)) (fun j=>some j):=by kernel_rfl
theorem Ci (n m u z t i j k p q r s b d):qO n (m+1) u z t i j k p q r s b d=letI c:=wrap .i64;letI a:=([ld (q,r,s,b,d)]:aT);cond (!t) ((eT n u z t ((Ä (À 42)):UInt8)).bind fun f=>cond f.1 (qO n m f.2.1 (c (f.2.2.1+1)) f.2.2.2 i j k p (8:Int) (0:Int) ([]:O) false a) ((eT n f.2.1 f.2.2.1 f.2.2.2 ((Ä (À 43)):UInt8)).bind fun g=>cond g.1 (qO n m g.2.1 (c (g.2.2.1+1)) g.2.2.2 i j k p (9:Int) (0:Int) ([]:O) false a) ((eT n g.2.1 g.2.2.1 g.2.2.2 ((Ä (À 63)):UInt8)).bind fun h=>cond h.1 (qO n m h.2.1 (c (h.2.2.1+1)) h.2.2.2 i j k p (10:Int) (0:Int) ([]:O) false a) (some (Á (h.2.1,h.2.2.1,h.2.2.2,i,j,k,p,q,r,s,b,d)))))) (some (Á (u,z,t,i,j,k,p,q,r,s,b,d))):=by kernel_rfl
theorem Rk (n f g i j):vA (n+1) f g i j=letI a:=wrap .i64;letI m:=a (g+1);(cond i (some true) (cond (decide ((f.length:Int)<=g)) (some true) (some (decide (40<j))))).bind fun k=>cond k (some ((0:Int),(0:Int),([]:O),false,([]:aT),f,g,true)) ((bG f g).bind fun d=>letI c:=((d).toNat:Int);letI e:=((1:Int),a c,([]:O),false,([]:aT),f,a (g+1),true);cond (c==40) ((vy n f m i (a (j+1))).bind fun b=>letI l:=b.2.2.2;(eT n l.2.2.1 l.2.2.2.1 l.2.2.2.2 ((Ä (À 41)):UInt8)).bind fun h=>cond (!h.1) (some (b.1,b.2.1,b.2.2.1,l.1,l.2.1,h.2.1,a (h.2.2.1+1),true)) (some (b.1,b.2.1,b.2.2.1,l.1,l.2.1,h.2.1,a (h.2.2.1+1),h.2.2.2))) (cond (c==46) (some ((2:Int),(0:Int),([]:O),false,([]:aT),f,a (g+1),i)) (cond (c==94) (some ((4:Int),(0:Int),([]:O),false,([]:aT),f,a (g+1),i)) (cond (c==36) (some ((5:Int),(0:Int),([]:O),false,([]:aT),f,a (g+1),i)) (cond (c==91) ((GZ n f m i).bind fun b=>letI o:=b.2.2.2;some (b.1,b.2.1,b.2.2.1,o.1,([]:aT),o.2.1,o.2.2.1,o.2.2.2)) (cond (c==92) (cond (decide ((f.length:Int)<=m)) (some ((0:Int),(0:Int),([]:O),false,([]:aT),f,a (g+1),true)) ((bG f m).bind fun b=>some ((1:Int),a ((b).toNat:Int),([]:O),false,([]:aT),f,a (m+1),i))) (cond (c==42) (some e) (cond (c==43) (some e) (cond (c==63) (some e) (some ((1:Int),a c,([]:O),false,([]:aT),f,a (g+1),i))))))))))):=by kernel_rfl
theorem Rm (n b d f h):eT (n+1) b d f h=(cond (!f) (cond (decide (d<(b.length:Int))) ((bG b d).bind fun i=>some (((i).toNat:Int)==((h).toNat:Int))) (some false)) (some false)).bind fun g=>some (g,b,d,f):=by kernel_rfl
theorem Rn (n j k m):GZ (n+1) j k m=letI x:=lk n n;letI s:=Ã (À (256:Int)) false;letI l:=decide ((0:Int)<=256/\(256:Int)<=256/\(256:Int)<=(aC:Int));letI e:=wrap .i64;(eT n j k m ((Ä (À 94)):UInt8)).bind fun f=>cond f.1 (cond l ((gP n n f.2.1 (e (f.2.2.1+1)) f.2.2.2 (0:Int) (0:Int) ([]:O) false (3:Int) (0:Int) ([]:O) true s (0:Int)).bind fun h=>aw h (fun z2=>letI y:=e (z2.2.1+1);letI t:=z2.2.2.2;letI a:=t.2.2.2;letI v:=a.2.2.2;(cond (decide ((z2.1.length:Int)<=z2.2.1)) (some true) (some (v.2.2.2==0))).bind fun g=>cond g ((x z2.1 y true t.1 t.2.1 t.2.2.1 a.1 a.2.1 a.2.2.1 v.1 v.2.1 (0:Int) ([]:bu) v.2.2.1).bind fun b=>aw b (fun z24=>letI o:=z24.2.2.2.2.2.2.2;some (o.1,o.2.1,o.2.2.2.2,o.2.2.2.1,z24.1,z24.2.1,z24.2.2.1)) (fun d=>some d)) ((x z2.1 y z2.2.2.1 t.1 t.2.1 t.2.2.1 a.1 a.2.1 a.2.2.1 v.1 v.2.1 (0:Int) ([]:bu) v.2.2.1).bind fun b=>aw b (fun z24=>letI p:=z24.2.2.2.2.2.2.2;some (p.1,p.2.1,p.2.2.2.2,p.2.2.2.1,z24.1,z24.2.1,z24.2.2.1)) (fun d=>some d))) (fun i=>some i)) none) (cond l ((gP n n f.2.1 f.2.2.1 f.2.2.2 0 0 ([]:O) false 3 0 ([]:O) false s (0:Int)).bind fun h=>aw h (fun z2=>letI z:=e (z2.2.1+1);letI u:=z2.2.2.2;letI c:=u.2.2.2;letI w:=c.2.2.2;(cond (decide ((z2.1.length:Int)<=z2.2.1)) (some true) (some (w.2.2.2==0))).bind fun g=>cond g ((x z2.1 z true u.1 u.2.1 u.2.2.1 c.1 c.2.1 c.2.2.1 w.1 w.2.1 (0:Int) ([]:bu) w.2.2.1).bind fun b=>aw b (fun z24=>letI q:=z24.2.2.2.2.2.2.2;some (q.1,q.2.1,q.2.2.2.2,q.2.2.2.1,z24.1,z24.2.1,z24.2.2.1)) (fun d=>some d)) ((x z2.1 z z2.2.2.1 u.1 u.2.1 u.2.2.1 c.1 c.2.1 c.2.2.1 w.1 w.2.1 (0:Int) ([]:bu) w.2.2.1).bind fun b=>aw b (fun z24=>letI r:=z24.2.2.2.2.2.2.2;some (r.1,r.2.1,r.2.2.2.2,r.2.2.2.1,z24.1,z24.2.1,z24.2.2.1)) (fun d=>some d))) (fun i=>some i)) none):=by kernel_rfl
theorem Ro (n m q r s t u z x6 x7 x8 x9 f b d g h i j k p):jO n (m+1) q r s t u z x6 x7 x8 x9 f b d g h i j k p=letI c:=À b;letI a:=À ((h).toNat:Int);cond (decide (b<=p)) (cond (decide (0<=b/\b<(d.length:Int))) ((aN d c).bind fun _=>jO n m q r s t u z x6 x7 x8 x9 f (wrap .i64 (b+1)) (d.set c true) g (Ä a) i j k p) none) (some (Á (q,r,s,t,u,z,x6,x7,x8,x9,f,d,g,Ä a,i,j,k))):=by kernel_rfl
theorem JL (n m d f x2 p q r s t u z g h i):gP n (m+1) d f x2 p q r s t u z g h i=letI ay:=jO n n d;letI aj:=(d,f,x2,p,q,r,s,t,u,z,g,h,i);letI ah:=gP n m;letI a:=wrap .i64;letI af:=a (f+1);letI az:=a (af+1);cond (decide (f<(d.length:Int))) ((bG d f).bind fun k=>letI bf:=((k).toNat:Int);letI l:=bf !=93;letI e:=Ä (À bf);cond l ((bG d f).bind fun j=>letI c:=a ((j).toNat:Int);letI ai:=decide (c<c);letI v:=ay af x2 p q r s t u z g c h l e d f i c;letI o:=ay af true p q r s t u z g c h l e d f i c;cond (decide (az<(d.length:Int))) ((bG d af).bind fun y2=>cond (((y2).toNat:Int)==45) ((bG d az).bind fun y3=>cond (((y3).toNat:Int) !=93) ((bG d az).bind fun y4=>letI ag:=a ((y4).toNat:Int);cond (decide (ag<c)) ((ay (a (af+2)) true p q r s t u z g c h l e d f i ag).bind fun y5=>aw y5 (fun b=>letI ba:=b.2.2.2;letI ad:=ba.2.2.2;letI ak:=ad.2.2.2;ah b.1 b.2.1 b.2.2.1 ba.1 ba.2.1 ba.2.2.1 ad.1 ad.2.1 ad.2.2.1 ak.1 ak.2.1 ak.2.2.1 (a (ak.2.2.2.2.2.2.2+1))) (fun w6=>some (Â w6))) ((ay (a (af+2)) x2 p q r s t u z g c h l e d f i ag).bind fun y5=>aw y5 (fun b=>letI bb:=b.2.2.2;letI ae:=bb.2.2.2;letI al:=ae.2.2.2;ah b.1 b.2.1 b.2.2.1 bb.1 bb.2.1 bb.2.2.1 ae.1 ae.2.1 ae.2.2.1 al.1 al.2.1 al.2.2.1 (a (al.2.2.2.2.2.2.2+1))) (fun w6=>some (Â w6)))) (cond ai (o.bind fun y4=>aw y4 (fun z5=>letI am:=z5.2.2.2;letI w:=am.2.2.2;letI bc:=w.2.2.2;ah z5.1 z5.2.1 z5.2.2.1 am.1 am.2.1 am.2.2.1 w.1 w.2.1 w.2.2.1 bc.1 bc.2.1 bc.2.2.1 (a (bc.2.2.2.2.2.2.2+1))) (fun w5=>some (Â w5))) (v.bind fun y4=>aw y4 (fun z5=>letI an:=z5.2.2.2;letI x:=an.2.2.2;letI bd:=x.2.2.2;ah z5.1 z5.2.1 z5.2.2.1 an.1 an.2.1 an.2.2.1 x.1 x.2.1 x.2.2.1 bd.1 bd.2.1 bd.2.2.1 (a (bd.2.2.2.2.2.2.2+1))) (fun w5=>some (Â w5))))) (cond ai (o.bind fun y3=>aw y3 (fun z4=>letI ao:=z4.2.2.2;letI y:=ao.2.2.2;letI be:=y.2.2.2;ah z4.1 z4.2.1 z4.2.2.1 ao.1 ao.2.1 ao.2.2.1 y.1 y.2.1 y.2.2.1 be.1 be.2.1 be.2.2.1 (a (be.2.2.2.2.2.2.2+1))) (fun w4=>some (Â w4))) (v.bind fun y3=>aw y3 (fun z4=>letI ap:=z4.2.2.2;letI aa:=ap.2.2.2;letI aq:=aa.2.2.2;ah z4.1 z4.2.1 z4.2.2.1 ap.1 ap.2.1 ap.2.2.1 aa.1 aa.2.1 aa.2.2.1 aq.1 aq.2.1 aq.2.2.1 (a (aq.2.2.2.2.2.2.2+1))) (fun w4=>some (Â w4))))) (cond ai (o.bind fun y2=>aw y2 (fun z3=>letI ar:=z3.2.2.2;letI ab:=ar.2.2.2;letI au:=ab.2.2.2;ah z3.1 z3.2.1 z3.2.2.1 ar.1 ar.2.1 ar.2.2.1 ab.1 ab.2.1 ab.2.2.1 au.1 au.2.1 au.2.2.1 (a (au.2.2.2.2.2.2.2+1))) (fun w3=>some (Â w3))) (v.bind fun y2=>aw y2 (fun z3=>letI av:=z3.2.2.2;letI ac:=av.2.2.2;letI ax:=ac.2.2.2;ah z3.1 z3.2.1 z3.2.2.1 av.1 av.2.1 av.2.2.1 ac.1 ac.2.1 ac.2.2.1 ax.1 ax.2.1 ax.2.2.1 (a (ax.2.2.2.2.2.2.2+1))) (fun w3=>some (Â w3))))) (some (Á aj))) (some (Á aj)):=by kernel_rfl
theorem Rp (n m h i j k p q r s t u g b d f):lk n (m+1) h i j k p q r s t u g b d f=letI c:=wrap .i64 (b+1);letI a:=lk n m h i j k p q r s t u g;cond (decide (b<256)) (cond (decide (0<=b/\b<(f.length:Int))) ((aN f (À b)).bind fun z=>cond z (cond (Å (d.length+1) aC) (a c (d++[Ä (À (wrap .u8 b))]) f) none) (a c d f)) none) (some (Á (h,i,j,k,p,q,r,s,t,u,g,d))):=by kernel_rfl
theorem arY (n b d f g h):vC (n+1) b d f g h=(vD n n b d f g h 0 0).bind fun i=>aw i (fun j=>some (wrap .i64 (j+1))) (fun k=>some k):=by kernel_rfl
theorem Rq (n m h i j k d f g):vD n (m+1) h i j k d f g=cond (decide (f<(d.length:Int))) ((fR d f).bind fun b=>(vC n b.1 b.2.1 b.2.2.1 b.2.2.2.1 b.2.2.2.2).bind fun p=>(qP n g p).bind fun q=>vD n m h i j k d (wrap .i64 (f+1)) q) (some (Á g)):=by kernel_rfl
theorem Rr (n b d):qP (n+1) b d=cond (decide (d<b)) (some b) (some d):=by kernel_rfl
theorem arZ (n d f):Ha (n+1) d f=((cq n d 0 300).bind fun g=>cond g (some (decide ((f.length:Int)<=1500))) (some false)).bind fun b=>some b:=by kernel_rfl
theorem asA (n b):zT (n+1) b=(vE n n 0 b).bind fun d=>aw d (fun f=>some ((f.length:Int)==3)) (fun g=>some g):=by kernel_rfl
theorem Rs (n m d b):vE n (m+1) d b=cond (decide (d<(b.length:Int))) ((ar b d).bind fun f=>(cq n f 0 100000).bind fun g=>cond (!g) (some (Â false)) (vE n m (wrap .i64 (d+1)) b)) (some (Á b)):=by kernel_rfl
theorem Rt (n x0 x1 x2 x3 x4 x5 x6 x7 x8 x9 d f g h i j k m p q r s t u z ad ae af ag ah b):Hb (n+1) x0 x1 x2 x3 x4 x5 x6 x7 x8 x9 d f g h i j k m p q r s t u z ad ae af ag ah b=((cq n b 1 5).bind fun y0=>cond (!y0) (some true) ((cq n x4 0 (wrap .i64 (b-1))).bind fun y1=>cond (!y1) (some true) ((Hc n x0 x1 x2 x3 x5 x6 x7 x8 x9 d f g h i j).bind fun y2=>cond (!y2) (some true) (cond (decide (b<=x6)) (some true) ((cq n k 0 2).bind fun y3=>cond (!y3) (some true) (cond ((m.length:Int) !=b) (some true) (cond ((p.length:Int) !=b) (some true) (some ((q.length:Int) !=b))))))))).bind fun ay=>cond ay (some false) ((zU n x7 x8 x9).bind fun az=>(vF n n x4 x5 x6 x7 x8 x9 d f g h i j k m p q r s t u z ad ae af ag ah x0 x1 x2 x3 0 az.1 b).bind fun a1=>aw a1 (fun z23=>letI v:=z23.2.2.2;letI e:=v.2.2.2.2;letI w:=e.2.2.2.2;letI a:=w.2.2.2.2;letI x:=a.2.2.2.2;letI l:=x.2.2.2.2;letI y:=l.2.2.2.2;(vG n n z23.1 z23.2.1 z23.2.2.1 v.1 v.2.1 v.2.2.1 v.2.2.2.1 e.1 e.2.1 e.2.2.1 e.2.2.2.1 w.1 w.2.1 w.2.2.1 w.2.2.2.1 a.1 a.2.1 a.2.2.1 a.2.2.2.1 x.1 x.2.1 x.2.2.1 x.2.2.2.1 l.1 l.2.1 l.2.2.1 l.2.2.2.1 y.1 y.2.1 y.2.2.1 0 y.2.2.2.1 y.2.2.2.2).bind fun a6=>aw a6 (fun z24=>letI c:=z24.2.2.2.2.2.2.2.2.2.2.2.2.2.2.2.2;letI ab:=c.2.2.2;letI o:=ab.2.2.2;letI aa:=o.2.2.2.2;((cq n c.1 z24.2.2.2.1 aa.2.2.2.2).bind fun a7=>cond a7 ((zV n aa.1 aa.2.1 aa.2.2.1 aa.2.2.2.1 c.2.1 c.2.2.1 ab.1 ab.2.1 ab.2.2.1 o.1).bind fun a8=>cond a8 ((Hh n o.2.1 o.2.2.1).bind fun bd=>cond bd (some (decide ((z24.2.2.2.2.2.2.2.2.2.2.2.2.2.2.2.2.2.2.2.2.2.2.2.2.2.1.length:Int)<=40))) (some false)) (some false)) (some false)).bind fun bf=>some bf) (fun bg=>some bg)) (fun bh=>some bh)):=by kernel_rfl
theorem Ru (n m x0 x1 x2 x3 x4 x5 x6 x7 x8 x9 i j k p f g q r s t u z ad ae af ag ah ai aj ak b d h):vF n (m+1) x0 x1 x2 x3 x4 x5 x6 x7 x8 x9 i j k p f g q r s t u z ad ae af ag ah ai aj ak b d h=letI a:=wrap .i64;cond (decide (b<h)) ((ar f b).bind fun y0=>(cq n y0 1 (a (d+1))).bind fun y1=>cond (!y1) (some (Â false)) ((ar g b).bind fun y2=>(cq n y2 0 d).bind fun y3=>cond (!y3) (some (Â false)) (vF n m x0 x1 x2 x3 x4 x5 x6 x7 x8 x9 i j k p f g q r s t u z ad ae af ag ah ai aj ak (a (b+1)) d h))) (some (Á (x0,x1,x2,x3,x4,x5,x6,x7,x8,x9,i,j,k,p,f,g,q,r,s,t,u,z,ad,ae,af,ag,ah,ai,aj,ak,h,d))):=by kernel_rfl
theorem Rv (n m x0 x1 x2 x3 x4 x5 x6 x7 x8 x9 g h i j k p q r s t u z ad ae af b ag ah ai aj d ak al):vG n (m+1) x0 x1 x2 x3 x4 x5 x6 x7 x8 x9 g h i j k p q r s t u z ad ae af b ag ah ai aj d ak al=cond (decide (d<(b.length:Int))) ((ar b d).bind fun f=>letI a:=f.2.2.2.2;(Aa n f.1 f.2.1 f.2.2.1 f.2.2.2.1 a.1 a.2.1 a.2.2.1 a.2.2.2.1 a.2.2.2.2.1 a.2.2.2.2.2 ak).bind fun y1=>cond (!y1) (some (Â false)) ((ar b d).bind fun y2=>cond (y2.2.1 !=x0) (some (Â false)) (vG n m x0 x1 x2 x3 x4 x5 x6 x7 x8 x9 g h i j k p q r s t u z ad ae af b ag ah ai aj (wrap .i64 (d+1)) ak al))) (some (Á (x0,x1,x2,x3,x4,x5,x6,x7,x8,x9,g,h,i,j,k,p,q,r,s,t,u,z,ad,ae,af,b,ag,ah,ai,aj,al))):=by kernel_rfl
theorem asB (n q r s t i u j k m z b d f g h):Hc (n+1) q r s t i u j k m z b d f g h=(zU n j k m).bind fun y0=>((cq n i 0 300).bind fun y1=>cond y1 ((cq n u (-1) 4).bind fun y2=>cond y2 ((Hd n j k m).bind fun y3=>cond y3 (cond (decide (y0.2<=i)) ((zV n q r s t z b d f g h).bind fun y4=>some y4) (some false)) (some false)) (some false)) (some false)).bind fun p=>some p:=by kernel_rfl
theorem asC (n d f b):zU (n+1) d f b=letI c:=wrap .i64;letI a:=(b.length:Int);cond (a==0) (some (d,f)) ((ar b (c (a-1))).bind fun g=>some (c (d+a),g.1)):=by kernel_rfl
theorem Rw (n b d f):Hd (n+1) b d f=((cq n b 0 300).bind fun j=>cond (!j) (some true) ((cq n d 0 300).bind fun k=>cond (!k) (some true) (some (decide ((wrap .i64 (300-b))<(f.length:Int)))))).bind fun g=>cond g (some false) ((vH n n b d f 0 d).bind fun h=>aw h (fun _=>some true) (fun i=>some i)):=by kernel_rfl
theorem Rx (n m g h b d i):vH n (m+1) g h b d i=cond (decide (d<(b.length:Int))) ((ar b d).bind fun j=>(cq n j.1 i 300).bind fun k=>cond (!k) (some (Â false)) ((ar b d).bind fun f=>(sD n f.2.1 f.2.2.1 f.2.2.2).bind fun p=>cond (!p) (some (Â false)) ((ar b d).bind fun q=>vH n m g h b (wrap .i64 (d+1)) q.1))) (some (Á ())):=by kernel_rfl
theorem asD (n f g d):sD (n+1) f g d=cond (f==(-1:Int)) ((cond (g==0) (some (d==([]:O))) (some false)).bind fun b=>some b) (((cq n f 0 2).bind fun h=>cond h ((cq n g 1 100000).bind fun i=>cond i (cond (decide ((d.length:Int)<=60)) ((He n d).bind fun j=>some j) (some false)) (some false)) (some false)).bind fun b=>some b):=by kernel_rfl
theorem asE (n b):He (n+1) b=(vJ n n 0 b).bind fun d=>aw d (fun _=>some true) (fun f=>some f):=by kernel_rfl
theorem Ry (n m b d):vJ n (m+1) b d=cond (decide (b<(d.length:Int))) ((bG d b).bind fun f=>cond (((f).toNat:Int)==10) (some (Â false)) (vJ n m (wrap .i64 (b+1)) d)) (some (Á ())):=by kernel_rfl
theorem asF (n f g h i j k m p q r):zV (n+1) f g h i j k m p q r=(vK n n j k m p q r f g h i 0).bind fun s=>aw s (fun b=>letI a:=b.2.2.2.2.2.2;((vu n a.1 a.2.1 a.2.2.1 a.2.2.2).bind fun t=>cond t ((Hf n b.1 b.2.1 b.2.2.1 b.2.2.2.1 (b.2.2.2.2.2.2.1.length:Int) (b.2.2.2.2.2.2.2.1.length:Int)).bind fun u=>cond u (cond ((b.2.2.2.2.1.length:Int)==3) (some (decide ((b.2.2.2.2.2.1.length:Int)<=1500))) (some false)) (some false)) (some false)).bind fun d=>some d) (fun z=>some z):=by kernel_rfl
theorem Rz (n m f g h i d j k p q r b):vK n (m+1) f g h i d j k p q r b=cond (decide (b<(d.length:Int))) ((ar d b).bind fun s=>(cq n s 0 100000).bind fun t=>cond (!t) (some (Â false)) (vK n m f g h i d j k p q r (wrap .i64 (b+1)))) (some (Á (f,g,h,i,d,j,k,p,q,r))):=by kernel_rfl
theorem asG (n f g h i j k):Hf (n+1) f g h i j k=(vL n n f g h i 0 k j).bind fun m=>aw m (fun b=>(sE n n b.1 b.2.1 b.2.2.1 b.2.2.2.1 0 b.2.2.2.2.1 b.2.2.2.2.2).bind fun p=>aw p (fun z2=>(cond ((z2.1.length:Int)==z2.2.2.2.2) (cond (decide ((z2.2.1.length:Int)<=40)) ((cq n z2.2.2.1 0 1000000).bind fun q=>cond q ((cq n z2.2.2.2.1 0 7).bind fun r=>some r) (some false)) (some false)) (some false)).bind fun d=>some d) (fun s=>some s)) (fun t=>some t):=by kernel_rfl
theorem RA (n m b f g h d i j):vL n (m+1) b f g h d i j=cond (decide (d<(b.length:Int))) ((ar b d).bind fun k=>(zW n k.1 k.2.1 k.2.2).bind fun p=>cond (!p) (some (Â false)) (vL n m b f g h (wrap .i64 (d+1)) i j)) (some (Á (b,f,g,h,i,j))):=by kernel_rfl
theorem RB (n m h d i j f k p):sE n (m+1) h d i j f k p=letI c:=wrap .i64;letI a:=sE n m h d i j (c (f+1)) k p;cond (decide (f<(d.length:Int))) ((ar d f).bind fun b=>cond (decide (b.1<0)) (some (Â false)) (cond (decide (k<=b.1)) (some (Â false)) (cond (decide (300<(b.2.1.length:Int))) (some (Â false)) ((zW n b.2.2.1 b.2.2.2.1 b.2.2.2.2).bind fun q=>cond (!q) (some (Â false)) (cond (decide (0<f)) ((ar d (c (f-1))).bind fun g=>(zZ n g.1 g.2.1 g.2.2.1 g.2.2.2.1 g.2.2.2.2 b.1 b.2.1).bind fun r=>cond (!r) (some (Â false)) a) a))))) (some (Á (h,d,i,j,p))):=by kernel_rfl
theorem RC (n b d f):zW (n+1) b d f=letI a:=f==([]:O);((cq n b 0 3).bind fun k=>cond (!k) (some true) ((iL n d).bind fun m=>cond (!m) (some true) (some (decide (300<(f.length:Int)))))).bind fun h=>cond h (some false) (cond (b==0) ((cond (d==0) (some a) (some false)).bind fun i=>some i) (cond (b==1) (some a) (cond (b==2) (some (d==0)) ((vM n f).bind fun g=>(cond g.2 (some (g.1==d)) (some false)).bind fun j=>some j)))):=by kernel_rfl
theorem asH (n b):vM (n+1) b=(zY n b).bind fun d=>cond (d.2==0) (some ((0:Int),false)) ((zX n n d.2 b d.1).bind fun f=>aw f (fun z2=>some (z2,true)) (fun g=>some g)):=by kernel_rfl
theorem JM (n m b d f):zX n (m+1) b d f=cond (decide (b<(d.length:Int))) ((bG d b).bind fun g=>cond (((g).toNat:Int) !=32) (some (Â ((0:Int),false))) (zX n m (wrap .i64 (b+1)) d f)) (some (Á f)):=by kernel_rfl
theorem asI (n u):zY (n+1) u=letI l:=((0:Int),(0:Int));letI a:=wrap .i64;(vN n n 0 u).bind fun z=>aw z (fun b=>letI x:=bG b.1 b.2;letI o:=decide (b.2<(b.1.length:Int));(cond o (x.bind fun y1=>some (((y1).toNat:Int)==45)) (some false)).bind fun q=>(cond o (x.bind fun r=>cond (((r).toNat:Int)==45) (some true) (x.bind fun s=>some (((s).toNat:Int)==43))) (some false)).bind fun t=>cond t ((oY n n 0 (a (b.2+1)) b.1 (0:Int) q).bind fun d=>aw d (fun z44=>letI c:=z44.2.2;letI v:=a (c.2.2+1);(cond (decide (v<(z44.2.1.length:Int))) ((bG z44.2.1 c.2.2).bind fun f=>cond (((f).toNat:Int)==46) ((bG z44.2.1 v).bind fun g=>(ll n (Ä (À ((g).toNat:Int)))).bind fun h=>some h) (some false)) (some false)).bind fun i=>cond i ((qQ n n v z44.1 (100000:Int) z44.2.1 c.1 c.2.1).bind fun j=>aw j (fun z66=>(cond (z66.2.2.2==0) (some true) (some (decide (9000000000000<z66.2.1)))).bind fun k=>cond k (some l) (cond z66.2.2.1 (some (a (0-z66.2.1),z66.1)) (some (z66.2.1,z66.1)))) (fun m=>some m)) ((cond (z44.1==0) (some true) (some (decide (9000000000000<c.1)))).bind fun p=>cond p (some l) (cond c.2.1 (some (a (0-c.1),c.2.2)) (some (c.1,c.2.2))))) (fun nG=>some nG)) ((oY n n 0 b.2 b.1 0 q).bind fun d=>aw d (fun z44=>letI e:=z44.2.2;letI w:=a (e.2.2+1);(cond (decide (w<(z44.2.1.length:Int))) ((bG z44.2.1 e.2.2).bind fun f=>cond (((f).toNat:Int)==46) ((bG z44.2.1 w).bind fun g=>(ll n (Ä (À ((g).toNat:Int)))).bind fun h=>some h) (some false)) (some false)).bind fun i=>cond i ((qQ n n w z44.1 (100000:Int) z44.2.1 e.1 e.2.1).bind fun j=>aw j (fun z66=>(cond (z66.2.2.2==0) (some true) (some (decide (9000000000000<z66.2.1)))).bind fun k=>cond k (some l) (cond z66.2.2.1 (some (a (0-z66.2.1),z66.1)) (some (z66.2.1,z66.1)))) (fun m=>some m)) ((cond (z44.1==0) (some true) (some (decide (9000000000000<e.1)))).bind fun p=>cond p (some l) (cond e.2.1 (some (a (0-e.1),e.2.2)) (some (e.1,e.2.2))))) (fun nG=>some nG))) (fun w1=>some w1):=by kernel_rfl
theorem JN (n m b d):vN n (m+1) b d=cond (decide (b<(d.length:Int))) ((bG d b).bind fun f=>cond (((f).toNat:Int)==32) (vN n m (wrap .i64 (b+1)) d) (some (Á (d,b)))) (some (Á (d,b))):=by kernel_rfl
theorem JO (n m g b d f h):oY n (m+1) g b d f h=letI a:=wrap .i64;cond (decide (b<(d.length:Int))) ((bG d b).bind fun i=>(ll n (Ä (À ((i).toNat:Int)))).bind fun j=>cond j (cond (decide (f<=9000000000000)) ((bG d b).bind fun k=>oY n m (a (g+1)) (a (b+1)) d (a ((a (10*f))+(a ((a ((a ((k).toNat:Int))-48))*1000000)))) h) (oY n m (a (g+1)) (a (b+1)) d f h)) (some (Á (g,d,f,h,b)))) (some (Á (g,d,f,h,b))):=by kernel_rfl
theorem JP (n m b f i d g h):qQ n (m+1) b f i d g h=letI a:=wrap .i64;cond (decide (b<(d.length:Int))) ((bG d b).bind fun j=>(ll n (Ä (À ((j).toNat:Int)))).bind fun k=>cond k ((bG d b).bind fun p=>qQ n m (a (b+1)) (a (f+1)) (a (Æ i (10:Int))) d (a (g+(a ((a ((a ((p).toNat:Int))-48))*i)))) h) (some (Á (b,g,h,f)))) (some (Á (b,g,h,f))):=by kernel_rfl
theorem asJ (n b):ll (n+1) b=letI a:=((b).toNat:Int);(cond (decide (48<=a)) (some (decide (a<=57))) (some false)).bind fun d=>some d:=by kernel_rfl
theorem asK (n b g i j k d h):zZ (n+1) b g i j k d h=(cond (decide (b<d)) (some true) (cond (b==d) (some (Op.bytesLess g h)) (some false))).bind fun f=>some f:=by kernel_rfl
theorem asL (n r d f g s t u z x8 x9 b):Aa (n+1) r d f g s t u z x8 x9 b=letI a:=wrap .i64 (b-1);((cq n r 1 5).bind fun y0=>cond (!y0) (some true) ((cq n b 1 5).bind fun y1=>cond (!y1) (some true) ((cq n d 0 a).bind fun y2=>cond (!y2) (some true) ((cq n f 0 a).bind fun y3=>cond (!y3) (some true) (some (d==f)))))).bind fun h=>cond h (some false) (((cq n g 0 300).bind fun i=>cond i ((cq n s 0 300).bind fun j=>cond j ((cq n t 0 300).bind fun k=>cond k ((cq n u 0 300).bind fun m=>cond m ((Hg n z g).bind fun p=>cond p (some (decide ((x9.length:Int)<=30000))) (some false)) (some false)) (some false)) (some false)) (some false)).bind fun q=>some q):=by kernel_rfl
theorem asM (n b d):Hg (n+1) b d=(vO n n 0 b d).bind fun f=>aw f (fun g=>some (decide ((g.length:Int)<=40))) (fun h=>some h):=by kernel_rfl
theorem RD (n m d b f):vO n (m+1) d b f=cond (decide (d<(b.length:Int))) ((ar b d).bind fun h=>(cq n h.1 0 f).bind fun i=>cond (!i) (some (Â false)) ((ar b d).bind fun g=>(sD n g.2.1 g.2.2.1 g.2.2.2).bind fun j=>cond (!j) (some (Â false)) (vO n m (wrap .i64 (d+1)) b f))) (some (Á b)):=by kernel_rfl
theorem asN (n b f):Hh (n+1) b f=(cond (decide ((b.length:Int)<=80000)) ((cq n f 0 (b.length:Int)).bind fun g=>some g) (some false)).bind fun d=>some d:=by kernel_rfl
theorem asO (n d f g h i):Ab (n+1) d f g h i=(vu n d f g h).bind fun j=>cond (!j) (some (([]:ae),([]:ai),(0:Int),(0:Int),([]:ag),([]:O))) ((Hj n d f g h).bind fun b=>(vP n n b.1 b.2.1 b.2.2.1 b.2.2.2.1 b.2.2.2.2.1 b.2.2.2.2.2 d f g h 0 0 ([]:O) 0 i).bind fun k=>aw k (fun z3=>letI a:=z3.2.2.2.2;some (z3.2.2.2.1,a.1,a.2.1,a.2.2.1,a.2.2.2.1,a.2.2.2.2)) (fun m=>some m)):=by kernel_rfl
theorem JQ (n m j k p q r s t u z x9 f g h b d):vP n (m+1) j k p q r s t u z x9 f g h b d=letI a:=wrap .i64 (b+1);cond (decide (b<(d.length:Int))) ((ar d b).bind fun y0=>(sD n y0.1 y0.2.1 y0.2.2).bind fun y1=>cond y1 ((ar d b).bind fun y2=>(HK n t u z x9 j k p q r s y2.1 y2.2.1 y2.2.2).bind fun i=>vP n m i.1 i.2.1 i.2.2.1 i.2.2.2.1 i.2.2.2.2.1 i.2.2.2.2.2 t u z x9 f g h a d) (vP n m j k p q r s t u z x9 f g h a d)) (some (Á (f,g,h,j,k,p,q,r,s))):=by kernel_rfl
theorem asP (n d f g h):Hj (n+1) d f g h=letI c:=À (3:Int);letI a:=decide ((0:Int)<=3/\(3:Int)<=3/\(3:Int)<=(aC:Int));(Hk n d f g h).bind fun b=>cond (decide (1500<(b.2.2.2.2.length:Int))) ((Ac n (d.length:Int)).bind fun i=>cond a (some (i.1,([]:ai),i.2.1,(5:Int),Ã c (0:Int),([]:O))) none) (cond a (some (b.1,b.2.1,b.2.2.1,b.2.2.2.1,Ã c (0:Int),b.2.2.2.2)) none):=by kernel_rfl
theorem asQ (n h j i k):Hk (n+1) h j i k=(Ac n (h.length:Int)).bind fun d=>(oZ n d.1 ([]:ai) d.2.1 d.2.2).bind fun g=>(pa n g.1 g.2.1 g.2.2.1 g.2.2.2 ([]:af) ([]:af) ([]:O) ([]:af) ([]:O) 0 false i).bind fun b=>letI a:=b.2.2.2.2.2;(wh n b.1 b.2.1 b.2.2.1 b.2.2.2.1 b.2.2.2.2.1 a.1 a.2.1 a.2.2.1 a.2.2.2.1 a.2.2.2.2.1 a.2.2.2.2.2 d.1 ([]:ai) d.2.1 d.2.2).bind fun f=>some (f.1,f.2.1,f.2.2.1,f.2.2.2.1,f.2.2.2.2.1):=by kernel_rfl
theorem asR (n d):Ac (n+1) d=(Ad n d 8).bind fun f=>(qP n 0 f).bind fun b=>cond (decide (0<=b/\b<=b/\b<=(aC:Int))) (some (Ã (À b) ((0:Int),(0:Int),([]:O)),(0:Int),(0:Int))) none:=by kernel_rfl
theorem asT (n b d):Ad (n+1) b d=cond (decide (b<d)) (some b) (some d):=by kernel_rfl
theorem asU (n b d f g):oZ (n+1) b d f g=cond (Å (0+b.length) aC) (cond (Å (0+d.length) aC) (some (b,d,f,g)) none) none:=by kernel_rfl
theorem RE (n g h i j k m p q r s d f):pa (n+1) g h i j k m p q r s d f=(vQ n n g h i j k m p q r s d ([]:ae) 0 0 f).bind fun t=>aw t (fun b=>letI a:=b.2.2.2.2.2;some (b.1,b.2.1,b.2.2.1,b.2.2.2.1,b.2.2.2.2.1,a.1,a.2.1,a.2.2.1,a.2.2.2.1,a.2.2.2.2.1,a.2.2.2.2.2)) (fun u=>some u):=by kernel_rfl
theorem tb (n m p q r j s t u z x8 x9 f k g h i):vQ n (m+1) p q r j s t u z x8 x9 f k g h i=cond (j==0) (cond (g==20000) ((ig n p q r j s t u z x8 x9 f 6).bind fun d=>letI c:=d.2.2.2.2.2;some (Â (d.1,d.2.1,d.2.2.1,d.2.2.2.1,d.2.2.2.2.1,c.1,c.2.1,c.2.2.1,c.2.2.2.1,c.2.2.2.2.1,c.2.2.2.2.2))) ((ar i h).bind fun d=>(Ae n p q r j s t u z x8 x9 f k d.1 d.2.1 d.2.2 h).bind fun b=>letI l:=b.2.2.2;letI a:=l.2.2.2;letI e:=a.2.2.2;letI o:=e.2.2;cond (!b.2.1) (some (Â (b.2.2.1,l.1,l.2.1,l.2.2.1,a.1,a.2.1,a.2.2.1,e.1,e.2.1,o.1,o.2.1))) (vQ n m b.2.2.1 l.1 l.2.1 l.2.2.1 a.1 a.2.1 a.2.2.1 e.1 e.2.1 o.1 o.2.1 o.2.2 (wrap .i64 (g+1)) b.1 i))) (some (Á (p,q,r,j,s,t,u,z,x8,x9,f))):=by kernel_rfl
theorem asV (n f g h i j k m p q r b d):ig (n+1) f g h i j k m p q r b d=cond (i==0) (some (f,g,h,d,j,k,m,p,q,r,b)) (some (f,g,h,i,j,k,m,p,q,r,b)):=by kernel_rfl
theorem mD (n m p q r s t u z x8 x9 h b g j k i):Ae (n+1) m p q r s t u z x8 x9 h b g j k i=letI ai:=mo n m p q r s t u z x8 x9 h;letI e:=wrap .i64;(Af n g j k).bind fun f=>letI v:=e ((b.length:Int)-f);letI ao:=decide (0<=v/\v<=(b.length:Int));letI a:=À v;letI an:=(j,true,m,p,q,r,s,t,u,z,x8,x9,h,b.take a);letI am:=(e (i+1),true,m,p,q,r,s,t,u,z,x8,x9,h,b.take a);letI o:=(b.drop a).take (b.length-a);letI w:=decide ((0:Int)<=0/\(0:Int)<(o.length:Int));letI l:=Å a b.length;letI c:=my n m p q r s t u z x8 x9 h (b.take a) g j k o;cond (decide (v<0)) ((ig n m p q r s t u z x8 x9 h 7).bind fun d=>letI aj:=d.2.2.2.2.2;some (i,false,d.1,d.2.1,d.2.2.1,d.2.2.2.1,d.2.2.2.2.1,aj.1,aj.2.1,aj.2.2.1,aj.2.2.2.1,aj.2.2.2.2.1,aj.2.2.2.2.2,b)) (cond ao (cond (Å (0+o.length) aC) (cond ao (cond (g==36) (cond l (some (i,false,m,p,q,r,s,t,u,z,x8,x9,h,b.take a)) none) (cond (g==30) (cond l (some an) none) (cond (g==31) (cond w ((aN o 0).bind fun d=>(vR n d.1 d.2.1 d.2.2).bind fun y2=>cond (!y2) (cond l (some an) none) (cond l (some am) none)) none) (cond (g==32) (cond l (some am) none) (cond (g==33) (cond (j==1) ((ai ([32]:O)).bind fun d=>letI ak:=d.2.2.2.2.2;cond w ((aN o 0).bind fun y2=>(gj n y2.1 y2.2.1 y2.2.2).bind fun y3=>(mo n d.1 d.2.1 d.2.2.1 d.2.2.2.1 d.2.2.2.2.1 ak.1 ak.2.1 ak.2.2.1 ak.2.2.2.1 ak.2.2.2.2.1 ak.2.2.2.2.2 y3).bind fun y4=>letI ag:=y4.2.2.2.2.2;cond l (some (e (i+1),true,y4.1,y4.2.1,y4.2.2.1,y4.2.2.2.1,y4.2.2.2.2.1,ag.1,ag.2.1,ag.2.2.1,ag.2.2.2.1,ag.2.2.2.2.1,ag.2.2.2.2.2,b.take a)) none) none) (cond w ((aN o 0).bind fun d=>(gj n d.1 d.2.1 d.2.2).bind fun y2=>(ai y2).bind fun y3=>letI ah:=y3.2.2.2.2.2;cond l (some (e (i+1),true,y3.1,y3.2.1,y3.2.2.1,y3.2.2.2.1,y3.2.2.2.2.1,ah.1,ah.2.1,ah.2.2.1,ah.2.2.2.1,ah.2.2.2.2.1,ah.2.2.2.2.2,b.take a)) none) none)) (cond (g==34) ((ai ([10]:O)).bind fun d=>letI al:=d.2.2.2.2.2;cond l (some (e (i+1),true,d.1,d.2.1,d.2.2.1,d.2.2.2.1,d.2.2.2.2.1,al.1,al.2.1,al.2.2.1,al.2.2.2.1,al.2.2.2.2.1,al.2.2.2.2.2,b.take a)) none) (cond (g==3) (cond l (c.bind fun d=>letI x:=d.2.2.2.2.2;letI ax:=x.2.2.2;some (e (i+1),true,d.1,d.2.1,d.2.2.1,d.2.2.2.1,d.2.2.2.2.1,x.1,x.2.1,x.2.2.1,ax.1,ax.2.1,ax.2.2.1,ax.2.2.2)) none) (cond (g==4) (cond l (c.bind fun d=>letI y:=d.2.2.2.2.2;letI ay:=y.2.2.2;some (e (i+1),true,d.1,d.2.1,d.2.2.1,d.2.2.2.1,d.2.2.2.2.1,y.1,y.2.1,y.2.2.1,ay.1,ay.2.1,ay.2.2.1,ay.2.2.2)) none) (cond (g==5) (cond l (c.bind fun d=>letI aa:=d.2.2.2.2.2;letI ap:=aa.2.2.2;some (e (i+1),true,d.1,d.2.1,d.2.2.1,d.2.2.2.1,d.2.2.2.2.1,aa.1,aa.2.1,aa.2.2.1,ap.1,ap.2.1,ap.2.2.1,ap.2.2.2)) none) (cond (g==6) (cond l (c.bind fun d=>letI ab:=d.2.2.2.2.2;letI aq:=ab.2.2.2;some (e (i+1),true,d.1,d.2.1,d.2.2.1,d.2.2.2.1,d.2.2.2.2.1,ab.1,ab.2.1,ab.2.2.1,aq.1,aq.2.1,aq.2.2.1,aq.2.2.2)) none) (cond (g==7) (cond l (c.bind fun d=>letI ac:=d.2.2.2.2.2;letI ar:=ac.2.2.2;some (e (i+1),true,d.1,d.2.1,d.2.2.1,d.2.2.2.1,d.2.2.2.2.1,ac.1,ac.2.1,ac.2.2.1,ar.1,ar.2.1,ar.2.2.1,ar.2.2.2)) none) (cond (g==8) (cond l (c.bind fun d=>letI ad:=d.2.2.2.2.2;letI au:=ad.2.2.2;some (e (i+1),true,d.1,d.2.1,d.2.2.1,d.2.2.2.1,d.2.2.2.2.1,ad.1,ad.2.1,ad.2.2.1,au.1,au.2.1,au.2.2.1,au.2.2.2)) none) (cond (g==35) (cond l (c.bind fun d=>letI ae:=d.2.2.2.2.2;letI av:=ae.2.2.2;some (e (i+1),true,d.1,d.2.1,d.2.2.1,d.2.2.2.1,d.2.2.2.2.1,ae.1,ae.2.1,ae.2.2.1,av.1,av.2.1,av.2.2.1,av.2.2.2)) none) (cond l ((Ak n m p q r s t u z x8 x9 h (b.take a) g j k o).bind fun d=>letI af:=d.2.2.2.2.2;letI aw:=af.2.2.2;some (e (i+1),true,d.1,d.2.1,d.2.2.1,d.2.2.2.1,d.2.2.2.2.1,af.1,af.2.1,af.2.2.1,aw.1,aw.2.1,aw.2.2.1,aw.2.2.2)) none)))))))))))))) none) none) none):=by kernel_rfl
theorem asW (n b d f):Af (n+1) b d f=cond (b==1) (some (0:Int)) (cond (b==2) (some (0:Int)) (cond (b==3) (some (0:Int)) (cond (b==10) (some (0:Int)) (cond (b==11) (some (0:Int)) (cond (b==25) (some (0:Int)) (cond (b==30) (some (0:Int)) (cond (b==34) (some (0:Int)) (cond (b==36) (some (0:Int)) (cond (b==7) (some (2:Int)) (cond (b==8) (some (2:Int)) (cond (b==29) (some d) ((cq n b 12 23).bind fun g=>cond g (some (2:Int)) (some (1:Int)))))))))))))):=by kernel_rfl
theorem asX (n b d f):vR (n+1) b d f=cond (b==1) (some (d !=0)) (cond (b==3) (some (d !=0)) (cond (b==2) (some (!(f==([]:O)))) (some false))):=by kernel_rfl
theorem asY (n h i j k m p q r g s f d):mo (n+1) h i j k m p q r g s f d=cond (decide (600<(wrap .i64 ((g.length:Int)+(d.length:Int))))) ((ig n h i j k m p q r g s f 5).bind fun b=>letI a:=b.2.2.2.2.2;some (b.1,b.2.1,b.2.2.1,b.2.2.2.1,b.2.2.2.2.1,a.1,a.2.1,a.2.2.1,a.2.2.2.1,a.2.2.2.2.1,a.2.2.2.2.2)) (cond (Å (g.length+d.length) mx) (some (h,i,j,k,m,p,q,r,g++d,s,f)) none):=by kernel_rfl
theorem asZ (n b d f):gj (n+1) b d f=cond (b==1) ((Hl n d).bind fun g=>some g) (some f):=by kernel_rfl
theorem RF (n b):Hl (n+1) b=letI k:=wrap .i64;(iL n b).bind fun h=>cond (!h) (some ([]:O)) ((vT n b).bind fun f=>letI c:=Ç f (1000000:Int);(Ah n (k (Æ f (1000000:Int)))).bind fun d=>cond (decide (0<c)) ((Ah n (k (1000000+c))).bind fun g=>cond (decide ((0:Int)<=1/\(1:Int)<=(g.length:Int))) ((Ag n n ((g.drop 1).take (g.length-1)) b d).bind fun i=>aw i (fun z5=>letI a:=z5.2.2++([46]:O);letI e:=a++z5.2.1;cond (Å (z5.2.2.length+1) mx) (cond (Å (a.length+z5.2.1.length) mx) (cond (decide (z5.1<0)) (cond (Å (1+e.length) mx) (some (([45]:O)++e)) none) (some e)) none) none) (fun j=>some j)) none) (cond (decide (b<0)) (cond (Å (1+d.length) mx) (some (([45]:O)++d)) none) (some d))):=by kernel_rfl
theorem atA (n m b d f):Ag n (m+1) b d f=letI a:=wrap .i64 ((b.length:Int)-1);(bG b a).bind fun g=>cond (((g).toNat:Int)==48) (cond (decide (0<=a/\a<=(b.length:Int))) (Ag n m (b.take ((À a)-0)) d f) none) (some (Á (d,b,f))):=by kernel_rfl
theorem atB (n b):vT (n+1) b=cond (decide (b<0)) (some (wrap .i64 (0-b))) (some b):=by kernel_rfl
theorem atD (n b):Ah (n+1) b=cond (decide (b<=0)) (some ([48]:O)) ((Ai n n b ([]:O)).bind fun d=>aw d (fun f=>some f) (fun g=>some g)):=by kernel_rfl
theorem RG (n m b d):Ai n (m+1) b d=letI a:=wrap .i64;cond (decide (0<b)) (cond (Å (1+d.length) mx) (Ai n m (a (Æ b (10:Int))) ([Ä (À (wrap .u8 (a (48+(Ç b (10:Int))))))]++d)) none) (some (Á d)):=by kernel_rfl
theorem rf (n q t u z x4 x5 x6 x7 x8 x9 p k r d aj m):my (n+1) q t u z x4 x5 x6 x7 x8 x9 p k r d aj m=letI ah:=vV n q t u z x4 x5 x6 x7 x8 x9 p 0;letI ag:=ej n q t u z x4 x5 x6 x7 x8 x9 p k;letI ab:=À d;letI ap:=aN q ab;letI l:=decide (0<=d/\d<(q.length:Int));letI e:=ar m (0:Int);cond (r==3) (cond l (ap.bind fun h=>(ag h.1 h.2.1 h.2.2).bind fun i=>letI o:=i.2.2.2.2.2;letI ak:=o.2.2.2;some (i.1,i.2.1,i.2.2.1,i.2.2.2.1,i.2.2.2.2.1,o.1,o.2.1,o.2.2.1,ak.1,ak.2.1,ak.2.2.1,ak.2.2.2)) none) (cond (r==4) (e.bind fun h=>cond l (ap.bind fun _=>e.bind fun j=>(ej n (q.set ab (h.1,h.2.1,h.2.2)) t u z x4 x5 x6 x7 x8 x9 p k j.1 j.2.1 j.2.2).bind fun b=>letI v:=b.2.2.2.2.2;letI al:=v.2.2.2;some (b.1,b.2.1,b.2.2.1,b.2.2.2.1,b.2.2.2.2.1,v.1,v.2.1,v.2.2.1,al.1,al.2.1,al.2.2.1,al.2.2.2)) none) (cond (r==5) (cond l (ap.bind fun h=>(gQ n h.1 h.2.1 h.2.2).bind fun i=>e.bind fun j=>(gQ n j.1 j.2.1 j.2.2).bind fun b=>(ah i b).bind fun g=>letI ae:=g.2.2.2;letI a:=ae.2.2.2;letI ac:=a.2.2.2.2;cond (a.1==0) (cond (decide (0<=d/\d<(g.2.2.2.1.length:Int))) ((aN ae.1 ab).bind fun _=>(ej n (g.2.2.2.1.set ab (g.1,g.2.1,g.2.2.1)) ae.2.1 ae.2.2.1 a.1 a.2.1 a.2.2.1 a.2.2.2.1 ac.1 ac.2.1 ac.2.2.1 ac.2.2.2 k g.1 g.2.1 g.2.2.1).bind fun f=>letI w:=f.2.2.2.2.2;letI am:=w.2.2.2;some (f.1,f.2.1,f.2.2.1,f.2.2.2.1,f.2.2.2.2.1,w.1,w.2.1,w.2.2.1,am.1,am.2.1,am.2.2.1,am.2.2.2)) none) (some (ae.1,ae.2.1,ae.2.2.1,a.1,a.2.1,a.2.2.1,a.2.2.2.1,ac.1,ac.2.1,ac.2.2.1,ac.2.2.2,k))) none) (cond (r==6) (e.bind fun h=>(sF n h.1 h.2.1 h.2.2).bind fun i=>(Aj n q t u z d i).bind fun j=>(ag j.1 j.2.1 j.2.2).bind fun b=>letI x:=b.2.2.2.2.2;letI an:=x.2.2.2;some (b.1,b.2.1,b.2.2.1,b.2.2.2.1,b.2.2.2.2.1,x.1,x.2.1,x.2.2.1,an.1,an.2.1,an.2.2.1,an.2.2.2)) (cond (r==7) (e.bind fun h=>(sF n h.1 h.2.1 h.2.2).bind fun i=>(ar m (1:Int)).bind fun j=>(vW n q t u z x4 x5 x6 x7 x8 x9 p k d i j.1 j.2.1 j.2.2).bind fun b=>letI y:=b.2.2.2.2.2;letI ao:=y.2.2.2;some (b.1,b.2.1,b.2.2.1,b.2.2.2.1,b.2.2.2.2.1,y.1,y.2.1,y.2.2.1,ao.1,ao.2.1,ao.2.2.1,ao.2.2.2)) (cond (r==8) (e.bind fun h=>(sF n h.1 h.2.1 h.2.2).bind fun i=>(Aj n q t u z d i).bind fun j=>(gQ n j.1 j.2.1 j.2.2).bind fun b=>(ar m (1:Int)).bind fun g=>(gQ n g.1 g.2.1 g.2.2).bind fun y5=>(ah b y5).bind fun f=>letI af:=f.2.2.2;letI c:=af.2.2.2;letI ad:=c.2.2.2.2;cond (c.1==0) ((vW n af.1 af.2.1 af.2.2.1 c.1 c.2.1 c.2.2.1 c.2.2.2.1 ad.1 ad.2.1 ad.2.2.1 ad.2.2.2 k d i f.1 f.2.1 f.2.2.1).bind fun s=>letI aa:=s.2.2.2.2.2;letI ai:=aa.2.2.2;some (s.1,s.2.1,s.2.2.1,s.2.2.2.1,s.2.2.2.2.1,aa.1,aa.2.1,aa.2.2.1,ai.1,ai.2.1,ai.2.2.1,ai.2.2.2)) (some (af.1,af.2.1,af.2.2.1,c.1,c.2.1,c.2.2.1,c.2.2.2.1,ad.1,ad.2.1,ad.2.2.1,ad.2.2.2,k))) (cond (r==35) (e.bind fun h=>(sF n h.1 h.2.1 h.2.2).bind fun i=>(Hr n q t u z d i).bind fun j=>some (j.1,j.2.1,j.2.2.1,j.2.2.2,x4,x5,x6,x7,x8,x9,p,k)) (some (q,t,u,z,x4,x5,x6,x7,x8,x9,p,k)))))))):=by kernel_rfl
theorem atE (n j k m p q r s t u z f b g h i):ej (n+1) j k m p q r s t u z f b g h i=cond ((b.length:Int)==64) ((ig n j k m p q r s t u z f 7).bind fun d=>letI a:=d.2.2.2.2.2;some (d.1,d.2.1,d.2.2.1,d.2.2.2.1,d.2.2.2.2.1,a.1,a.2.1,a.2.2.1,a.2.2.2.1,a.2.2.2.2.1,a.2.2.2.2.2,b)) (cond (Å (b.length+1) aC) (some (j,k,m,p,q,r,s,t,u,z,f,b++[(g,h,i)])) none):=by kernel_rfl
theorem atF (n b d f):gQ (n+1) b d f=cond (b==1) (some d) (cond (b==3) (some d) (cond (b==2) ((zY n f).bind fun g=>some g.1) (some (0:Int)))):=by kernel_rfl
theorem tc (n j k m p q r s t u z f ad i g):vV (n+1) j k m p q r s t u z f ad i g=letI a:=ig n j k m p q r s t u z f;cond (ad==0) ((Hm n i g).bind fun d=>cond (!d.2) ((a 1).bind fun b=>letI c:=b.2.2.2.2.2;(gk n d.1).bind fun h=>some (h.1,h.2.1,h.2.2,b.1,b.2.1,b.2.2.1,b.2.2.2.1,b.2.2.2.2.1,c.1,c.2.1,c.2.2.1,c.2.2.2.1,c.2.2.2.2.1,c.2.2.2.2.2)) ((gk n d.1).bind fun b=>some (b.1,b.2.1,b.2.2,j,k,m,p,q,r,s,t,u,z,f))) (cond (ad==1) ((Hn n i g).bind fun d=>cond (!d.2) ((a 1).bind fun b=>letI e:=b.2.2.2.2.2;(gk n d.1).bind fun h=>some (h.1,h.2.1,h.2.2,b.1,b.2.1,b.2.2.1,b.2.2.2.1,b.2.2.2.2.1,e.1,e.2.1,e.2.2.1,e.2.2.2.1,e.2.2.2.2.1,e.2.2.2.2.2)) ((gk n d.1).bind fun b=>some (b.1,b.2.1,b.2.2,j,k,m,p,q,r,s,t,u,z,f))) (cond (ad==2) ((Ho n i g).bind fun d=>cond (!d.2) ((a 1).bind fun b=>letI l:=b.2.2.2.2.2;(gk n d.1).bind fun h=>some (h.1,h.2.1,h.2.2,b.1,b.2.1,b.2.2.1,b.2.2.2.1,b.2.2.2.2.1,l.1,l.2.1,l.2.2.1,l.2.2.2.1,l.2.2.2.2.1,l.2.2.2.2.2)) ((gk n d.1).bind fun b=>some (b.1,b.2.1,b.2.2,j,k,m,p,q,r,s,t,u,z,f))) (cond (g==0) ((a 2).bind fun d=>letI o:=d.2.2.2.2.2;some ((0:Int),(0:Int),([]:O),d.1,d.2.1,d.2.2.1,d.2.2.2.1,d.2.2.2.2.1,o.1,o.2.1,o.2.2.1,o.2.2.2.1,o.2.2.2.2.1,o.2.2.2.2.2)) ((Hp n i g).bind fun d=>cond (ad==4) (cond (g !=0) ((gk n (Ç i g)).bind fun b=>some (b.1,b.2.1,b.2.2,j,k,m,p,q,r,s,t,u,z,f)) none) (cond (!d.2) ((a 1).bind fun b=>letI v:=b.2.2.2.2.2;(gk n d.1).bind fun h=>some (h.1,h.2.1,h.2.2,b.1,b.2.1,b.2.2.1,b.2.2.2.1,b.2.2.2.2.1,v.1,v.2.1,v.2.2.1,v.2.2.2.1,v.2.2.2.2.1,v.2.2.2.2.2)) ((gk n d.1).bind fun b=>some (b.1,b.2.1,b.2.2,j,k,m,p,q,r,s,t,u,z,f))))))):=by kernel_rfl
theorem atG (n d f):Hm (n+1) d f=((iL n d).bind fun h=>cond (!h) (some true) ((iL n f).bind fun i=>some (!i))).bind fun g=>cond g (some ((0:Int),false)) ((nx n (wrap .i64 (d+f))).bind fun b=>some (b.1,b.2)):=by kernel_rfl
theorem atH (n b):nx (n+1) b=(iL n b).bind fun d=>cond (!d) (some ((0:Int),false)) (some (b,true)):=by kernel_rfl
theorem atI (n b):gk (n+1) b=some ((1:Int),b,([]:O)):=by kernel_rfl
theorem atJ (n d f):Hn (n+1) d f=((iL n d).bind fun h=>cond (!h) (some true) ((iL n f).bind fun i=>some (!i))).bind fun g=>cond g (some ((0:Int),false)) ((nx n (wrap .i64 (d-f))).bind fun b=>some (b.1,b.2)):=by kernel_rfl
theorem JR (n g h):Ho (n+1) g h=letI l:=((0:Int),false);letI a:=wrap .i64;((iL n g).bind fun k=>cond (!k) (some true) ((iL n h).bind fun m=>some (!m))).bind fun i=>cond i (some l) ((vT n g).bind fun d=>letI e:=a (Æ d (1000000:Int));(vT n h).bind fun b=>letI c:=a ((a (e*b))+(a (Æ (a ((Ç d (1000000:Int))*b)) (1000000:Int))));(cond (decide (0<b)) (cond (b !=0) (some (decide ((a (Æ (9000000000000:Int) b))<e))) none) (some false)).bind fun j=>cond j (some l) (cond (!((decide (g<0))==(decide (h<0)))) ((nx n (a (0-c))).bind fun f=>some (f.1,f.2)) ((nx n c).bind fun f=>some (f.1,f.2)))):=by kernel_rfl
theorem atK (n f b):Hp (n+1) f b=letI a:=wrap .i64;((iL n f).bind fun h=>cond (!h) (some true) ((iL n b).bind fun i=>cond (!i) (some true) (some (b==0)))).bind fun g=>cond g (some ((0:Int),false)) (cond (b !=0) ((nx n (a (Æ (a (f*1000000)) b))).bind fun d=>some (d.1,d.2)) none):=by kernel_rfl
theorem atL (n d f g):sF (n+1) d f g=(gj n d f g).bind fun b=>cond (decide (300<(b.length:Int))) (cond (decide ((0:Int)<=300/\(300:Int)<=(b.length:Int))) (some (b.take (300-0))) none) (some b):=by kernel_rfl
theorem atM (n f b g h i j):Aj (n+1) f b g h i j=(ny n f b g h i j).bind fun k=>cond (decide (k<0)) (some ((0:Int),(0:Int),([]:O))) ((ar b k).bind fun d=>some (d.2.2.1,d.2.2.2.1,d.2.2.2.2)):=by kernel_rfl
theorem atO (n b d f g h i):ny (n+1) b d f g h i=(sG n n b d f g 0 i h).bind fun j=>aw j (fun _=>some (-1:Int)) (fun k=>some k):=by kernel_rfl
theorem RH (n m h d i j b f g):sG n (m+1) h d i j b f g=letI a:=sG n m h d i j (wrap .i64 (b+1)) f g;cond (decide (b<(d.length:Int))) ((ar d b).bind fun k=>cond (k.1==g) ((ar d b).bind fun p=>cond (p.2.1==f) (some (Â b)) a) a) (some (Á ())):=by kernel_rfl
theorem RI (n p q r s t u z x7 x8 x9 d f j k g h i):vW (n+1) p q r s t u z x7 x8 x9 d f j k g h i=(Hq n p q r s j k g h i).bind fun m=>cond (!m.2.2.2.2) ((ig n p q r s t u z x7 x8 x9 d 4).bind fun b=>letI c:=b.2.2.2.2.2;some (b.1,b.2.1,b.2.2.1,b.2.2.2.1,b.2.2.2.2.1,c.1,c.2.1,c.2.2.1,c.2.2.2.1,c.2.2.2.2.1,c.2.2.2.2.2,f)) ((ej n m.1 m.2.1 m.2.2.1 m.2.2.2.1 t u z x7 x8 x9 d f g h i).bind fun b=>letI a:=b.2.2.2.2.2;letI e:=a.2.2.2;some (b.1,b.2.1,b.2.2.1,b.2.2.2.1,b.2.2.2.2.1,a.1,a.2.1,a.2.2.1,e.1,e.2.1,e.2.2.1,e.2.2.2)):=by kernel_rfl
theorem RJ (n g d h i k m p q r):Hq (n+1) g d h i k m p q r=(oZ n g d h i).bind fun b=>letI v:=b.2.2;(ny n g d h i k m).bind fun f=>letI x:=À f;cond (decide (0<=f)) (cond (decide (0<=f/\f<(b.2.1.length:Int))) ((aN b.2.1 x).bind fun j=>some (b.1,b.2.1.set x (j.1,j.2.1,p,q,r),v.1,v.2,true)) none) (cond (decide (40<=(d.length:Int))) (some (b.1,b.2.1,v.1,v.2,false)) ((vX n n 0 0 b.1 b.2.1 v.1 v.2 g d h i p q r 0 m k).bind fun j=>aw j (fun z3=>letI w:=z3.2.2.2.2;letI a:=w.2.2.2.2.2.2;letI u:=a.2.2.2;letI t:=À u.1;letI l:=decide (0<=u.1/\u.1<=(z3.2.2.2.2.2.2.2.1.length:Int));letI e:=(z3.2.2.2.2.2.2.2.1.drop t).take (z3.2.2.2.2.2.2.2.1.length-t);letI c:=(z3.2.2.2.2.2.2.2.1.drop 0).take (t-0);letI o:=c++[(u.2.2,u.2.1,a.1,a.2.1,a.2.2.1)];cond l (cond (Å (0+c.length) aC) (cond (Å (c.length+1) aC) (cond l (cond (Å (o.length+e.length) aC) (some (z3.2.2.1,o++e,w.1,w.2.1,true)) none) none) none) none) none) (fun s=>some s))):=by kernel_rfl
theorem RL (n m p q r s t u z j x8 x9 g h i b d f):vX n (m+1) p q r s t u z j x8 x9 g h i b d f=letI a:=(p,q,r,s,t,u,z,j,x8,x9,g,h,i,b,d,f);cond (decide (b<(j.length:Int))) ((ar j b).bind fun k=>(zZ n k.1 k.2.1 k.2.2.1 k.2.2.2.1 k.2.2.2.2 f d).bind fun y1=>cond y1 (vX n m p q r s t u z j x8 x9 g h i (wrap .i64 (b+1)) d f) (some (Á a))) (some (Á a)):=by kernel_rfl
theorem RM (n g b h i j k):Hr (n+1) g b h i j k=(oZ n g b h i).bind fun f=>(ny n g b h i j k).bind fun d=>letI c:=(b.drop 0).take ((À d)-0);letI a:=wrap .i64 (d+1);letI l:=À a;letI e:=(b.drop l).take (b.length-l);cond (decide (0<=d)) (cond (decide (0<=d/\d<=(b.length:Int))) (cond (Å (0+c.length) aC) (cond (decide (0<=a/\a<=(b.length:Int))) (cond (Å (c.length+e.length) aC) (some (f.1,c++e,f.2.2.1,f.2.2.2)) none) none) none) none) (some (f.1,f.2.1,f.2.2.1,f.2.2.2)):=by kernel_rfl
theorem jq (n r s m j t u p q z x9 i g k ai ag ae):Ak (n+1) r s m j t u p q z x9 i g k ai ag ae=letI bc:=ar ae (1:Int);letI y:=wrap .i64;letI w:=ar ae (0:Int);letI c:=(r,s,m,j,t,u,p,q,z,x9,i,g);letI a:=ej n r s m j t u p q z x9 i g;cond (k==1) ((gk n ai).bind fun d=>cond (j==0) ((a d.1 d.2.1 d.2.2).bind fun b=>letI aa:=b.2.2.2.2.2;letI bd:=aa.2.2.2;some (b.1,b.2.1,b.2.2.1,b.2.2.2.1,b.2.2.2.2.1,aa.1,aa.2.1,aa.2.2.1,bd.1,bd.2.1,bd.2.2.1,bd.2.2.2)) (some c)) (cond (k==2) (cond (decide (300<(ag.length:Int))) ((ig n r s m j t u p q z x9 i 3).bind fun d=>letI ba:=d.2.2.2;letI v:=ba.2.2;letI bb:=v.2.2.2;cond (ba.1==0) ((ej n d.1 d.2.1 d.2.2.1 ba.1 ba.2.1 v.1 v.2.1 v.2.2.1 bb.1 bb.2.1 bb.2.2 g 2 0 ag).bind fun b=>letI ab:=b.2.2.2.2.2;letI be:=ab.2.2.2;some (b.1,b.2.1,b.2.2.1,b.2.2.2.1,b.2.2.2.2.1,ab.1,ab.2.1,ab.2.2.1,be.1,be.2.1,be.2.2.1,be.2.2.2)) (some (d.1,d.2.1,d.2.2.1,ba.1,ba.2.1,v.1,v.2.1,v.2.2.1,bb.1,bb.2.1,bb.2.2,g))) (cond (j==0) ((a 2 0 ag).bind fun d=>letI ac:=d.2.2.2.2.2;letI bf:=ac.2.2.2;some (d.1,d.2.1,d.2.2.1,d.2.2.2.1,d.2.2.2.2.1,ac.1,ac.2.1,ac.2.2.1,bf.1,bf.2.1,bf.2.2.1,bf.2.2.2)) (some c))) (cond (k==9) (w.bind fun d=>(Hs n r s m j t u p q z x9 i d.1 d.2.1 d.2.2).bind fun b=>letI ay:=b.2.2.2;letI l:=ay.2.2.2;letI au:=l.2.2.2.2;cond (l.1==0) ((ej n ay.1 ay.2.1 ay.2.2.1 l.1 l.2.1 l.2.2.1 l.2.2.2.1 au.1 au.2.1 au.2.2.1 au.2.2.2 g b.1 b.2.1 b.2.2.1).bind fun h=>letI ad:=h.2.2.2.2.2;letI bg:=ad.2.2.2;some (h.1,h.2.1,h.2.2.1,h.2.2.2.1,h.2.2.2.2.1,ad.1,ad.2.1,ad.2.2.1,bg.1,bg.2.1,bg.2.2.1,bg.2.2.2)) (some (ay.1,ay.2.1,ay.2.2.1,l.1,l.2.1,l.2.2.1,l.2.2.2.1,au.1,au.2.1,au.2.2.1,au.2.2.2,g))) (cond (k==10) ((gk n (y (1000000*m))).bind fun d=>cond (j==0) ((a d.1 d.2.1 d.2.2).bind fun b=>letI af:=b.2.2.2.2.2;letI bh:=af.2.2.2;some (b.1,b.2.1,b.2.2.1,b.2.2.2.1,b.2.2.2.2.1,af.1,af.2.1,af.2.2.1,bh.1,bh.2.1,bh.2.2.1,bh.2.2.2)) (some c)) (cond (k==11) ((gk n (y (1000000*(q.length:Int)))).bind fun d=>cond (j==0) ((a d.1 d.2.1 d.2.2).bind fun b=>letI ah:=b.2.2.2.2.2;letI bi:=ah.2.2.2;some (b.1,b.2.1,b.2.2.1,b.2.2.2.1,b.2.2.2.2.1,ah.1,ah.2.1,ah.2.2.1,bi.1,bi.2.1,bi.2.2.1,bi.2.2.2)) (some c)) (cond (k==17) (w.bind fun d=>bc.bind fun b=>(Ht n r s m j t u p q z x9 i d.1 d.2.1 d.2.2 b.1 b.2.1 b.2.2).bind fun h=>letI az:=h.2.2.2;letI o:=az.2.2.2;letI av:=o.2.2.2.2;cond (o.1==0) ((ej n az.1 az.2.1 az.2.2.1 o.1 o.2.1 o.2.2.1 o.2.2.2.1 av.1 av.2.1 av.2.2.1 av.2.2.2 g h.1 h.2.1 h.2.2.1).bind fun f=>letI aj:=f.2.2.2.2.2;letI bj:=aj.2.2.2;some (f.1,f.2.1,f.2.2.1,f.2.2.2.1,f.2.2.2.2.1,aj.1,aj.2.1,aj.2.2.1,bj.1,bj.2.1,bj.2.2.1,bj.2.2.2)) (some (az.1,az.2.1,az.2.2.1,o.1,o.2.1,o.2.2.1,o.2.2.2.1,av.1,av.2.1,av.2.2.1,av.2.2.2,g))) (cond (k==24) (w.bind fun d=>(gj n d.1 d.2.1 d.2.2).bind fun b=>(vZ n ag b).bind fun h=>cond (j==0) ((a h.1 h.2.1 h.2.2).bind fun f=>letI ak:=f.2.2.2.2.2;letI bk:=ak.2.2.2;some (f.1,f.2.1,f.2.2.1,f.2.2.2.1,f.2.2.2.2.1,ak.1,ak.2.1,ak.2.2.1,bk.1,bk.2.1,bk.2.2.1,bk.2.2.2)) (some c)) (cond (k==25) ((vZ n ag p).bind fun d=>cond (j==0) ((a d.1 d.2.1 d.2.2).bind fun b=>letI al:=b.2.2.2.2.2;letI bl:=al.2.2.2;some (b.1,b.2.1,b.2.2.1,b.2.2.2.1,b.2.2.2.2.1,al.1,al.2.1,al.2.2.1,bl.1,bl.2.1,bl.2.2.1,bl.2.2.2)) (some c)) (cond (k==26) (w.bind fun d=>(vR n d.1 d.2.1 d.2.2).bind fun b=>(sK n (!b)).bind fun h=>cond (j==0) ((a h.1 h.2.1 h.2.2).bind fun f=>letI am:=f.2.2.2.2.2;letI bm:=am.2.2.2;some (f.1,f.2.1,f.2.2.1,f.2.2.2.1,f.2.2.2.2.1,am.1,am.2.1,am.2.2.1,bm.1,bm.2.1,bm.2.2.1,bm.2.2.2)) (some c)) (cond (k==27) (w.bind fun d=>(gQ n d.1 d.2.1 d.2.2).bind fun b=>(gk n (y (0-b))).bind fun h=>cond (j==0) ((a h.1 h.2.1 h.2.2).bind fun f=>letI an:=f.2.2.2.2.2;letI bn:=an.2.2.2;some (f.1,f.2.1,f.2.2.1,f.2.2.2.1,f.2.2.2.2.1,an.1,an.2.1,an.2.2.1,bn.1,bn.2.1,bn.2.2.1,bn.2.2.2)) (some c)) (cond (k==28) (w.bind fun d=>(vR n d.1 d.2.1 d.2.2).bind fun b=>(sK n b).bind fun h=>cond (j==0) ((a h.1 h.2.1 h.2.2).bind fun f=>letI ao:=f.2.2.2.2.2;letI bo:=ao.2.2.2;some (f.1,f.2.1,f.2.2.1,f.2.2.2.1,f.2.2.2.2.1,ao.1,ao.2.1,ao.2.2.1,bo.1,bo.2.1,bo.2.2.1,bo.2.2.2)) (some c)) (cond (k==29) ((HE n ag ae).bind fun d=>cond (j==0) ((a d.1 d.2.1 d.2.2).bind fun b=>letI ap:=b.2.2.2.2.2;letI bp:=ap.2.2.2;some (b.1,b.2.1,b.2.2.1,b.2.2.2.1,b.2.2.2.2.1,ap.1,ap.2.1,ap.2.2.1,bp.1,bp.2.1,bp.2.2.1,bp.2.2.2)) (some c)) (cond (decide (k<=16)) (w.bind fun d=>(gQ n d.1 d.2.1 d.2.2).bind fun b=>bc.bind fun h=>(gQ n h.1 h.2.1 h.2.2).bind fun f=>(vV n r s m j t u p q z x9 i (y (k-12)) b f).bind fun y4=>letI ax:=y4.2.2.2;letI e:=ax.2.2.2;letI aw:=e.2.2.2.2;cond (e.1==0) ((ej n ax.1 ax.2.1 ax.2.2.1 e.1 e.2.1 e.2.2.1 e.2.2.2.1 aw.1 aw.2.1 aw.2.2.1 aw.2.2.2 g y4.1 y4.2.1 y4.2.2.1).bind fun y5=>letI x:=y5.2.2.2.2.2;letI br:=x.2.2.2;some (y5.1,y5.2.1,y5.2.2.1,y5.2.2.2.1,y5.2.2.2.2.1,x.1,x.2.1,x.2.2.1,br.1,br.2.1,br.2.2.1,br.2.2.2)) (some (ax.1,ax.2.1,ax.2.2.1,e.1,e.2.1,e.2.2.1,e.2.2.2.1,aw.1,aw.2.1,aw.2.2.1,aw.2.2.2,g))) (w.bind fun d=>bc.bind fun b=>(HI n (y (k-18)) d.1 d.2.1 d.2.2 b.1 b.2.1 b.2.2).bind fun h=>cond (j==0) ((a h.1 h.2.1 h.2.2).bind fun f=>letI aq:=f.2.2.2.2.2;letI bq:=aq.2.2.2;some (f.1,f.2.1,f.2.2.1,f.2.2.2.1,f.2.2.2.2.1,aq.1,aq.2.1,aq.2.2.1,bq.1,bq.2.1,bq.2.2.1,bq.2.2.2)) (some c)))))))))))))):=by kernel_rfl
theorem RN (n p q r s t u f d z x9 b g h i):Hs (n+1) p q r s t u f d z x9 b g h i=letI e:=wrap .i64;(gQ n g h i).bind fun j=>letI a:=e (Æ j (1000000:Int));letI c:=e (a-1);cond (a==0) ((vY n f).bind fun k=>some (k.1,k.2.1,k.2.2,p,q,r,s,t,u,f,d,z,x9,b)) ((cq n a (1:Int) (d.length:Int)).bind fun k=>cond (!k) ((vY n ([]:O)).bind fun m=>some (m.1,m.2.1,m.2.2,p,q,r,s,t,u,f,d,z,x9,b)) (cond (decide (0<=c/\c<(d.length:Int))) ((aN d (À c)).bind fun m=>(vY n m).bind fun y3=>some (y3.1,y3.2.1,y3.2.2,p,q,r,s,t,u,f,d,z,x9,b)) none)):=by kernel_rfl
theorem atP (n b):vY (n+1) b=cond (decide (300<(b.length:Int))) (cond (decide ((0:Int)<=300/\(300:Int)<=(b.length:Int))) ((vM n (b.take (300-0))).bind fun d=>cond d.2 (some ((3:Int),d.1,b.take (300-0))) (some ((2:Int),(0:Int),b.take (300-0)))) none) ((vM n b).bind fun d=>cond d.2 (some ((3:Int),d.1,b)) (some ((2:Int),(0:Int),b))):=by kernel_rfl
theorem atQ (n m p q r s t u z x8 x9 d f g h i j k):Ht (n+1) m p q r s t u z x8 x9 d f g h i j k=(gj n f g h).bind fun y0=>(gj n i j k).bind fun y1=>cond (Å (y0.length+y1.length) mx) (cond (decide (300<((y0++y1).length:Int))) ((ig n m p q r s t u z x8 x9 d 3).bind fun b=>letI a:=b.2.2.2.2.2;some ((0:Int),(0:Int),([]:O),b.1,b.2.1,b.2.2.1,b.2.2.2.1,b.2.2.2.2.1,a.1,a.2.1,a.2.2.1,a.2.2.2.1,a.2.2.2.2.1,a.2.2.2.2.2)) (some ((2:Int),(0:Int),y0++y1,m,p,q,r,s,t,u,z,x8,x9,d))) none:=by kernel_rfl
theorem atS (n f g):vZ (n+1) f g=(vx n f).bind fun b=>(Hu n b.1 b.2.1 b.2.2.1 b.2.2.2.1 b.2.2.2.2.1 g).bind fun h=>(sK n h).bind fun d=>some (d.1,d.2.1,d.2.2):=by kernel_rfl
theorem atT (n b d f g h i):Hu (n+1) b d f g h i=(Hv n b d f g h).bind fun j=>(Hz n j i).bind fun k=>some k.2.2:=by kernel_rfl
theorem atU (n b d f g h):Hv (n+1) b d f g h=(Hw n b d f g h).bind fun i=>cond (!i) (some ([]:ch)) ((mA n ([]:ch) b d f g h).bind fun j=>(mB n j 8).bind fun k=>some k):=by kernel_rfl
theorem atV (n b d f g h):Hw (n+1) b d f g h=((vC n b d f g h).bind fun j=>cond (decide (j<=12)) ((wa n b d f g h).bind fun k=>some k) (some false)).bind fun i=>some i:=by kernel_rfl
theorem atW (n g h i j k):wa (n+1) g h i j k=(Al n n g h i j k 0).bind fun m=>aw m (fun b=>letI l:=b.2.1==0;letI e:=!b.2.2.2.1;letI c:=b.2.2.1==([]:O);letI a:=(b.2.2.2.2.length:Int);letI o:=decide (2<=a);cond (b.1==1) (((cq n b.2.1 0 255).bind fun f=>cond f (cond c (cond e (some (a==0)) (some false)) (some false)) (some false)).bind fun d=>some d) (cond (b.1==3) ((cond l (cond (! c) ((sH n b.2.2.1).bind fun f=>cond f (some (a==0)) (some false)) (some false)) (some false)).bind fun d=>some d) (cond (b.1==6) ((cond l (cond c (cond e (some o) (some false)) (some false)) (some false)).bind fun d=>some d) (cond (b.1==7) ((cond l (cond c (cond e (some o) (some false)) (some false)) (some false)).bind fun d=>some d) (cond (b.1==8) ((cond l (cond c (cond e (some (a==1)) (some false)) (some false)) (some false)).bind fun d=>some d) (cond (b.1==9) ((cond l (cond c (cond e (some (a==1)) (some false)) (some false)) (some false)).bind fun d=>some d) (cond (b.1==10) ((cond l (cond c (cond e (some (a==1)) (some false)) (some false)) (some false)).bind fun d=>some d) (((cq n b.1 2 11).bind fun f=>cond f (cond l (cond c (cond e (some (a==0)) (some false)) (some false)) (some false)) (some false)).bind fun d=>some d)))))))) (fun p=>some p):=by kernel_rfl
theorem atX (n m g h i j b f):Al n (m+1) g h i j b f=cond (decide (f<(b.length:Int))) ((fR b f).bind fun d=>(wa n d.1 d.2.1 d.2.2.1 d.2.2.2.1 d.2.2.2.2).bind fun k=>cond (!k) (some (Â false)) (Al n m g h i j b (wrap .i64 (f+1)))) (some (Á (g,h,i,j,b))):=by kernel_rfl
theorem atY (n b):sH (n+1) b=(Am n n 1 b).bind fun d=>aw d (fun _=>some true) (fun f=>some f):=by kernel_rfl
theorem auA (n m b d):Am n (m+1) b d=letI a:=wrap .i64;cond (decide (b<(d.length:Int))) ((bG d (a (b-1))).bind fun f=>(bG d b).bind fun g=>cond (decide (((g).toNat:Int)<=((f).toNat:Int))) (some (Â false)) (Am n m (a (b+1)) d)) (some (Á ())):=by kernel_rfl
theorem lv (n b i m p q k):mA (n+1) b i m p q k=letI w:=mB n b;letI v:=Å (b.length+1) aC;letI u:=fR k (0:Int);letI t:=wrap .i64;letI c:=(b.length:Int);letI o:=À c;cond (i==1) (cond v (some (b++[((1:Int),m,([]:O),false,(0:Int),(0:Int))])) none) (cond (i==2) ((w 2).bind fun f=>some f) (cond (i==3) (cond v (some (b++[((3:Int),(0:Int),p,q,(0:Int),(0:Int))])) none) (cond (i==4) ((w 4).bind fun f=>some f) (cond (i==5) ((w 5).bind fun f=>some f) (cond (i==6) ((An n n i m p q k 0 b).bind fun f=>aw f (fun r=>some r) (fun s=>some s)) (cond (i==7) ((Hy n b k).bind fun f=>some f) (cond (i==8) ((w 7).bind fun f=>u.bind fun g=>(mA n f g.1 g.2.1 g.2.2.1 g.2.2.2.1 g.2.2.2.2).bind fun h=>letI l:=h++[((6:Int),(0:Int),([]:O),false,c,(0:Int))];cond (Å (h.length+1) aC) (cond (decide (0<=c/\c<(l.length:Int))) ((aN l o).bind fun d=>letI a:=l.set o (d.1,d.2.1,d.2.2.1,d.2.2.2.1,t (c+1),d.2.2.2.2.2);cond (decide (0<=c/\c<(a.length:Int))) ((aN a o).bind fun j=>some (a.set o (j.1,j.2.1,j.2.2.1,j.2.2.2.1,j.2.2.2.2.1,(a.length:Int)))) none) none) none) (cond (i==9) (u.bind fun f=>(mA n b f.1 f.2.1 f.2.2.1 f.2.2.2.1 f.2.2.2.2).bind fun g=>cond (Å (g.length+1) aC) (some (g++[((7:Int),(0:Int),([]:O),false,c,t ((g.length:Int)+1))])) none) (cond (i==10) ((w 7).bind fun f=>u.bind fun g=>(mA n f g.1 g.2.1 g.2.2.1 g.2.2.2.1 g.2.2.2.2).bind fun h=>cond (decide (0<=c/\c<(h.length:Int))) ((aN h o).bind fun d=>letI e:=h.set o (d.1,d.2.1,d.2.2.1,d.2.2.2.1,t (c+1),d.2.2.2.2.2);cond (decide (0<=c/\c<(e.length:Int))) ((aN e o).bind fun j=>some (e.set o (j.1,j.2.1,j.2.2.1,j.2.2.2.1,j.2.2.2.2.1,(e.length:Int)))) none) none) (some b)))))))))):=by kernel_rfl
theorem RO (n m h i j k d f g):An n (m+1) h i j k d f g=cond (decide (f<(d.length:Int))) ((fR d f).bind fun b=>(mA n g b.1 b.2.1 b.2.2.1 b.2.2.2.1 b.2.2.2.2).bind fun p=>An n m h i j k d (wrap .i64 (f+1)) p) (some (Á g)):=by kernel_rfl
theorem Cj (n b d):mB (n+1) b d=cond (Å (b.length+1) aC) (some (b++[(d,(0:Int),([]:O),false,(0:Int),(0:Int))])) none:=by kernel_rfl
theorem auB (n f g):Hy (n+1) f g=(Ao n n 0 ([]:ag) g f).bind fun h=>aw h (fun d=>(fR d.2.1 (wrap .i64 ((d.2.1.length:Int)-1))).bind fun b=>(mA n d.2.2 b.1 b.2.1 b.2.2.1 b.2.2.2.1 b.2.2.2.2).bind fun i=>(pc n n 0 i d.1).bind fun j=>aw j (fun z4=>some z4) (fun k=>some k)) (fun m=>some m):=by kernel_rfl
theorem RP (n m j k g d):Ao n (m+1) j k g d=letI l:=wrap .i64;letI c:=(d.length:Int);letI e:=À c;cond (decide (j<(l ((g.length:Int)-1)))) ((mB n d 7).bind fun q=>(fR g j).bind fun h=>(mA n q h.1 h.2.1 h.2.2.1 h.2.2.2.1 h.2.2.2.2).bind fun p=>cond (Å (k.length+1) aC) ((mB n p 6).bind fun f=>cond (decide (0<=c/\c<(f.length:Int))) ((aN f e).bind fun b=>letI a:=f.set e (b.1,b.2.1,b.2.2.1,b.2.2.2.1,l (c+1),b.2.2.2.2.2);cond (decide (0<=c/\c<(a.length:Int))) ((aN a e).bind fun i=>Ao n m (l (j+1)) (k++[(p.length:Int)]) g (a.set e (i.1,i.2.1,i.2.2.1,i.2.2.2.1,i.2.2.2.2.1,(a.length:Int)))) none) none) none) (some (Á (k,g,d))):=by kernel_rfl
end
end Go.Proofs.YtfpfjmahdneehaaGreatDoor
