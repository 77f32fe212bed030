/- What each function comes to: equations of the evaluator. -/
import Derived.Test.YtfledcdkafkgaaaGreatDoorTab
open Int renaming toNat->À,tdiv->Æ,tmod->Ç
open Sum renaming inl->Á,inr->Â
open UInt8 renaming ofNat->Ã
open List renaming replicate->Ä
open Nat renaming ble->Å
open Bool renaming true->å,false->ä
open Option renaming some->ã,none->â
open Decidable renaming decide->á
open Go.IntKind renaming i64->ß,wrap->Þ
open List renaming length->à
open Go.IntKind
namespace Go.Proofs.YtfledcdkafkgaaaGreatDoor
noncomputable section
open Go Go.Ev
abbrev b0:Type:=Option Bool
abbrev b4:Type:=Option Int
abbrev b5:Type:=Option (Sum Unit Bool)
abbrev b6:Type:=Option eK
abbrev b7:Type:=Option O
abbrev b8:Type:=Option (Int×Bool)
abbrev b9:Type:=Option (Sum Int Int)
abbrev ee:Type:=Option aC
abbrev gz:Type:=Option (Int×Int×Int×Int×aj×ae×ai×Int×Int×ag×O)
abbrev hZ:Type:=Option (Int×Int)
abbrev ir:Type:=Option (Sum Unit Int)
abbrev i6:Type:=Option bZ
abbrev i7:Type:=Option (ae×ai×Int×Int×O×O×ae×Int)
abbrev j7:Type:=Option ag
abbrev j8:Type:=Option (Int×Int×Bool)
abbrev j9:Type:=Option (Int×Int×aj)
abbrev ka:Type:=Option (ae×ai×Int×Int×ag×O)
abbrev ko:Type:=Option (ae×ai×Int×Int)
abbrev kp:Type:=Option af
abbrev lx:Type:=Option ae
abbrev ly:Type:=Option ai
abbrev lz:Type:=Option (Int×Int×O×Bool×aT×O×Int×Bool)
abbrev l6:Type:=Option (ae×ai×Int×Int×af×af×O×af×O×Int×Bool×ae)
abbrev l7:Type:=Option (Sum bZ bZ)
abbrev l8:Type:=Option (Sum Unit (Int×Int×Bool))
abbrev l9:Type:=Option (Int×Int×O×Bool×aT×O×Bool)
abbrev pc:Type:=Option (Bool×Int)
abbrev pt:Type:=Option (Sum ae ae)
abbrev p9:Type:=Option (Sum ag ag)
abbrev ry:Type:=Option (Sum (af×af×ae×ae×Int×ck×bp×Int×O×ag×ag×ae) Bool)
abbrev sT:Type:=Option (ae×ai×Int×Int×af×af×O×af×O×Int×Bool)
abbrev te:Type:=Option (Sum O O)
abbrev tr:Type:=Option (Int×Int×O×ae×ai×Int×Int×af×af×O×af×O×Int×Bool)
abbrev ue:Type:=Option (Int×aC×Int×Bool)
abbrev u3:Type:=Option (Sum (af×af×ae×ae) Bool)
abbrev u4:Type:=Option (Int×Int×O×Bool×aT×Bool)
abbrev u5:Type:=Option (Sum (O×Int×Bool×Int×Int×O×Bool×aT) (Int×Int×O×Bool×aT×O×Int×Bool))
abbrev u6:Type:=Option (ae×ai×Int×Int×Bool)
abbrev u7:Type:=Option (Sum (Int×Int×O×Bool×aT) Bool)
abbrev u9:Type:=Option (Sum (ag×aT×bZ) bZ)
abbrev vt:Type:=Option (Sum (Int×aC) aC)
abbrev v7:Type:=Option (Sum (Int×Int×Int×Int×Int×Int×O×Int×Int×Int×Int×aj×ae×ai×Int×Int×ag×O) (Int×Int×Int×Int×aj×ae×ai×Int×Int×ag×O))
abbrev v8:Type:=Option (Int×Int×Int×Int×ae×ai×Int×Int×ag×O)
abbrev w8:Type:=Option (Int×Int×Int×Int×aj×O×Int×Bool)
abbrev w9:Type:=Option (Sum (Int×Int) Int)
abbrev xz:Type:=Option (Int×Int×Int×Int×aj×O×aC×Int×Bool)
abbrev y7:Type:=Option (Sum (aC×Int×Bool×Int×Int×Int×Int×O×IA) (Int×Int×Int×Int×aj×O×aC×Int×Bool))
abbrev y8:Type:=Option (O×aC×Int×Bool)
abbrev y9:Type:=Option (Int×Int×aj×Bool)
abbrev zc:Type:=Option (Sum (Int×Int×Int×Int×aj×Int×Int×aj) (Int×Int×aj×Bool))
abbrev ze:Type:=Option (ae×ai×Int×Int×ag×O×Bool)
abbrev zy:Type:=Option (Int×Int×O×aC×Int×Bool)
abbrev z1:Type:=Option (Bool×af×af×ae×ae)
abbrev z8:Type:=Option (Bool×ae×Int×Int)
abbrev AD:Type:=Option (Sum (O×Bool×Int×Int×O×Bool×aT) (Int×Int×O×Bool×aT×O×Bool))
abbrev AM:Type:=Option (Bool×Int×Int)
abbrev AN:Type:=Option (Bool×Int×rO)
abbrev A0:Type:=Option (Sum Int (Int×Int))
abbrev A5:Type:=Option (Bool×af×af×ae×ae×Int×ck×bp×Int×O×ag×ag×ae)
abbrev A6:Type:=Option (Sum (Int×Int×Int×Int×aj×O×aC) aC)
def Jn:Nat->af->af->ae->ae->Int->ck->bp->Int->O->ag->ag->ae->Int->b4:=cF 1
def Jo:Nat->af->af->ae->ae->Int->b4:=cF 2
def Br:Nat->af->Int->b4:=cF 3
def Bs:Nat->Nat->Int->af->Int->b9:=cL 3 0
def Bt:Nat->ae->Int->b4:=cF 4
def Bu:Nat->Nat->Int->Int->ae->b9:=cL 4 0
def Bv:Nat->Int->Int->O->Int->b4:=cF 5
def Jp:Nat->ck->Int->b4:=cF 6
def Bw:Nat->Nat->Int->Int->ck->b9:=cL 6 0
def Bx:Nat->Int->Int->Int->Int->Int->aj->ae->ai->Int->Int->ag->O->Int->cf->ag->ag->Int->ae->ai->Int->Int->ag->O->aC->Int->bp->Int->b4:=cF 7
def Jq:Nat->Int->Int->Int->Int->aj->ae->ai->Int->Int->ag->O->Int->b4:=cF 8
def Jr:Nat->Int->Int->aj->Int->b4:=cF 9
def By:Nat->aj->Int->b4:=cF 10
def Bz:Nat->Nat->Int->Int->aj->b9:=cL 10 0
def BA:Nat->Int->Int->Int->O->Int->b4:=cF 11
def xf:Nat->Int->Int->O->Int->b4:=cF 12
def BB:Nat->ae->ai->Int->Int->ag->O->Int->b4:=cF 13
def Js:Nat->ae->ai->Int->Int->Int->b4:=cF 14
def Jt:Nat->ae->Int->b4:=cF 15
def BD:Nat->Nat->Int->Int->ae->b9:=cL 15 0
def xg:Nat->Int->Int->O->Int->b4:=cF 16
def Ju:Nat->ai->Int->b4:=cF 17
def BF:Nat->Nat->Int->Int->ai->b9:=cL 17 0
def BG:Nat->Int->O->Int->Int->O->Int->b4:=cF 18
def rR:Nat->ag->Int->b4:=cF 19
def Jv:Nat->cf->Int->b4:=cF 20
def Jw:Nat->aC->Int->Int->b4:=cF 21
def Jx:Nat->aC->Int->b4:=cF 22
def BH:Nat->bp->Int->b4:=cF 23
def BI:Nat->Nat->Int->Int->bp->b9:=cL 23 0
def BJ:Nat->Int->Int->Int->Int->Int->Int->Int->aj->Bool->O->Int->b4:=cF 24
def Jy:Nat->Int->O->Int->b4:=cF 25
def Jz:Nat->ae->Int->b4:=cF 26
def BK:Nat->Nat->Int->Int->ae->b9:=cL 26 0
def xh:Nat->af->af->ae->ae->Int->ck->bp->Int->O->ag->ag->ae->Option (af×af×ae×ae×Int×ck×bp×Int×O×ag×ag×ae):=cF 27
def JA:Nat->af->af->ae->ae->Option (af×af×ae×ae):=cF 28
def BL:Nat->af->kp:=cF 29
def BM:Nat->Nat->Int->af->af->Option (Sum af af):=cL 29 0
def BN:Nat->ae->lx:=cF 30
def BO:Nat->Nat->Int->ae->ae->pt:=cL 30 0
def BP:Nat->Int->Int->O->b6:=cF 31
def JB:Nat->ck->Option ck:=cF 32
def BQ:Nat->Nat->Int->ck->ck->Option (Sum ck ck):=cL 32 0
def BR:Nat->Int->Int->Int->Int->Int->aj->ae->ai->Int->Int->ag->O->Int->cf->ag->ag->Int->ae->ai->Int->Int->ag->O->aC->Int->bp->Option rO:=cF 33
def JC:Nat->Int->Int->Int->Int->aj->ae->ai->Int->Int->ag->O->gz:=cF 34
def JD:Nat->Int->Int->aj->j9:=cF 35
def BS:Nat->aj->Option aj:=cF 36
def BT:Nat->Nat->Int->aj->aj->Option (Sum aj aj):=cL 36 0
def BU:Nat->Int->Int->Int->O->Option TN:=cF 37
def xi:Nat->Int->Int->O->b6:=cF 38
def BV:Nat->ae->ai->Int->Int->ag->O->ka:=cF 39
def JE:Nat->ae->ai->Int->Int->ko:=cF 40
def JF:Nat->ae->lx:=cF 41
def BW:Nat->Nat->Int->ae->ae->pt:=cL 41 0
def xj:Nat->Int->Int->O->b6:=cF 42
def JG:Nat->ai->ly:=cF 43
def BX:Nat->Nat->Int->ai->ai->Option (Sum ai ai):=cL 43 0
def BY:Nat->Int->O->Int->Int->O->Option qd:=cF 44
def rS:Nat->ag->j7:=cF 45
def BZ:Nat->Nat->Int->ag->ag->p9:=cL 45 0
def JH:Nat->cf->Option cf:=cF 46
def Ca:Nat->Nat->Int->cf->cf->Option (Sum cf cf):=cL 46 0
def JI:Nat->aC->Int->Option (aC×Int):=cF 47
def JJ:Nat->aC->ee:=cF 48
def Cb:Nat->Nat->Int->aC->aC->Option (Sum aC aC):=cL 48 0
def Cc:Nat->bp->Option bp:=cF 49
def Cd:Nat->Nat->Int->bp->bp->Option (Sum bp bp):=cL 49 0
def Ce:Nat->Int->Int->Int->Int->Int->Int->Int->aj->Bool->O->Option IB:=cF 50
def JK:Nat->Int->O->Option (Int×O):=cF 51
def JL:Nat->ae->lx:=cF 52
def Cf:Nat->Nat->Int->ae->ae->pt:=cL 52 0
def JM:Nat->af->af->ae->ae->Int->ck->bp->Int->O->ag->ag->ae->b0:=cF 55
def xk:Nat->Nat->af->af->ae->ae->Int->ck->bp->Int->O->ag->ag->ae->Int->ry:=cL 55 0
def xl:Nat->Nat->af->af->ae->ae->Int->ck->bp->Int->O->ag->ag->ae->Int->ry:=cL 55 2
def xm:Nat->Nat->af->af->ae->ae->Int->ck->bp->Int->O->ag->ag->ae->Int->b5:=cL 55 4
def xn:Nat->af->af->ae->ae->b0:=cF 56
def tT:Nat->Nat->af->af->ae->ae->Int->u3:=cL 56 0
def tU:Nat->Nat->af->af->ae->ae->Int->u3:=cL 56 2
def Cg:Nat->O->b0:=cF 57
def Ch:Nat->Nat->Int->O->Option (Sum O Bool):=cL 57 0
def JN:Nat->UInt8->b0:=cF 58
def bS:Nat->Int->Int->Int->b0:=cF 59
def JO:Nat->O->b0:=cF 60
def rT:Nat->af->O->b0:=cF 61
def Ci:Nat->Nat->Int->O->af->b5:=cL 61 0
def Cj:Nat->kp:=cF 62
def Ck:Nat->ae->Int->Int->b0:=cF 63
def xo:Nat->Nat->Int->Int->Int->Int->ae->b5:=cL 63 0
def JP:Nat->Int->Int->O->Int->Int->Int->b0:=cF 64
def jz:Nat->Int->b0:=cF 65
def xp:Nat->O->u4:=cF 66
def xq:Nat->O->Int->Bool->Int->lz:=cF 67
def rU:Nat->Nat->O->Int->Bool->Int->Int->O->Bool->Int->aT->u5:=cL 67 0
def Cl:Nat->O->Int->Bool->Int->lz:=cF 68
def xr:Nat->Nat->O->Int->Bool->Int->Int->O->Bool->Int->aT->u5:=cL 68 0
def JQ:Nat->O->Int->Bool->Int->lz:=cF 69
def rV:Nat->Nat->O->Int->Bool->Int->Int->O->Bool->Int->Int->O->Bool->aT->Option (Sum (O×Int×Bool×Int×Int×O×Bool×Int×Int×O×Bool×aT) (Int×Int×O×Bool×aT×O×Int×Bool)):=cL 69 0
def xt:Nat->O->Int->Bool->Int->lz:=cF 70
def fb:Nat->O->Int->Bool->UInt8->Option (Bool×O×Int×Bool):=cF 71
def JR:Nat->O->Int->Bool->Option (Int×Int×O×Bool×O×Int×Bool):=cF 72
def kO:Nat->Nat->O->Int->Bool->Int->Int->O->Bool->Int->Int->O->Bool->Int->cf->Bool->UInt8->O->Int->Int->Int->Option (Sum (O×Int×Bool×Int×Int×O×Bool×Int×Int×O×Bool×cf×Bool×UInt8×O×Int×Int) (Int×Int×O×Bool×O×Int×Bool)):=cL 72 2
def iA:Nat->Nat->O->Int->Bool->Int->Int->O->Bool->Int->Int->O->Bool->cf->Int->Option (Sum (O×Int×Bool×Int×Int×O×Bool×Int×Int×O×Bool×cf×Int) (Int×Int×O×Bool×O×Int×Bool)):=cL 72 0
def mu:Nat->Nat->O->Int->Bool->Int->Int->O->Bool->Int->Int->O->Bool->Int->aC->cf->Option (Sum (O×Int×Bool×Int×Int×O×Bool×Int×Int×O×Bool×aC) (Int×Int×O×Bool×O×Int×Bool)):=cL 72 4
def xu:Nat->Int->Int->O->Bool->aT->b4:=cF 73
def xv:Nat->Nat->Int->Int->O->Bool->aT->Int->Int->b9:=cL 73 0
def rW:Nat->Int->Int->b4:=cF 74
def JS:Nat->Int->O->b0:=cF 75
def Cm:Nat->ag->b0:=cF 76
def xw:Nat->Nat->Int->ag->Option (Sum ag Bool):=cL 76 0
def JT:Nat->af->af->ae->ae->Int->Int->Int->Int->Int->aj->ae->ai->Int->Int->ag->O->Int->cf->ag->ag->Int->ae->ai->Int->Int->ag->O->aC->Int->bp->Int->b0:=cF 77
def xx:Nat->Nat->Int->Int->Int->Int->Int->aj->ae->ai->Int->Int->ag->O->Int->cf->ag->ag->Int->ae->ai->Int->Int->ag->O->aC->Int->bp->af->af->ae->ae->Int->Int->Int->Option (Sum (Int×Int×Int×Int×Int×aj×ae×ai×Int×Int×ag×O×Int×cf×ag×ag×Int×ae×ai×Int×Int×ag×O×aC×Int×bp×af×af×ae×ae×Int×Int) Bool):=cL 77 0
def xy:Nat->Nat->Int->Int->Int->Int->Int->aj->ae->ai->Int->Int->ag->O->Int->cf->ag->ag->Int->ae->ai->Int->Int->ag->O->aC->Int->bp->af->af->ae->ae->Int->Int->Int->Option (Sum (Int×Int×Int×Int×Int×aj×ae×ai×Int×Int×ag×O×Int×cf×ag×ag×Int×ae×ai×Int×Int×ag×O×aC×Int×bp×af×af×ae×ae×Int) Bool):=cL 77 2
def qh:Nat->af->af->ae->ae->Int->Int->Int->Int->aj->ae->ai->Int->Int->ag->O->b0:=cF 78
def Cn:Nat->Int->Int->aj->hZ:=cF 79
def xA:Nat->Int->Int->aj->b0:=cF 80
def xB:Nat->Nat->Int->Int->aj->Int->Int->b5:=cL 80 0
def xC:Nat->Int->Int->O->b0:=cF 81
def JU:Nat->O->b0:=cF 82
def xD:Nat->Nat->Int->O->b5:=cL 82 0
def tW:Nat->af->af->ae->ae->ae->ai->Int->Int->ag->O->b0:=cF 83
def xE:Nat->Nat->ae->ai->Int->Int->ag->O->af->af->ae->ae->Int->Option (Sum (ae×ai×Int×Int×ag×O×af×af×ae×ae) Bool):=cL 83 0
def JV:Nat->ae->ai->Int->Int->Int->Int->b0:=cF 84
def xF:Nat->Nat->ae->ai->Int->Int->Int->Int->Int->Option (Sum (ae×ai×Int×Int×Int×Int) Bool):=cL 84 0
def tX:Nat->Nat->ae->ai->Int->Int->Int->Int->Int->Option (Sum (ae×ai×Int×Int×Int) Bool):=cL 84 2
def Co:Nat->Int->Int->O->b0:=cF 85
def xG:Nat->O->b8:=cF 86
def Cp:Nat->Nat->Int->O->Int->Option (Sum Int (Int×Bool)):=cL 86 0
def Cq:Nat->O->hZ:=cF 87
def xH:Nat->Nat->Int->O->Option (Sum (O×Int) (Int×Int)):=cL 87 0
def qi:Nat->Nat->Int->Int->O->Int->Bool->Option (Sum (Int×O×Int×Bool×Int) (Int×Int)):=cL 87 2
def rX:Nat->Nat->Int->Int->Int->O->Int->Bool->Option (Sum (Int×Int×Bool×Int) (Int×Int)):=cL 87 4
def mw:Nat->UInt8->b0:=cF 88
def Cr:Nat->Int->O->Int->Int->O->Int->O->b0:=cF 89
def Cs:Nat->Int->Int->Int->Int->Int->Int->Int->aj->Bool->O->Int->b0:=cF 90
def Ct:Nat->aj->Int->b0:=cF 91
def xI:Nat->Nat->Int->aj->Int->Option (Sum aj Bool):=cL 91 0
def JW:Nat->aC->Int->b0:=cF 92
def JX:Nat->af->af->ae->ae->ka:=cF 94
def JY:Nat->af->af->ae->ae->Option (ae×ai×eK):=cF 95
def Cu:Nat->Int->Option (ae×Int×Int):=cF 96
def Cv:Nat->Int->Int->b4:=cF 97
def rY:Nat->ae->ai->Int->Int->ko:=cF 98
def Cw:Nat->ae->ai->Int->Int->af->af->O->af->O->Int->Bool->ae->sT:=cF 99
def xJ:Nat->Nat->ae->ai->Int->Int->af->af->O->af->O->Int->Bool->ae->Int->Int->ae->Option (Sum (ae×ai×Int×Int×af×af×O×af×O×Int×Bool) (ae×ai×Int×Int×af×af×O×af×O×Int×Bool)):=cL 99 0
def jA:Nat->ae->ai->Int->Int->af->af->O->af->O->Int->Bool->Int->sT:=cF 100
def Cx:Nat->ae->ai->Int->Int->af->af->O->af->O->Int->Bool->ae->Int->Int->O->Int->Option (Int×Bool×ae×ai×Int×Int×af×af×O×af×O×Int×Bool×ae):=cF 101
def Cy:Nat->Int->Int->O->b4:=cF 102
def xK:Nat->Int->Int->O->b0:=cF 103
def nw:Nat->ae->ai->Int->Int->af->af->O->af->O->Int->Bool->O->sT:=cF 104
def gE:Nat->Int->Int->O->b7:=cF 105
def JZ:Nat->Int->b7:=cF 106
def Cz:Nat->Nat->O->Int->O->Option (Sum (Int×O×O) O):=cL 106 0
def xL:Nat->Int->b4:=cF 107
def CA:Nat->Int->b7:=cF 108
def CB:Nat->Nat->Int->O->te:=cL 108 0
def nx:Nat->ae->ai->Int->Int->af->af->O->af->O->Int->Bool->ae->Int->Int->O->ae->l6:=cF 109
def eo:Nat->ae->ai->Int->Int->af->af->O->af->O->Int->Bool->ae->Int->Int->O->l6:=cF 110
def iB:Nat->Int->Int->O->b4:=cF 111
def xM:Nat->ae->ai->Int->Int->af->af->O->af->O->Int->Bool->Int->Int->Int->tr:=cF 112
def Ka:Nat->Int->Int->b8:=cF 113
def oC:Nat->Int->b8:=cF 114
def gF:Nat->Int->b6:=cF 115
def Kb:Nat->Int->Int->b8:=cF 116
def Kc:Nat->Int->Int->b8:=cF 117
def Kd:Nat->Int->Int->b8:=cF 118
def tY:Nat->Int->Int->O->b7:=cF 119
def CC:Nat->ae->ai->Int->Int->Int->O->b6:=cF 120
def oD:Nat->ae->ai->Int->Int->Int->O->b4:=cF 121
def tZ:Nat->Nat->ae->ai->Int->Int->Int->O->Int->ir:=cL 121 0
def xN:Nat->ae->ai->Int->Int->af->af->O->af->O->Int->Bool->ae->Int->O->Int->Int->O->l6:=cF 122
def Ke:Nat->ae->ai->Int->Int->Int->O->Int->Int->O->u6:=cF 123
def xO:Nat->Nat->Int->Int->ae->ai->Int->Int->ae->ai->Int->Int->Int->Int->O->Int->O->Int->Option (Sum (Int×Int×ae×ai×Int×Int×ae×ai×Int×Int×Int×Int×O×Int×O×Int) (ae×ai×Int×Int×Bool)):=cL 123 0
def Kf:Nat->ae->ai->Int->Int->Int->O->ko:=cF 124
def CD:Nat->ae->ai->Int->Int->af->af->O->af->O->Int->Bool->ae->Int->Int->O->ae->l6:=cF 125
def Kg:Nat->ae->ai->Int->Int->af->af->O->af->O->Int->Bool->Int->Int->O->tr:=cF 126
def xP:Nat->O->b6:=cF 127
def Kh:Nat->ae->ai->Int->Int->af->af->O->af->O->Int->Bool->Int->Int->O->Int->Int->O->tr:=cF 128
def xQ:Nat->O->O->b6:=cF 129
def Ki:Nat->Int->Int->O->Bool->aT->O->b0:=cF 130
def Kj:Nat->Int->Int->O->Bool->aT->i6:=cF 131
def Kk:Nat->Int->Int->O->Bool->aT->b0:=cF 132
def xR:Nat->Int->Int->O->Bool->aT->b0:=cF 133
def CF:Nat->Nat->Int->Int->O->Bool->aT->Int->u7:=cL 133 0
def ua:Nat->O->b0:=cF 134
def CG:Nat->Nat->Int->O->b5:=cL 134 0
def ny:Nat->bZ->Int->Int->O->Bool->aT->i6:=cF 135
def CH:Nat->Nat->Int->Int->O->Bool->aT->Int->bZ->l7:=cL 135 1
def nz:Nat->bZ->Int->i6:=cF 136
def Kl:Nat->bZ->aT->i6:=cF 137
def CI:Nat->Nat->Int->ag->aT->bZ->u9:=cL 137 0
def qj:Nat->Nat->Int->bZ->ag->l7:=cL 137 2
def Km:Nat->bZ->O->j8:=cF 138
def ub:Nat->Nat->Int->O->bZ->l8:=cL 138 0
def CJ:Nat->bZ->O->Int->b4:=cF 139
def rZ:Nat->Nat->ag->Int->O->bZ->Int->b9:=cL 139 0
def sa:Nat->Nat->Int->ag->ag->Int->O->bZ->Int->Option (Sum (O×bZ×Int×Int×ag) Int):=cL 139 2
def Kn:Nat->bZ->b0:=cF 140
def CM:Nat->Nat->Int->Int->bZ->Option (Sum Int Bool):=cL 140 0
def CN:Nat->Int->Int->O->Bool->Int->Int->Int->b0:=cF 141
def uc:Nat->bZ->ag->Bool->Bool->j7:=cF 142
def CO:Nat->Nat->Int->Bool->Bool->ag->cf->bZ->Option (Sum cf ag):=cL 142 0
def Ko:Nat->bZ->cf->Int->Bool->Bool->Option cf:=cF 143
def gG:Nat->Nat->Bool->Bool->bZ->cf->ag->Option (Sum cf cf):=cL 143 0
def Ub:Nat->cf->j7:=cF 144
def xS:Nat->Nat->Int->ag->cf->p9:=cL 144 0
def Kp:Nat->Int->Int->O->Bool->Int->Int->UInt8->b0:=cF 145
def Kq:Nat->O->UInt8->b0:=cF 146
def CP:Nat->Nat->Int->UInt8->O->b5:=cL 146 0
def ud:Nat->Bool->b6:=cF 147
def uf:Nat->Bool->b4:=cF 148
def Kr:Nat->O->ae->b6:=cF 149
def xT:Nat->O->ae->b6:=cF 150
def Kt:Nat->Int->b4:=cF 151
def Ku:Nat->O->O->b4:=cF 152
def CQ:Nat->Nat->Int->O->O->ir:=cL 152 0
def ug:Nat->O->UInt8->UInt8->b7:=cF 153
def qk:Nat->Nat->Int->UInt8->UInt8->aC->Option (Sum aC O):=cL 153 0
def Kv:Nat->ae->b7:=cF 154
def Kw:Nat->Int->Int->Int->O->Int->Int->O->b6:=cF 155
def Kx:Nat->Int->Int->O->Int->Int->O->b4:=cF 156
def Ky:Nat->ae->ai->Int->Int->af->af->O->af->O->Int->Bool->ae->ai->Int->Int->Option (ae×ai×Int×Int×O×Int×Int×af×af×O×af×O×Int×Bool):=cF 157
def Kz:Nat->ae->ai->Int->Int->ag->O->ka:=cF 159
def CR:Nat->ae->ai->Int->Int->ag->O->ae->ai->Int->Int->ag->O->b0:=cF 162
def CU:Nat->ae->ai->Int->Int->ag->O->ee:=cF 163
def xU:Nat->Nat->ae->ai->Int->Int->ae->ai->Int->Int->ag->O->Int->aC->Option (Sum (ae×ai×Int×Int×ae×ai×Int×Int×ag×O×aC) aC):=cL 163 0
def xV:Nat->Nat->ae->ai->Int->Int->ae->ai->Int->Int->ag->O->Int->aC->Option (Sum (ae×ai×Int×Int×ag×O×ae×ai×Int×Int×aC) aC):=cL 163 2
def xW:Nat->Nat->ae->ai->Int->Int->ag->O->Int->aC->Option (Sum (ae×ai×Int×Int×ag×O×aC) aC):=cL 163 4
def lM:Nat->Int->ee:=cF 164
def xX:Nat->Nat->Int->aC->vt:=cL 164 0
def CV:Nat->Int->Int->O->ee:=cF 165
def KA:Nat->Int->ee:=cF 166
def xY:Nat->O->ee:=cF 167
def KB:Nat->af->af->ae->ae->Int->ck->bp->Int->O->ag->ag->ae->b0:=cF 171
def xZ:Nat->Nat->af->af->ae->ae->Int->ck->bp->Int->O->ag->ag->ae->Int->b5:=cL 171 0
def KC:Nat->af->af->ae->ae->Int->Int->Int->Int->Int->aj->ae->ai->Int->Int->ag->O->Int->cf->ag->ag->Int->ae->ai->Int->Int->ag->O->aC->Int->bp->b0:=cF 172
def KD:Nat->af->af->ae->ae->aC->gz:=cF 173
def CX:Nat->Nat->Int->Int->Int->Int->aj->ae->ai->Int->Int->ag->O->af->af->ae->ae->Int->Int->Int->Int->Int->Int->O->Int->gB->v7:=cL 173 0
def KE:Nat->af->af->ae->ae->v8:=cF 174
def KF:Nat->aC->Option (gB×Int):=cF 175
def ya:Nat->Nat->Int->gB->aC->Option (Sum (Int×gB) (gB×Int)):=cL 175 0
def KG:Nat->aC->Int->w8:=cF 176
def uh:Nat->aC->Int->j8:=cF 177
def CY:Nat->Nat->Int->Int->Int->aC->l8:=cL 177 0
def KH:Nat->aC->ee:=cF 178
def KI:Nat->aC->b4:=cF 179
def yb:Nat->Nat->Int->Int->aC->Int->w9:=cL 179 0
def KJ:Nat->aC->Int->Bool->xz:=cF 180
def yc:Nat->Nat->aC->Int->Bool->Int->Int->Int->Int->aj->O->Int->Int->Int->Int->O->Int->Int->y7:=cL 180 0
def gH:Nat->aC->Int->Bool->ue:=cF 181
def sb:Nat->aC->Int->Bool->y8:=cF 182
def KK:Nat->aC->Int->Option (O×Int×Bool):=cF 183
def yd:Nat->Int->Int->Int->Int->aj->O->b0:=cF 184
def KL:Nat->af->af->ae->ae->Int->Int->Int->Int->aj->ae->ai->Int->Int->ag->O->Int->Int->Int->Int->aj->O->gz:=cF 185
def ye:Nat->Int->Int->Int->Int->aj->ae->ai->Int->Int->ag->O->gz:=cF 186
def ui:Nat->Int->Int->aj->j9:=cF 187
def KM:Nat->af->af->ae->ae->Int->Int->Int->Int->aj->ae->ai->Int->Int->ag->O->Int->Int->Int->Int->aj->O->gz:=cF 188
def KN:Nat->Int->Int->aj->Int->Int->aj->y9:=cF 189
def sd:Nat->Nat->Int->Int->aj->Int->Int->aj->Int->Int->Int->aj->Int->zc:=cL 189 0
def CZ:Nat->Int->Int->aj->Int->b4:=cF 190
def Da:Nat->Int->Int->aj->Int->b4:=cF 191
def KO:Nat->af->af->ae->ae->aC->ze:=cF 192
def KP:Nat->aC->Int->Bool->Option (ae×ai×Int×Int×ag×O×aC×Int×Bool):=cF 193
def yf:Nat->Nat->aC->Int->Bool->ae->Int->Int->O->Int->Int->O->Int->Int->Option (Sum (aC×Int×Bool×ae×Int×qd) (ae×ai×Int×Int×ag×O×aC×Int×Bool)):=cL 193 0
def yg:Nat->Nat->aC->Int->Bool->ae->ai->Int->Int->O->Int->Int->O->Int->Int->Option (Sum (aC×Int×Bool×ae×ai×Int×qd) (ae×ai×Int×Int×ag×O×aC×Int×Bool)):=cL 193 2
def yh:Nat->Nat->aC->Int->Bool->ae->ai->Int->Int->ag->O->Int->Int->O->Int->Option (Sum (aC×Int×Bool×Int×Int×O×ae×ai×Int×Int×ag×O) (ae×ai×Int×Int×ag×O×aC×Int×Bool)):=cL 193 4
def Db:Nat->aC->Int->Bool->zy:=cF 194
def KQ:Nat->aC->Int->Bool->ue:=cF 195
def KR:Nat->aC->Int->j8:=cF 196
def Dc:Nat->Int->Int->aj->Int->j9:=cF 197
def KS:Nat->Int->Int->Int->Int->aj->ae->ai->Int->Int->ag->O->Int->Int->Int->Int->aj->ae->ai->Int->Int->ag->O->b0:=cF 198
def KT:Nat->aj->aj->b0:=cF 199
def yi:Nat->Nat->Int->aj->aj->Option (Sum (aj×aj) Bool):=cL 199 0
def KU:Nat->af->af->ae->ae->Int->ck->bp->Int->O->ag->ag->ae->b0:=cF 202
def yj:Nat->Nat->af->af->ae->ae->Int->ck->bp->Int->O->ag->ag->ae->Int->ck->Int->ry:=cL 202 0
def se:Nat->af->af->ae->ae->b0:=cF 203
def Dd:Nat->af->b0:=cF 204
def uj:Nat->Nat->Int->af->af->Int->Option (Sum af Bool):=cL 204 0
def KV:Nat->O->b0:=cF 205
def cu:Nat->Int->Int->Int->b0:=cF 206
def De:Nat->O->Int->b4:=cF 207
def yk:Nat->Nat->Int->Int->O->b9:=cL 207 0
def KW:Nat->UInt8->b0:=cF 208
def KX:Nat->O->b0:=cF 209
def Df:Nat->kp:=cF 210
def yl:Nat->af->O->b0:=cF 211
def Uc:Nat->af->O->b4:=cF 212
def Dg:Nat->Nat->Int->af->O->Int->ir:=cL 212 0
def KY:Nat->af->af->ae->ae->af->z1:=cF 213
def Ud:Nat->af->af->ae->ae->af->Option (Int×af×af×ae×ae):=cF 214
def Dh:Nat->Nat->af->af->ae->ae->Int->af->Int->Option (Sum (af×af×ae×ae) (Int×af×af×ae×ae)):=cL 214 0
def KZ:Nat->af->af->ae->ae->O->z1:=cF 215
def Di:Nat->ae->Int->Int->b0:=cF 216
def La:Nat->ae->Int->Int->ae->z8:=cF 217
def Ue:Nat->ae->Int->Int->ae->Option (Int×ae×Int×Int):=cF 218
def Dj:Nat->Nat->ae->Int->Int->Int->ae->Int->Option (Sum (ae×Int×Int) (Int×ae×Int×Int)):=cL 218 0
def Lb:Nat->ae->Int->Int->Int->Int->O->z8:=cF 219
def Lc:Nat->Int->Int->O->Int->Int->Int->b0:=cF 220
def Dk:Nat->Int->Option (O×O):=cF 221
def jb:Nat->Int->b0:=cF 222
def Dl:Nat->O->b0:=cF 223
def Dm:Nat->O->u4:=cF 224
def ym:Nat->O->Bool->l9:=cF 225
def yn:Nat->Nat->O->Bool->Int->Int->O->Bool->aT->AD:=cL 225 0
def Dn:Nat->O->Bool->l9:=cF 226
def Dp:Nat->Nat->O->Bool->Int->Int->O->Bool->aT->AD:=cL 226 0
def sf:Nat->O->Bool->Option (UInt8×Bool×O×Bool):=cF 227
def Ld:Nat->O->Bool->l9:=cF 228
def Dq:Nat->Nat->O->Bool->Int->Int->O->Bool->Int->Int->O->Bool->aT->Option (Sum Unit (Int×Int×O×Bool×aT×O×Bool)):=cL 228 0
def Dr:Nat->O->Bool->l9:=cF 229
def oE:Nat->O->Bool->UInt8->Option (Bool×O×Bool):=cF 230
def Le:Nat->O->Bool->Option (Int×Int×O×Bool×O×Bool):=cF 231
def oF:Nat->Nat->O->Bool->Int->Int->O->Bool->Int->Int->O->Bool->Int->cf->O->Int->Int->Option (Sum (O×Bool×Int×Int×O×Bool×Int×Int×O×Bool×cf×O×Int) (Int×Int×O×Bool×O×Bool)):=cL 231 2
def ql:Nat->Nat->O->Bool->Int->Int->O->Bool->Int->Int->O->Bool->cf->Int->O->Option (Sum (O×Bool×Int×Int×O×Bool×Int×Int×O×Bool×cf) (Int×Int×O×Bool×O×Bool)):=cL 231 0
def uk:Nat->Nat->O->Bool->Int->Int->O->Bool->Int->Int->O->Bool->Int->aC->cf->Int->Option (Sum (O×Bool×Int×Int×O×Bool×Int×Int×O×Bool×aC) (Int×Int×O×Bool×O×Bool)):=cL 231 4
def um:Nat->O->UInt8->b4:=cF 232
def Ds:Nat->UInt8->b4:=cF 233
def Dt:Nat->Int->Int->O->Bool->aT->b4:=cF 234
def yo:Nat->Nat->Int->Int->aT->Int->b9:=cL 234 0
def Lf:Nat->Int->O->b0:=cF 235
def kP:Nat->Int->b0:=cF 236
def Lg:Nat->af->af->ae->ae->Int->Int->Int->Int->Int->aj->ae->ai->Int->Int->ag->O->Int->cf->ag->ag->Int->ae->ai->Int->Int->ag->O->aC->Int->bp->Int->b0:=cF 237
def nA:Nat->af->af->ae->ae->Int->Int->Int->Int->aj->ae->ai->Int->Int->ag->O->b0:=cF 238
def Du:Nat->Int->Int->aj->hZ:=cF 239
def Dv:Nat->Int->b0:=cF 240
def yp:Nat->Int->Int->aj->b0:=cF 241
def yq:Nat->Nat->Int->Int->aj->Int->b5:=cL 241 0
def yr:Nat->Int->Int->O->b0:=cF 242
def Lh:Nat->O->b0:=cF 243
def uo:Nat->O->O->b0:=cF 244
def sg:Nat->af->af->ae->ae->ae->ai->Int->Int->ag->O->b0:=cF 245
def Li:Nat->ae->ai->Int->Int->Int->Int->b0:=cF 246
def uq:Nat->Nat->ae->ai->Int->Int->Int->Int->ai->Int->b5:=cL 246 0
def Lj:Nat->ae->b0:=cF 247
def Uf:Nat->ae->b4:=cF 248
def Dw:Nat->Nat->Int->ae->Int->ir:=cL 248 0
def Lk:Nat->Int->Int->O->b0:=cF 249
def Dx:Nat->Int->Int->O->b0:=cF 250
def Dy:Nat->O->b8:=cF 251
def Dz:Nat->O->hZ:=cF 252
def DA:Nat->O->O->b7:=cF 253
def DB:Nat->O->UInt8->b7:=cF 254
def DC:Nat->Nat->O->UInt8->te:=cL 254 0
def oG:Nat->O->Int->b4:=cF 255
def yt:Nat->Nat->Int->Int->O->b9:=cL 255 0
def kQ:Nat->O->O->b8:=cF 256
def Ug:Nat->O->b8:=cF 257
def sj:Nat->Int->b8:=cF 258
def Ll:Nat->O->O->b7:=cF 259
def yu:Nat->O->UInt8->b7:=cF 260
def yv:Nat->Nat->O->UInt8->te:=cL 260 0
def yw:Nat->Int->O->Int->Int->O->Int->O->Int->Int->O->b4:=cF 261
def Lm:Nat->O->O->b4:=cF 262
def Ln:Nat->ag->b0:=cF 263
def Uh:Nat->ag->b4:=cF 264
def DD:Nat->Nat->Int->ag->Int->ir:=cL 264 0
def Lo:Nat->Int->b0:=cF 265
def sk:Nat->ag->Int->Int->Int->b0:=cF 266
def Lp:Nat->Int->Int->ag->AM:=cF 267
def Ui:Nat->Int->Int->ag->Option (Int×Int×Int):=cF 268
def DE:Nat->Nat->Int->Int->Int->ag->Int->Option (Sum (Int×Int) (Int×Int×Int)):=cL 268 0
def Lq:Nat->Int->Int->Int->AM:=cF 269
def Lr:Nat->aC->Int->b0:=cF 270
def Ls:Nat->Int->Int->Int->Int->Int->Int->aj->ae->ai->Int->Int->ag->O->Int->cf->ag->ag->Int->ae->ai->Int->Int->ag->O->aC->Int->bp->bp->AN:=cF 271
def Uj:Nat->Int->Int->Int->Int->Int->Int->aj->ae->ai->Int->Int->ag->O->Int->cf->ag->ag->Int->ae->ai->Int->Int->ag->O->aC->Int->bp->bp->Option (Int×Int×rO):=cF 272
def DF:Nat->Nat->Int->Int->Int->Int->Int->Int->aj->ae->ai->Int->Int->ag->O->Int->cf->ag->ag->Int->ae->ai->Int->Int->ag->O->aC->Int->bp->Int->bp->Int->Option (Sum (Int×rO) (Int×Int×rO)):=cL 272 0
def Lt:Nat->Int->Int->Int->Int->Int->Int->aj->ae->ai->Int->Int->ag->O->Int->cf->ag->ag->Int->ae->ai->Int->Int->ag->O->aC->Int->bp->Int->Int->Int->Int->Int->Int->Int->aj->Bool->O->AN:=cF 273
def DG:Nat->Int->Int->Int->Int->Int->Int->Int->aj->Bool->O->Int->b0:=cF 274
def DH:Nat->aj->Int->b0:=cF 275
def Lu:Nat->Int->aj->pc:=cF 276
def Uk:Nat->Int->aj->hZ:=cF 277
def DI:Nat->Nat->Int->Int->aj->Int->A0:=cL 277 0
def Lv:Nat->Int->Int->Int->Int->O->pc:=cF 278
def Lw:Nat->af->af->ae->ae->Int->ck->bp->Int->O->ag->ag->ae->bp->A5:=cF 279
def Ul:Nat->af->af->ae->ae->Int->ck->bp->Int->O->ag->ag->ae->bp->Option (Int×af×af×ae×ae×Int×ck×bp×Int×O×ag×ag×ae):=cF 280
def DJ:Nat->Nat->af->af->ae->ae->Int->ck->bp->Int->O->ag->ag->ae->Int->bp->Int->Option (Sum (af×af×ae×ae×Int×ck×bp×Int×O×ag×ag×ae) (Int×af×af×ae×ae×Int×ck×bp×Int×O×ag×ag×ae)):=cL 280 0
def Lx:Nat->af->af->ae->ae->Int->ck->bp->Int->O->ag->ag->ae->Int->Int->Int->Int->Int->Int->Int->aj->Bool->O->A5:=cF 281
def Ly:Nat->ae->b0:=cF 282
def Um:Nat->ae->b4:=cF 283
def DK:Nat->Nat->Int->ae->Int->ir:=cL 283 0
def LA:Nat->Int->Int->O->b0:=cF 284
def LB:Nat->af->af->ae->ae->ka:=cF 286
def LC:Nat->af->af->ae->ae->Option (ae×ai×eK):=cF 287
def DL:Nat->Int->Option (ae×Int×Int):=cF 288
def sn:Nat->ae->ai->Int->Int->ko:=cF 289
def DM:Nat->ae->lx:=cF 290
def Un:Nat->ai->ly:=cF 291
def DN:Nat->ae->ai->Int->Int->O->O->ae->Int->ae->i7:=cF 292
def fL:Nat->Nat->ae->ai->Int->Int->O->O->ae->Int->Int->Int->ae->Option (Sum (ae×ai×Int×Int×O×O×ae×Int) (ae×ai×Int×Int×O×O×ae×Int)):=cL 292 0
def my:Nat->ae->ai->Int->Int->O->O->ae->Int->Int->i7:=cF 293
def DO:Nat->Int->Int->O->b4:=cF 294
def DP:Nat->ae->ai->Int->Int->O->O->ae->Int->Int->Option (ae×ae×ai×Int×Int×O×O×ae×Int):=cF 295
def yx:Nat->Int->Int->O->b0:=cF 296
def oH:Nat->ae->ai->Int->Int->O->O->ae->Int->Int->Int->O->ae->i7:=cF 297
def fB:Nat->ae->ai->Int->Int->O->O->ae->Int->Int->Int->O->i7:=cF 298
def DQ:Nat->ae->ai->Int->Int->O->O->ae->Int->Int->Int->O->Int->Int->O->Option (Int×Int×O×ae×ai×Int×Int×O×O×ae×Int):=cF 299
def mz:Nat->Int->Int->O->b4:=cF 300
def DR:Nat->Int->Int->b8:=cF 301
def jB:Nat->Int->b6:=cF 302
def iC:Nat->Int->Int->O->b7:=cF 303
def LD:Nat->Int->b7:=cF 304
def mA:Nat->Int->b7:=cF 305
def ur:Nat->O->O->b7:=cF 306
def qm:Nat->O->b7:=cF 307
def uu:Nat->ae->ai->Int->Int->O->O->ae->Int->Int->O->Int->Int->O->i7:=cF 308
def LF:Nat->ae->ai->Int->Int->Int->O->Int->Int->O->u6:=cF 309
def oI:Nat->ae->ai->Int->Int->Int->O->b4:=cF 310
def LG:Nat->Int->O->ai->b6:=cF 311
def yy:Nat->Nat->Int->O->Int->ai->Int->Option (Sum (Int×O) eK):=cL 311 0
def Uo:Nat->Int->O->Int->O->Int->Int->O->Option (Bool×Int×O):=cF 312
def LH:Nat->Int->O->Int->Int->O->ai->Option (Int×qd):=cF 313
def yz:Nat->Nat->Int->O->Int->Int->O->Int->ai->Int->Option (Sum qd (Int×qd)):=cL 313 0
def LI:Nat->Int->O->Int->Int->O->Int->O->Int->Int->O->Option (Bool×qd):=cF 314
def DS:Nat->ai->Int->ai->ly:=cF 315
def DT:Nat->ae->ai->Int->Int->Int->O->b6:=cF 316
def LJ:Nat->ae->ai->Int->Int->Int->O->ko:=cF 317
def Up:Nat->ai->Int->Int->ly:=cF 318
def uw:Nat->ae->ai->Int->Int->O->O->ae->Int->O->i7:=cF 319
def LK:Nat->ae->ai->Int->Int->O->O->ae->Int->Int->Int->O->ae->i7:=cF 320
def oJ:Nat->O->b6:=cF 321
def yA:Nat->Int->Int->O->b4:=cF 322
def DU:Nat->Int->b4:=cF 323
def LL:Nat->O->Int->b6:=cF 324
def yB:Nat->O->b6:=cF 325
def DW:Nat->O->kp:=cF 326
def yC:Nat->O->O->b0:=cF 327
def LM:Nat->Int->Int->O->Bool->aT->O->b0:=cF 328
def LN:Nat->Int->Int->O->Bool->aT->i6:=cF 329
def LO:Nat->Int->Int->O->Bool->aT->b0:=cF 330
def DX:Nat->Int->Int->O->Bool->aT->Int->b0:=cF 331
def jY:Nat->Int->aT->pc:=cF 332
def Uq:Nat->Int->aT->hZ:=cF 333
def DY:Nat->Nat->Int->Int->aT->Int->A0:=cL 333 0
def DZ:Nat->Int->Int->Int->O->Bool->aT->pc:=cF 334
def Ea:Nat->Int->Int->O->Bool->aT->b0:=cF 335
def yD:Nat->Nat->Int->Int->O->Bool->aT->Int->Int->u7:=cL 335 0
def kR:Nat->bZ->Int->Int->O->Bool->aT->i6:=cF 336
def Eb:Nat->Nat->Int->bZ->aT->Int->l7:=cL 336 1
def LP:Nat->bZ->aT->i6:=cF 337
def Ec:Nat->Nat->Int->ag->bZ->aT->aT->Int->u9:=cL 337 0
def qn:Nat->Nat->Int->bZ->ag->Int->l7:=cL 337 2
def LQ:Nat->bZ->O->j8:=cF 338
def ux:Nat->Nat->Int->O->bZ->l8:=cL 338 0
def Ed:Nat->bZ->b0:=cF 339
def Ee:Nat->Nat->Int->bZ->bZ->Int->b5:=cL 339 0
def Ef:Nat->Int->Int->O->Bool->Int->Int->Int->Bool->b0:=cF 340
def Eg:Nat->bZ->O->Int->b4:=cF 341
def so:Nat->Nat->Int->O->bZ->Int->ag->ir:=cL 341 0
def sr:Nat->Nat->Int->ag->Int->O->bZ->ag->Bool->Int->Int->Int->Option (Sum (O×bZ×Bool×Int×ag×Int×Int×ag) Int):=cL 341 2
def Eh:Nat->bZ->ag->Bool->Bool->j7:=cF 342
def Ei:Nat->Nat->bZ->cf->ag->Int->ag->Bool->Bool->Int->Option (Sum (bZ×cf×ag×Bool×Bool) ag):=cL 342 0
def eu:Nat->Nat->bZ->cf->ag->Int->Bool->Bool->p9:=cL 342 2
def jZ:Nat->bZ->cf->ag->Int->Option (bZ×cf×ag):=cF 343
def Ur:Nat->ag->j7:=cF 344
def Ej:Nat->ag->Int->b0:=cF 345
def Us:Nat->ag->Int->b4:=cF 346
def Ek:Nat->Nat->Int->ag->Int->Int->ir:=cL 346 0
def LR:Nat->Int->Int->O->Bool->Int->Int->UInt8->b0:=cF 347
def ss:Nat->Bool->b6:=cF 348
def LS:Nat->O->ae->b6:=cF 349
def El:Nat->Nat->Int->Int->O->ae->O->Option (Sum (Int×Int×O×ae×O) eK):=cL 349 0
def uy:Nat->O->UInt8->UInt8->b7:=cF 350
def qo:Nat->Nat->Int->UInt8->UInt8->aC->Int->Option (Sum aC O):=cL 350 0
def LU:Nat->O->O->b4:=cF 351
def Em:Nat->O->Int->Int->b7:=cF 352
def LV:Nat->Int->Int->Int->O->Int->Int->O->Option (Int×Int×O×Int):=cF 353
def LW:Nat->Int->Int->Int->hZ:=cF 354
def LX:Nat->Int->Int->b8:=cF 355
def LY:Nat->Int->Int->b8:=cF 356
def En:Nat->Int->b4:=cF 357
def LZ:Nat->Int->Int->hZ:=cF 358
def Ma:Nat->Int->Int->Int->hZ:=cF 359
def yE:Nat->Nat->Int->Int->Int->Int->Int->Int->Int->Int->Int->Option (Sum (Int×Int×Int×Int×Int×Int×Int×Int) (Int×Int)):=cL 359 0
def yF:Nat->Nat->Int->Int->Int->Int->Int->Int->Int->Int->Int->Option (Sum (Int×Int×Int×Int×Int×Int) (Int×Int)):=cL 359 2
def Mb:Nat->Int->b4:=cF 360
def akW:Nat->Int->b4:=cF 361
def Mc:Nat->Int->Int->b8:=cF 362
def Me:Nat->Int->Int->O->Int->Int->O->b4:=cF 363
def Mf:Nat->Int->Int->b0:=cF 364
def Mg:Nat->ae->ai->Int->Int->O->O->ae->Int->ae->ai->Int->Int->Option (ae×ai×Int×Int×O×Int×Int×O×O×ae×Int):=cF 365
def Mh:Nat->ae->ai->Int->Int->ag->O->ka:=cF 367
def Ut:Nat->ag->j7:=cF 368
def Eo:Nat->ae->ai->Int->Int->ag->O->ae->ai->Int->Int->ag->O->b0:=cF 370
def Mi:Nat->ae->ae->b0:=cF 371
def Ep:Nat->Nat->Int->ae->ae->Int->b5:=cL 371 0
def Mj:Nat->ai->ai->b0:=cF 372
def Er:Nat->Nat->Int->ai->ai->Int->b5:=cL 372 0
def Ml:Nat->ag->ag->b0:=cF 373
def Es:Nat->Nat->Int->ag->ag->Int->b5:=cL 373 0
def Mm:Nat->af->af->ae->ae->Int->ck->bp->Int->O->ag->ag->ae->b0:=cF 379
def yG:Nat->Nat->af->af->ae->ae->Int->ck->bp->Int->O->ag->ag->ae->Int->ck->Int->b5:=cL 379 0
def Mn:Nat->af->af->ae->ae->Int->Int->Int->Int->Int->aj->ae->ai->Int->Int->ag->O->Int->cf->ag->ag->Int->ae->ai->Int->Int->ag->O->aC->Int->bp->b0:=cF 380
def Mp:Nat->af->af->ae->ae->aC->gz:=cF 381
def Et:Nat->Nat->Int->Int->Int->Int->aj->ae->ai->Int->Int->ag->O->af->af->ae->ae->Int->Int->Int->Int->Int->Int->O->Int->gB->Int->v7:=cL 381 0
def Mq:Nat->af->af->ae->ae->v8:=cF 382
def Mr:Nat->aC->Option (gB×Int):=cF 383
def yH:Nat->Nat->Int->gB->aC->Option (Sum Unit (gB×Int)):=cL 383 0
def Ms:Nat->aC->Int->w8:=cF 384
def uz:Nat->aC->Int->j8:=cF 385
def Eu:Nat->Nat->Int->Int->Int->aC->l8:=cL 385 0
def Mt:Nat->aC->Int->Bool->xz:=cF 386
def yI:Nat->Nat->aC->Int->Bool->Int->Int->Int->Int->aj->O->Int->Int->Int->Int->O->Int->Int->y7:=cL 386 0
def gI:Nat->aC->Int->Bool->Int->ue:=cF 387
def sv:Nat->aC->Int->Bool->y8:=cF 388
def Mu:Nat->aC->Int->Option (O×Int×Bool):=cF 389
def yJ:Nat->Int->Int->Int->Int->aj->O->ee:=cF 390
def uA:Nat->Nat->Int->Int->Int->Int->aj->O->Int->aC->ag->Int->A6:=cL 390 0
def yK:Nat->Nat->Int->Int->Int->Int->aj->O->Int->Int->Int->O->Int->aC->ag->aj->Int->Int->Int->Option (Sum (Int×Int×Int×Int×aj×O×Int×Int×Int×O×aj×Int×Int×aC) aC):=cL 390 4
def yL:Nat->Nat->Int->Int->Int->Int->aj->O->aC->Int->aj->Int->A6:=cL 390 2
def Ew:Nat->Int->Int->Int->Int->aj->O->b0:=cF 391
def sw:Nat->Int->ee:=cF 392
def yM:Nat->Nat->Int->aC->vt:=cL 392 0
def Ex:Nat->O->ee:=cF 393
def Mv:Nat->aC->b4:=cF 394
def yN:Nat->Nat->Int->Int->Int->aC->Int->w9:=cL 394 0
def Ey:Nat->aC->aC->b0:=cF 395
def Ez:Nat->Nat->Int->aC->aC->Int->b5:=cL 395 0
def Mw:Nat->af->af->ae->ae->Int->Int->Int->Int->aj->ae->ai->Int->Int->ag->O->Int->Int->Int->Int->aj->O->gz:=cF 396
def qp:Nat->Int->Int->Int->Int->aj->ae->ai->Int->Int->ag->O->gz:=cF 397
def sx:Nat->Int->Int->aj->j9:=cF 398
def Mx:Nat->aj->Option aj:=cF 399
def My:Nat->Int->Int->aj->Int->Int->aj->y9:=cF 400
def sy:Nat->Nat->Int->Int->aj->Int->Int->aj->Int->Int->Int->Int->aj->Int->zc:=cL 400 0
def yO:Nat->Int->Int->aj->Int->b4:=cF 401
def EA:Nat->Int->Int->aj->Option aj:=cF 402
def Mz:Nat->af->af->ae->ae->Int->Int->Int->Int->aj->ae->ai->Int->Int->ag->O->Int->Int->Int->Int->aj->O->gz:=cF 403
def MA:Nat->af->af->ae->ae->aC->ze:=cF 404
def yP:Nat->Nat->ae->Int->Int->O->aC->Int->Bool->Int->Int->O->af->af->ae->ae->Int->aC->Int->Option (Sum (ae×Int×Int×O×aC×Int×Bool×Int×Int×O×af×af×ae×ae×aC) (ae×ai×Int×Int×ag×O×Bool)):=cL 404 0
def yQ:Nat->Nat->ae->ai->Int->Int->O->aC->Int->Bool->Int->Int->O->af->af->ae->ae->Int->aC->Int->Option (Sum (ae×ai×Int×Int×O×aC×Int×Bool×Int×Int×O×af×af×ae×ae×aC) (ae×ai×Int×Int×ag×O×Bool)):=cL 404 2
def yR:Nat->Nat->ae->ai->Int->Int->ag->O->aC->Int->Bool->Int->Int->O->af->af->ae->ae->Int->aC->Option (Sum (Int×Int×O×ae×ai×Int×Int×ag×O×af×af×ae×ae×aC×Int×Bool×aC) (ae×ai×Int×Int×ag×O×Bool)):=cL 404 4
def EB:Nat->aC->Int->Bool->zy:=cF 405
def EC:Nat->aC->Int->j8:=cF 406
def ED:Nat->Int->Int->aj->Int->j9:=cF 407
def MC:Nat->Int->Int->Int->Int->aj->ae->ai->Int->Int->ag->O->Int->Int->Int->Int->aj->ae->ai->Int->Int->ag->O->b0:=cF 408
def MD:Nat->Int->Int->aj->Int->Int->aj->b0:=cF 409
def ME:Nat->aj->aj->b0:=cF 410
def EE:Nat->Nat->Int->aj->aj->Int->b5:=cL 410 0
def MF:Nat->af->af->ae->ae->Int->ck->bp->Int->O->ag->ag->ae->af->af->ae->ae->Int->ck->bp->Int->O->ag->ag->ae->b0:=cF 411
def MG:Nat->af->af->ae->ae->af->af->ae->ae->b0:=cF 412
def EF:Nat->af->af->b0:=cF 413
def EG:Nat->Nat->Int->af->af->b5:=cL 413 0
def EH:Nat->ae->ae->b0:=cF 414
def EI:Nat->Nat->Int->ae->ae->b5:=cL 414 0
def EJ:Nat->Int->Int->O->Int->Int->O->b0:=cF 415
def MH:Nat->ck->ck->b0:=cF 416
def EK:Nat->Nat->Int->ck->ck->b5:=cL 416 0
def EL:Nat->Int->Int->Int->Int->Int->aj->ae->ai->Int->Int->ag->O->Int->cf->ag->ag->Int->ae->ai->Int->Int->ag->O->aC->Int->bp->Int->Int->Int->Int->Int->aj->ae->ai->Int->Int->ag->O->Int->cf->ag->ag->Int->ae->ai->Int->Int->ag->O->aC->Int->bp->b0:=cF 417
def MI:Nat->Int->Int->Int->Int->aj->ae->ai->Int->Int->ag->O->Int->Int->Int->Int->aj->ae->ai->Int->Int->ag->O->b0:=cF 418
def MJ:Nat->Int->Int->aj->Int->Int->aj->b0:=cF 419
def EM:Nat->aj->aj->b0:=cF 420
def EN:Nat->Nat->Int->aj->aj->b5:=cL 420 0
def EO:Nat->Int->Int->Int->O->Int->Int->Int->O->b0:=cF 421
def yS:Nat->Int->Int->O->Int->Int->O->b0:=cF 422
def EP:Nat->ae->ai->Int->Int->ag->O->ae->ai->Int->Int->ag->O->b0:=cF 423
def MK:Nat->ae->ai->Int->Int->ae->ai->Int->Int->b0:=cF 424
def ML:Nat->ae->ae->b0:=cF 425
def ER:Nat->Nat->Int->ae->ae->b5:=cL 425 0
def yT:Nat->Int->Int->O->Int->Int->O->b0:=cF 426
def MM:Nat->ai->ai->b0:=cF 427
def ES:Nat->Nat->Int->ai->ai->b5:=cL 427 0
def ET:Nat->Int->O->Int->Int->O->Int->O->Int->Int->O->b0:=cF 428
def sA:Nat->ag->ag->b0:=cF 429
def EU:Nat->Nat->Int->ag->ag->b5:=cL 429 0
def MN:Nat->cf->cf->b0:=cF 430
def EV:Nat->Nat->Int->cf->cf->b5:=cL 430 0
def MO:Nat->aC->Int->aC->Int->b0:=cF 431
def MP:Nat->aC->aC->b0:=cF 432
def EW:Nat->Nat->Int->aC->aC->b5:=cL 432 0
def EX:Nat->bp->bp->b0:=cF 433
def EY:Nat->Nat->Int->bp->bp->b5:=cL 433 0
def EZ:Nat->Int->Int->Int->Int->Int->Int->Int->aj->Bool->O->Int->Int->Int->Int->Int->Int->Int->aj->Bool->O->b0:=cF 434
def MQ:Nat->Int->O->Int->O->b0:=cF 435
def MR:Nat->ae->ae->b0:=cF 436
def Fa:Nat->Nat->Int->ae->ae->b5:=cL 436 0
def Uu:Nat->af->af->ae->ae->Int->ck->bp->Int->O->ag->ag->ae->b0:=cF 437
theorem akX (n g h i j x4 k m p q r b d f):Jn (n+1) g h i j x4 k m p q r b d f=(Jo n g h i j f).bind fun s=>cond (á (s<0)) (ã (-1:Int)) ((Jp n k s).bind fun t=>cond (á (t<0)) (ã (-1:Int)) ((BH n m t).bind fun u=>cond (á (u<0)) (ã (-1:Int)) ((Jy n p q u).bind fun z=>cond (á (z<0)) (ã (-1:Int)) ((rR n r z).bind fun y4=>cond (á (y4<0)) (ã (-1:Int)) ((rR n b y4).bind fun y5=>cond (á (y5<0)) (ã (-1:Int)) ((Jz n d y5).bind fun y6=>cond (á (y6<0)) (ã (-1:Int)) (ã y6))))))):=Ž
theorem akY (n b d f g h):Jo (n+1) b d f g h=(Br n b h).bind fun i=>cond (á (i<0)) (ã (-1:Int)) ((Br n d i).bind fun j=>cond (á (j<0)) (ã (-1:Int)) ((Bt n f j).bind fun k=>cond (á (k<0)) (ã (-1:Int)) ((Bt n g k).bind fun m=>cond (á (m<0)) (ã (-1:Int)) (ã m)))):=Ž
theorem akZ (n b d):Br (n+1) b d=letI a:=Þ ß (d-(à b:Int));cond (á (a<0)) (ã (-1:Int)) ((Bs n n 0 b a).bind fun f=>aq f (fun g=>ã g) (fun h=>ã h)):=Ž
theorem alA (n m b d f):Bs n (m+1) b d f=letI c:=Þ ß;cond (á (b<(à d:Int))) ((au d b).bind fun g=>letI a:=c (f-(à g:Int));cond (á (a<0)) (ã (Â (-1:Int))) (Bs n m (c (b+1)) d a)) (ã (Á f)):=Ž
theorem alB (n b d):Bt (n+1) b d=letI a:=Þ ß (d-(à b:Int));cond (á (a<0)) (ã (-1:Int)) ((Bu n n 0 a b).bind fun f=>aq f (fun g=>ã g) (fun h=>ã h)):=Ž
theorem alC (n m b f d):Bu n (m+1) b f d=cond (á (b<(à d:Int))) ((au d b).bind fun g=>(Bv n g.1 g.2.1 g.2.2 f).bind fun h=>cond (á (h<0)) (ã (Â (-1:Int))) (Bu n m (Þ ß (b+1)) h d)) (ã (Á f)):=Ž
theorem alD (n f g b d):Bv (n+1) f g b d=letI a:=Þ ß (d-(à b:Int));cond (á (a<0)) (ã (-1:Int)) (ã a):=Ž
theorem alE (n b d):Jp (n+1) b d=letI a:=Þ ß (d-(à b:Int));cond (á (a<0)) (ã (-1:Int)) ((Bw n n 0 a b).bind fun f=>aq f (fun g=>ã g) (fun h=>ã h)):=Ž
theorem alF (n m d g f):Bw n (m+1) d g f=cond (á (d<(à f:Int))) ((au f d).bind fun b=>letI j:=b.2.2.2;letI e:=j.2.2.2;letI k:=e.2.2.2;letI a:=k.2.2.2;letI l:=a.2.2.2;letI c:=l.2.2.2;letI i:=c.2.2.2;(Bx n b.1 b.2.1 b.2.2.1 j.1 j.2.1 j.2.2.1 e.1 e.2.1 e.2.2.1 k.1 k.2.1 k.2.2.1 a.1 a.2.1 a.2.2.1 l.1 l.2.1 l.2.2.1 c.1 c.2.1 c.2.2.1 i.1 i.2.1 i.2.2.1 i.2.2.2.1 i.2.2.2.2 g).bind fun h=>cond (á (h<0)) (ã (Â (-1:Int))) (Bw n m (Þ ß (d+1)) h f)) (ã (Á g)):=Ž
theorem alG (n x0 x1 x2 x3 x4 x5 x6 x7 x8 x9 b d z f g h ad i j k m p q r s t u):Bx (n+1) x0 x1 x2 x3 x4 x5 x6 x7 x8 x9 b d z f g h ad i j k m p q r s t u=(Jq n x1 x2 x3 x4 x5 x6 x7 x8 x9 b d u).bind fun y0=>cond (á (y0<0)) (ã (-1:Int)) ((Jv n f y0).bind fun y1=>cond (á (y1<0)) (ã (-1:Int)) ((rR n g y1).bind fun y2=>cond (á (y2<0)) (ã (-1:Int)) ((rR n h y2).bind fun y3=>cond (á (y3<0)) (ã (-1:Int)) ((BB n i j k m p q y3).bind fun y4=>cond (á (y4<0)) (ã (-1:Int)) ((Jw n r s y4).bind fun y5=>cond (á (y5<0)) (ã (-1:Int)) ((BH n t y5).bind fun y6=>cond (á (y6<0)) (ã (-1:Int)) (ã y6))))))):=Ž
theorem alH (n s t f g h i j k m p b d):Jq (n+1) s t f g h i j k m p b d=(Jr n f g h d).bind fun q=>cond (á (q<0)) (ã (-1:Int)) ((BB n i j k m p b q).bind fun r=>cond (á (r<0)) (ã (-1:Int)) (ã r)):=Ž
theorem alI (n g h b d):Jr (n+1) g h b d=(By n b d).bind fun f=>cond (á (f<0)) (ã (-1:Int)) (ã f):=Ž
theorem alJ (n b d):By (n+1) b d=letI a:=Þ ß (d-(à b:Int));cond (á (a<0)) (ã (-1:Int)) ((Bz n n 0 a b).bind fun f=>aq f (fun g=>ã g) (fun h=>ã h)):=Ž
theorem alK (n m b g d):Bz n (m+1) b g d=cond (á (b<(à d:Int))) ((au d b).bind fun f=>(BA n f.1 f.2.1 f.2.2.1 f.2.2.2 g).bind fun h=>cond (á (h<0)) (ã (Â (-1:Int))) (Bz n m (Þ ß (b+1)) h d)) (ã (Á g)):=Ž
theorem alL (n i b d f g):BA (n+1) i b d f g=(xf n b d f g).bind fun h=>cond (á (h<0)) (ã (-1:Int)) (ã h):=Ž
theorem alM (n f g b d):xf (n+1) f g b d=letI a:=Þ ß (d-(à b:Int));cond (á (a<0)) (ã (-1:Int)) (ã a):=Ž
theorem alN (n f g h i j b k):BB (n+1) f g h i j b k=(Js n f g h i k).bind fun m=>cond (á (m<0)) (ã (-1:Int)) ((rR n j m).bind fun d=>letI a:=Þ ß (d-(à b:Int));cond (á (d<0)) (ã (-1:Int)) (cond (á (a<0)) (ã (-1:Int)) (ã a))):=Ž
theorem alO (n b d i j f):Js (n+1) b d i j f=(Jt n b f).bind fun g=>cond (á (g<0)) (ã (-1:Int)) ((Ju n d g).bind fun h=>cond (á (h<0)) (ã (-1:Int)) (ã h)):=Ž
theorem alP (n b d):Jt (n+1) b d=letI a:=Þ ß (d-(à b:Int));cond (á (a<0)) (ã (-1:Int)) ((BD n n 0 a b).bind fun f=>aq f (fun g=>ã g) (fun h=>ã h)):=Ž
theorem alQ (n m b f d):BD n (m+1) b f d=cond (á (b<(à d:Int))) ((au d b).bind fun g=>(xg n g.1 g.2.1 g.2.2 f).bind fun h=>cond (á (h<0)) (ã (Â (-1:Int))) (BD n m (Þ ß (b+1)) h d)) (ã (Á f)):=Ž
theorem alR (n f g b d):xg (n+1) f g b d=letI a:=Þ ß (d-(à b:Int));cond (á (a<0)) (ã (-1:Int)) (ã a):=Ž
theorem alS (n b d):Ju (n+1) b d=letI a:=Þ ß (d-(à b:Int));cond (á (a<0)) (ã (-1:Int)) ((BF n n 0 a b).bind fun f=>aq f (fun g=>ã g) (fun h=>ã h)):=Ž
theorem alT (n m d g f):BF n (m+1) d g f=cond (á (d<(à f:Int))) ((au f d).bind fun b=>(BG n b.1 b.2.1 b.2.2.1 b.2.2.2.1 b.2.2.2.2 g).bind fun h=>cond (á (h<0)) (ã (Â (-1:Int))) (BF n m (Þ ß (d+1)) h f)) (ã (Á g)):=Ž
theorem alU (n j b f g h d):BG (n+1) j b f g h d=letI a:=Þ ß (d-(à b:Int));cond (á (a<0)) (ã (-1:Int)) ((xg n f g h a).bind fun i=>cond (á (i<0)) (ã (-1:Int)) (ã i)):=Ž
theorem alV (n b d):rR (n+1) b d=letI a:=Þ ß (d-(à b:Int));cond (á (a<0)) (ã (-1:Int)) (ã a):=Ž
theorem alW (n b d):Jv (n+1) b d=letI a:=Þ ß (d-(à b:Int));cond (á (a<0)) (ã (-1:Int)) (ã a):=Ž
theorem alX (n b g d):Jw (n+1) b g d=(Jx n b d).bind fun f=>cond (á (f<0)) (ã (-1:Int)) (ã f):=Ž
theorem alY (n b d):Jx (n+1) b d=letI a:=Þ ß (d-(à b:Int));cond (á (a<0)) (ã (-1:Int)) (ã a):=Ž
theorem alZ (n b d):BH (n+1) b d=letI a:=Þ ß (d-(à b:Int));cond (á (a<0)) (ã (-1:Int)) ((BI n n 0 a b).bind fun f=>aq f (fun g=>ã g) (fun h=>ã h)):=Ž
theorem amA (n m d g f):BI n (m+1) d g f=cond (á (d<(à f:Int))) ((au f d).bind fun b=>letI a:=b.2.2.2.2;(BJ n b.1 b.2.1 b.2.2.1 b.2.2.2.1 a.1 a.2.1 a.2.2.1 a.2.2.2.1 a.2.2.2.2.1 a.2.2.2.2.2 g).bind fun h=>cond (á (h<0)) (ã (Â (-1:Int))) (BI n m (Þ ß (d+1)) h f)) (ã (Á g)):=Ž
theorem amB (n h i j k m p q g r d b):BJ (n+1) h i j k m p q g r d b=(By n g b).bind fun f=>letI a:=Þ ß (f-(à d:Int));cond (á (f<0)) (ã (-1:Int)) (cond (á (a<0)) (ã (-1:Int)) (ã a)):=Ž
theorem amC (n f b d):Jy (n+1) f b d=letI a:=Þ ß (d-(à b:Int));cond (á (a<0)) (ã (-1:Int)) (ã a):=Ž
theorem amD (n b d):Jz (n+1) b d=letI a:=Þ ß (d-(à b:Int));cond (á (a<0)) (ã (-1:Int)) ((BK n n 0 a b).bind fun f=>aq f (fun g=>ã g) (fun h=>ã h)):=Ž
theorem amE (n m b f d):BK n (m+1) b f d=cond (á (b<(à d:Int))) ((au d b).bind fun g=>(xf n g.1 g.2.1 g.2.2 f).bind fun h=>cond (á (h<0)) (ã (Â (-1:Int))) (BK n m (Þ ß (b+1)) h d)) (ã (Á f)):=Ž
theorem amF (n g h i j k m p q r s b d):xh (n+1) g h i j k m p q r s b d=(JA n g h i j).bind fun f=>(JB n m).bind fun u=>(Cc n p).bind fun z=>(JK n q r).bind fun t=>(rS n s).bind fun y4=>(rS n b).bind fun y5=>(JL n d).bind fun y6=>ã (f.1,f.2.1,f.2.2.1,f.2.2.2,k,u,z,t.1,t.2,y4,y5,y6):=Ž
theorem amG (n b d f g):JA (n+1) b d f g=(BL n b).bind fun h=>(BL n d).bind fun i=>(BN n f).bind fun j=>(BN n g).bind fun k=>ã (h,i,j,k):=Ž
theorem amH (n b):BL (n+1) b=letI a:=(à b:Int);cond (á (0<=a/\a<=a/\a<=(big:Int))) ((BM n n 0 b (Ä (À a) ([]:O))).bind fun d=>aq d (fun f=>ã f) (fun g=>ã g)) â:=Ž
theorem amI (n m b f d):BM n (m+1) b f d=letI a:=À b;cond (á (b<(à f:Int))) ((au f b).bind fun g=>cond (á (0<=b/\b<(à d:Int))) ((aO d a).bind fun _=>BM n m (Þ ß (b+1)) f (d.set a g)) â) (ã (Á d)):=Ž
theorem amJ (n b):BN (n+1) b=letI a:=(à b:Int);cond (á (0<=a/\a<=a/\a<=(big:Int))) ((BO n n 0 b (Ä (À a) ((0:Int),(0:Int),([]:O)))).bind fun d=>aq d (fun f=>ã f) (fun g=>ã g)) â:=Ž
theorem amK (n m b f d):BO n (m+1) b f d=letI a:=À b;cond (á (b<(à f:Int))) ((au f b).bind fun g=>(BP n g.1 g.2.1 g.2.2).bind fun h=>cond (á (0<=b/\b<(à d:Int))) ((aO d a).bind fun _=>BO n m (Þ ß (b+1)) f (d.set a (h.1,h.2.1,h.2.2))) â) (ã (Á d)):=Ž
theorem amL (n b d f):BP (n+1) b d f=ã (b,d,f):=Ž
theorem amM (n b):JB (n+1) b=letI a:=(à b:Int);cond (á (0<=a/\a<=a/\a<=(big:Int))) ((BQ n n 0 b (Ä (À a) ((0:Int),(0:Int),(0:Int),(0:Int),(0:Int),([]:aj),([]:ae),([]:ai),(0:Int),(0:Int),([]:ag),([]:O),(0:Int),([]:cf),([]:ag),([]:ag),(0:Int),([]:ae),([]:ai),(0:Int),(0:Int),([]:ag),([]:O),([]:aC),(0:Int),([]:bp)))).bind fun d=>aq d (fun f=>ã f) (fun g=>ã g)) â:=Ž
theorem amN (n m f h g):BQ n (m+1) f h g=letI w:=À f;cond (á (f<(à h:Int))) ((au h f).bind fun b=>letI q:=b.2.2.2;letI k:=q.2.2.2;letI r:=k.2.2.2;letI a:=r.2.2.2;letI s:=a.2.2.2;letI e:=s.2.2.2;letI o:=e.2.2.2;(BR n b.1 b.2.1 b.2.2.1 q.1 q.2.1 q.2.2.1 k.1 k.2.1 k.2.2.1 r.1 r.2.1 r.2.2.1 a.1 a.2.1 a.2.2.1 s.1 s.2.1 s.2.2.1 e.1 e.2.1 e.2.2.1 o.1 o.2.1 o.2.2.1 o.2.2.2.1 o.2.2.2.2).bind fun d=>letI t:=d.2.2.2;letI l:=t.2.2.2;letI u:=l.2.2.2;letI c:=u.2.2.2;letI v:=c.2.2.2;letI j:=v.2.2.2;letI p:=j.2.2.2;cond (á (0<=f/\f<(à g:Int))) ((aO g w).bind fun _=>BQ n m (Þ ß (f+1)) h (g.set w (d.1,d.2.1,d.2.2.1,t.1,t.2.1,t.2.2.1,l.1,l.2.1,l.2.2.1,u.1,u.2.1,u.2.2.1,c.1,c.2.1,c.2.2.1,v.1,v.2.1,v.2.2.1,j.1,j.2.1,j.2.2.1,p.1,p.2.1,p.2.2.1,p.2.2.2.1,p.2.2.2.2))) â) (ã (Á g)):=Ž
theorem amO (n x0 x1 x2 x3 x4 x5 x6 x7 x8 x9 f g h i j k m p q r s t u z ad ae):BR (n+1) x0 x1 x2 x3 x4 x5 x6 x7 x8 x9 f g h i j k m p q r s t u z ad ae=(JC n x1 x2 x3 x4 x5 x6 x7 x8 x9 f g).bind fun b=>letI a:=b.2.2.2.2.2;(JH n i).bind fun y1=>(rS n j).bind fun y2=>(rS n k).bind fun y3=>(BV n p q r s t u).bind fun d=>(JI n z ad).bind fun y5=>(Cc n ae).bind fun y6=>ã (x0,b.1,b.2.1,b.2.2.1,b.2.2.2.1,b.2.2.2.2.1,a.1,a.2.1,a.2.2.1,a.2.2.2.1,a.2.2.2.2.1,a.2.2.2.2.2,h,y1,y2,y3,m,d.1,d.2.1,d.2.2.1,d.2.2.2.1,d.2.2.2.2.1,d.2.2.2.2.2,y5.1,y5.2,y6):=Ž
theorem amP (n g h i j k m p q r s d):JC (n+1) g h i j k m p q r s d=(JD n i j k).bind fun f=>(BV n m p q r s d).bind fun b=>ã (g,h,f.1,f.2.1,f.2.2,b.1,b.2.1,b.2.2.1,b.2.2.2.1,b.2.2.2.2.1,b.2.2.2.2.2):=Ž
theorem amQ (n b d f):JD (n+1) b d f=(BS n f).bind fun g=>ã (b,d,g):=Ž
theorem amR (n b):BS (n+1) b=letI a:=(à b:Int);cond (á (0<=a/\a<=a/\a<=(big:Int))) ((BT n n 0 b (Ä (À a) ((0:Int),(0:Int),(0:Int),([]:O)))).bind fun d=>aq d (fun f=>ã f) (fun g=>ã g)) â:=Ž
theorem amS (n m b f d):BT n (m+1) b f d=letI a:=À b;cond (á (b<(à f:Int))) ((au f b).bind fun g=>(BU n g.1 g.2.1 g.2.2.1 g.2.2.2).bind fun h=>cond (á (0<=b/\b<(à d:Int))) ((aO d a).bind fun _=>BT n m (Þ ß (b+1)) f (d.set a (h.1,h.2.1,h.2.2.1,h.2.2.2))) â) (ã (Á d)):=Ž
theorem amT (n d f g h):BU (n+1) d f g h=(xi n f g h).bind fun b=>ã (d,b.1,b.2.1,b.2.2):=Ž
theorem amU (n b d f):xi (n+1) b d f=ã (b,d,f):=Ž
theorem amV (n d f g h i j):BV (n+1) d f g h i j=(JE n d f g h).bind fun b=>(rS n i).bind fun k=>ã (b.1,b.2.1,b.2.2.1,b.2.2.2,k,j):=Ž
theorem amW (n b d f g):JE (n+1) b d f g=(JF n b).bind fun h=>(JG n d).bind fun i=>ã (h,i,f,g):=Ž
theorem amX (n b):JF (n+1) b=letI a:=(à b:Int);cond (á (0<=a/\a<=a/\a<=(big:Int))) ((BW n n 0 b (Ä (À a) ((0:Int),(0:Int),([]:O)))).bind fun d=>aq d (fun f=>ã f) (fun g=>ã g)) â:=Ž
theorem amY (n m b f d):BW n (m+1) b f d=letI a:=À b;cond (á (b<(à f:Int))) ((au f b).bind fun g=>(xj n g.1 g.2.1 g.2.2).bind fun h=>cond (á (0<=b/\b<(à d:Int))) ((aO d a).bind fun _=>BW n m (Þ ß (b+1)) f (d.set a (h.1,h.2.1,h.2.2))) â) (ã (Á d)):=Ž
theorem amZ (n b d f):xj (n+1) b d f=ã (b,d,f):=Ž
theorem anA (n b):JG (n+1) b=letI a:=(à b:Int);cond (á (0<=a/\a<=a/\a<=(big:Int))) ((BX n n 0 b (Ä (À a) ((0:Int),([]:O),(0:Int),(0:Int),([]:O)))).bind fun d=>aq d (fun f=>ã f) (fun g=>ã g)) â:=Ž
theorem anB (n m b h d):BX n (m+1) b h d=letI a:=À b;cond (á (b<(à h:Int))) ((au h b).bind fun f=>(BY n f.1 f.2.1 f.2.2.1 f.2.2.2.1 f.2.2.2.2).bind fun g=>cond (á (0<=b/\b<(à d:Int))) ((aO d a).bind fun _=>BX n m (Þ ß (b+1)) h (d.set a (g.1,g.2.1,g.2.2.1,g.2.2.2.1,g.2.2.2.2))) â) (ã (Á d)):=Ž
theorem anC (n d f g h i):BY (n+1) d f g h i=(xj n g h i).bind fun b=>ã (d,f,b.1,b.2.1,b.2.2):=Ž
theorem anD (n b):rS (n+1) b=letI a:=(à b:Int);cond (á (0<=a/\a<=a/\a<=(big:Int))) ((BZ n n 0 b (Ä (À a) (0:Int))).bind fun d=>aq d (fun f=>ã f) (fun g=>ã g)) â:=Ž
theorem anE (n m b f d):BZ n (m+1) b f d=letI a:=À b;cond (á (b<(à f:Int))) ((au f b).bind fun g=>cond (á (0<=b/\b<(à d:Int))) ((aO d a).bind fun _=>BZ n m (Þ ß (b+1)) f (d.set a g)) â) (ã (Á d)):=Ž
theorem anF (n b):JH (n+1) b=letI a:=(à b:Int);cond (á (0<=a/\a<=a/\a<=(big:Int))) ((Ca n n 0 b (Ä (À a) ä)).bind fun d=>aq d (fun f=>ã f) (fun g=>ã g)) â:=Ž
theorem anG (n m b f d):Ca n (m+1) b f d=letI a:=À b;cond (á (b<(à f:Int))) ((au f b).bind fun g=>cond (á (0<=b/\b<(à d:Int))) ((aO d a).bind fun _=>Ca n m (Þ ß (b+1)) f (d.set a g)) â) (ã (Á d)):=Ž
theorem anH (n b d):JI (n+1) b d=(JJ n b).bind fun f=>ã (f,d):=Ž
theorem anI (n b):JJ (n+1) b=letI a:=(à b:Int);cond (á (0<=a/\a<=a/\a<=(big:Int))) ((Cb n n 0 b (Ä (À a) (0:UInt8))).bind fun d=>aq d (fun f=>ã f) (fun g=>ã g)) â:=Ž
theorem anJ (n m b f d):Cb n (m+1) b f d=letI a:=À b;cond (á (b<(à f:Int))) ((au f b).bind fun g=>cond (á (0<=b/\b<(à d:Int))) ((aO d a).bind fun _=>Cb n m (Þ ß (b+1)) f (d.set a (Ã (À ((g).toNat:Int))))) â) (ã (Á d)):=Ž
theorem anK (n b):Cc (n+1) b=letI a:=(à b:Int);cond (á (0<=a/\a<=a/\a<=(big:Int))) ((Cd n n 0 b (Ä (À a) ((0:Int),(0:Int),(0:Int),(0:Int),(0:Int),(0:Int),(0:Int),([]:aj),ä,([]:O)))).bind fun d=>aq d (fun f=>ã f) (fun g=>ã g)) â:=Ž
theorem anL (n m f h g):Cd n (m+1) f h g=letI e:=À f;cond (á (f<(à h:Int))) ((au h f).bind fun b=>letI a:=b.2.2.2.2;(Ce n b.1 b.2.1 b.2.2.1 b.2.2.2.1 a.1 a.2.1 a.2.2.1 a.2.2.2.1 a.2.2.2.2.1 a.2.2.2.2.2).bind fun d=>letI c:=d.2.2.2.2;cond (á (0<=f/\f<(à g:Int))) ((aO g e).bind fun _=>Cd n m (Þ ß (f+1)) h (g.set e (d.1,d.2.1,d.2.2.1,d.2.2.2.1,c.1,c.2.1,c.2.2.1,c.2.2.2.1,c.2.2.2.2.1,c.2.2.2.2.2))) â) (ã (Á g)):=Ž
theorem anM (n b d f g h i j k m p):Ce (n+1) b d f g h i j k m p=(BS n k).bind fun q=>ã (b,d,f,g,h,i,j,q,m,p):=Ž
theorem anN (n b d):JK (n+1) b d=ã (b,d):=Ž
theorem anO (n b):JL (n+1) b=letI a:=(à b:Int);cond (á (0<=a/\a<=a/\a<=(big:Int))) ((Cf n n 0 b (Ä (À a) ((0:Int),(0:Int),([]:O)))).bind fun d=>aq d (fun f=>ã f) (fun g=>ã g)) â:=Ž
theorem anP (n m b f d):Cf n (m+1) b f d=letI a:=À b;cond (á (b<(à f:Int))) ((au f b).bind fun g=>(xi n g.1 g.2.1 g.2.2).bind fun h=>cond (á (0<=b/\b<(à d:Int))) ((aO d a).bind fun _=>Cf n m (Þ ß (b+1)) f (d.set a (h.1,h.2.1,h.2.2))) â) (ã (Á d)):=Ž
theorem Uv (n g h i j f k m p q r b d):JM (n+1) g h i j f k m p q r b d=((xn n g h i j).bind fun y0=>cond (!y0) (ã å) ((bS n f 1 5).bind fun y1=>cond (!y1) (ã å) (cond ((à k:Int) !=f) (ã å) (cond (á (40<(à m:Int))) (ã å) ((JS n p q).bind fun y2=>cond (!y2) (ã å) ((Cm n r).bind fun y3=>cond (!y3) (ã å) ((Cm n b).bind fun y4=>cond (!y4) (ã å) (ã (á (300<(à d:Int))))))))))).bind fun s=>cond s (ã ä) ((xk n n g h i j f k m p q r b d 0).bind fun t=>aq t (fun z22=>letI e:=z22.2.2;letI a:=e.2.2.2;letI l:=a.2.2.2;(xl n n z22.1 z22.2.1 e.1 e.2.1 e.2.2.1 a.1 a.2.1 a.2.2.1 l.1 l.2.1 l.2.2.1 l.2.2.2 0).bind fun u=>aq u (fun z23=>letI o:=z23.2.2;letI c:=o.2.2.2;letI v:=c.2.2.2;(xm n n z23.1 z23.2.1 o.1 o.2.1 o.2.2.1 c.1 c.2.1 c.2.2.1 v.1 v.2.1 v.2.2.1 v.2.2.2 0).bind fun z=>aq z (fun _=>ã å) (fun ad=>ã ad)) (fun ae=>ã ae)) (fun af=>ã af)):=Ž
theorem Uw (n m j k p q h i r s t u f g d):xk n (m+1) j k p q h i r s t u f g d=cond (á (d<h)) ((au i d).bind fun z=>cond (z.1 !=d) (ã (Â ä)) ((au i d).bind fun b=>letI o:=b.2.2.2;letI e:=o.2.2.2;letI v:=e.2.2.2;letI a:=v.2.2.2;letI w:=a.2.2.2;letI c:=w.2.2.2;letI l:=c.2.2.2;(JT n j k p q b.1 b.2.1 b.2.2.1 o.1 o.2.1 o.2.2.1 e.1 e.2.1 e.2.2.1 v.1 v.2.1 v.2.2.1 a.1 a.2.1 a.2.2.1 w.1 w.2.1 w.2.2.1 c.1 c.2.1 c.2.2.1 l.1 l.2.1 l.2.2.1 l.2.2.2.1 l.2.2.2.2 h).bind fun y2=>cond (!y2) (ã (Â ä)) (xk n m j k p q h i r s t u f g (Þ ß (d+1))))) (ã (Á (j,k,p,q,h,i,r,s,t,u,f,g))):=Ž
theorem Ux (n m j k p q i r h s t u f g d):xl n (m+1) j k p q i r h s t u f g d=cond (á (d<(à h:Int))) ((au h d).bind fun b=>letI a:=b.2.2.2.2;(Cs n b.1 b.2.1 b.2.2.1 b.2.2.2.1 a.1 a.2.1 a.2.2.1 a.2.2.2.1 a.2.2.2.2.1 a.2.2.2.2.2 i).bind fun z=>cond (!z) (ã (Â ä)) (xl n m j k p q i r h s t u f g (Þ ß (d+1)))) (ã (Á (j,k,p,q,i,r,h,s,t,u,f,g))):=Ž
theorem Uy (n m h i j k p q r s t u f b d):xm n (m+1) h i j k p q r s t u f b d=cond (á (d<(à b:Int))) ((au b d).bind fun g=>(xC n g.1 g.2.1 g.2.2).bind fun z=>cond (!z) (ã (Â ä)) (xm n m h i j k p q r s t u f b (Þ ß (d+1)))) (ã (Á ())):=Ž
theorem anQ (n f g h i):xn (n+1) f g h i=(tT n n f g h i 0).bind fun j=>aq j (fun b=>(tU n n b.1 b.2.1 b.2.2.1 b.2.2.2 0).bind fun k=>aq k (fun z2=>letI c:=(à z2.1:Int);letI a:=(à z2.2.1:Int);(cond (á (c<=8)) (cond (á (a<=8)) ((Ck n z2.2.2.1 c a).bind fun m=>cond m ((Ck n z2.2.2.2 c a).bind fun p=>ã p) (ã ä)) (ã ä)) (ã ä)).bind fun d=>ã d) (fun q=>ã q)) (fun r=>ã r):=Ž
theorem Uz (n m b f g h d):tT n (m+1) b f g h d=letI c:=Þ ß;letI a:=tT n m b f g h (c (d+1));cond (á (d<(à b:Int))) ((au b d).bind fun i=>(Cg n i).bind fun j=>cond (!j) (ã (Â ä)) ((au b d).bind fun k=>(rT n f k).bind fun p=>cond p (ã (Â ä)) (cond (á (0<d)) ((au b (c (d-1))).bind fun q=>(au b d).bind fun r=>cond (!(Op.bytesLess q r)) (ã (Â ä)) a) a))) (ã (Á (b,f,g,h))):=Ž
theorem UA (n m f b g h d):tU n (m+1) f b g h d=letI c:=Þ ß;letI a:=tU n m f b g h (c (d+1));cond (á (d<(à b:Int))) ((au b d).bind fun i=>(Cg n i).bind fun j=>cond (!j) (ã (Â ä)) (cond (á (0<d)) ((au b (c (d-1))).bind fun k=>(au b d).bind fun p=>cond (!(Op.bytesLess k p)) (ã (Â ä)) a) a)) (ã (Á (f,b,g,h))):=Ž
theorem anR (n d):Cg (n+1) d=(Ch n n 0 d).bind fun g=>aq g (fun f=>((bS n (à f:Int) 1 8).bind fun h=>cond h ((JO n f).bind fun i=>ã (!i)) (ã ä)).bind fun b=>ã b) (fun j=>ã j):=Ž
theorem UB (n m d b):Ch n (m+1) d b=cond (á (d<(à b:Int))) ((bF b d).bind fun f=>(JN n (Ã (À ((f).toNat:Int)))).bind fun g=>cond (!g) (ã (Â ä)) (Ch n m (Þ ß (d+1)) b)) (ã (Á b)):=Ž
theorem anS (n b):JN (n+1) b=letI a:=((b).toNat:Int);letI e:=á (a<=90);letI c:=á (65<=a);(cond (á (97<=a)) (cond (á (a<=122)) (ã å) (cond c (ã e) (ã ä))) (cond c (ã e) (ã ä))).bind fun d=>ã d:=Ž
theorem uC (n b f g):bS (n+1) b f g=(cond (á (f<=b)) (ã (á (b<=g))) (ã ä)).bind fun d=>ã d:=Ž
theorem anT (n b):JO (n+1) b=((rT n ([([66,69,71,73,78]:O),([112,114,105,110,116]:O),([105,102]:O),([101,108,115,101]:O),([119,104,105,108,101]:O),([110,101,120,116]:O),([100,101,108,101,116,101]:O),([78,82]:O),([78,70]:O)]:af) b).bind fun f=>cond f (ã å) ((Cj n).bind fun g=>(rT n g b).bind fun h=>ã h)).bind fun d=>ã d:=Ž
theorem anU (n b d):rT (n+1) b d=(Ci n n 0 d b).bind fun f=>aq f (fun _=>ã ä) (fun g=>ã g):=Ž
theorem UC (n m b f d):Ci n (m+1) b f d=cond (á (b<(à d:Int))) ((au d b).bind fun g=>cond (g==f) (ã (Â å)) (Ci n m (Þ ß (b+1)) f d)) (ã (Á ())):=Ž
theorem anV (n):Cj (n+1)=ã ([([108,101,110,103,116,104]:O),([115,117,98,115,116,114]:O),([105,110,100,101,120]:O),([105,110,116]:O),([117,112,112,101,114]:O),([108,111,119,101,114]:O)]:af):=Ž
theorem UD (n b h i):Ck (n+1) b h i=letI a:=(à b:Int);((bS n a 1 1500).bind fun j=>cond (!j) (ã å) ((au b (Þ ß (a-1))).bind fun k=>ã (k.1 !=36))).bind fun d=>cond d (ã ä) ((xo n n 0 i h a b).bind fun f=>aq f (fun _=>ã å) (fun g=>ã g)):=Ž
theorem UE (n m b f g d h):xo n (m+1) b f g d h=cond (á (b<d)) ((au h b).bind fun i=>(JP n i.1 i.2.1 i.2.2 d g f).bind fun j=>cond (!j) (ã (Â ä)) (xo n m (Þ ß (b+1)) f g d h)) (ã (Á ())):=Ž
theorem anW (n f d g m k j):JP (n+1) f d g m k j=letI o:=á (d<k);letI l:=bS n d 0 (Þ ß (m-1));letI e:=á (d<j);letI c:=á (0<=d);letI a:=g==([]:O);cond (f==1) (((jz n d).bind fun h=>cond h (ã a) (ã ä)).bind fun b=>ã b) (cond (f==2) (ã (d==0)) (cond (f==3) ((cond c (cond o (ã a) (ã ä)) (ã ä)).bind fun b=>ã b) (cond (f==4) ((cond c (cond o (ã a) (ã ä)) (ã ä)).bind fun b=>ã b) (cond (f==5) ((cond c (cond o (ã a) (ã ä)) (ã ä)).bind fun b=>ã b) (cond (f==6) ((cond c (cond e (ã a) (ã ä)) (ã ä)).bind fun b=>ã b) (cond (f==7) ((cond c (cond e (ã a) (ã ä)) (ã ä)).bind fun b=>ã b) (cond (f==8) ((cond c (cond e (ã a) (ã ä)) (ã ä)).bind fun b=>ã b) (cond (f==35) ((cond c (cond e (ã a) (ã ä)) (ã ä)).bind fun b=>ã b) (cond (f==24) ((xp n g).bind fun h=>(cond h.2.2.2.2.2 (ã (d==0)) (ã ä)).bind fun i=>ã i) (cond (f==25) ((xp n g).bind fun h=>(cond h.2.2.2.2.2 (ã (d==0)) (ã ä)).bind fun i=>ã i) (cond (f==29) (((bS n d 1 3).bind fun h=>cond h ((Cj n).bind fun p=>(rT n p g).bind fun q=>ã q) (ã ä)).bind fun b=>ã b) (cond (f==30) ((l.bind fun h=>cond h (ã a) (ã ä)).bind fun b=>ã b) (cond (f==31) ((l.bind fun h=>cond h (ã a) (ã ä)).bind fun b=>ã b) (cond (f==33) (((bS n d 0 1).bind fun h=>cond h (ã a) (ã ä)).bind fun b=>ã b) (((bS n f 1 36).bind fun h=>cond h (cond (d==0) (ã a) (ã ä)) (ã ä)).bind fun b=>ã b))))))))))))))):=Ž
theorem UF (n b):jz (n+1) b=(bS n b (-9000000000000) 9000000000000).bind fun d=>ã d:=Ž
theorem MS (n d):xp (n+1) d=letI a:=((0:Int),(0:Int),([]:O),ä,([]:aT),ä);cond (á (60<(à d:Int))) (ã a) ((xq n d 0 ä 0).bind fun b=>letI c:=b.2.2.2;(cond c.2.2.2.2 (ã å) (cond (c.2.2.2.1 !=(à d:Int)) (ã å) ((xu n b.1 b.2.1 b.2.2.1 c.1 c.2.1).bind fun g=>ã (á (12<g))))).bind fun f=>cond f (ã a) (ã (b.1,b.2.1,b.2.2.1,c.1,c.2.1,å))):=Ž
theorem UG (n g h i f):xq (n+1) g h i f=(Cl n g h i f).bind fun b=>letI c:=b.2.2.2;(rU n n c.2.2.1 c.2.2.2.1 c.2.2.2.2 0 0 ([]:O) ä f ([mj (b.1,b.2.1,b.2.2.1,c.1,c.2.1)]:aT)).bind fun j=>aq j (fun z2=>letI e:=z2.2.2;letI a:=(à z2.2.2.2.2.2.2.2:Int);cond (a==1) (cond (á ((0:Int)<=0/\(0:Int)<a)) ((nu e.2.2.2.2.2 0).bind fun d=>ã (d.1,d.2.1,d.2.2.1,d.2.2.2.1,d.2.2.2.2,z2.1,z2.2.1,e.1)) â) (ã ((7:Int),(0:Int),([]:O),ä,e.2.2.2.2.2,z2.1,z2.2.1,e.1))) (fun k=>ã k):=Ž
theorem uD (n m p q r g h i j k f):rU n (m+1) p q r g h i j k f=(fb n p q r ((Ã (À 124)):UInt8)).bind fun d=>cond d.1 ((Cl n d.2.1 (Þ ß (d.2.2.1+1)) d.2.2.2 k).bind fun b=>letI a:=b.2.2.2;cond (Å (à f+1) big) (rU n m a.2.2.1 a.2.2.2.1 a.2.2.2.2 g h i j k (f++[mj (b.1,b.2.1,b.2.2.1,a.1,a.2.1)])) â) (ã (Á (d.2.1,d.2.2.1,d.2.2.2,g,h,i,j,f))):=Ž
theorem anX (n f g h i):Cl (n+1) f g h i=(xr n n f g h 0 0 ([]:O) ä i ([]:aT)).bind fun j=>aq j (fun b=>letI c:=b.2.2;letI a:=(à b.2.2.2.2.2.2.2:Int);cond (a==0) (ã ((11:Int),(0:Int),([]:O),ä,([]:aT),b.1,b.2.1,c.1)) (cond (a==1) (cond (á ((0:Int)<=0/\(0:Int)<a)) ((nu c.2.2.2.2.2 0).bind fun d=>ã (d.1,d.2.1,d.2.2.1,d.2.2.2.1,d.2.2.2.2,b.1,b.2.1,c.1)) â) (ã ((6:Int),(0:Int),([]:O),ä,c.2.2.2.2.2,b.1,b.2.1,c.1)))) (fun k=>ã k):=Ž
theorem yU (n m b d g i j k p q h):xr n (m+1) b d g i j k p q h=letI a:=(b,d,g,i,j,k,p,h);cond (!g) (cond (á (d<(à b:Int))) ((bF b d).bind fun r=>cond (((r).toNat:Int) !=124) ((bF b d).bind fun s=>cond (((s).toNat:Int) !=41) ((JQ n b d g q).bind fun f=>letI c:=f.2.2.2;cond (Å (à h+1) big) (xr n m c.2.2.1 c.2.2.2.1 c.2.2.2.2 i j k p q (h++[mj (f.1,f.2.1,f.2.2.1,c.1,c.2.1)])) â) (ã (Á a))) (ã (Á a))) (ã (Á a))) (ã (Á a)):=Ž
theorem UH (n d f g h):JQ (n+1) d f g h=(xt n d f g h).bind fun b=>letI c:=b.2.2.2;(rV n n c.2.2.1 c.2.2.2.1 c.2.2.2.2 0 0 ([]:O) ä b.1 b.2.1 b.2.2.1 c.1 c.2.1).bind fun i=>aq i (fun z2=>letI a:=z2.2.2.2.2.2.2.2;ã (a.1,a.2.1,a.2.2.1,a.2.2.2.1,a.2.2.2.2,z2.1,z2.2.1,z2.2.2.1)) (fun j=>ã j):=Ž
theorem Fb (n m u z t i j k p q r s b d):rV n (m+1) u z t i j k p q r s b d=letI c:=Þ ß;letI a:=([mj (q,r,s,b,d)]:aT);cond (!t) ((fb n u z t ((Ã (À 42)):UInt8)).bind fun f=>cond f.1 (rV n m f.2.1 (c (f.2.2.1+1)) f.2.2.2 i j k p (8:Int) (0:Int) ([]:O) ä a) ((fb n f.2.1 f.2.2.1 f.2.2.2 ((Ã (À 43)):UInt8)).bind fun g=>cond g.1 (rV n m g.2.1 (c (g.2.2.1+1)) g.2.2.2 i j k p (9:Int) (0:Int) ([]:O) ä a) ((fb n g.2.1 g.2.2.1 g.2.2.2 ((Ã (À 63)):UInt8)).bind fun h=>cond h.1 (rV n m h.2.1 (c (h.2.2.1+1)) h.2.2.2 i j k p (10:Int) (0:Int) ([]:O) ä a) (ã (Á (h.2.1,h.2.2.1,h.2.2.2,i,j,k,p,q,r,s,b,d)))))) (ã (Á (u,z,t,i,j,k,p,q,r,s,b,d))):=Ž
theorem UI (n f g i j):xt (n+1) f g i j=letI a:=Þ ß;letI m:=a (g+1);(cond i (ã å) (cond (á ((à f:Int)<=g)) (ã å) (ã (á (40<j))))).bind fun k=>cond k (ã ((0:Int),(0:Int),([]:O),ä,([]:aT),f,g,å)) ((bF f g).bind fun d=>letI c:=((d).toNat:Int);letI e:=((1:Int),a c,([]:O),ä,([]:aT),f,a (g+1),å);cond (c==40) ((xq n f m i (a (j+1))).bind fun b=>letI l:=b.2.2.2;(fb n l.2.2.1 l.2.2.2.1 l.2.2.2.2 ((Ã (À 41)):UInt8)).bind fun h=>cond (!h.1) (ã (b.1,b.2.1,b.2.2.1,l.1,l.2.1,h.2.1,a (h.2.2.1+1),å)) (ã (b.1,b.2.1,b.2.2.1,l.1,l.2.1,h.2.1,a (h.2.2.1+1),h.2.2.2))) (cond (c==46) (ã ((2:Int),(0:Int),([]:O),ä,([]:aT),f,a (g+1),i)) (cond (c==94) (ã ((4:Int),(0:Int),([]:O),ä,([]:aT),f,a (g+1),i)) (cond (c==36) (ã ((5:Int),(0:Int),([]:O),ä,([]:aT),f,a (g+1),i)) (cond (c==91) ((JR n f m i).bind fun b=>letI o:=b.2.2.2;ã (b.1,b.2.1,b.2.2.1,o.1,([]:aT),o.2.1,o.2.2.1,o.2.2.2)) (cond (c==92) (cond (á ((à f:Int)<=m)) (ã ((0:Int),(0:Int),([]:O),ä,([]:aT),f,a (g+1),å)) ((bF f m).bind fun b=>ã ((1:Int),a ((b).toNat:Int),([]:O),ä,([]:aT),f,a (m+1),i))) (cond (c==42) (ã e) (cond (c==43) (ã e) (cond (c==63) (ã e) (ã ((1:Int),a c,([]:O),ä,([]:aT),f,a (g+1),i))))))))))):=Ž
theorem UJ (n b d f h):fb (n+1) b d f h=(cond (!f) (cond (á (d<(à b:Int))) ((bF b d).bind fun i=>ã (((i).toNat:Int)==((h).toNat:Int))) (ã ä)) (ã ä)).bind fun g=>ã (g,b,d,f):=Ž
theorem UK (n j k m):JR (n+1) j k m=letI x:=mu n n;letI s:=Ä (À (256:Int)) ä;letI l:=á ((0:Int)<=256/\(256:Int)<=256/\(256:Int)<=(big:Int));letI e:=Þ ß;(fb n j k m ((Ã (À 94)):UInt8)).bind fun f=>cond f.1 (cond l ((iA n n f.2.1 (e (f.2.2.1+1)) f.2.2.2 (0:Int) (0:Int) ([]:O) ä (3:Int) (0:Int) ([]:O) å s (0:Int)).bind fun h=>aq h (fun z2=>letI y:=e (z2.2.1+1);letI t:=z2.2.2.2;letI a:=t.2.2.2;letI v:=a.2.2.2;(cond (á ((à z2.1:Int)<=z2.2.1)) (ã å) (ã (v.2.2.2==0))).bind fun g=>cond g ((x z2.1 y å t.1 t.2.1 t.2.2.1 a.1 a.2.1 a.2.2.1 v.1 v.2.1 (0:Int) ([]:aC) v.2.2.1).bind fun b=>aq b (fun z24=>letI o:=z24.2.2.2.2.2.2.2;ã (o.1,o.2.1,o.2.2.2.2,o.2.2.2.1,z24.1,z24.2.1,z24.2.2.1)) (fun d=>ã d)) ((x z2.1 y z2.2.2.1 t.1 t.2.1 t.2.2.1 a.1 a.2.1 a.2.2.1 v.1 v.2.1 (0:Int) ([]:aC) v.2.2.1).bind fun b=>aq b (fun z24=>letI p:=z24.2.2.2.2.2.2.2;ã (p.1,p.2.1,p.2.2.2.2,p.2.2.2.1,z24.1,z24.2.1,z24.2.2.1)) (fun d=>ã d))) (fun i=>ã i)) â) (cond l ((iA n n f.2.1 f.2.2.1 f.2.2.2 0 0 ([]:O) ä 3 0 ([]:O) ä s (0:Int)).bind fun h=>aq h (fun z2=>letI z:=e (z2.2.1+1);letI u:=z2.2.2.2;letI c:=u.2.2.2;letI w:=c.2.2.2;(cond (á ((à z2.1:Int)<=z2.2.1)) (ã å) (ã (w.2.2.2==0))).bind fun g=>cond g ((x z2.1 z å u.1 u.2.1 u.2.2.1 c.1 c.2.1 c.2.2.1 w.1 w.2.1 (0:Int) ([]:aC) w.2.2.1).bind fun b=>aq b (fun z24=>letI q:=z24.2.2.2.2.2.2.2;ã (q.1,q.2.1,q.2.2.2.2,q.2.2.2.1,z24.1,z24.2.1,z24.2.2.1)) (fun d=>ã d)) ((x z2.1 z z2.2.2.1 u.1 u.2.1 u.2.2.1 c.1 c.2.1 c.2.2.1 w.1 w.2.1 (0:Int) ([]:aC) w.2.2.1).bind fun b=>aq b (fun z24=>letI r:=z24.2.2.2.2.2.2.2;ã (r.1,r.2.1,r.2.2.2.2,r.2.2.2.1,z24.1,z24.2.1,z24.2.2.1)) (fun d=>ã d))) (fun i=>ã i)) â):=Ž
theorem UL (n m q r s t u z x6 x7 x8 x9 f b d g h i j k p):kO n (m+1) q r s t u z x6 x7 x8 x9 f b d g h i j k p=letI c:=À b;letI a:=À ((h).toNat:Int);cond (á (b<=p)) (cond (á (0<=b/\b<(à d:Int))) ((aO d c).bind fun _=>kO n m q r s t u z x6 x7 x8 x9 f (Þ ß (b+1)) (d.set c å) g (Ã a) i j k p) â) (ã (Á (q,r,s,t,u,z,x6,x7,x8,x9,f,d,g,Ã a,i,j,k))):=Ž
theorem MU (n m d f x2 p q r s t u z g h i):iA n (m+1) d f x2 p q r s t u z g h i=letI ay:=kO n n d;letI aj:=(d,f,x2,p,q,r,s,t,u,z,g,h,i);letI ah:=iA n m;letI a:=Þ ß;letI af:=a (f+1);letI az:=a (af+1);cond (á (f<(à d:Int))) ((bF d f).bind fun k=>letI bf:=((k).toNat:Int);letI l:=bf !=93;letI e:=Ã (À bf);cond l ((bF d f).bind fun j=>letI c:=a ((j).toNat:Int);letI ai:=á (c<c);letI v:=ay af x2 p q r s t u z g c h l e d f i c;letI o:=ay af å p q r s t u z g c h l e d f i c;cond (á (az<(à d:Int))) ((bF d af).bind fun y2=>cond (((y2).toNat:Int)==45) ((bF d az).bind fun y3=>cond (((y3).toNat:Int) !=93) ((bF d az).bind fun y4=>letI ag:=a ((y4).toNat:Int);cond (á (ag<c)) ((ay (a (af+2)) å p q r s t u z g c h l e d f i ag).bind fun y5=>aq y5 (fun b=>letI ba:=b.2.2.2;letI ad:=ba.2.2.2;letI ak:=ad.2.2.2;ah b.1 b.2.1 b.2.2.1 ba.1 ba.2.1 ba.2.2.1 ad.1 ad.2.1 ad.2.2.1 ak.1 ak.2.1 ak.2.2.1 (a (ak.2.2.2.2.2.2.2+1))) (fun w6=>ã (Â w6))) ((ay (a (af+2)) x2 p q r s t u z g c h l e d f i ag).bind fun y5=>aq y5 (fun b=>letI bb:=b.2.2.2;letI ae:=bb.2.2.2;letI al:=ae.2.2.2;ah b.1 b.2.1 b.2.2.1 bb.1 bb.2.1 bb.2.2.1 ae.1 ae.2.1 ae.2.2.1 al.1 al.2.1 al.2.2.1 (a (al.2.2.2.2.2.2.2+1))) (fun w6=>ã (Â w6)))) (cond ai (o.bind fun y4=>aq y4 (fun z5=>letI am:=z5.2.2.2;letI w:=am.2.2.2;letI bc:=w.2.2.2;ah z5.1 z5.2.1 z5.2.2.1 am.1 am.2.1 am.2.2.1 w.1 w.2.1 w.2.2.1 bc.1 bc.2.1 bc.2.2.1 (a (bc.2.2.2.2.2.2.2+1))) (fun w5=>ã (Â w5))) (v.bind fun y4=>aq y4 (fun z5=>letI an:=z5.2.2.2;letI x:=an.2.2.2;letI bd:=x.2.2.2;ah z5.1 z5.2.1 z5.2.2.1 an.1 an.2.1 an.2.2.1 x.1 x.2.1 x.2.2.1 bd.1 bd.2.1 bd.2.2.1 (a (bd.2.2.2.2.2.2.2+1))) (fun w5=>ã (Â w5))))) (cond ai (o.bind fun y3=>aq y3 (fun z4=>letI ao:=z4.2.2.2;letI y:=ao.2.2.2;letI be:=y.2.2.2;ah z4.1 z4.2.1 z4.2.2.1 ao.1 ao.2.1 ao.2.2.1 y.1 y.2.1 y.2.2.1 be.1 be.2.1 be.2.2.1 (a (be.2.2.2.2.2.2.2+1))) (fun w4=>ã (Â w4))) (v.bind fun y3=>aq y3 (fun z4=>letI ap:=z4.2.2.2;letI aa:=ap.2.2.2;letI ar:=aa.2.2.2;ah z4.1 z4.2.1 z4.2.2.1 ap.1 ap.2.1 ap.2.2.1 aa.1 aa.2.1 aa.2.2.1 ar.1 ar.2.1 ar.2.2.1 (a (ar.2.2.2.2.2.2.2+1))) (fun w4=>ã (Â w4))))) (cond ai (o.bind fun y2=>aq y2 (fun z3=>letI au:=z3.2.2.2;letI ab:=au.2.2.2;letI av:=ab.2.2.2;ah z3.1 z3.2.1 z3.2.2.1 au.1 au.2.1 au.2.2.1 ab.1 ab.2.1 ab.2.2.1 av.1 av.2.1 av.2.2.1 (a (av.2.2.2.2.2.2.2+1))) (fun w3=>ã (Â w3))) (v.bind fun y2=>aq y2 (fun z3=>letI aw:=z3.2.2.2;letI ac:=aw.2.2.2;letI ax:=ac.2.2.2;ah z3.1 z3.2.1 z3.2.2.1 aw.1 aw.2.1 aw.2.2.1 ac.1 ac.2.1 ac.2.2.1 ax.1 ax.2.1 ax.2.2.1 (a (ax.2.2.2.2.2.2.2+1))) (fun w3=>ã (Â w3))))) (ã (Á aj))) (ã (Á aj)):=Ž
theorem UM (n m h i j k p q r s t u g b d f):mu n (m+1) h i j k p q r s t u g b d f=letI c:=Þ ß (b+1);letI a:=mu n m h i j k p q r s t u g;cond (á (b<256)) (cond (á (0<=b/\b<(à f:Int))) ((aO f (À b)).bind fun z=>cond z (cond (Å (à d+1) big) (a c (d++[Ã (À (Þ .u8 b))]) f) â) (a c d f)) â) (ã (Á (h,i,j,k,p,q,r,s,t,u,g,d))):=Ž
theorem anY (n b d f g h):xu (n+1) b d f g h=(xv n n b d f g h 0 0).bind fun i=>aq i (fun j=>ã (Þ ß (j+1))) (fun k=>ã k):=Ž
theorem UN (n m h i j k d f g):xv n (m+1) h i j k d f g=cond (á (f<(à d:Int))) ((gf d f).bind fun b=>(xu n b.1 b.2.1 b.2.2.1 b.2.2.2.1 b.2.2.2.2).bind fun p=>(rW n g p).bind fun q=>xv n m h i j k d (Þ ß (f+1)) q) (ã (Á g)):=Ž
theorem UO (n b d):rW (n+1) b d=cond (á (d<b)) (ã b) (ã d):=Ž
theorem anZ (n d f):JS (n+1) d f=((bS n d 0 300).bind fun g=>cond g (ã (á ((à f:Int)<=1500))) (ã ä)).bind fun b=>ã b:=Ž
theorem aoA (n b):Cm (n+1) b=(xw n n 0 b).bind fun d=>aq d (fun f=>ã ((à f:Int)==3)) (fun g=>ã g):=Ž
theorem UP (n m d b):xw n (m+1) d b=cond (á (d<(à b:Int))) ((au b d).bind fun f=>(bS n f 0 100000).bind fun g=>cond (!g) (ã (Â ä)) (xw n m (Þ ß (d+1)) b)) (ã (Á b)):=Ž
theorem UQ (n x0 x1 x2 x3 x4 x5 x6 x7 x8 x9 d f g h i j k m p q r s t u z ad ae af ag ah b):JT (n+1) x0 x1 x2 x3 x4 x5 x6 x7 x8 x9 d f g h i j k m p q r s t u z ad ae af ag ah b=((bS n b 1 5).bind fun y0=>cond (!y0) (ã å) ((bS n x4 0 (Þ ß (b-1))).bind fun y1=>cond (!y1) (ã å) ((qh n x0 x1 x2 x3 x5 x6 x7 x8 x9 d f g h i j).bind fun y2=>cond (!y2) (ã å) (cond (á (b<=x6)) (ã å) ((bS n k 0 2).bind fun y3=>cond (!y3) (ã å) (cond ((à m:Int) !=b) (ã å) (cond ((à p:Int) !=b) (ã å) (ã ((à q:Int) !=b))))))))).bind fun ay=>cond ay (ã ä) ((Cn n x7 x8 x9).bind fun az=>(xx n n x4 x5 x6 x7 x8 x9 d f g h i j k m p q r s t u z ad ae af ag ah x0 x1 x2 x3 0 az.1 b).bind fun a1=>aq a1 (fun z23=>letI v:=z23.2.2.2;letI e:=v.2.2.2.2;letI w:=e.2.2.2.2;letI a:=w.2.2.2.2;letI x:=a.2.2.2.2;letI l:=x.2.2.2.2;letI y:=l.2.2.2.2;(xy n n z23.1 z23.2.1 z23.2.2.1 v.1 v.2.1 v.2.2.1 v.2.2.2.1 e.1 e.2.1 e.2.2.1 e.2.2.2.1 w.1 w.2.1 w.2.2.1 w.2.2.2.1 a.1 a.2.1 a.2.2.1 a.2.2.2.1 x.1 x.2.1 x.2.2.1 x.2.2.2.1 l.1 l.2.1 l.2.2.1 l.2.2.2.1 y.1 y.2.1 y.2.2.1 0 y.2.2.2.1 y.2.2.2.2).bind fun a6=>aq a6 (fun z24=>letI c:=z24.2.2.2.2.2.2.2.2.2.2.2.2.2.2.2.2;letI ab:=c.2.2.2;letI o:=ab.2.2.2;letI aa:=o.2.2.2.2;((bS n c.1 z24.2.2.2.1 aa.2.2.2.2).bind fun a7=>cond a7 ((tW n aa.1 aa.2.1 aa.2.2.1 aa.2.2.2.1 c.2.1 c.2.2.1 ab.1 ab.2.1 ab.2.2.1 o.1).bind fun a8=>cond a8 ((JW n o.2.1 o.2.2.1).bind fun bb=>cond bb (ã (á ((à z24.2.2.2.2.2.2.2.2.2.2.2.2.2.2.2.2.2.2.2.2.2.2.2.2.2.1:Int)<=40))) (ã ä)) (ã ä)) (ã ä)).bind fun bc=>ã bc) (fun bd=>ã bd)) (fun bf=>ã bf)):=Ž
theorem UR (n m x0 x1 x2 x3 x4 x5 x6 x7 x8 x9 i j k p f g q r s t u z ad ae af ag ah ai aj ak b d h):xx n (m+1) x0 x1 x2 x3 x4 x5 x6 x7 x8 x9 i j k p f g q r s t u z ad ae af ag ah ai aj ak b d h=letI a:=Þ ß;cond (á (b<h)) ((au f b).bind fun y0=>(bS n y0 1 (a (d+1))).bind fun y1=>cond (!y1) (ã (Â ä)) ((au g b).bind fun y2=>(bS n y2 0 d).bind fun y3=>cond (!y3) (ã (Â ä)) (xx n m x0 x1 x2 x3 x4 x5 x6 x7 x8 x9 i j k p f g q r s t u z ad ae af ag ah ai aj ak (a (b+1)) d h))) (ã (Á (x0,x1,x2,x3,x4,x5,x6,x7,x8,x9,i,j,k,p,f,g,q,r,s,t,u,z,ad,ae,af,ag,ah,ai,aj,ak,h,d))):=Ž
theorem US (n m x0 x1 x2 x3 x4 x5 x6 x7 x8 x9 g h i j k p q r s t u z ad ae af b ag ah ai aj d ak al):xy n (m+1) x0 x1 x2 x3 x4 x5 x6 x7 x8 x9 g h i j k p q r s t u z ad ae af b ag ah ai aj d ak al=cond (á (d<(à b:Int))) ((au b d).bind fun f=>letI a:=f.2.2.2.2;(Cs n f.1 f.2.1 f.2.2.1 f.2.2.2.1 a.1 a.2.1 a.2.2.1 a.2.2.2.1 a.2.2.2.2.1 a.2.2.2.2.2 ak).bind fun y1=>cond (!y1) (ã (Â ä)) ((au b d).bind fun y2=>cond (y2.2.1 !=x0) (ã (Â ä)) (xy n m x0 x1 x2 x3 x4 x5 x6 x7 x8 x9 g h i j k p q r s t u z ad ae af b ag ah ai aj (Þ ß (d+1)) ak al))) (ã (Á (x0,x1,x2,x3,x4,x5,x6,x7,x8,x9,g,h,i,j,k,p,q,r,s,t,u,z,ad,ae,af,b,ag,ah,ai,aj,al))):=Ž
theorem aoB (n q r s t i u j k m z b d f g h):qh (n+1) q r s t i u j k m z b d f g h=(Cn n j k m).bind fun y0=>((bS n i 0 300).bind fun y1=>cond y1 ((bS n u (-1) 4).bind fun y2=>cond y2 ((xA n j k m).bind fun y3=>cond y3 (cond (á (y0.2<=i)) ((tW n q r s t z b d f g h).bind fun y4=>ã y4) (ã ä)) (ã ä)) (ã ä)) (ã ä)).bind fun p=>ã p:=Ž
theorem aoC (n d f b):Cn (n+1) d f b=letI c:=Þ ß;letI a:=(à b:Int);cond (a==0) (ã (d,f)) ((au b (c (a-1))).bind fun g=>ã (c (d+a),g.1)):=Ž
theorem UT (n b d f):xA (n+1) b d f=((bS n b 0 300).bind fun j=>cond (!j) (ã å) ((bS n d 0 300).bind fun k=>cond (!k) (ã å) (ã (á ((Þ ß (300-b))<(à f:Int)))))).bind fun g=>cond g (ã ä) ((xB n n b d f 0 d).bind fun h=>aq h (fun _=>ã å) (fun i=>ã i)):=Ž
theorem UU (n m g h b d i):xB n (m+1) g h b d i=cond (á (d<(à b:Int))) ((au b d).bind fun j=>(bS n j.1 i 300).bind fun k=>cond (!k) (ã (Â ä)) ((au b d).bind fun f=>(xC n f.2.1 f.2.2.1 f.2.2.2).bind fun p=>cond (!p) (ã (Â ä)) ((au b d).bind fun q=>xB n m g h b (Þ ß (d+1)) q.1))) (ã (Á ())):=Ž
theorem aoD (n f g d):xC (n+1) f g d=cond (f==(-1:Int)) ((cond (g==0) (ã (d==([]:O))) (ã ä)).bind fun b=>ã b) (((bS n f 0 2).bind fun h=>cond h ((bS n g 1 100000).bind fun i=>cond i (cond (á ((à d:Int)<=60)) ((JU n d).bind fun j=>ã j) (ã ä)) (ã ä)) (ã ä)).bind fun b=>ã b):=Ž
theorem aoE (n b):JU (n+1) b=(xD n n 0 b).bind fun d=>aq d (fun _=>ã å) (fun f=>ã f):=Ž
theorem UW (n m b d):xD n (m+1) b d=cond (á (b<(à d:Int))) ((bF d b).bind fun f=>cond (((f).toNat:Int)==10) (ã (Â ä)) (xD n m (Þ ß (b+1)) d)) (ã (Á ())):=Ž
theorem aoF (n f g h i j k m p q r):tW (n+1) f g h i j k m p q r=(xE n n j k m p q r f g h i 0).bind fun s=>aq s (fun b=>letI a:=b.2.2.2.2.2.2;((xn n a.1 a.2.1 a.2.2.1 a.2.2.2).bind fun t=>cond t ((JV n b.1 b.2.1 b.2.2.1 b.2.2.2.1 (à b.2.2.2.2.2.2.1:Int) (à b.2.2.2.2.2.2.2.1:Int)).bind fun u=>cond u (cond ((à b.2.2.2.2.1:Int)==3) (ã (á ((à b.2.2.2.2.2.1:Int)<=1500))) (ã ä)) (ã ä)) (ã ä)).bind fun d=>ã d) (fun z=>ã z):=Ž
theorem UX (n m f g h i d j k p q r b):xE n (m+1) f g h i d j k p q r b=cond (á (b<(à d:Int))) ((au d b).bind fun s=>(bS n s 0 100000).bind fun t=>cond (!t) (ã (Â ä)) (xE n m f g h i d j k p q r (Þ ß (b+1)))) (ã (Á (f,g,h,i,d,j,k,p,q,r))):=Ž
theorem aoG (n f g h i j k):JV (n+1) f g h i j k=(xF n n f g h i 0 k j).bind fun m=>aq m (fun b=>(tX n n b.1 b.2.1 b.2.2.1 b.2.2.2.1 0 b.2.2.2.2.1 b.2.2.2.2.2).bind fun p=>aq p (fun z2=>(cond ((à z2.1:Int)==z2.2.2.2.2) (cond (á ((à z2.2.1:Int)<=40)) ((bS n z2.2.2.1 0 1000000).bind fun q=>cond q ((bS n z2.2.2.2.1 0 7).bind fun r=>ã r) (ã ä)) (ã ä)) (ã ä)).bind fun d=>ã d) (fun s=>ã s)) (fun t=>ã t):=Ž
theorem UY (n m b f g h d i j):xF n (m+1) b f g h d i j=cond (á (d<(à b:Int))) ((au b d).bind fun k=>(Co n k.1 k.2.1 k.2.2).bind fun p=>cond (!p) (ã (Â ä)) (xF n m b f g h (Þ ß (d+1)) i j)) (ã (Á (b,f,g,h,i,j))):=Ž
theorem UZ (n m h d i j f k p):tX n (m+1) h d i j f k p=letI c:=Þ ß;letI a:=tX n m h d i j (c (f+1)) k p;cond (á (f<(à d:Int))) ((au d f).bind fun b=>cond (á (b.1<0)) (ã (Â ä)) (cond (á (k<=b.1)) (ã (Â ä)) (cond (á (300<(à b.2.1:Int))) (ã (Â ä)) ((Co n b.2.2.1 b.2.2.2.1 b.2.2.2.2).bind fun q=>cond (!q) (ã (Â ä)) (cond (á (0<f)) ((au d (c (f-1))).bind fun g=>(Cr n g.1 g.2.1 g.2.2.1 g.2.2.2.1 g.2.2.2.2 b.1 b.2.1).bind fun r=>cond (!r) (ã (Â ä)) a) a))))) (ã (Á (h,d,i,j,p))):=Ž
theorem Va (n b d f):Co (n+1) b d f=letI a:=f==([]:O);((bS n b 0 3).bind fun k=>cond (!k) (ã å) ((jz n d).bind fun m=>cond (!m) (ã å) (ã (á (300<(à f:Int)))))).bind fun h=>cond h (ã ä) (cond (b==0) ((cond (d==0) (ã a) (ã ä)).bind fun i=>ã i) (cond (b==1) (ã a) (cond (b==2) (ã (d==0)) ((xG n f).bind fun g=>(cond g.2 (ã (g.1==d)) (ã ä)).bind fun j=>ã j)))):=Ž
theorem aoH (n b):xG (n+1) b=(Cq n b).bind fun d=>cond (d.2==0) (ã ((0:Int),ä)) ((Cp n n d.2 b d.1).bind fun f=>aq f (fun z2=>ã (z2,å)) (fun g=>ã g)):=Ž
theorem MV (n m b d f):Cp n (m+1) b d f=cond (á (b<(à d:Int))) ((bF d b).bind fun g=>cond (((g).toNat:Int) !=32) (ã (Â ((0:Int),ä))) (Cp n m (Þ ß (b+1)) d f)) (ã (Á f)):=Ž
theorem aoI (n u):Cq (n+1) u=letI l:=((0:Int),(0:Int));letI a:=Þ ß;(xH n n 0 u).bind fun z=>aq z (fun b=>letI x:=bF b.1 b.2;letI o:=á (b.2<(à b.1:Int));(cond o (x.bind fun y1=>ã (((y1).toNat:Int)==45)) (ã ä)).bind fun q=>(cond o (x.bind fun r=>cond (((r).toNat:Int)==45) (ã å) (x.bind fun s=>ã (((s).toNat:Int)==43))) (ã ä)).bind fun t=>cond t ((qi n n 0 (a (b.2+1)) b.1 (0:Int) q).bind fun d=>aq d (fun z44=>letI c:=z44.2.2;letI v:=a (c.2.2+1);(cond (á (v<(à z44.2.1:Int))) ((bF z44.2.1 c.2.2).bind fun f=>cond (((f).toNat:Int)==46) ((bF z44.2.1 v).bind fun g=>(mw n (Ã (À ((g).toNat:Int)))).bind fun h=>ã h) (ã ä)) (ã ä)).bind fun i=>cond i ((rX n n v z44.1 (100000:Int) z44.2.1 c.1 c.2.1).bind fun j=>aq j (fun z66=>(cond (z66.2.2.2==0) (ã å) (ã (á (9000000000000<z66.2.1)))).bind fun k=>cond k (ã l) (cond z66.2.2.1 (ã (a (0-z66.2.1),z66.1)) (ã (z66.2.1,z66.1)))) (fun m=>ã m)) ((cond (z44.1==0) (ã å) (ã (á (9000000000000<c.1)))).bind fun p=>cond p (ã l) (cond c.2.1 (ã (a (0-c.1),c.2.2)) (ã (c.1,c.2.2))))) (fun oK=>ã oK)) ((qi n n 0 b.2 b.1 0 q).bind fun d=>aq d (fun z44=>letI e:=z44.2.2;letI w:=a (e.2.2+1);(cond (á (w<(à z44.2.1:Int))) ((bF z44.2.1 e.2.2).bind fun f=>cond (((f).toNat:Int)==46) ((bF z44.2.1 w).bind fun g=>(mw n (Ã (À ((g).toNat:Int)))).bind fun h=>ã h) (ã ä)) (ã ä)).bind fun i=>cond i ((rX n n w z44.1 (100000:Int) z44.2.1 e.1 e.2.1).bind fun j=>aq j (fun z66=>(cond (z66.2.2.2==0) (ã å) (ã (á (9000000000000<z66.2.1)))).bind fun k=>cond k (ã l) (cond z66.2.2.1 (ã (a (0-z66.2.1),z66.1)) (ã (z66.2.1,z66.1)))) (fun m=>ã m)) ((cond (z44.1==0) (ã å) (ã (á (9000000000000<e.1)))).bind fun p=>cond p (ã l) (cond e.2.1 (ã (a (0-e.1),e.2.2)) (ã (e.1,e.2.2))))) (fun oK=>ã oK))) (fun w1=>ã w1):=Ž
theorem MW (n m b d):xH n (m+1) b d=cond (á (b<(à d:Int))) ((bF d b).bind fun f=>cond (((f).toNat:Int)==32) (xH n m (Þ ß (b+1)) d) (ã (Á (d,b)))) (ã (Á (d,b))):=Ž
theorem MX (n m g b d f h):qi n (m+1) g b d f h=letI a:=Þ ß;cond (á (b<(à d:Int))) ((bF d b).bind fun i=>(mw n (Ã (À ((i).toNat:Int)))).bind fun j=>cond j (cond (á (f<=9000000000000)) ((bF d b).bind fun k=>qi n m (a (g+1)) (a (b+1)) d (a ((a (10*f))+(a ((a ((a ((k).toNat:Int))-48))*1000000)))) h) (qi n m (a (g+1)) (a (b+1)) d f h)) (ã (Á (g,d,f,h,b)))) (ã (Á (g,d,f,h,b))):=Ž
theorem MY (n m b f i d g h):rX n (m+1) b f i d g h=letI a:=Þ ß;cond (á (b<(à d:Int))) ((bF d b).bind fun j=>(mw n (Ã (À ((j).toNat:Int)))).bind fun k=>cond k ((bF d b).bind fun p=>rX n m (a (b+1)) (a (f+1)) (a (Æ i (10:Int))) d (a (g+(a ((a ((a ((p).toNat:Int))-48))*i)))) h) (ã (Á (b,g,h,f)))) (ã (Á (b,g,h,f))):=Ž
theorem aoJ (n b):mw (n+1) b=letI a:=((b).toNat:Int);(cond (á (48<=a)) (ã (á (a<=57))) (ã ä)).bind fun d=>ã d:=Ž
theorem aoK (n b g i j k d h):Cr (n+1) b g i j k d h=(cond (á (b<d)) (ã å) (cond (b==d) (ã (Op.bytesLess g h)) (ã ä))).bind fun f=>ã f:=Ž
theorem aoL (n r d f g s t u z x8 x9 b):Cs (n+1) r d f g s t u z x8 x9 b=letI a:=Þ ß (b-1);((bS n r 1 5).bind fun y0=>cond (!y0) (ã å) ((bS n b 1 5).bind fun y1=>cond (!y1) (ã å) ((bS n d 0 a).bind fun y2=>cond (!y2) (ã å) ((bS n f 0 a).bind fun y3=>cond (!y3) (ã å) (ã (d==f)))))).bind fun h=>cond h (ã ä) (((bS n g 0 300).bind fun i=>cond i ((bS n s 0 300).bind fun j=>cond j ((bS n t 0 300).bind fun k=>cond k ((bS n u 0 300).bind fun m=>cond m ((Ct n z g).bind fun p=>cond p (ã (á ((à x9:Int)<=30000))) (ã ä)) (ã ä)) (ã ä)) (ã ä)) (ã ä)).bind fun q=>ã q):=Ž
theorem aoM (n b d):Ct (n+1) b d=(xI n n 0 b d).bind fun f=>aq f (fun g=>ã (á ((à g:Int)<=40))) (fun h=>ã h):=Ž
theorem Vb (n m d b f):xI n (m+1) d b f=cond (á (d<(à b:Int))) ((au b d).bind fun h=>(bS n h.1 0 f).bind fun i=>cond (!i) (ã (Â ä)) ((au b d).bind fun g=>(xC n g.2.1 g.2.2.1 g.2.2.2).bind fun j=>cond (!j) (ã (Â ä)) (xI n m (Þ ß (d+1)) b f))) (ã (Á b)):=Ž
theorem aoN (n b f):JW (n+1) b f=(cond (á ((à b:Int)<=80000)) ((bS n f 0 (à b:Int)).bind fun g=>ã g) (ã ä)).bind fun d=>ã d:=Ž
theorem aoO (n d f g h):JX (n+1) d f g h=letI c:=À (3:Int);letI a:=á ((0:Int)<=3/\(3:Int)<=3/\(3:Int)<=(big:Int));(JY n d f g h).bind fun b=>cond (á (1500<(à b.2.2.2.2:Int))) ((Cu n (à d:Int)).bind fun i=>cond a (ã (i.1,([]:ai),i.2.1,(5:Int),Ä c (0:Int),([]:O))) â) (cond a (ã (b.1,b.2.1,b.2.2.1,b.2.2.2.1,Ä c (0:Int),b.2.2.2.2)) â):=Ž
theorem aoP (n h j i k):JY (n+1) h j i k=(Cu n (à h:Int)).bind fun d=>(rY n d.1 ([]:ai) d.2.1 d.2.2).bind fun g=>(Cw n g.1 g.2.1 g.2.2.1 g.2.2.2 ([]:af) ([]:af) ([]:O) ([]:af) ([]:O) 0 ä i).bind fun b=>letI a:=b.2.2.2.2.2;(Ky n b.1 b.2.1 b.2.2.1 b.2.2.2.1 b.2.2.2.2.1 a.1 a.2.1 a.2.2.1 a.2.2.2.1 a.2.2.2.2.1 a.2.2.2.2.2 d.1 ([]:ai) d.2.1 d.2.2).bind fun f=>ã (f.1,f.2.1,f.2.2.1,f.2.2.2.1,f.2.2.2.2.1):=Ž
theorem aoQ (n d):Cu (n+1) d=(Cv n d 8).bind fun f=>(rW n 0 f).bind fun b=>cond (á (0<=b/\b<=b/\b<=(big:Int))) (ã (Ä (À b) ((0:Int),(0:Int),([]:O)),(0:Int),(0:Int))) â:=Ž
theorem aoR (n b d):Cv (n+1) b d=cond (á (b<d)) (ã b) (ã d):=Ž
theorem aoS (n b d f g):rY (n+1) b d f g=cond (Å (0+à b) big) (cond (Å (0+à d) big) (ã (b,d,f,g)) â) â:=Ž
theorem aoT (n g h i j k m p q r s d f):Cw (n+1) g h i j k m p q r s d f=(xJ n n g h i j k m p q r s d ([]:ae) 0 0 f).bind fun t=>aq t (fun b=>letI a:=b.2.2.2.2.2;ã (b.1,b.2.1,b.2.2.1,b.2.2.2.1,b.2.2.2.2.1,a.1,a.2.1,a.2.2.1,a.2.2.2.1,a.2.2.2.2.1,a.2.2.2.2.2)) (fun u=>ã u):=Ž
theorem yV (n m p q r j s t u z x8 x9 f k g h i):xJ n (m+1) p q r j s t u z x8 x9 f k g h i=cond (j==0) (cond (g==20000) ((jA n p q r j s t u z x8 x9 f 6).bind fun d=>letI c:=d.2.2.2.2.2;ã (Â (d.1,d.2.1,d.2.2.1,d.2.2.2.1,d.2.2.2.2.1,c.1,c.2.1,c.2.2.1,c.2.2.2.1,c.2.2.2.2.1,c.2.2.2.2.2))) ((au i h).bind fun d=>(Cx n p q r j s t u z x8 x9 f k d.1 d.2.1 d.2.2 h).bind fun b=>letI l:=b.2.2.2;letI a:=l.2.2.2;letI e:=a.2.2.2;letI o:=e.2.2;cond (!b.2.1) (ã (Â (b.2.2.1,l.1,l.2.1,l.2.2.1,a.1,a.2.1,a.2.2.1,e.1,e.2.1,o.1,o.2.1))) (xJ n m b.2.2.1 l.1 l.2.1 l.2.2.1 a.1 a.2.1 a.2.2.1 e.1 e.2.1 o.1 o.2.1 o.2.2 (Þ ß (g+1)) b.1 i))) (ã (Á (p,q,r,j,s,t,u,z,x8,x9,f))):=Ž
theorem aoU (n f g h i j k m p q r b d):jA (n+1) f g h i j k m p q r b d=cond (i==0) (ã (f,g,h,d,j,k,m,p,q,r,b)) (ã (f,g,h,i,j,k,m,p,q,r,b)):=Ž
theorem nB (n m p q r s t u z x8 x9 h b g j k i):Cx (n+1) m p q r s t u z x8 x9 h b g j k i=letI ai:=nw n m p q r s t u z x8 x9 h;letI e:=Þ ß;(Cy n g j k).bind fun f=>letI v:=e ((à b:Int)-f);letI ao:=á (0<=v/\v<=(à b:Int));letI a:=À v;letI an:=(j,å,m,p,q,r,s,t,u,z,x8,x9,h,b.take a);letI am:=(e (i+1),å,m,p,q,r,s,t,u,z,x8,x9,h,b.take a);letI o:=(b.drop a).take (à b-a);letI w:=á ((0:Int)<=0/\(0:Int)<(à o:Int));letI l:=Å a (à b);letI c:=nx n m p q r s t u z x8 x9 h (b.take a) g j k o;cond (á (v<0)) ((jA n m p q r s t u z x8 x9 h 7).bind fun d=>letI aj:=d.2.2.2.2.2;ã (i,ä,d.1,d.2.1,d.2.2.1,d.2.2.2.1,d.2.2.2.2.1,aj.1,aj.2.1,aj.2.2.1,aj.2.2.2.1,aj.2.2.2.2.1,aj.2.2.2.2.2,b)) (cond ao (cond (Å (0+à o) big) (cond ao (cond (g==36) (cond l (ã (i,ä,m,p,q,r,s,t,u,z,x8,x9,h,b.take a)) â) (cond (g==30) (cond l (ã an) â) (cond (g==31) (cond w ((aO o 0).bind fun d=>(xK n d.1 d.2.1 d.2.2).bind fun y2=>cond (!y2) (cond l (ã an) â) (cond l (ã am) â)) â) (cond (g==32) (cond l (ã am) â) (cond (g==33) (cond (j==1) ((ai ([32]:O)).bind fun d=>letI ak:=d.2.2.2.2.2;cond w ((aO o 0).bind fun y2=>(gE n y2.1 y2.2.1 y2.2.2).bind fun y3=>(nw n d.1 d.2.1 d.2.2.1 d.2.2.2.1 d.2.2.2.2.1 ak.1 ak.2.1 ak.2.2.1 ak.2.2.2.1 ak.2.2.2.2.1 ak.2.2.2.2.2 y3).bind fun y4=>letI ag:=y4.2.2.2.2.2;cond l (ã (e (i+1),å,y4.1,y4.2.1,y4.2.2.1,y4.2.2.2.1,y4.2.2.2.2.1,ag.1,ag.2.1,ag.2.2.1,ag.2.2.2.1,ag.2.2.2.2.1,ag.2.2.2.2.2,b.take a)) â) â) (cond w ((aO o 0).bind fun d=>(gE n d.1 d.2.1 d.2.2).bind fun y2=>(ai y2).bind fun y3=>letI ah:=y3.2.2.2.2.2;cond l (ã (e (i+1),å,y3.1,y3.2.1,y3.2.2.1,y3.2.2.2.1,y3.2.2.2.2.1,ah.1,ah.2.1,ah.2.2.1,ah.2.2.2.1,ah.2.2.2.2.1,ah.2.2.2.2.2,b.take a)) â) â)) (cond (g==34) ((ai ([10]:O)).bind fun d=>letI al:=d.2.2.2.2.2;cond l (ã (e (i+1),å,d.1,d.2.1,d.2.2.1,d.2.2.2.1,d.2.2.2.2.1,al.1,al.2.1,al.2.2.1,al.2.2.2.1,al.2.2.2.2.1,al.2.2.2.2.2,b.take a)) â) (cond (g==3) (cond l (c.bind fun d=>letI x:=d.2.2.2.2.2;letI ax:=x.2.2.2;ã (e (i+1),å,d.1,d.2.1,d.2.2.1,d.2.2.2.1,d.2.2.2.2.1,x.1,x.2.1,x.2.2.1,ax.1,ax.2.1,ax.2.2.1,ax.2.2.2)) â) (cond (g==4) (cond l (c.bind fun d=>letI y:=d.2.2.2.2.2;letI ay:=y.2.2.2;ã (e (i+1),å,d.1,d.2.1,d.2.2.1,d.2.2.2.1,d.2.2.2.2.1,y.1,y.2.1,y.2.2.1,ay.1,ay.2.1,ay.2.2.1,ay.2.2.2)) â) (cond (g==5) (cond l (c.bind fun d=>letI aa:=d.2.2.2.2.2;letI ap:=aa.2.2.2;ã (e (i+1),å,d.1,d.2.1,d.2.2.1,d.2.2.2.1,d.2.2.2.2.1,aa.1,aa.2.1,aa.2.2.1,ap.1,ap.2.1,ap.2.2.1,ap.2.2.2)) â) (cond (g==6) (cond l (c.bind fun d=>letI ab:=d.2.2.2.2.2;letI aq:=ab.2.2.2;ã (e (i+1),å,d.1,d.2.1,d.2.2.1,d.2.2.2.1,d.2.2.2.2.1,ab.1,ab.2.1,ab.2.2.1,aq.1,aq.2.1,aq.2.2.1,aq.2.2.2)) â) (cond (g==7) (cond l (c.bind fun d=>letI ac:=d.2.2.2.2.2;letI ar:=ac.2.2.2;ã (e (i+1),å,d.1,d.2.1,d.2.2.1,d.2.2.2.1,d.2.2.2.2.1,ac.1,ac.2.1,ac.2.2.1,ar.1,ar.2.1,ar.2.2.1,ar.2.2.2)) â) (cond (g==8) (cond l (c.bind fun d=>letI ad:=d.2.2.2.2.2;letI au:=ad.2.2.2;ã (e (i+1),å,d.1,d.2.1,d.2.2.1,d.2.2.2.1,d.2.2.2.2.1,ad.1,ad.2.1,ad.2.2.1,au.1,au.2.1,au.2.2.1,au.2.2.2)) â) (cond (g==35) (cond l (c.bind fun d=>letI ae:=d.2.2.2.2.2;letI av:=ae.2.2.2;ã (e (i+1),å,d.1,d.2.1,d.2.2.1,d.2.2.2.1,d.2.2.2.2.1,ae.1,ae.2.1,ae.2.2.1,av.1,av.2.1,av.2.2.1,av.2.2.2)) â) (cond l ((CD n m p q r s t u z x8 x9 h (b.take a) g j k o).bind fun d=>letI af:=d.2.2.2.2.2;letI aw:=af.2.2.2;ã (e (i+1),å,d.1,d.2.1,d.2.2.1,d.2.2.2.1,d.2.2.2.2.1,af.1,af.2.1,af.2.2.1,aw.1,aw.2.1,aw.2.2.1,aw.2.2.2)) â)))))))))))))) â) â) â):=Ž
theorem aoV (n b d f):Cy (n+1) b d f=cond (b==1) (ã (0:Int)) (cond (b==2) (ã (0:Int)) (cond (b==3) (ã (0:Int)) (cond (b==10) (ã (0:Int)) (cond (b==11) (ã (0:Int)) (cond (b==25) (ã (0:Int)) (cond (b==30) (ã (0:Int)) (cond (b==34) (ã (0:Int)) (cond (b==36) (ã (0:Int)) (cond (b==7) (ã (2:Int)) (cond (b==8) (ã (2:Int)) (cond (b==29) (ã d) ((bS n b 12 23).bind fun g=>cond g (ã (2:Int)) (ã (1:Int)))))))))))))):=Ž
theorem aoW (n b d f):xK (n+1) b d f=cond (b==1) (ã (d !=0)) (cond (b==3) (ã (d !=0)) (cond (b==2) (ã (!(f==([]:O)))) (ã ä))):=Ž
theorem aoX (n h i j k m p q r g s f d):nw (n+1) h i j k m p q r g s f d=cond (á (600<(Þ ß ((à g:Int)+(à d:Int))))) ((jA n h i j k m p q r g s f 5).bind fun b=>letI a:=b.2.2.2.2.2;ã (b.1,b.2.1,b.2.2.1,b.2.2.2.1,b.2.2.2.2.1,a.1,a.2.1,a.2.2.1,a.2.2.2.1,a.2.2.2.2.1,a.2.2.2.2.2)) (cond (Å (à g+à d) mx) (ã (h,i,j,k,m,p,q,r,g++d,s,f)) â):=Ž
theorem aoY (n b d f):gE (n+1) b d f=cond (b==1) ((JZ n d).bind fun g=>ã g) (ã f):=Ž
theorem Vc (n b):JZ (n+1) b=letI k:=Þ ß;(jz n b).bind fun h=>cond (!h) (ã ([]:O)) ((xL n b).bind fun f=>letI c:=Ç f (1000000:Int);(CA n (k (Æ f (1000000:Int)))).bind fun d=>cond (á (0<c)) ((CA n (k (1000000+c))).bind fun g=>cond (á ((0:Int)<=1/\(1:Int)<=(à g:Int))) ((Cz n n ((g.drop 1).take (à g-1)) b d).bind fun i=>aq i (fun z5=>letI a:=z5.2.2++([46]:O);letI e:=a++z5.2.1;cond (Å (à z5.2.2+1) mx) (cond (Å (à a+à z5.2.1) mx) (cond (á (z5.1<0)) (cond (Å (1+à e) mx) (ã (([45]:O)++e)) â) (ã e)) â) â) (fun j=>ã j)) â) (cond (á (b<0)) (cond (Å (1+à d) mx) (ã (([45]:O)++d)) â) (ã d))):=Ž
theorem aoZ (n m b d f):Cz n (m+1) b d f=letI a:=Þ ß ((à b:Int)-1);(bF b a).bind fun g=>cond (((g).toNat:Int)==48) (cond (á (0<=a/\a<=(à b:Int))) (Cz n m (b.take ((À a)-0)) d f) â) (ã (Á (d,b,f))):=Ž
theorem apA (n b):xL (n+1) b=cond (á (b<0)) (ã (Þ ß (0-b))) (ã b):=Ž
theorem apB (n b):CA (n+1) b=cond (á (b<=0)) (ã ([48]:O)) ((CB n n b ([]:O)).bind fun d=>aq d (fun f=>ã f) (fun g=>ã g)):=Ž
theorem Vd (n m b d):CB n (m+1) b d=letI a:=Þ ß;cond (á (0<b)) (cond (Å (1+à d) mx) (CB n m (a (Æ b (10:Int))) ([Ã (À (Þ .u8 (a (48+(Ç b (10:Int))))))]++d)) â) (ã (Á d)):=Ž
theorem sB (n q t u z x4 x5 x6 x7 x8 x9 p k r d aj m):nx (n+1) q t u z x4 x5 x6 x7 x8 x9 p k r d aj m=letI ah:=xM n q t u z x4 x5 x6 x7 x8 x9 p 0;letI ag:=eo n q t u z x4 x5 x6 x7 x8 x9 p k;letI ab:=À d;letI ap:=aO q ab;letI l:=á (0<=d/\d<(à q:Int));letI e:=au m (0:Int);cond (r==3) (cond l (ap.bind fun h=>(ag h.1 h.2.1 h.2.2).bind fun i=>letI o:=i.2.2.2.2.2;letI ak:=o.2.2.2;ã (i.1,i.2.1,i.2.2.1,i.2.2.2.1,i.2.2.2.2.1,o.1,o.2.1,o.2.2.1,ak.1,ak.2.1,ak.2.2.1,ak.2.2.2)) â) (cond (r==4) (e.bind fun h=>cond l (ap.bind fun _=>e.bind fun j=>(eo n (q.set ab (h.1,h.2.1,h.2.2)) t u z x4 x5 x6 x7 x8 x9 p k j.1 j.2.1 j.2.2).bind fun b=>letI v:=b.2.2.2.2.2;letI al:=v.2.2.2;ã (b.1,b.2.1,b.2.2.1,b.2.2.2.1,b.2.2.2.2.1,v.1,v.2.1,v.2.2.1,al.1,al.2.1,al.2.2.1,al.2.2.2)) â) (cond (r==5) (cond l (ap.bind fun h=>(iB n h.1 h.2.1 h.2.2).bind fun i=>e.bind fun j=>(iB n j.1 j.2.1 j.2.2).bind fun b=>(ah i b).bind fun g=>letI ae:=g.2.2.2;letI a:=ae.2.2.2;letI ac:=a.2.2.2.2;cond (a.1==0) (cond (á (0<=d/\d<(à g.2.2.2.1:Int))) ((aO ae.1 ab).bind fun _=>(eo n (g.2.2.2.1.set ab (g.1,g.2.1,g.2.2.1)) ae.2.1 ae.2.2.1 a.1 a.2.1 a.2.2.1 a.2.2.2.1 ac.1 ac.2.1 ac.2.2.1 ac.2.2.2 k g.1 g.2.1 g.2.2.1).bind fun f=>letI w:=f.2.2.2.2.2;letI am:=w.2.2.2;ã (f.1,f.2.1,f.2.2.1,f.2.2.2.1,f.2.2.2.2.1,w.1,w.2.1,w.2.2.1,am.1,am.2.1,am.2.2.1,am.2.2.2)) â) (ã (ae.1,ae.2.1,ae.2.2.1,a.1,a.2.1,a.2.2.1,a.2.2.2.1,ac.1,ac.2.1,ac.2.2.1,ac.2.2.2,k))) â) (cond (r==6) (e.bind fun h=>(tY n h.1 h.2.1 h.2.2).bind fun i=>(CC n q t u z d i).bind fun j=>(ag j.1 j.2.1 j.2.2).bind fun b=>letI x:=b.2.2.2.2.2;letI an:=x.2.2.2;ã (b.1,b.2.1,b.2.2.1,b.2.2.2.1,b.2.2.2.2.1,x.1,x.2.1,x.2.2.1,an.1,an.2.1,an.2.2.1,an.2.2.2)) (cond (r==7) (e.bind fun h=>(tY n h.1 h.2.1 h.2.2).bind fun i=>(au m (1:Int)).bind fun j=>(xN n q t u z x4 x5 x6 x7 x8 x9 p k d i j.1 j.2.1 j.2.2).bind fun b=>letI y:=b.2.2.2.2.2;letI ao:=y.2.2.2;ã (b.1,b.2.1,b.2.2.1,b.2.2.2.1,b.2.2.2.2.1,y.1,y.2.1,y.2.2.1,ao.1,ao.2.1,ao.2.2.1,ao.2.2.2)) (cond (r==8) (e.bind fun h=>(tY n h.1 h.2.1 h.2.2).bind fun i=>(CC n q t u z d i).bind fun j=>(iB n j.1 j.2.1 j.2.2).bind fun b=>(au m (1:Int)).bind fun g=>(iB n g.1 g.2.1 g.2.2).bind fun y5=>(ah b y5).bind fun f=>letI af:=f.2.2.2;letI c:=af.2.2.2;letI ad:=c.2.2.2.2;cond (c.1==0) ((xN n af.1 af.2.1 af.2.2.1 c.1 c.2.1 c.2.2.1 c.2.2.2.1 ad.1 ad.2.1 ad.2.2.1 ad.2.2.2 k d i f.1 f.2.1 f.2.2.1).bind fun s=>letI aa:=s.2.2.2.2.2;letI ai:=aa.2.2.2;ã (s.1,s.2.1,s.2.2.1,s.2.2.2.1,s.2.2.2.2.1,aa.1,aa.2.1,aa.2.2.1,ai.1,ai.2.1,ai.2.2.1,ai.2.2.2)) (ã (af.1,af.2.1,af.2.2.1,c.1,c.2.1,c.2.2.1,c.2.2.2.1,ad.1,ad.2.1,ad.2.2.1,ad.2.2.2,k))) (cond (r==35) (e.bind fun h=>(tY n h.1 h.2.1 h.2.2).bind fun i=>(Kf n q t u z d i).bind fun j=>ã (j.1,j.2.1,j.2.2.1,j.2.2.2,x4,x5,x6,x7,x8,x9,p,k)) (ã (q,t,u,z,x4,x5,x6,x7,x8,x9,p,k)))))))):=Ž
theorem apC (n j k m p q r s t u z f b g h i):eo (n+1) j k m p q r s t u z f b g h i=cond ((à b:Int)==64) ((jA n j k m p q r s t u z f 7).bind fun d=>letI a:=d.2.2.2.2.2;ã (d.1,d.2.1,d.2.2.1,d.2.2.2.1,d.2.2.2.2.1,a.1,a.2.1,a.2.2.1,a.2.2.2.1,a.2.2.2.2.1,a.2.2.2.2.2,b)) (cond (Å (à b+1) big) (ã (j,k,m,p,q,r,s,t,u,z,f,b++[(g,h,i)])) â):=Ž
theorem apD (n b d f):iB (n+1) b d f=cond (b==1) (ã d) (cond (b==3) (ã d) (cond (b==2) ((Cq n f).bind fun g=>ã g.1) (ã (0:Int)))):=Ž
theorem uG (n j k m p q r s t u z f ad i g):xM (n+1) j k m p q r s t u z f ad i g=letI a:=jA n j k m p q r s t u z f;cond (ad==0) ((Ka n i g).bind fun d=>cond (!d.2) ((a 1).bind fun b=>letI c:=b.2.2.2.2.2;(gF n d.1).bind fun h=>ã (h.1,h.2.1,h.2.2,b.1,b.2.1,b.2.2.1,b.2.2.2.1,b.2.2.2.2.1,c.1,c.2.1,c.2.2.1,c.2.2.2.1,c.2.2.2.2.1,c.2.2.2.2.2)) ((gF n d.1).bind fun b=>ã (b.1,b.2.1,b.2.2,j,k,m,p,q,r,s,t,u,z,f))) (cond (ad==1) ((Kb n i g).bind fun d=>cond (!d.2) ((a 1).bind fun b=>letI e:=b.2.2.2.2.2;(gF n d.1).bind fun h=>ã (h.1,h.2.1,h.2.2,b.1,b.2.1,b.2.2.1,b.2.2.2.1,b.2.2.2.2.1,e.1,e.2.1,e.2.2.1,e.2.2.2.1,e.2.2.2.2.1,e.2.2.2.2.2)) ((gF n d.1).bind fun b=>ã (b.1,b.2.1,b.2.2,j,k,m,p,q,r,s,t,u,z,f))) (cond (ad==2) ((Kc n i g).bind fun d=>cond (!d.2) ((a 1).bind fun b=>letI l:=b.2.2.2.2.2;(gF n d.1).bind fun h=>ã (h.1,h.2.1,h.2.2,b.1,b.2.1,b.2.2.1,b.2.2.2.1,b.2.2.2.2.1,l.1,l.2.1,l.2.2.1,l.2.2.2.1,l.2.2.2.2.1,l.2.2.2.2.2)) ((gF n d.1).bind fun b=>ã (b.1,b.2.1,b.2.2,j,k,m,p,q,r,s,t,u,z,f))) (cond (g==0) ((a 2).bind fun d=>letI o:=d.2.2.2.2.2;ã ((0:Int),(0:Int),([]:O),d.1,d.2.1,d.2.2.1,d.2.2.2.1,d.2.2.2.2.1,o.1,o.2.1,o.2.2.1,o.2.2.2.1,o.2.2.2.2.1,o.2.2.2.2.2)) ((Kd n i g).bind fun d=>cond (ad==4) (cond (g !=0) ((gF n (Ç i g)).bind fun b=>ã (b.1,b.2.1,b.2.2,j,k,m,p,q,r,s,t,u,z,f)) â) (cond (!d.2) ((a 1).bind fun b=>letI v:=b.2.2.2.2.2;(gF n d.1).bind fun h=>ã (h.1,h.2.1,h.2.2,b.1,b.2.1,b.2.2.1,b.2.2.2.1,b.2.2.2.2.1,v.1,v.2.1,v.2.2.1,v.2.2.2.1,v.2.2.2.2.1,v.2.2.2.2.2)) ((gF n d.1).bind fun b=>ã (b.1,b.2.1,b.2.2,j,k,m,p,q,r,s,t,u,z,f))))))):=Ž
theorem apE (n d f):Ka (n+1) d f=((jz n d).bind fun h=>cond (!h) (ã å) ((jz n f).bind fun i=>ã (!i))).bind fun g=>cond g (ã ((0:Int),ä)) ((oC n (Þ ß (d+f))).bind fun b=>ã (b.1,b.2)):=Ž
theorem apF (n b):oC (n+1) b=(jz n b).bind fun d=>cond (!d) (ã ((0:Int),ä)) (ã (b,å)):=Ž
theorem apG (n b):gF (n+1) b=ã ((1:Int),b,([]:O)):=Ž
theorem apH (n d f):Kb (n+1) d f=((jz n d).bind fun h=>cond (!h) (ã å) ((jz n f).bind fun i=>ã (!i))).bind fun g=>cond g (ã ((0:Int),ä)) ((oC n (Þ ß (d-f))).bind fun b=>ã (b.1,b.2)):=Ž
theorem MZ (n g h):Kc (n+1) g h=letI l:=((0:Int),ä);letI a:=Þ ß;((jz n g).bind fun k=>cond (!k) (ã å) ((jz n h).bind fun m=>ã (!m))).bind fun i=>cond i (ã l) ((xL n g).bind fun d=>letI e:=a (Æ d (1000000:Int));(xL n h).bind fun b=>letI c:=a ((a (e*b))+(a (Æ (a ((Ç d (1000000:Int))*b)) (1000000:Int))));(cond (á (0<b)) (cond (b !=0) (ã (á ((a (Æ (9000000000000:Int) b))<e))) â) (ã ä)).bind fun j=>cond j (ã l) (cond (!((á (g<0))==(á (h<0)))) ((oC n (a (0-c))).bind fun f=>ã (f.1,f.2)) ((oC n c).bind fun f=>ã (f.1,f.2)))):=Ž
theorem apI (n f b):Kd (n+1) f b=letI a:=Þ ß;((jz n f).bind fun h=>cond (!h) (ã å) ((jz n b).bind fun i=>cond (!i) (ã å) (ã (b==0)))).bind fun g=>cond g (ã ((0:Int),ä)) (cond (b !=0) ((oC n (a (Æ (a (f*1000000)) b))).bind fun d=>ã (d.1,d.2)) â):=Ž
theorem apJ (n d f g):tY (n+1) d f g=(gE n d f g).bind fun b=>cond (á (300<(à b:Int))) (cond (á ((0:Int)<=300/\(300:Int)<=(à b:Int))) (ã (b.take (300-0))) â) (ã b):=Ž
theorem apK (n f b g h i j):CC (n+1) f b g h i j=(oD n f b g h i j).bind fun k=>cond (á (k<0)) (ã ((0:Int),(0:Int),([]:O))) ((au b k).bind fun d=>ã (d.2.2.1,d.2.2.2.1,d.2.2.2.2)):=Ž
theorem apL (n b d f g h i):oD (n+1) b d f g h i=(tZ n n b d f g 0 i h).bind fun j=>aq j (fun _=>ã (-1:Int)) (fun k=>ã k):=Ž
theorem Ve (n m h d i j b f g):tZ n (m+1) h d i j b f g=letI a:=tZ n m h d i j (Þ ß (b+1)) f g;cond (á (b<(à d:Int))) ((au d b).bind fun k=>cond (k.1==g) ((au d b).bind fun p=>cond (p.2.1==f) (ã (Â b)) a) a) (ã (Á ())):=Ž
theorem Vf (n p q r s t u z x7 x8 x9 d f j k g h i):xN (n+1) p q r s t u z x7 x8 x9 d f j k g h i=(Ke n p q r s j k g h i).bind fun m=>cond (!m.2.2.2.2) ((jA n p q r s t u z x7 x8 x9 d 4).bind fun b=>letI c:=b.2.2.2.2.2;ã (b.1,b.2.1,b.2.2.1,b.2.2.2.1,b.2.2.2.2.1,c.1,c.2.1,c.2.2.1,c.2.2.2.1,c.2.2.2.2.1,c.2.2.2.2.2,f)) ((eo n m.1 m.2.1 m.2.2.1 m.2.2.2.1 t u z x7 x8 x9 d f g h i).bind fun b=>letI a:=b.2.2.2.2.2;letI e:=a.2.2.2;ã (b.1,b.2.1,b.2.2.1,b.2.2.2.1,b.2.2.2.2.1,a.1,a.2.1,a.2.2.1,e.1,e.2.1,e.2.2.1,e.2.2.2)):=Ž
theorem Vg (n g d h i k m p q r):Ke (n+1) g d h i k m p q r=(rY n g d h i).bind fun b=>letI v:=b.2.2;(oD n g d h i k m).bind fun f=>letI x:=À f;cond (á (0<=f)) (cond (á (0<=f/\f<(à b.2.1:Int))) ((aO b.2.1 x).bind fun j=>ã (b.1,b.2.1.set x (j.1,j.2.1,p,q,r),v.1,v.2,å)) â) (cond (á (40<=(à d:Int))) (ã (b.1,b.2.1,v.1,v.2,ä)) ((xO n n 0 0 b.1 b.2.1 v.1 v.2 g d h i p q r 0 m k).bind fun j=>aq j (fun z3=>letI w:=z3.2.2.2.2;letI a:=w.2.2.2.2.2.2;letI u:=a.2.2.2;letI t:=À u.1;letI l:=á (0<=u.1/\u.1<=(à z3.2.2.2.2.2.2.2.1:Int));letI e:=(z3.2.2.2.2.2.2.2.1.drop t).take (à z3.2.2.2.2.2.2.2.1-t);letI c:=(z3.2.2.2.2.2.2.2.1.drop 0).take (t-0);letI o:=c++[(u.2.2,u.2.1,a.1,a.2.1,a.2.2.1)];cond l (cond (Å (0+à c) big) (cond (Å (à c+1) big) (cond l (cond (Å (à o+à e) big) (ã (z3.2.2.1,o++e,w.1,w.2.1,å)) â) â) â) â) â) (fun s=>ã s))):=Ž
theorem Vh (n m p q r s t u z j x8 x9 g h i b d f):xO n (m+1) p q r s t u z j x8 x9 g h i b d f=letI a:=(p,q,r,s,t,u,z,j,x8,x9,g,h,i,b,d,f);cond (á (b<(à j:Int))) ((au j b).bind fun k=>(Cr n k.1 k.2.1 k.2.2.1 k.2.2.2.1 k.2.2.2.2 f d).bind fun y1=>cond y1 (xO n m p q r s t u z j x8 x9 g h i (Þ ß (b+1)) d f) (ã (Á a))) (ã (Á a)):=Ž
theorem Vi (n g b h i j k):Kf (n+1) g b h i j k=(rY n g b h i).bind fun f=>(oD n g b h i j k).bind fun d=>letI c:=(b.drop 0).take ((À d)-0);letI a:=Þ ß (d+1);letI l:=À a;letI e:=(b.drop l).take (à b-l);cond (á (0<=d)) (cond (á (0<=d/\d<=(à b:Int))) (cond (Å (0+à c) big) (cond (á (0<=a/\a<=(à b:Int))) (cond (Å (à c+à e) big) (ã (f.1,c++e,f.2.2.1,f.2.2.2)) â) â) â) â) (ã (f.1,f.2.1,f.2.2.1,f.2.2.2)):=Ž
theorem kc (n r s m j t u p q z x9 i g k ai ag ae):CD (n+1) r s m j t u p q z x9 i g k ai ag ae=letI bc:=au ae (1:Int);letI y:=Þ ß;letI w:=au ae (0:Int);letI c:=(r,s,m,j,t,u,p,q,z,x9,i,g);letI a:=eo n r s m j t u p q z x9 i g;cond (k==1) ((gF n ai).bind fun d=>cond (j==0) ((a d.1 d.2.1 d.2.2).bind fun b=>letI aa:=b.2.2.2.2.2;letI bd:=aa.2.2.2;ã (b.1,b.2.1,b.2.2.1,b.2.2.2.1,b.2.2.2.2.1,aa.1,aa.2.1,aa.2.2.1,bd.1,bd.2.1,bd.2.2.1,bd.2.2.2)) (ã c)) (cond (k==2) (cond (á (300<(à ag:Int))) ((jA n r s m j t u p q z x9 i 3).bind fun d=>letI ba:=d.2.2.2;letI v:=ba.2.2;letI bb:=v.2.2.2;cond (ba.1==0) ((eo n d.1 d.2.1 d.2.2.1 ba.1 ba.2.1 v.1 v.2.1 v.2.2.1 bb.1 bb.2.1 bb.2.2 g 2 0 ag).bind fun b=>letI ab:=b.2.2.2.2.2;letI be:=ab.2.2.2;ã (b.1,b.2.1,b.2.2.1,b.2.2.2.1,b.2.2.2.2.1,ab.1,ab.2.1,ab.2.2.1,be.1,be.2.1,be.2.2.1,be.2.2.2)) (ã (d.1,d.2.1,d.2.2.1,ba.1,ba.2.1,v.1,v.2.1,v.2.2.1,bb.1,bb.2.1,bb.2.2,g))) (cond (j==0) ((a 2 0 ag).bind fun d=>letI ac:=d.2.2.2.2.2;letI bf:=ac.2.2.2;ã (d.1,d.2.1,d.2.2.1,d.2.2.2.1,d.2.2.2.2.1,ac.1,ac.2.1,ac.2.2.1,bf.1,bf.2.1,bf.2.2.1,bf.2.2.2)) (ã c))) (cond (k==9) (w.bind fun d=>(Kg n r s m j t u p q z x9 i d.1 d.2.1 d.2.2).bind fun b=>letI ay:=b.2.2.2;letI l:=ay.2.2.2;letI ar:=l.2.2.2.2;cond (l.1==0) ((eo n ay.1 ay.2.1 ay.2.2.1 l.1 l.2.1 l.2.2.1 l.2.2.2.1 ar.1 ar.2.1 ar.2.2.1 ar.2.2.2 g b.1 b.2.1 b.2.2.1).bind fun h=>letI ad:=h.2.2.2.2.2;letI bg:=ad.2.2.2;ã (h.1,h.2.1,h.2.2.1,h.2.2.2.1,h.2.2.2.2.1,ad.1,ad.2.1,ad.2.2.1,bg.1,bg.2.1,bg.2.2.1,bg.2.2.2)) (ã (ay.1,ay.2.1,ay.2.2.1,l.1,l.2.1,l.2.2.1,l.2.2.2.1,ar.1,ar.2.1,ar.2.2.1,ar.2.2.2,g))) (cond (k==10) ((gF n (y (1000000*m))).bind fun d=>cond (j==0) ((a d.1 d.2.1 d.2.2).bind fun b=>letI af:=b.2.2.2.2.2;letI bh:=af.2.2.2;ã (b.1,b.2.1,b.2.2.1,b.2.2.2.1,b.2.2.2.2.1,af.1,af.2.1,af.2.2.1,bh.1,bh.2.1,bh.2.2.1,bh.2.2.2)) (ã c)) (cond (k==11) ((gF n (y (1000000*(à q:Int)))).bind fun d=>cond (j==0) ((a d.1 d.2.1 d.2.2).bind fun b=>letI ah:=b.2.2.2.2.2;letI bi:=ah.2.2.2;ã (b.1,b.2.1,b.2.2.1,b.2.2.2.1,b.2.2.2.2.1,ah.1,ah.2.1,ah.2.2.1,bi.1,bi.2.1,bi.2.2.1,bi.2.2.2)) (ã c)) (cond (k==17) (w.bind fun d=>bc.bind fun b=>(Kh n r s m j t u p q z x9 i d.1 d.2.1 d.2.2 b.1 b.2.1 b.2.2).bind fun h=>letI az:=h.2.2.2;letI o:=az.2.2.2;letI av:=o.2.2.2.2;cond (o.1==0) ((eo n az.1 az.2.1 az.2.2.1 o.1 o.2.1 o.2.2.1 o.2.2.2.1 av.1 av.2.1 av.2.2.1 av.2.2.2 g h.1 h.2.1 h.2.2.1).bind fun f=>letI aj:=f.2.2.2.2.2;letI bj:=aj.2.2.2;ã (f.1,f.2.1,f.2.2.1,f.2.2.2.1,f.2.2.2.2.1,aj.1,aj.2.1,aj.2.2.1,bj.1,bj.2.1,bj.2.2.1,bj.2.2.2)) (ã (az.1,az.2.1,az.2.2.1,o.1,o.2.1,o.2.2.1,o.2.2.2.1,av.1,av.2.1,av.2.2.1,av.2.2.2,g))) (cond (k==24) (w.bind fun d=>(gE n d.1 d.2.1 d.2.2).bind fun b=>(xQ n ag b).bind fun h=>cond (j==0) ((a h.1 h.2.1 h.2.2).bind fun f=>letI ak:=f.2.2.2.2.2;letI bk:=ak.2.2.2;ã (f.1,f.2.1,f.2.2.1,f.2.2.2.1,f.2.2.2.2.1,ak.1,ak.2.1,ak.2.2.1,bk.1,bk.2.1,bk.2.2.1,bk.2.2.2)) (ã c)) (cond (k==25) ((xQ n ag p).bind fun d=>cond (j==0) ((a d.1 d.2.1 d.2.2).bind fun b=>letI al:=b.2.2.2.2.2;letI bl:=al.2.2.2;ã (b.1,b.2.1,b.2.2.1,b.2.2.2.1,b.2.2.2.2.1,al.1,al.2.1,al.2.2.1,bl.1,bl.2.1,bl.2.2.1,bl.2.2.2)) (ã c)) (cond (k==26) (w.bind fun d=>(xK n d.1 d.2.1 d.2.2).bind fun b=>(ud n (!b)).bind fun h=>cond (j==0) ((a h.1 h.2.1 h.2.2).bind fun f=>letI am:=f.2.2.2.2.2;letI bm:=am.2.2.2;ã (f.1,f.2.1,f.2.2.1,f.2.2.2.1,f.2.2.2.2.1,am.1,am.2.1,am.2.2.1,bm.1,bm.2.1,bm.2.2.1,bm.2.2.2)) (ã c)) (cond (k==27) (w.bind fun d=>(iB n d.1 d.2.1 d.2.2).bind fun b=>(gF n (y (0-b))).bind fun h=>cond (j==0) ((a h.1 h.2.1 h.2.2).bind fun f=>letI an:=f.2.2.2.2.2;letI bn:=an.2.2.2;ã (f.1,f.2.1,f.2.2.1,f.2.2.2.1,f.2.2.2.2.1,an.1,an.2.1,an.2.2.1,bn.1,bn.2.1,bn.2.2.1,bn.2.2.2)) (ã c)) (cond (k==28) (w.bind fun d=>(xK n d.1 d.2.1 d.2.2).bind fun b=>(ud n b).bind fun h=>cond (j==0) ((a h.1 h.2.1 h.2.2).bind fun f=>letI ao:=f.2.2.2.2.2;letI bo:=ao.2.2.2;ã (f.1,f.2.1,f.2.2.1,f.2.2.2.1,f.2.2.2.2.1,ao.1,ao.2.1,ao.2.2.1,bo.1,bo.2.1,bo.2.2.1,bo.2.2.2)) (ã c)) (cond (k==29) ((Kr n ag ae).bind fun d=>cond (j==0) ((a d.1 d.2.1 d.2.2).bind fun b=>letI ap:=b.2.2.2.2.2;letI bp:=ap.2.2.2;ã (b.1,b.2.1,b.2.2.1,b.2.2.2.1,b.2.2.2.2.1,ap.1,ap.2.1,ap.2.2.1,bp.1,bp.2.1,bp.2.2.1,bp.2.2.2)) (ã c)) (cond (á (k<=16)) (w.bind fun d=>(iB n d.1 d.2.1 d.2.2).bind fun b=>bc.bind fun h=>(iB n h.1 h.2.1 h.2.2).bind fun f=>(xM n r s m j t u p q z x9 i (y (k-12)) b f).bind fun y4=>letI ax:=y4.2.2.2;letI e:=ax.2.2.2;letI aw:=e.2.2.2.2;cond (e.1==0) ((eo n ax.1 ax.2.1 ax.2.2.1 e.1 e.2.1 e.2.2.1 e.2.2.2.1 aw.1 aw.2.1 aw.2.2.1 aw.2.2.2 g y4.1 y4.2.1 y4.2.2.1).bind fun y5=>letI x:=y5.2.2.2.2.2;letI br:=x.2.2.2;ã (y5.1,y5.2.1,y5.2.2.1,y5.2.2.2.1,y5.2.2.2.2.1,x.1,x.2.1,x.2.2.1,br.1,br.2.1,br.2.2.1,br.2.2.2)) (ã (ax.1,ax.2.1,ax.2.2.1,e.1,e.2.1,e.2.2.1,e.2.2.2.1,aw.1,aw.2.1,aw.2.2.1,aw.2.2.2,g))) (w.bind fun d=>bc.bind fun b=>(Kw n (y (k-18)) d.1 d.2.1 d.2.2 b.1 b.2.1 b.2.2).bind fun h=>cond (j==0) ((a h.1 h.2.1 h.2.2).bind fun f=>letI aq:=f.2.2.2.2.2;letI bq:=aq.2.2.2;ã (f.1,f.2.1,f.2.2.1,f.2.2.2.1,f.2.2.2.2.1,aq.1,aq.2.1,aq.2.2.1,bq.1,bq.2.1,bq.2.2.1,bq.2.2.2)) (ã c)))))))))))))):=Ž
theorem Vj (n p q r s t u f d z x9 b g h i):Kg (n+1) p q r s t u f d z x9 b g h i=letI e:=Þ ß;(iB n g h i).bind fun j=>letI a:=e (Æ j (1000000:Int));letI c:=e (a-1);cond (a==0) ((xP n f).bind fun k=>ã (k.1,k.2.1,k.2.2,p,q,r,s,t,u,f,d,z,x9,b)) ((bS n a (1:Int) (à d:Int)).bind fun k=>cond (!k) ((xP n ([]:O)).bind fun m=>ã (m.1,m.2.1,m.2.2,p,q,r,s,t,u,f,d,z,x9,b)) (cond (á (0<=c/\c<(à d:Int))) ((aO d (À c)).bind fun m=>(xP n m).bind fun y3=>ã (y3.1,y3.2.1,y3.2.2,p,q,r,s,t,u,f,d,z,x9,b)) â)):=Ž
theorem apM (n b):xP (n+1) b=cond (á (300<(à b:Int))) (cond (á ((0:Int)<=300/\(300:Int)<=(à b:Int))) ((xG n (b.take (300-0))).bind fun d=>cond d.2 (ã ((3:Int),d.1,b.take (300-0))) (ã ((2:Int),(0:Int),b.take (300-0)))) â) ((xG n b).bind fun d=>cond d.2 (ã ((3:Int),d.1,b)) (ã ((2:Int),(0:Int),b))):=Ž
theorem apN (n m p q r s t u z x8 x9 d f g h i j k):Kh (n+1) m p q r s t u z x8 x9 d f g h i j k=(gE n f g h).bind fun y0=>(gE n i j k).bind fun y1=>cond (Å (à y0+à y1) mx) (cond (á (300<((y0++y1).length:Int))) ((jA n m p q r s t u z x8 x9 d 3).bind fun b=>letI a:=b.2.2.2.2.2;ã ((0:Int),(0:Int),([]:O),b.1,b.2.1,b.2.2.1,b.2.2.2.1,b.2.2.2.2.1,a.1,a.2.1,a.2.2.1,a.2.2.2.1,a.2.2.2.2.1,a.2.2.2.2.2)) (ã ((2:Int),(0:Int),y0++y1,m,p,q,r,s,t,u,z,x8,x9,d))) â:=Ž
theorem apO (n f g):xQ (n+1) f g=(xp n f).bind fun b=>(Ki n b.1 b.2.1 b.2.2.1 b.2.2.2.1 b.2.2.2.2.1 g).bind fun h=>(ud n h).bind fun d=>ã (d.1,d.2.1,d.2.2):=Ž
theorem apP (n b d f g h i):Ki (n+1) b d f g h i=(Kj n b d f g h).bind fun j=>(Km n j i).bind fun k=>ã k.2.2:=Ž
theorem apQ (n b d f g h):Kj (n+1) b d f g h=(Kk n b d f g h).bind fun i=>cond (!i) (ã ([]:bZ)) ((ny n ([]:bZ) b d f g h).bind fun j=>(nz n j 8).bind fun k=>ã k):=Ž
theorem apR (n b d f g h):Kk (n+1) b d f g h=((xu n b d f g h).bind fun j=>cond (á (j<=12)) ((xR n b d f g h).bind fun k=>ã k) (ã ä)).bind fun i=>ã i:=Ž
theorem apS (n g h i j k):xR (n+1) g h i j k=(CF n n g h i j k 0).bind fun m=>aq m (fun b=>letI l:=b.2.1==0;letI e:=!b.2.2.2.1;letI c:=b.2.2.1==([]:O);letI a:=(à b.2.2.2.2:Int);letI o:=á (2<=a);cond (b.1==1) (((bS n b.2.1 0 255).bind fun f=>cond f (cond c (cond e (ã (a==0)) (ã ä)) (ã ä)) (ã ä)).bind fun d=>ã d) (cond (b.1==3) ((cond l (cond (! c) ((ua n b.2.2.1).bind fun f=>cond f (ã (a==0)) (ã ä)) (ã ä)) (ã ä)).bind fun d=>ã d) (cond (b.1==6) ((cond l (cond c (cond e (ã o) (ã ä)) (ã ä)) (ã ä)).bind fun d=>ã d) (cond (b.1==7) ((cond l (cond c (cond e (ã o) (ã ä)) (ã ä)) (ã ä)).bind fun d=>ã d) (cond (b.1==8) ((cond l (cond c (cond e (ã (a==1)) (ã ä)) (ã ä)) (ã ä)).bind fun d=>ã d) (cond (b.1==9) ((cond l (cond c (cond e (ã (a==1)) (ã ä)) (ã ä)) (ã ä)).bind fun d=>ã d) (cond (b.1==10) ((cond l (cond c (cond e (ã (a==1)) (ã ä)) (ã ä)) (ã ä)).bind fun d=>ã d) (((bS n b.1 2 11).bind fun f=>cond f (cond l (cond c (cond e (ã (a==0)) (ã ä)) (ã ä)) (ã ä)) (ã ä)).bind fun d=>ã d)))))))) (fun p=>ã p):=Ž
theorem apT (n m g h i j b f):CF n (m+1) g h i j b f=cond (á (f<(à b:Int))) ((gf b f).bind fun d=>(xR n d.1 d.2.1 d.2.2.1 d.2.2.2.1 d.2.2.2.2).bind fun k=>cond (!k) (ã (Â ä)) (CF n m g h i j b (Þ ß (f+1)))) (ã (Á (g,h,i,j,b))):=Ž
theorem apU (n b):ua (n+1) b=(CG n n 1 b).bind fun d=>aq d (fun _=>ã å) (fun f=>ã f):=Ž
theorem apV (n m b d):CG n (m+1) b d=letI a:=Þ ß;cond (á (b<(à d:Int))) ((bF d (a (b-1))).bind fun f=>(bF d b).bind fun g=>cond (á (((g).toNat:Int)<=((f).toNat:Int))) (ã (Â ä)) (CG n m (a (b+1)) d)) (ã (Á ())):=Ž
theorem mB (n b i m p q k):ny (n+1) b i m p q k=letI w:=nz n b;letI v:=Å (à b+1) big;letI u:=gf k (0:Int);letI t:=Þ ß;letI c:=(à b:Int);letI o:=À c;cond (i==1) (cond v (ã (b++[((1:Int),m,([]:O),ä,(0:Int),(0:Int))])) â) (cond (i==2) ((w 2).bind fun f=>ã f) (cond (i==3) (cond v (ã (b++[((3:Int),(0:Int),p,q,(0:Int),(0:Int))])) â) (cond (i==4) ((w 4).bind fun f=>ã f) (cond (i==5) ((w 5).bind fun f=>ã f) (cond (i==6) ((CH n n i m p q k 0 b).bind fun f=>aq f (fun r=>ã r) (fun s=>ã s)) (cond (i==7) ((Kl n b k).bind fun f=>ã f) (cond (i==8) ((w 7).bind fun f=>u.bind fun g=>(ny n f g.1 g.2.1 g.2.2.1 g.2.2.2.1 g.2.2.2.2).bind fun h=>letI l:=h++[((6:Int),(0:Int),([]:O),ä,c,(0:Int))];cond (Å (à h+1) big) (cond (á (0<=c/\c<(à l:Int))) ((aO l o).bind fun d=>letI a:=l.set o (d.1,d.2.1,d.2.2.1,d.2.2.2.1,t (c+1),d.2.2.2.2.2);cond (á (0<=c/\c<(à a:Int))) ((aO a o).bind fun j=>ã (a.set o (j.1,j.2.1,j.2.2.1,j.2.2.2.1,j.2.2.2.2.1,(à a:Int)))) â) â) â) (cond (i==9) (u.bind fun f=>(ny n b f.1 f.2.1 f.2.2.1 f.2.2.2.1 f.2.2.2.2).bind fun g=>cond (Å (à g+1) big) (ã (g++[((7:Int),(0:Int),([]:O),ä,c,t ((à g:Int)+1))])) â) (cond (i==10) ((w 7).bind fun f=>u.bind fun g=>(ny n f g.1 g.2.1 g.2.2.1 g.2.2.2.1 g.2.2.2.2).bind fun h=>cond (á (0<=c/\c<(à h:Int))) ((aO h o).bind fun d=>letI e:=h.set o (d.1,d.2.1,d.2.2.1,d.2.2.2.1,t (c+1),d.2.2.2.2.2);cond (á (0<=c/\c<(à e:Int))) ((aO e o).bind fun j=>ã (e.set o (j.1,j.2.1,j.2.2.1,j.2.2.2.1,j.2.2.2.2.1,(à e:Int)))) â) â) (ã b)))))))))):=Ž
theorem Vk (n m h i j k d f g):CH n (m+1) h i j k d f g=cond (á (f<(à d:Int))) ((gf d f).bind fun b=>(ny n g b.1 b.2.1 b.2.2.1 b.2.2.2.1 b.2.2.2.2).bind fun p=>CH n m h i j k d (Þ ß (f+1)) p) (ã (Á g)):=Ž
theorem Fe (n b d):nz (n+1) b d=cond (Å (à b+1) big) (ã (b++[(d,(0:Int),([]:O),ä,(0:Int),(0:Int))])) â:=Ž
theorem apW (n f g):Kl (n+1) f g=(CI n n 0 ([]:ag) g f).bind fun h=>aq h (fun d=>(gf d.2.1 (Þ ß ((à d.2.1:Int)-1))).bind fun b=>(ny n d.2.2 b.1 b.2.1 b.2.2.1 b.2.2.2.1 b.2.2.2.2).bind fun i=>(qj n n 0 i d.1).bind fun j=>aq j (fun z4=>ã z4) (fun k=>ã k)) (fun m=>ã m):=Ž
theorem Vl (n m j k g d):CI n (m+1) j k g d=letI l:=Þ ß;letI c:=(à d:Int);letI e:=À c;cond (á (j<(l ((à g:Int)-1)))) ((nz n d 7).bind fun q=>(gf g j).bind fun h=>(ny n q h.1 h.2.1 h.2.2.1 h.2.2.2.1 h.2.2.2.2).bind fun p=>cond (Å (à k+1) big) ((nz n p 6).bind fun f=>cond (á (0<=c/\c<(à f:Int))) ((aO f e).bind fun b=>letI a:=f.set e (b.1,b.2.1,b.2.2.1,b.2.2.2.1,l (c+1),b.2.2.2.2.2);cond (á (0<=c/\c<(à a:Int))) ((aO a e).bind fun i=>CI n m (l (j+1)) (k++[(à p:Int)]) g (a.set e (i.1,i.2.1,i.2.2.1,i.2.2.2.1,i.2.2.2.2.1,(à a:Int)))) â) â) â) (ã (Á (k,g,d))):=Ž
theorem Vm (n m b d f):qj n (m+1) b d f=cond (á (b<(à f:Int))) (cond (á (0<=b/\b<(à f:Int))) ((aO f (À b)).bind fun h=>letI a:=À h;cond (á (0<=h/\h<(à d:Int))) ((aO d a).bind fun g=>qj n m (Þ ß (b+1)) (d.set a (g.1,g.2.1,g.2.2.1,g.2.2.2.1,(à d:Int),g.2.2.2.2.2)) f) â) â) (ã (Á d)):=Ž
theorem apX (n b d):Km (n+1) b d=(ub n n 0 d b).bind fun f=>aq f (fun _=>ã ((0:Int),(0:Int),ä)) (fun g=>ã g):=Ž
theorem Vn (n m b d f):ub n (m+1) b d f=cond (á (b<=(à d:Int))) ((CJ n f d b).bind fun g=>cond (á (0<=g)) (ã (Â (b,g,å))) (ub n m (Þ ß (b+1)) d f)) (ã (Á ())):=Ž
theorem Vo (n d f b):CJ (n+1) d f b=((Kn n d).bind fun k=>cond (!k) (ã å) ((bS n b 0 (à f:Int)).bind fun m=>ã (!m))).bind fun g=>cond g (ã (-1:Int)) ((uc n d ([(0:Int)]:ag) (b==0) (b==(à f:Int))).bind fun h=>(rZ n n h b f d (-1)).bind fun i=>aq i (fun z23=>ã z23) (fun j=>ã j)):=Ž
theorem Vp (n m b d f g h):rZ n (m+1) b d f g h=letI e:=d==(à f:Int);letI c:=(à b:Int);letI a:=Þ ß;letI q:=a (c-1);cond (á (0<c)) (cond (á (0<=q/\q<c)) ((aO b (À q)).bind fun p=>cond (p==(a ((à g:Int)-1))) (cond e (ã (Á d)) ((sa n n 0 b ([]:ag) d f g d).bind fun i=>aq i (fun z2=>letI l:=a (z2.2.2.2.1+1);(uc n z2.2.1 z2.2.2.2.2 ä (l==(à z2.1:Int))).bind fun j=>rZ n m j l z2.1 z2.2.1 z2.2.2.1) (fun k=>ã (Â k)))) (cond e (ã (Á h)) ((sa n n 0 b ([]:ag) d f g h).bind fun i=>aq i (fun z2=>letI o:=a (z2.2.2.2.1+1);(uc n z2.2.1 z2.2.2.2.2 ä (o==(à z2.1:Int))).bind fun j=>rZ n m j o z2.1 z2.2.1 z2.2.2.1) (fun k=>ã (Â k))))) â) (ã (Á h)):=Ž
theorem Vq (n m b d g h i j k):sa n (m+1) b d g h i j k=letI e:=aO d (À b);letI c:=Þ ß (b+1);letI a:=á (0<=b/\b<(à d:Int));cond (á (b<(à d:Int))) (cond a (e.bind fun p=>(au j p).bind fun f=>(bF i h).bind fun q=>(Kp n f.1 f.2.1 f.2.2.1 f.2.2.2.1 f.2.2.2.2.1 f.2.2.2.2.2 (Ã (À ((q).toNat:Int)))).bind fun r=>cond r (cond a (e.bind fun s=>cond (Å (à g+1) big) (sa n m c d (g++[Þ ß (s+1)]) h i j k) â) â) (sa n m c d g h i j k)) â) (ã (Á (i,j,k,h,g))):=Ž
theorem apY (n b):Kn (n+1) b=(CM n n 0 (à b:Int) b).bind fun d=>aq d (fun f=>(bS n f 1 400).bind fun g=>ã g) (fun h=>ã h):=Ž
theorem Vr (n m b d g):CM n (m+1) b d g=letI a:=Þ ß;cond (á (b<d)) ((au g b).bind fun f=>(CN n f.1 f.2.1 f.2.2.1 f.2.2.2.1 f.2.2.2.2.1 f.2.2.2.2.2 d).bind fun h=>cond (!h) (ã (Â ä)) ((au g b).bind fun i=>cond (!((i.1==8)==(b==(a (d-1))))) (ã (Â ä)) (CM n m (a (b+1)) d g))) (ã (Á d)):=Ž
theorem apZ (n b h t u f i j):CN (n+1) b h t u f i j=letI a:=Þ ß (j-1);((bS n h 0 255).bind fun z=>cond z (cond (b==1) (ã å) (ã (h==0))) (ã (h==0))).bind fun k=>(cond (b==3) (ã å) (cond (t==([]:O)) (ã (!u)) (ã ä))).bind fun m=>(cond (b==6) ((bS n f 0 a).bind fun d=>cond d (ã å) (cond (f==0) (cond (b !=6) (ã (b !=7)) (ã ä)) (ã ä))) (cond (b==7) ((bS n f 0 a).bind fun d=>cond d (ã å) (cond (f==0) (cond (b !=6) (ã (b !=7)) (ã ä)) (ã ä))) (cond (f==0) (cond (b !=6) (ã (b !=7)) (ã ä)) (ã ä)))).bind fun p=>(cond (b==7) ((bS n i 0 a).bind fun q=>cond q (ã å) (cond (i==0) (ã (b !=7)) (ã ä))) (cond (i==0) (ã (b !=7)) (ã ä))).bind fun r=>((bS n b 1 8).bind fun s=>cond s (cond k (cond m (cond p (ã r) (ã ä)) (ã ä)) (ã ä)) (ã ä)).bind fun g=>ã g:=Ž
theorem aqA (n b d f g):uc (n+1) b d f g=letI a:=(à b:Int);cond (á (0<=a/\a<=a/\a<=(big:Int))) ((CO n n 0 g f d (Ä (À a) ä) b).bind fun h=>aq h (fun i=>(Ub n i).bind fun j=>ã j) (fun k=>ã k)) â:=Ž
theorem Vs (n m b g h d f i):CO n (m+1) b g h d f i=cond (á (b<(à d:Int))) ((au d b).bind fun k=>(Ko n i f k h g).bind fun j=>cond (Nat.beq (à j) (à f)) (CO n m (Þ ß (b+1)) g h d j i) â) (ã (Á f)):=Ž
theorem aqB (n b d f g h):Ko (n+1) b d f g h=(gG n n g h b d ([f]:ag)).bind fun i=>aq i (fun j=>ã j) (fun k=>ã k):=Ž
theorem Na (n m h i g f b):gG n (m+1) h i g f b=letI s:=(à b:Int);letI q:=gG n m h i g;letI l:=Þ ß (s-1);letI a:=À l;letI o:=b.take a;letI r:=Å (à o+1) big;letI c:=Å a (à b);cond (á (0<s)) (cond (á (0<=l/\l<s)) ((aO b a).bind fun d=>letI v:=À d;letI t:=á (0<=d/\d<(à f:Int));letI e:=f.set v å;letI u:=q e (o++[Þ ß (d+1)]);cond (á (0<=l/\l<=s)) (cond (á ((à g:Int)<=d)) (cond c (q f o) â) (cond (á (d<0)) (cond c (q f o) â) (cond t ((aO f v).bind fun k=>cond k (cond c (q f o) â) (cond t ((aO f v).bind fun _=>(au g d).bind fun j=>letI w:=j.2.2.2.2;cond (j.1==6) (cond c (cond r (q e (o++[w.1])) â) â) (cond (j.1==7) (cond c (cond (Å (à o+2) big) (q e (o++[w.1,w.2])) â) â) (cond (j.1==4) (cond h (cond c (cond r u â) â) (cond c (q e o) â)) (cond (j.1==5) (cond i (cond c (cond r u â) â) (cond c (q e o) â)) (cond c (q e o) â))))) â)) â))) â) â) (ã (Á f)):=Ž
theorem aqC (n b):Ub (n+1) b=(xS n n 0 ([]:ag) b).bind fun d=>aq d (fun f=>ã f) (fun g=>ã g):=Ž
theorem aqD (n m b d f):xS n (m+1) b d f=letI a:=Þ ß (b+1);cond (á (b<(à f:Int))) ((au f b).bind fun g=>cond g (cond (Å (à d+1) big) (xS n m a (d++[b]) f) â) (xS n m a d f)) (ã (Á d)):=Ž
theorem aqE (n b f g h i j d):Kp (n+1) b f g h i j d=letI a:=((d).toNat:Int);cond (b==1) (ã ((Þ ß a)==f)) (cond (b==2) (ã å) (cond (b==3) ((Kq n g (Ã (À a))).bind fun k=>ã (!(k==h))) (ã ä))):=Ž
theorem aqF (n b d):Kq (n+1) b d=(CP n n 0 (Ã (À ((d).toNat:Int))) b).bind fun f=>aq f (fun _=>ã ä) (fun g=>ã g):=Ž
theorem aqG (n m b f d):CP n (m+1) b f d=letI a:=((f).toNat:Int);cond (á (b<(à d:Int))) ((bF d b).bind fun g=>cond (((g).toNat:Int)==a) (ã (Â å)) (CP n m (Þ ß (b+1)) (Ã (À a)) d)) (ã (Á ())):=Ž
theorem aqH (n d):ud (n+1) d=(uf n d).bind fun f=>(gF n (Þ ß (1000000*f))).bind fun b=>ã (b.1,b.2.1,b.2.2):=Ž
theorem aqI (n b):uf (n+1) b=cond b (ã (1:Int)) (ã (0:Int)):=Ž
theorem Vt (n f d):Kr (n+1) f d=(cond (á ((à d:Int)<2)) (cond (f==([105,110,100,101,120]:O)) (ã å) (ã (f==([115,117,98,115,116,114]:O)))) (ã ä)).bind fun g=>cond g (cond (Å (0+à d) big) (cond (Å (à d+1) big) ((xT n f (d++[((0:Int),(0:Int),([]:O))])).bind fun b=>ã (b.1,b.2.1,b.2.2)) â) â) ((xT n f d).bind fun b=>ã (b.1,b.2.1,b.2.2)):=Ž
theorem uH (n h g):xT (n+1) h g=letI l:=Þ ß;letI e:=((Ã (À 65)):UInt8);letI c:=((Ã (À 97)):UInt8);letI a:=au g (0:Int);cond (h==([108,101,110,103,116,104]:O)) (a.bind fun b=>(gE n b.1 b.2.1 b.2.2).bind fun f=>(gF n (l (1000000*(à f:Int)))).bind fun d=>ã (d.1,d.2.1,d.2.2)) (cond (h==([105,110,116]:O)) (a.bind fun b=>(iB n b.1 b.2.1 b.2.2).bind fun f=>(Kt n f).bind fun d=>(gF n d).bind fun i=>ã (i.1,i.2.1,i.2.2)) (cond (h==([105,110,100,101,120]:O)) (a.bind fun b=>(gE n b.1 b.2.1 b.2.2).bind fun f=>(au g (1:Int)).bind fun d=>(gE n d.1 d.2.1 d.2.2).bind fun i=>(Ku n f i).bind fun k=>(gF n (l (1000000*k))).bind fun j=>ã (j.1,j.2.1,j.2.2)) (cond (h==([117,112,112,101,114]:O)) (a.bind fun b=>(gE n b.1 b.2.1 b.2.2).bind fun f=>(ug n f c e).bind fun d=>ã ((2:Int),(0:Int),d)) (cond (h==([108,111,119,101,114]:O)) (a.bind fun b=>(gE n b.1 b.2.1 b.2.2).bind fun f=>(ug n f e c).bind fun d=>ã ((2:Int),(0:Int),d)) ((Kv n g).bind fun b=>ã ((2:Int),(0:Int),b)))))):=Ž
theorem aqJ (n b):Kt (n+1) b=letI a:=Þ ß;ã (a ((a (Æ b (1000000:Int)))*1000000)):=Ž
theorem aqK (n b d):Ku (n+1) b d=(CQ n n 0 d b).bind fun f=>aq f (fun _=>ã (0:Int)) (fun g=>ã g):=Ž
theorem aqL (n m b d f):CQ n (m+1) b d f=letI e:=À b;letI c:=Þ ß;letI a:=c (b+(à d:Int));cond (á (a<=(à f:Int))) (cond (á (0<=b/\b<=a/\a<=(à f:Int))) (cond (((f.drop e).take ((À a)-e))==d) (ã (Â (c (b+1)))) (CQ n m (c (b+1)) d f)) â) (ã (Á ())):=Ž
theorem aqM (n b d f):ug (n+1) b d f=cond (Å (à b) big) ((qk n n 0 (Ã (À ((f).toNat:Int))) (Ã (À ((d).toNat:Int))) b).bind fun g=>aq g (fun h=>ã h) (fun i=>ã i)) â:=Ž
theorem Vu (n m b g f d):qk n (m+1) b g f d=letI t:=À b;letI s:=((g).toNat:Int);letI r:=Þ ß (b+1);letI p:=Þ .u8;letI o:=Ã (À s);letI l:=((f).toNat:Int);letI q:=Ã (À l);letI e:=aO d t;letI c:=á (0<=b/\b<(à d:Int));letI a:=qk n m r o q d;cond (á (b<(à d:Int))) (cond c (e.bind fun h=>cond (á (l<=((h).toNat:Int))) (cond c (e.bind fun i=>cond (á (((i).toNat:Int)<(p (l+26)))) (cond c (e.bind fun j=>cond c (e.bind fun _=>qk n m r o q (d.set t (Ã (À (p ((p (((j).toNat:Int)-l))+s)))))) â) â) a) â) a) â) (ã (Á d)):=Ž
theorem aqN (n f):Kv (n+1) f=letI a:=Þ ß;(au f (0:Int)).bind fun i=>(gE n i.1 i.2.1 i.2.2).bind fun b=>letI c:=(à b:Int);(au f (1:Int)).bind fun j=>(iB n j.1 j.2.1 j.2.2).bind fun k=>letI e:=a (Æ k (1000000:Int));letI p:=rW n e (1:Int);cond ((à f:Int)==3) ((au f (2:Int)).bind fun d=>(iB n d.1 d.2.1 d.2.2).bind fun m=>(Cv n c (a ((a (e+(a (Æ m (1000000:Int)))))-1))).bind fun h=>p.bind fun g=>letI l:=a (g-1);letI q:=À l;cond (á (h<g)) (ã ([]:O)) (cond (á (0<=l/\l<=h/\h<=c)) (ã ((b.drop q).take ((À h)-q))) â)) (p.bind fun d=>letI o:=a (d-1);letI r:=À o;cond (á (c<d)) (ã ([]:O)) (cond (á (0<=o/\o<=c/\c<=c)) (ã ((b.drop r).take ((À c)-r))) â)):=Ž
theorem aqO (n d g h i j k m):Kw (n+1) d g h i j k m=(Kx n g h i j k m).bind fun b=>cond (á (0<=d/\d<6)) ((aO [á (b<0),á (b<=0),á (0<b),á (0<=b),b==0,b !=0] (À d)).bind fun p=>(ud n p).bind fun f=>ã (f.1,f.2.1,f.2.2)) â:=Ž
end
end Go.Proofs.YtfledcdkafkgaaaGreatDoor
