/- Parts of the proof: Cda. Conditions: as each statement says. -/
import Derived.Test.YthcnhibjddomdaaGreatK3
set_option maxRecDepth 100000
set_option maxHeartbeats 8000000
set_option linter.unusedVariables false
set_option linter.unusedSimpArgs false
set_option linter.unusedSectionVars false
namespace Go.Proofs.YthcnhibjddomdaaGreat
open Go
def zL:List AV:=.data false 2 [] true::.int .i64 0::.data false 1 [] true::.data false 3 [] true::.int .i64 0::.int .i64 0::.int .i64 0::.int .i64 0::.int .i64 0::.int .i64 0::.int .i64 0::.int .i64 0::.int .i64 0::.int .i64 0::.int .i64 0::.int .i64 0::.int .i64 0::.int .i64 0::.int .i64 0::.int .i64 0::.int .i64 0::.int .i64 0::.int .i64 0::.int .i64 0::.int .i64 0::.int .i64 0::.int .i64 0::.int .i64 0::.int .i64 0::.int .i64 0::.int .i64 0::.int .i64 0::.int .i64 0::[]
def Kw:Nat:=121
def Ld:Nat:=74
def zaB:Nat:=111
def DJ:Nat:=112
def Kg:Nat:=129
def Kt:Nat:=6
def zaF:Nat:=5
def yl:Nat:=15
def Ir:Nat:=70
def TE:Nat:=105
def gp:Nat:=54
def Lr:Nat:=33
def JZ:Nat:=76
def JL:Nat:=113
def uL:Nat:=84
def gF:Nat:=96
def Hd:Nat:=85
def JQ:Nat:=47
def NJ:Nat:=46
def Ha:Nat:=42
def LU:Nat:=44
def Tx:Nat:=36
def uI:Nat:=41
def JW:Nat:=34
def SC:Nat:=88
def VI:Nat:=40
def Di:Nat:=49
def IA:Nat:=50
def Ro:Nat:=86
def JR:Nat:=89
def FR:Nat:=37
def Ij:Nat:=92
def IJ:Nat:=35
def SB:Nat:=25
def Iz:Nat:=45
def KC:Nat:=51
def Dp:Nat:=38
def KE:Nat:=87
def VN:Nat:=21
def Yi:Nat:=48
def LW:Nat:=91
def Lv:Nat:=39
def Rl:Nat:=122
def TR:Nat:=18
def Pf:Nat:=7
def Lh:Nat:=90
def Pj:Nat:=16
def Rh:Nat:=17
def TB:Nat:=14
def yN:Nat:=13
def Pk:Nat:=19
def Rj:Nat:=20
def gW:Nat:=43
def RH:Nat:=29
def jk:Nat:=30
def Kc:Nat:=26
def NG:Nat:=28
def Uz:Nat:=73
def gm:Nat:=52
def jv:Nat:=94
def SL:Nat:=107
def VL:Nat:=67
def jd:Nat:=101
def UR:Nat:=66
def ZH:Nat:=10
def zet:Nat:=24
def ZG:Nat:=8
def YD:Nat:=9
def jM:Nat:=22
def oU:Nat:=58
def oZ:Nat:=60
def vI:Nat:=11
def YI:Nat:=12
def jP:Nat:=32
def TD:Nat:=31
def VZ:Nat:=75
def VQ:Nat:=77
def UB:Nat:=79
def UA:Nat:=81
def Wu:Nat:=71
def ZL:Nat:=27
def jQ:Nat:=56
def JN:Nat:=108
def PP:Nat:=55
def zaX:Nat:=78
def Rm:Nat:=114
def Tm:Nat:=115
def Kz:Nat:=97
def jH:Nat:=100
def vW:Nat:=69
def u7:Nat:=83
def VB:Nat:=110
def yR:Nat:=93
def vk:Nat:=59
def uU:Nat:=57
def YY:Nat:=125
def ou:Nat:=72
def oM:Nat:=104
def gT:Nat:=127
def UI:Nat:=120
def TC:Nat:=128
def yJ:Nat:=109
def yY:Nat:=99
def vL:Nat:=98
def Ym:Nat:=131
def ZX:Nat:=68
def Kr:Nat:=102
def Pv:Nat:=103
def DF:Nat:=80
def zaE:Nat:=118
def JP:Nat:=82
def DN:Nat:=119
def IC:Nat:=106
def Vh:Nat:=124
def Dh:Nat:=126
def Vg:Nat:=53
def Rk:Nat:=116
def NM:Nat:=132
def Sj:Nat:=117
def ZJ:Nat:=95
def zpP:List zb:=[⟨some 4,none,.mov (.const (.int .i64 0))⟩]
def zpH:List zb:=[⟨some 6,none,.mov (.slot 0)⟩,
 ⟨some 7,none,.len false (.slot 6)⟩,
 ⟨some 8,none,.mov (.const (.int .i64 0))⟩]
def zgN:List zb:=[⟨some 9,none,.bin .lss (.slot 8) (.slot 7)⟩]
def zhe:List zb:=[⟨some 10,none,.mov (.slot 8)⟩,
 ⟨some 5,none,.mov (.slot 10)⟩]
def zf7:List zb:=[⟨some 11,none,.mov (.slot 1)⟩,
 ⟨some 12,none,.mov (.slot 0)⟩,
 ⟨some 13,none,.mov (.slot 5)⟩,
 ⟨some 14,none,.idx 2 (.slot 12) (.slot 13)⟩,
 ⟨some 15,none,.load true 2 (.slot 14)⟩,
 ⟨some 16,none,.callv (.slot 11) [(.slot 15)]⟩]
def zf2:List zb:=[⟨some 17,none,.mov (.slot 5)⟩,
 ⟨some 4,none,.mov (.slot 17)⟩]
def zhQ:List zb:=[⟨some 18,none,.bin .add (.slot 8) (.const (.int .i64 1))⟩,
 ⟨some 8,none,.mov (.slot 18)⟩]
def yU:zt:=(.seq (.region zgN false [0,1,7,8,9]) (.seq (.cond (.slot 9) .skip (.exit 0)) (.seq (.block 1 (.seq (.region zhe false [0,1,5,7,8]) (.seq (.region zf7 false [0,1,5,7,8,16]) (.cond (.slot 16) (.seq (.region zf2 false [4]) .ret) .skip)))) (.region zhQ false [0,1,7,8]))))
def zO:zt:=.loop [0,1,7,8] yU
def zpC:List zb:=[⟨some 4,none,.mov (.const (.int .i64 (-1)))⟩]
def yI:AFn:=⟨(.seq (.region zpP false [0,1]) (.seq (.seq (.region zpH false [0,1,7,8]) (.block 0 zO)) (.seq (.region zpC false [4]) .ret))),[.slot 4]⟩
def zDL:List zb:=[⟨some 4,none,.mov (.const (.bool false))⟩]
def zDS:List zb:=[⟨some 5,none,.mov (.slot 0)⟩,
 ⟨some 6,none,.mov (.slot 1)⟩,
 ⟨some 7,none,.call .inl yJ [(.slot 5),(.slot 6)]⟩,
 ⟨some 8,none,.bin .geq (.slot 7) (.const (.int .i64 0))⟩,
 ⟨some 4,none,.mov (.slot 8)⟩]
def yP:AFn:=⟨(.seq (.region zDL false [0,1]) (.seq (.region zDS false [4]) .ret)),[.slot 4]⟩
def zxx:List zb:=[⟨some 2,none,.mov (.const (.bool false))⟩]
def zyy:List zb:=[⟨some 3,none,.mov (.slot 0)⟩,
 ⟨some 4,none,.bin .eql (.slot 3) (.const (.int .i64 1))⟩,
 ⟨some 5,none,.mov (.slot 4)⟩,
 ⟨some 6,some (5,false),.mov (.slot 0)⟩,
 ⟨some 7,some (5,false),.bin .eql (.slot 6) (.const (.int .i64 2))⟩,
 ⟨some 8,none,.pick (.slot 5) (.const (.bool true)) (.slot 7)⟩,
 ⟨some 2,none,.mov (.slot 8)⟩]
def YT:AFn:=⟨(.seq (.region zxx false [0]) (.seq (.region zyy false [2]) .ret)),[.slot 2]⟩
def zsl:List zb:=[⟨some 2,none,.box 2 (.slot 0)⟩,
 ⟨some 3,none,.mov (.const (.bool false))⟩]
def ztA:List zb:=[⟨some 5,none,.faddr 0 (.slot 2)⟩,
 ⟨some 6,none,.load false 1 (.slot 5)⟩,
 ⟨some 7,none,.load false 1 (.slot 1)⟩,
 ⟨some 8,none,.bin .leq (.slot 6) (.slot 7)⟩,
 ⟨some 9,none,.mov (.slot 8)⟩,
 ⟨some 10,some (9,false),.faddr 0 (.slot 2)⟩,
 ⟨some 11,some (9,false),.load false 1 (.slot 10)⟩,
 ⟨some 12,some (9,false),.bin .gtr (.slot 11) (.const (.int .i64 8))⟩,
 ⟨some 13,none,.pick (.slot 9) (.const (.bool true)) (.slot 12)⟩,
 ⟨some 14,none,.mov (.slot 13)⟩,
 ⟨some 15,some (14,false),.faddr 1 (.slot 2)⟩,
 ⟨some 16,some (14,false),.load false 1 (.slot 15)⟩,
 ⟨some 17,some (14,false),.call .frz UR [(.slot 16)]⟩,
 ⟨some 18,some (14,false),.not (.slot 17)⟩,
 ⟨some 19,none,.pick (.slot 14) (.const (.bool true)) (.slot 18)⟩,
 ⟨some 4,none,.mov (.slot 19)⟩]
def zth:List zb:=[⟨some 20,none,.faddr 0 (.slot 2)⟩,
 ⟨some 21,none,.load false 1 (.slot 20)⟩,
 ⟨none,none,.store false 1 (.slot 1) (.slot 21)⟩]
def zrL:List zb:=[⟨some 22,none,.mov (.slot 4)⟩,
 ⟨some 3,none,.mov (.slot 22)⟩]
def jW:AFn:=⟨(.seq (.region zsl false [1,2]) (.seq (.region ztA false [1,2,4]) (.seq (.region zth false [4]) (.seq (.region zrL false [3]) .ret)))),[.slot 3]⟩
def zAf:List zb:=[⟨some 2,none,.mov (.const (.bool false))⟩]
def zyA:List zb:=[⟨some 3,none,.alloc [.int .i64 0]⟩,
 ⟨none,none,.store false 1 (.slot 3) (.const (.int .i64 0))⟩]
def zxQ:List zb:=[⟨some 4,none,.mov (.slot 0)⟩,
 ⟨some 5,none,.mkfn (.func jv) [] [(.slot 3)]⟩,
 ⟨some 6,none,.call .inl yR [(.slot 4),(.slot 5)]⟩,
 ⟨some 7,none,.not (.slot 6)⟩,
 ⟨some 2,none,.mov (.slot 7)⟩]
def Un:AFn:=⟨(.seq (.region zAf false [0]) (.seq (.region zyA false [0,3]) (.seq (.region zxQ false [2]) .ret))),[.slot 2]⟩
def zs3:List zb:=[⟨some 6,none,.mov (.const (.int .i64 0))⟩,
 ⟨some 7,none,.mov (.const (.bool false))⟩]
def zs8:List zb:=[⟨some 12,none,.mov (.slot 0)⟩,
 ⟨some 13,none,.len false (.slot 12)⟩,
 ⟨some 8,none,.mov (.slot 13)⟩]
def zrS:List zb:=[⟨some 14,none,.mov (.slot 8)⟩,
 ⟨some 9,none,.mov (.const (.int .i64 0))⟩,
 ⟨some 10,none,.mov (.slot 14)⟩]
def zrx:List zb:=[⟨some 15,none,.mov (.slot 9)⟩,
 ⟨some 16,none,.mov (.slot 10)⟩,
 ⟨some 17,none,.bin .lss (.slot 15) (.slot 16)⟩]
def ztu:List zb:=[⟨some 18,none,.mov (.slot 9)⟩,
 ⟨some 19,none,.mov (.slot 10)⟩,
 ⟨some 20,none,.bin .add (.slot 18) (.slot 19)⟩,
 ⟨some 21,none,.conv .u64 (.slot 20)⟩,
 ⟨some 22,none,.bin .shr (.slot 21) (.const (.int .u64 1))⟩,
 ⟨some 23,none,.conv .i64 (.slot 22)⟩,
 ⟨some 11,none,.mov (.slot 23)⟩]
def zrB:List zb:=[⟨some 24,none,.mov (.slot 2)⟩,
 ⟨some 25,none,.mov (.slot 0)⟩,
 ⟨some 26,none,.mov (.slot 11)⟩,
 ⟨some 27,none,.idx 2 (.slot 25) (.slot 26)⟩,
 ⟨some 28,none,.load true 2 (.slot 27)⟩,
 ⟨some 29,none,.mov (.slot 1)⟩,
 ⟨some 30,none,.callv (.slot 24) [(.slot 28),(.slot 29)]⟩,
 ⟨some 31,none,.bin .lss (.slot 30) (.const (.int .i64 0))⟩]
def ztr:List zb:=[⟨some 32,none,.mov (.slot 11)⟩,
 ⟨some 33,none,.bin .add (.slot 32) (.const (.int .i64 1))⟩,
 ⟨some 9,none,.mov (.slot 33)⟩]
def ztc:List zb:=[⟨some 34,none,.mov (.slot 11)⟩,
 ⟨some 10,none,.mov (.slot 34)⟩]
def yu:zt:=(.seq (.seq (.region zrx false [0,1,2,8,9,10,17]) (.cond (.slot 17) .skip (.exit 0))) (.block 1 (.seq (.region ztu false [0,1,2,8,9,10,11]) (.seq (.region zrB false [0,1,2,8,9,10,11,31]) (.cond (.slot 31) (.region ztr false [0,1,2,8,9,10]) (.region ztc false [0,1,2,8,9,10]))))))
def yo:zt:=.loop [0,1,2,8,9,10] yu
def zsC:List zb:=[⟨some 35,none,.mov (.slot 9)⟩,
 ⟨some 36,none,.mov (.slot 9)⟩,
 ⟨some 37,none,.mov (.slot 8)⟩,
 ⟨some 38,none,.bin .lss (.slot 36) (.slot 37)⟩,
 ⟨some 39,none,.mov (.slot 38)⟩,
 ⟨some 40,some (39,true),.mov (.slot 2)⟩,
 ⟨some 41,some (39,true),.mov (.slot 0)⟩,
 ⟨some 42,some (39,true),.mov (.slot 9)⟩,
 ⟨some 43,some (39,true),.idx 2 (.slot 41) (.slot 42)⟩,
 ⟨some 44,some (39,true),.load true 2 (.slot 43)⟩,
 ⟨some 45,some (39,true),.mov (.slot 1)⟩,
 ⟨some 46,some (39,true),.callv (.slot 40) [(.slot 44),(.slot 45)]⟩,
 ⟨some 47,some (39,true),.bin .eql (.slot 46) (.const (.int .i64 0))⟩,
 ⟨some 48,none,.pick (.slot 39) (.slot 47) (.const (.bool false))⟩,
 ⟨some 6,none,.mov (.slot 35)⟩,
 ⟨some 7,none,.mov (.slot 48)⟩]
def zM:AFn:=⟨(.seq (.region zs3 false [0,1,2]) (.seq (.region zs8 false [0,1,2,8]) (.seq (.region zrS false [0,1,2,8,9,10]) (.seq (.block 0 yo) (.seq (.region zsC false [6,7]) .ret))))),[.slot 6,.slot 7]⟩
def zD8:List zb:=[⟨some 2,none,.box 2 (.slot 0)⟩,
 ⟨some 4,none,.mov (.const (.int .i64 0))⟩]
def zDJ:List zb:=[⟨some 5,none,.faddr 0 (.slot 2)⟩,
 ⟨some 6,none,.load false 1 (.slot 5)⟩,
 ⟨some 7,none,.mov (.slot 1)⟩,
 ⟨some 8,none,.bin .sub (.slot 6) (.slot 7)⟩,
 ⟨some 4,none,.mov (.slot 8)⟩]
def ZB:AFn:=⟨(.seq (.region zD8 false [1,2]) (.seq (.region zDJ false [4]) .ret)),[.slot 4]⟩
def zrF:List zb:=[⟨some 4,none,.mov (.const (.int .i64 0))⟩,
 ⟨some 5,none,.mov (.const (.bool false))⟩]
def ztf:List zb:=[⟨some 6,none,.mov (.slot 0)⟩,
 ⟨some 7,none,.mov (.slot 1)⟩,
 ⟨some 8,none,.call .inl jH [(.slot 6),(.slot 7),(.func jd)]⟩,
 ⟨some 9,none,.extract 0 (.slot 8)⟩,
 ⟨some 10,none,.extract 1 (.slot 8)⟩,
 ⟨some 4,none,.mov (.slot 9)⟩,
 ⟨some 5,none,.mov (.slot 10)⟩]
def oo:AFn:=⟨(.seq (.region zrF false [0,1]) (.seq (.region ztf false [4,5]) .ret)),[.slot 4,.slot 5]⟩
def zi7:List zb:=[⟨some 4,none,.alloc [.int .i64 0,.int .i64 0]⟩,
 ⟨some 5,none,.mov (.const (.bool false))⟩]
def zjZ:List zb:=[⟨some 8,none,.mov (.slot 0)⟩,
 ⟨some 9,none,.call .frz gm [(.slot 8)]⟩,
 ⟨some 10,none,.not (.slot 9)⟩,
 ⟨some 11,none,.mov (.slot 10)⟩,
 ⟨some 12,some (11,false),.mov (.slot 1)⟩,
 ⟨some 13,some (11,false),.bin .lss (.slot 12) (.const (.int .i64 1))⟩,
 ⟨some 14,none,.pick (.slot 11) (.const (.bool true)) (.slot 13)⟩,
 ⟨some 15,none,.mov (.slot 14)⟩,
 ⟨some 16,some (15,false),.mov (.slot 1)⟩,
 ⟨some 17,some (15,false),.bin .gtr (.slot 16) (.const (.int .i64 8))⟩,
 ⟨some 18,none,.pick (.slot 15) (.const (.bool true)) (.slot 17)⟩]
def ziU:List zb:=[⟨some 19,none,.build [.int .i64 0,.int .i64 0] []⟩,
 ⟨none,none,.store true 2 (.slot 4) (.slot 19)⟩,
 ⟨some 5,none,.mov (.const (.bool false))⟩]
def zjr:List zb:=[⟨some 21,none,.mov (.slot 0)⟩,
 ⟨some 22,none,.mov (.slot 1)⟩,
 ⟨some 23,none,.call .frz VL [(.slot 21),(.slot 22)]⟩,
 ⟨some 20,none,.mov (.slot 23)⟩,
 ⟨some 24,none,.extract 0 (.slot 20)⟩,
 ⟨some 25,none,.extract 1 (.slot 20)⟩,
 ⟨some 6,none,.mov (.slot 24)⟩,
 ⟨some 7,none,.mov (.slot 25)⟩]
def zje:List zb:=[⟨some 26,none,.mov (.slot 7)⟩]
def ziV:List zb:=[⟨some 27,none,.mov (.slot 0)⟩,
 ⟨some 28,none,.mov (.slot 6)⟩,
 ⟨some 29,none,.idx 2 (.slot 27) (.slot 28)⟩,
 ⟨some 30,none,.load true 2 (.slot 29)⟩,
 ⟨none,none,.store true 2 (.slot 4) (.slot 30)⟩,
 ⟨some 5,none,.mov (.const (.bool true))⟩]
def zi4:List zb:=[⟨some 31,none,.build [.int .i64 0,.int .i64 0] []⟩,
 ⟨none,none,.store true 2 (.slot 4) (.slot 31)⟩,
 ⟨some 5,none,.mov (.const (.bool false))⟩]
def jh:AFn:=⟨(.seq (.region zi7 false [0,1,4]) (.seq (.seq (.region zjZ false [0,1,4,18]) (.cond (.slot 18) (.seq (.region ziU false [4,5]) .ret) .skip)) (.seq (.seq (.region zjr false [0,4,6,7]) (.seq (.region zje false [0,4,6,26]) (.cond (.slot 26) (.seq (.region ziV false [4,5]) .ret) .skip))) (.seq (.region zi4 false [4,5]) .ret)))),[.cell 4 true 2,.slot 5]⟩
def zoR:List zb:=[⟨some 2,none,.mov (.const (.bool false))⟩]
def zpe:List zb:=[⟨some 3,none,.mov (.slot 0)⟩,
 ⟨some 4,none,.bin .geq (.slot 3) (.const (.int .i64 1))⟩,
 ⟨some 5,none,.mov (.slot 4)⟩,
 ⟨some 6,some (5,true),.mov (.slot 0)⟩,
 ⟨some 7,some (5,true),.bin .leq (.slot 6) (.const (.int .i64 8))⟩,
 ⟨some 8,none,.pick (.slot 5) (.slot 7) (.const (.bool false))⟩,
 ⟨some 2,none,.mov (.slot 8)⟩]
def gV:AFn:=⟨(.seq (.region zoR false [0]) (.seq (.region zpe false [2]) .ret)),[.slot 2]⟩
def zld:List zb:=[⟨some 1,none,.box 2 (.slot 0)⟩,
 ⟨some 2,none,.mov (.const (.bool false))⟩]
def zkt:List zb:=[⟨some 6,none,.faddr 0 (.slot 1)⟩,
 ⟨some 7,none,.load false 1 (.slot 6)⟩,
 ⟨some 8,none,.bin .eql (.slot 7) (.const (.int .i64 0))⟩]
def zll:List zb:=[⟨some 9,none,.faddr 1 (.slot 1)⟩,
 ⟨some 10,none,.load false 1 (.slot 9)⟩,
 ⟨some 11,none,.len false (.slot 10)⟩,
 ⟨some 12,none,.bin .eql (.slot 11) (.const (.int .i64 0))⟩,
 ⟨some 2,none,.mov (.slot 12)⟩]
def zlp:List zb:=[⟨some 3,none,.alloc [.bool false,.bool false,.bool false,.bool false,.bool false,.bool false,.bool false,.bool false,.bool false]⟩]
def zl4:List zb:=[⟨some 13,none,.faddr 0 (.slot 1)⟩,
 ⟨some 14,none,.load false 1 (.slot 13)⟩,
 ⟨some 15,none,.mkslice 1 1 [.int .i64 0] [(0,(.slot 14))]⟩,
 ⟨some 16,none,.faddr 1 (.slot 1)⟩,
 ⟨some 17,none,.load false 1 (.slot 16)⟩,
 ⟨some 18,none,.append 1 8 (.slot 15) (.slot 17)⟩,
 ⟨some 19,none,.len false (.slot 18)⟩,
 ⟨some 20,none,.mov (.const (.int .i64 0))⟩]
def zhC:List zb:=[⟨some 21,none,.bin .lss (.slot 20) (.slot 19)⟩]
def zgm:List zb:=[⟨some 22,none,.idx 1 (.slot 18) (.slot 20)⟩,
 ⟨some 23,none,.load false 1 (.slot 22)⟩,
 ⟨some 5,none,.mov (.slot 23)⟩]
def zfD:List zb:=[⟨some 24,none,.mov (.slot 5)⟩,
 ⟨some 25,none,.call .frz ZJ [(.slot 24)]⟩,
 ⟨some 26,none,.not (.slot 25)⟩,
 ⟨some 27,none,.mov (.slot 26)⟩,
 ⟨some 28,some (27,false),.mov (.slot 5)⟩,
 ⟨some 29,some (27,false),.idxarr 1 9 (.slot 3) (.slot 28)⟩,
 ⟨some 30,some (27,false),.load false 1 (.slot 29)⟩,
 ⟨some 31,none,.pick (.slot 27) (.const (.bool true)) (.slot 30)⟩]
def zhS:List zb:=[⟨some 2,none,.mov (.const (.bool false))⟩]
def zfS:List zb:=[⟨some 32,none,.mov (.slot 5)⟩,
 ⟨some 33,none,.idxarr 1 9 (.slot 3) (.slot 32)⟩,
 ⟨none,none,.store false 1 (.slot 33) (.const (.bool true))⟩]
def zbK:List zb:=[⟨some 34,none,.bin .add (.slot 20) (.const (.int .i64 1))⟩,
 ⟨some 20,none,.mov (.slot 34)⟩]
def WH:zt:=(.seq (.region zhC false [3,18,19,20,21]) (.seq (.cond (.slot 21) .skip (.exit 0)) (.seq (.block 1 (.seq (.region zgm false [3,5,18,19,20]) (.seq (.seq (.region zfD false [3,5,18,19,20,31]) (.cond (.slot 31) (.seq (.region zhS false [2]) .ret) .skip)) (.region zfS false [3,18,19,20])))) (.region zbK false [3,18,19,20]))))
def ZE:zt:=.loop [3,18,19,20] WH
def zeS:List zb:=[⟨some 2,none,.mov (.const (.bool true))⟩]
def WF:AFn:=⟨(.seq (.region zld false [1]) (.seq (.seq (.region zkt false [1,8]) (.cond (.slot 8) (.seq (.region zll false [2]) .ret) .skip)) (.seq (.region zlp false [1,3]) (.seq (.seq (.region zl4 false [3,18,19,20]) (.block 0 ZE)) (.seq (.region zeS false [2]) .ret))))),[.slot 2]⟩
def zdC:List zb:=[⟨some 1,none,.box 3 (.slot 0)⟩,
 ⟨some 2,none,.mov (.const (.bool false))⟩]
def zdL:List zb:=⟨some 3,none,.faddr 0 (.slot 1)⟩::
 ⟨some 4,none,.load false 1 (.slot 3)⟩::
 ⟨some 5,none,.bin .geq (.slot 4) (.const (.int .i64 1))⟩::
 ⟨some 6,none,.mov (.slot 5)⟩::
 ⟨some 7,some (6,true),.faddr 0 (.slot 1)⟩::
 ⟨some 8,some (6,true),.load false 1 (.slot 7)⟩::
 ⟨some 9,some (6,true),.bin .leq (.slot 8) (.const (.int .i64 8))⟩::
 ⟨some 10,none,.pick (.slot 6) (.slot 9) (.const (.bool false))⟩::
 ⟨some 11,none,.mov (.slot 10)⟩::
 ⟨some 12,some (11,true),.faddr 1 (.slot 1)⟩::
 ⟨some 13,some (11,true),.load false 1 (.slot 12)⟩::
 ⟨some 14,some (11,true),.bin .geq (.slot 13) (.const (.int .i64 1))⟩::
 ⟨some 15,none,.pick (.slot 11) (.slot 14) (.const (.bool false))⟩::
 ⟨some 16,none,.mov (.slot 15)⟩::
 ⟨some 17,some (16,true),.faddr 1 (.slot 1)⟩::
 ⟨some 18,some (16,true),.load false 1 (.slot 17)⟩::
 ⟨some 19,some (16,true),.bin .leq (.slot 18) (.const (.int .i64 1073741824))⟩::
 ⟨some 20,none,.pick (.slot 16) (.slot 19) (.const (.bool false))⟩::
 ⟨some 21,none,.mov (.slot 20)⟩::
 ⟨some 22,some (21,true),.faddr 2 (.slot 1)⟩::
 ⟨some 23,some (21,true),.load false 1 (.slot 22)⟩::
 ⟨some 24,some (21,true),.len false (.slot 23)⟩::
 ⟨some 25,some (21,true),.bin .geq (.slot 24) (.const (.int .i64 1))⟩::
 ⟨some 26,none,.pick (.slot 21) (.slot 25) (.const (.bool false))⟩::
 ⟨some 27,none,.mov (.slot 26)⟩::
 ⟨some 28,some (27,true),.faddr 2 (.slot 1)⟩::
 ⟨some 29,some (27,true),.load false 1 (.slot 28)⟩::
 ⟨some 30,some (27,true),.len false (.slot 29)⟩::
 ⟨some 31,some (27,true),.bin .leq (.slot 30) (.const (.int .i64 16))⟩::
 ⟨some 32,none,.pick (.slot 27) (.slot 31) (.const (.bool false))⟩::
 ⟨some 2,none,.mov (.slot 32)⟩::[]
def y7:AFn:=⟨(.seq (.region zdC false [1]) (.seq (.region zdL false [2]) .ret)),[.slot 2]⟩
def zxO:List zb:=[⟨some 2,none,.mov (.const (.bool false))⟩]
def zz8:List zb:=[⟨some 3,none,.mov (.const (.int .i64 0))⟩]
def zBf:List zb:=[⟨some 6,none,.mov (.slot 0)⟩,
 ⟨some 7,none,.len false (.slot 6)⟩,
 ⟨some 8,none,.mov (.const (.int .i64 0))⟩]
def znH:List zb:=[⟨some 9,none,.bin .lss (.slot 8) (.slot 7)⟩]
def zoq:List zb:=[⟨some 10,none,.idx 3 (.slot 6) (.slot 8)⟩,
 ⟨some 11,none,.load true 3 (.slot 10)⟩,
 ⟨some 5,none,.alloc [.int .i64 0,.int .i64 0,.data false 1 [] true]⟩,
 ⟨none,none,.store true 3 (.slot 5) (.slot 11)⟩]
def zmc:List zb:=[⟨some 12,none,.mov (.slot 3)⟩,
 ⟨some 13,none,.faddr 2 (.slot 5)⟩,
 ⟨some 14,none,.load false 1 (.slot 13)⟩,
 ⟨some 15,none,.len false (.slot 14)⟩,
 ⟨some 16,none,.bin .add (.slot 12) (.slot 15)⟩,
 ⟨some 3,none,.mov (.slot 16)⟩]
def zni:List zb:=[⟨some 17,none,.load true 3 (.slot 5)⟩,
 ⟨some 18,none,.call .frz gF [(.slot 17)]⟩,
 ⟨some 19,none,.not (.slot 18)⟩,
 ⟨some 20,none,.mov (.slot 19)⟩,
 ⟨some 21,some (20,false),.mov (.slot 3)⟩,
 ⟨some 22,some (20,false),.bin .gtr (.slot 21) (.const (.int .i64 64))⟩,
 ⟨some 23,none,.pick (.slot 20) (.const (.bool true)) (.slot 22)⟩]
def zmX:List zb:=[⟨some 2,none,.mov (.const (.bool false))⟩]
def znu:List zb:=[⟨some 24,none,.bin .add (.slot 8) (.const (.int .i64 1))⟩,
 ⟨some 8,none,.mov (.slot 24)⟩]
def VE:zt:=(.seq (.region znH false [3,6,7,8,9]) (.seq (.cond (.slot 9) .skip (.exit 0)) (.seq (.block 1 (.seq (.region zoq false [3,5,6,7,8]) (.seq (.region zmc false [3,5,6,7,8]) (.seq (.region zni false [3,6,7,8,23]) (.cond (.slot 23) (.seq (.region zmX false [2]) .ret) .skip))))) (.region znu false [3,6,7,8]))))
def Sl:zt:=.loop [3,6,7,8] VE
def zwL:List zb:=[⟨some 2,none,.mov (.const (.bool true))⟩]
def Tp:AFn:=⟨(.seq (.region zxO false [0]) (.seq (.region zz8 false [0,3]) (.seq (.seq (.region zBf false [3,6,7,8]) (.block 0 Sl)) (.seq (.region zwL false [2]) .ret)))),[.slot 2]⟩
def zy1:List zb:=[⟨some 2,none,.mov (.const (.bool false))⟩]
def zAa:List zb:=[⟨some 3,none,.mov (.slot 0)⟩,
 ⟨some 4,none,.bin .geq (.slot 3) (.const (.int .i64 1))⟩,
 ⟨some 5,none,.mov (.slot 4)⟩,
 ⟨some 6,some (5,true),.mov (.slot 0)⟩,
 ⟨some 7,some (5,true),.bin .leq (.slot 6) (.const (.int .i64 1000))⟩,
 ⟨some 8,none,.pick (.slot 5) (.slot 7) (.const (.bool false))⟩,
 ⟨some 2,none,.mov (.slot 8)⟩]
def Tj:AFn:=⟨(.seq (.region zy1 false [0]) (.seq (.region zAa false [2]) .ret)),[.slot 2]⟩
def znb:List zb:=[⟨some 1,none,.box 2 (.slot 0)⟩,
 ⟨some 2,none,.mov (.const (.bool false))⟩]
def znV:List zb:=[⟨some 3,none,.load true 2 (.slot 1)⟩,
 ⟨some 4,none,.build [.int .i64 0,.int .i64 0] []⟩,
 ⟨some 5,none,.eq true [.ki,.ki] false (.slot 3) (.slot 4)⟩,
 ⟨some 6,none,.mov (.slot 5)⟩,
 ⟨some 7,some (6,false),.idxarr 1 2 (.slot 1) (.const (.int .i64 0))⟩,
 ⟨some 8,some (6,false),.load false 1 (.slot 7)⟩,
 ⟨some 9,some (6,false),.call .frz Tm [(.slot 8)]⟩,
 ⟨some 10,some (6,false),.mov (.slot 9)⟩,
 ⟨some 11,some (10,true),.idxarr 1 2 (.slot 1) (.const (.int .i64 1))⟩,
 ⟨some 12,some (10,true),.load false 1 (.slot 11)⟩,
 ⟨some 13,some (10,true),.call .frz Tm [(.slot 12)]⟩,
 ⟨some 14,some (6,false),.pick (.slot 10) (.slot 13) (.const (.bool false))⟩,
 ⟨some 15,none,.pick (.slot 6) (.const (.bool true)) (.slot 14)⟩,
 ⟨some 2,none,.mov (.slot 15)⟩]
def jN:AFn:=⟨(.seq (.region znb false [1]) (.seq (.region znV false [2]) .ret)),[.slot 2]⟩
def zyb:List zb:=[⟨some 1,none,.box 18 (.slot 0)⟩,
 ⟨some 2,none,.mov (.const (.bool false))⟩]
def zv0:List zb:=[⟨some 4,none,.mov (.const (.int .i64 0))⟩]
def zfb:List zb:=[⟨some 5,none,.bin .lss (.slot 4) (.const (.int .i64 9))⟩]
def zhk:List zb:=[⟨some 6,none,.mov (.slot 4)⟩,
 ⟨some 3,none,.mov (.slot 6)⟩]
def zfM:List zb:=[⟨some 7,none,.mov (.slot 3)⟩,
 ⟨some 8,none,.idxarr 2 9 (.slot 1) (.slot 7)⟩,
 ⟨some 9,none,.load true 2 (.slot 8)⟩,
 ⟨some 10,none,.call .frz Kz [(.slot 9)]⟩,
 ⟨some 11,none,.not (.slot 10)⟩,
 ⟨some 12,none,.mov (.slot 11)⟩,
 ⟨some 13,some (12,false),.mov (.slot 3)⟩,
 ⟨some 14,some (12,false),.bin .eql (.slot 13) (.const (.int .i64 0))⟩,
 ⟨some 15,some (12,false),.mov (.slot 14)⟩,
 ⟨some 16,some (15,true),.mov (.slot 3)⟩,
 ⟨some 17,some (15,true),.idxarr 2 9 (.slot 1) (.slot 16)⟩,
 ⟨some 18,some (15,true),.load true 2 (.slot 17)⟩,
 ⟨some 19,some (15,true),.build [.int .i64 0,.int .i64 0] []⟩,
 ⟨some 20,some (15,true),.eq true [.ki,.ki] true (.slot 18) (.slot 19)⟩,
 ⟨some 21,some (12,false),.pick (.slot 15) (.slot 20) (.const (.bool false))⟩,
 ⟨some 22,none,.pick (.slot 12) (.const (.bool true)) (.slot 21)⟩]
def zgK:List zb:=[⟨some 2,none,.mov (.const (.bool false))⟩]
def ze2:List zb:=[⟨some 23,none,.bin .add (.slot 4) (.const (.int .i64 1))⟩,
 ⟨some 4,none,.mov (.slot 23)⟩]
def gD:zt:=(.seq (.region zfb false [1,4,5]) (.seq (.cond (.slot 5) .skip (.exit 0)) (.seq (.block 1 (.seq (.region zhk false [1,3,4]) (.seq (.region zfM false [1,4,22]) (.cond (.slot 22) (.seq (.region zgK false [2]) .ret) .skip)))) (.region ze2 false [1,4]))))
def UJ:zt:=.loop [1,4] gD
def zzn:List zb:=[⟨some 2,none,.mov (.const (.bool true))⟩]
def SX:AFn:=⟨(.seq (.region zyb false [1]) (.seq (.seq (.region zv0 false [1,4]) (.block 0 UJ)) (.seq (.region zzn false [2]) .ret))),[.slot 2]⟩
def zfk:List zb:=[⟨some 2,none,.box 33 (.slot 0)⟩,
 ⟨some 4,none,.mov (.const (.bool false))⟩]
def zg6:List zb:=[⟨some 8,none,.faddr 0 (.slot 2)⟩,
 ⟨some 9,none,.load false 1 (.slot 8)⟩,
 ⟨some 10,none,.mov (.slot 1)⟩,
 ⟨some 11,none,.call .frz jk [(.slot 9),(.slot 10)]⟩,
 ⟨some 7,none,.mov (.slot 11)⟩,
 ⟨some 12,none,.extract 0 (.slot 7)⟩,
 ⟨some 13,none,.extract 1 (.slot 7)⟩,
 ⟨some 5,none,.alloc [.int .i64 0,.int .i64 0]⟩,
 ⟨none,none,.store true 2 (.slot 5) (.slot 12)⟩,
 ⟨some 6,none,.mov (.slot 13)⟩]
def zfe:List zb:=[⟨some 14,none,.mov (.slot 6)⟩,
 ⟨some 15,none,.mov (.slot 14)⟩,
 ⟨some 16,some (15,true),.faddr 1 (.slot 5)⟩,
 ⟨some 17,some (15,true),.load false 1 (.slot 16)⟩,
 ⟨some 18,some (15,true),.bin .eql (.slot 17) (.const (.int .i64 2))⟩,
 ⟨some 19,none,.pick (.slot 15) (.slot 18) (.const (.bool false))⟩,
 ⟨some 4,none,.mov (.slot 19)⟩]
def yZ:AFn:=⟨(.seq (.region zfk false [1,2]) (.seq (.region zg6 false [5,6]) (.seq (.region zfe false [4]) .ret))),[.slot 4]⟩
def zp3:List zb:=[⟨some 4,none,.mov (.const (.int .i64 0))⟩]
def zpX:List zb:=[⟨some 6,none,.mov (.slot 0)⟩,
 ⟨some 7,none,.len false (.slot 6)⟩,
 ⟨some 8,none,.mov (.const (.int .i64 0))⟩]
def zfs:List zb:=[⟨some 9,none,.bin .lss (.slot 8) (.slot 7)⟩]
def ze1:List zb:=[⟨some 10,none,.mov (.slot 8)⟩,
 ⟨some 5,none,.mov (.slot 10)⟩]
def zfZ:List zb:=[⟨some 11,none,.mov (.slot 1)⟩,
 ⟨some 12,none,.mov (.slot 0)⟩,
 ⟨some 13,none,.mov (.slot 5)⟩,
 ⟨some 14,none,.idx 1 (.slot 12) (.slot 13)⟩,
 ⟨some 15,none,.load false 1 (.slot 14)⟩,
 ⟨some 16,none,.callv (.slot 11) [(.slot 15)]⟩]
def zgO:List zb:=[⟨some 17,none,.mov (.slot 5)⟩,
 ⟨some 4,none,.mov (.slot 17)⟩]
def zgy:List zb:=[⟨some 18,none,.bin .add (.slot 8) (.const (.int .i64 1))⟩,
 ⟨some 8,none,.mov (.slot 18)⟩]
def vN:zt:=(.seq (.region zfs false [0,1,7,8,9]) (.seq (.cond (.slot 9) .skip (.exit 0)) (.seq (.block 1 (.seq (.region ze1 false [0,1,5,7,8]) (.seq (.region zfZ false [0,1,5,7,8,16]) (.cond (.slot 16) (.seq (.region zgO false [4]) .ret) .skip)))) (.region zgy false [0,1,7,8]))))
def zY:zt:=.loop [0,1,7,8] vN
def zoM:List zb:=[⟨some 4,none,.mov (.const (.int .i64 (-1)))⟩]
def vM:AFn:=⟨(.seq (.region zp3 false [0,1]) (.seq (.seq (.region zpX false [0,1,7,8]) (.block 0 zY)) (.seq (.region zoM false [4]) .ret))),[.slot 4]⟩
def zDh:List zb:=[⟨some 4,none,.mov (.const (.bool false))⟩]
def zDy:List zb:=[⟨some 5,none,.mov (.slot 0)⟩,
 ⟨some 6,none,.mov (.slot 1)⟩,
 ⟨some 7,none,.call .inl vL [(.slot 5),(.slot 6)]⟩,
 ⟨some 8,none,.bin .geq (.slot 7) (.const (.int .i64 0))⟩,
 ⟨some 4,none,.mov (.slot 8)⟩]
def vO:AFn:=⟨(.seq (.region zDh false [0,1]) (.seq (.region zDy false [4]) .ret)),[.slot 4]⟩
def zy8:List zb:=[⟨some 3,none,.mov (.const (.bool false))⟩]
def zxY:List zb:=[⟨some 4,none,.load true 33 (.slot 1)⟩,
 ⟨some 5,none,.mov (.slot 0)⟩,
 ⟨some 6,none,.call .frz jQ [(.slot 4),(.slot 5)]⟩,
 ⟨some 7,none,.not (.slot 6)⟩,
 ⟨some 3,none,.mov (.slot 7)⟩]
def oP:AFn:=⟨(.seq (.region zy8 false [0,1]) (.seq (.region zxY false [3]) .ret)),[.slot 3]⟩
def zou:List zb:=[⟨some 4,none,.mov (.const (.int .i64 0))⟩]
def zqj:List zb:=[⟨some 6,none,.mov (.slot 0)⟩,
 ⟨some 7,none,.len false (.slot 6)⟩,
 ⟨some 8,none,.mov (.const (.int .i64 0))⟩]
def zfQ:List zb:=[⟨some 9,none,.bin .lss (.slot 8) (.slot 7)⟩]
def zgt:List zb:=[⟨some 10,none,.mov (.slot 8)⟩,
 ⟨some 5,none,.mov (.slot 10)⟩]
def zft:List zb:=[⟨some 11,none,.mov (.slot 1)⟩,
 ⟨some 12,none,.mov (.slot 0)⟩,
 ⟨some 13,none,.mov (.slot 5)⟩,
 ⟨some 14,none,.idx 3 (.slot 12) (.slot 13)⟩,
 ⟨some 15,none,.load true 3 (.slot 14)⟩,
 ⟨some 16,none,.callv (.slot 11) [(.slot 15)]⟩]
def zfN:List zb:=[⟨some 17,none,.mov (.slot 5)⟩,
 ⟨some 4,none,.mov (.slot 17)⟩]
def zfR:List zb:=[⟨some 18,none,.bin .add (.slot 8) (.const (.int .i64 1))⟩,
 ⟨some 8,none,.mov (.slot 18)⟩]
def vg:zt:=(.seq (.region zfQ false [0,1,7,8,9]) (.seq (.cond (.slot 9) .skip (.exit 0)) (.seq (.block 1 (.seq (.region zgt false [0,1,5,7,8]) (.seq (.region zft false [0,1,5,7,8,16]) (.cond (.slot 16) (.seq (.region zfN false [4]) .ret) .skip)))) (.region zfR false [0,1,7,8]))))
def zU:zt:=.loop [0,1,7,8] vg
def zp1:List zb:=[⟨some 4,none,.mov (.const (.int .i64 (-1)))⟩]
def y8:AFn:=⟨(.seq (.region zou false [0,1]) (.seq (.seq (.region zqj false [0,1,7,8]) (.block 0 zU)) (.seq (.region zp1 false [4]) .ret))),[.slot 4]⟩
def zDM:List zb:=[⟨some 4,none,.mov (.const (.bool false))⟩]
def zC6:List zb:=[⟨some 5,none,.mov (.slot 0)⟩,
 ⟨some 6,none,.mov (.slot 1)⟩,
 ⟨some 7,none,.call .inl yY [(.slot 5),(.slot 6)]⟩,
 ⟨some 8,none,.bin .geq (.slot 7) (.const (.int .i64 0))⟩,
 ⟨some 4,none,.mov (.slot 8)⟩]
def vo:AFn:=⟨(.seq (.region zDM false [0,1]) (.seq (.region zC6 false [4]) .ret)),[.slot 4]⟩
def zeV:List zb:=[⟨some 2,none,.box 3 (.slot 0)⟩,
 ⟨some 3,none,.mov (.const (.bool false))⟩]
def zfd:List zb:=[⟨some 7,none,.faddr 0 (.slot 1)⟩,
 ⟨some 8,none,.load false 1 (.slot 7)⟩,
 ⟨some 9,none,.faddr 0 (.slot 2)⟩,
 ⟨some 10,none,.load false 1 (.slot 9)⟩,
 ⟨some 11,none,.call .frz jk [(.slot 8),(.slot 10)]⟩,
 ⟨some 6,none,.mov (.slot 11)⟩,
 ⟨some 12,none,.extract 0 (.slot 6)⟩,
 ⟨some 13,none,.extract 1 (.slot 6)⟩,
 ⟨some 4,none,.alloc [.int .i64 0,.int .i64 0]⟩,
 ⟨none,none,.store true 2 (.slot 4) (.slot 12)⟩,
 ⟨some 5,none,.mov (.slot 13)⟩]
def zfB:List zb:=[⟨some 14,none,.mov (.slot 5)⟩,
 ⟨some 15,none,.not (.slot 14)⟩,
 ⟨some 16,none,.mov (.slot 15)⟩,
 ⟨some 17,some (16,false),.faddr 1 (.slot 2)⟩,
 ⟨some 18,some (16,false),.load false 1 (.slot 17)⟩,
 ⟨some 19,some (16,false),.faddr 0 (.slot 2)⟩,
 ⟨some 20,some (16,false),.load false 1 (.slot 19)⟩,
 ⟨some 21,some (16,false),.faddr 24 (.slot 1)⟩,
 ⟨some 22,some (16,false),.idxarr 1 9 (.slot 21) (.slot 20)⟩,
 ⟨some 23,some (16,false),.load false 1 (.slot 22)⟩,
 ⟨some 24,some (16,false),.bin .gtr (.slot 18) (.slot 23)⟩,
 ⟨some 25,none,.pick (.slot 16) (.const (.bool true)) (.slot 24)⟩,
 ⟨some 3,none,.mov (.slot 25)⟩]
def vJ:AFn:=⟨(.seq (.region zeV false [1,2]) (.seq (.region zfd false [1,2,5]) (.seq (.region zfB true [3]) .ret))),[.slot 3]⟩
def oq:List zb:=[⟨some 1,none,.box 33 (.slot 0)⟩,
 ⟨some 2,none,.mov (.const (.bool false))⟩]
def ow:List zb:=[⟨some 7,none,.faddr 0 (.slot 1)⟩,
 ⟨some 8,none,.load false 1 (.slot 7)⟩,
 ⟨some 9,none,.call .frz gm [(.slot 8)]⟩,
 ⟨some 10,none,.not (.slot 9)⟩,
 ⟨some 11,none,.mov (.slot 10)⟩,
 ⟨some 12,some (11,false),.faddr 1 (.slot 1)⟩,
 ⟨some 13,some (11,false),.load true 2 (.slot 12)⟩,
 ⟨some 14,some (11,false),.call .frz Vg [(.slot 13)]⟩,
 ⟨some 15,some (11,false),.not (.slot 14)⟩,
 ⟨some 16,none,.pick (.slot 11) (.const (.bool true)) (.slot 15)⟩,
 ⟨some 17,none,.mov (.slot 16)⟩,
 ⟨some 18,some (17,false),.faddr 3 (.slot 1)⟩,
 ⟨some 19,some (17,false),.load false 1 (.slot 18)⟩,
 ⟨some 20,some (17,false),.call .frz gp [(.slot 19)]⟩,
 ⟨some 21,some (17,false),.not (.slot 20)⟩,
 ⟨some 22,none,.pick (.slot 17) (.const (.bool true)) (.slot 21)⟩,
 ⟨some 23,none,.mov (.slot 22)⟩,
 ⟨some 24,some (23,false),.faddr 4 (.slot 1)⟩,
 ⟨some 25,some (23,false),.load true 18 (.slot 24)⟩,
 ⟨some 26,some (23,false),.call .frz PP [(.slot 25)]⟩,
 ⟨some 27,some (23,false),.not (.slot 26)⟩,
 ⟨some 28,none,.pick (.slot 23) (.const (.bool true)) (.slot 27)⟩]
def jZ:List zb:=[⟨some 2,none,.mov (.const (.bool false))⟩]
def og:List zb:=[⟨some 29,none,.faddr 22 (.slot 1)⟩,
 ⟨some 30,none,.load false 1 (.slot 29)⟩,
 ⟨some 31,none,.bin .lss (.slot 30) (.const (.int .i64 1))⟩,
 ⟨some 32,none,.mov (.slot 31)⟩,
 ⟨some 33,some (32,false),.faddr 22 (.slot 1)⟩,
 ⟨some 34,some (32,false),.load false 1 (.slot 33)⟩,
 ⟨some 35,some (32,false),.bin .gtr (.slot 34) (.const (.int .i64 24))⟩,
 ⟨some 36,none,.pick (.slot 32) (.const (.bool true)) (.slot 35)⟩,
 ⟨some 37,none,.mov (.slot 36)⟩,
 ⟨some 38,some (37,false),.faddr 23 (.slot 1)⟩,
 ⟨some 39,some (37,false),.load false 1 (.slot 38)⟩,
 ⟨some 40,some (37,false),.bin .lss (.slot 39) (.const (.int .i64 1))⟩,
 ⟨some 41,none,.pick (.slot 37) (.const (.bool true)) (.slot 40)⟩,
 ⟨some 42,none,.mov (.slot 41)⟩,
 ⟨some 43,some (42,false),.faddr 23 (.slot 1)⟩,
 ⟨some 44,some (42,false),.load false 1 (.slot 43)⟩,
 ⟨some 45,some (42,false),.bin .gtr (.slot 44) (.const (.int .i64 40))⟩,
 ⟨some 46,none,.pick (.slot 42) (.const (.bool true)) (.slot 45)⟩]
def oh:List zb:=[⟨some 2,none,.mov (.const (.bool false))⟩]
def j6:List zb:=[⟨some 47,none,.faddr 1 (.slot 1)⟩,
 ⟨some 48,none,.faddr 0 (.slot 47)⟩,
 ⟨some 49,none,.load false 1 (.slot 48)⟩,
 ⟨some 50,none,.bin .neq (.slot 49) (.const (.int .i64 0))⟩,
 ⟨some 51,none,.mov (.slot 50)⟩,
 ⟨some 52,some (51,true),.load true 33 (.slot 1)⟩,
 ⟨some 53,some (51,true),.faddr 1 (.slot 1)⟩,
 ⟨some 54,some (51,true),.faddr 0 (.slot 53)⟩,
 ⟨some 55,some (51,true),.load false 1 (.slot 54)⟩,
 ⟨some 56,some (51,true),.call .frz jQ [(.slot 52),(.slot 55)]⟩,
 ⟨some 57,some (51,true),.not (.slot 56)⟩,
 ⟨some 58,none,.pick (.slot 51) (.slot 57) (.const (.bool false))⟩,
 ⟨some 59,none,.mov (.slot 58)⟩,
 ⟨some 60,some (59,false),.faddr 1 (.slot 1)⟩,
 ⟨some 61,some (59,false),.faddr 1 (.slot 60)⟩,
 ⟨some 62,some (59,false),.load false 1 (.slot 61)⟩,
 ⟨some 63,some (59,false),.mkfn (.func oU) [] [(.slot 1)]⟩,
 ⟨some 64,some (59,false),.call .inl uU [(.slot 62),(.slot 63)]⟩,
 ⟨some 65,none,.pick (.slot 59) (.const (.bool true)) (.slot 64)⟩]
def oF:List zb:=[⟨some 2,none,.mov (.const (.bool false))⟩]
def oH:List zb:=[⟨some 66,none,.faddr 24 (.slot 1)⟩,
 ⟨some 67,none,.load true 9 (.slot 66)⟩,
 ⟨some 68,none,.mov (.const (.int .i64 0))⟩]
def Rx:List zb:=[⟨some 69,none,.bin .lss (.slot 68) (.const (.int .i64 9))⟩]
def Ru:List zb:=[⟨some 70,none,.mov (.slot 68)⟩,
 ⟨some 71,none,.idxv false 1 9 (.slot 67) (.slot 68)⟩,
 ⟨some 3,none,.mov (.slot 70)⟩,
 ⟨some 4,none,.mov (.slot 71)⟩]
def WS:List zb:=[⟨some 73,none,.faddr 0 (.slot 1)⟩,
 ⟨some 74,none,.load false 1 (.slot 73)⟩,
 ⟨some 75,none,.mov (.slot 3)⟩,
 ⟨some 76,none,.call .frz jk [(.slot 74),(.slot 75)]⟩,
 ⟨some 72,none,.mov (.slot 76)⟩,
 ⟨some 77,none,.extract 0 (.slot 72)⟩,
 ⟨some 78,none,.extract 1 (.slot 72)⟩,
 ⟨some 5,none,.alloc [.int .i64 0,.int .i64 0]⟩,
 ⟨none,none,.store true 2 (.slot 5) (.slot 77)⟩,
 ⟨some 6,none,.mov (.slot 78)⟩]
def VC:List zb:=[⟨some 79,none,.mov (.slot 4)⟩,
 ⟨some 80,none,.bin .lss (.slot 79) (.const (.int .i64 0))⟩,
 ⟨some 81,none,.mov (.slot 80)⟩,
 ⟨some 82,some (81,false),.mov (.slot 4)⟩,
 ⟨some 83,some (81,false),.bin .gtr (.slot 82) (.const (.int .i64 1073741824))⟩,
 ⟨some 84,none,.pick (.slot 81) (.const (.bool true)) (.slot 83)⟩,
 ⟨some 85,none,.mov (.slot 84)⟩,
 ⟨some 86,some (85,false),.mov (.slot 6)⟩,
 ⟨some 87,some (85,false),.not (.slot 86)⟩,
 ⟨some 88,some (85,false),.mov (.slot 87)⟩,
 ⟨some 89,some (88,true),.mov (.slot 4)⟩,
 ⟨some 90,some (88,true),.bin .neq (.slot 89) (.const (.int .i64 0))⟩,
 ⟨some 91,some (88,true),.mov (.slot 90)⟩,
 ⟨some 92,some (91,false),.mov (.slot 3)⟩,
 ⟨some 93,some (91,false),.faddr 4 (.slot 1)⟩,
 ⟨some 94,some (91,false),.idxarr 2 9 (.slot 93) (.slot 92)⟩,
 ⟨some 95,some (91,false),.load true 2 (.slot 94)⟩,
 ⟨some 96,some (91,false),.build [.int .i64 0,.int .i64 0] []⟩,
 ⟨some 97,some (91,false),.eq true [.ki,.ki] true (.slot 95) (.slot 96)⟩,
 ⟨some 98,some (88,true),.pick (.slot 91) (.const (.bool true)) (.slot 97)⟩,
 ⟨some 99,some (85,false),.pick (.slot 88) (.slot 98) (.const (.bool false))⟩,
 ⟨some 100,none,.pick (.slot 85) (.const (.bool true)) (.slot 99)⟩]
def WG:List zb:=[⟨some 2,none,.mov (.const (.bool false))⟩]
def WK:List zb:=[⟨some 101,none,.bin .add (.slot 68) (.const (.int .i64 1))⟩,
 ⟨some 68,none,.mov (.slot 101)⟩]
def zy:zt:=(.seq (.region Rx false [1,67,68,69]) (.seq (.cond (.slot 69) .skip (.exit 0)) (.seq (.block 1 (.seq (.region Ru false [1,3,4,67,68]) (.seq (.region WS false [1,3,4,6,67,68]) (.seq (.region VC false [1,67,68,100]) (.cond (.slot 100) (.seq (.region WG false [2]) .ret) .skip))))) (.region WK false [1,67,68]))))
def ja:zt:=.loop [1,67,68] zy
def uq:List zb:=[⟨some 102,none,.faddr 3 (.slot 1)⟩,
 ⟨some 103,none,.load false 1 (.slot 102)⟩,
 ⟨some 104,none,.mkfn (.func oZ) [] [(.slot 1)]⟩,
 ⟨some 105,none,.call .inl vk [(.slot 103),(.slot 104)]⟩,
 ⟨some 106,none,.not (.slot 105)⟩,
 ⟨some 2,none,.mov (.slot 106)⟩]
def zA:AFn:=⟨(.seq (.region oq false [1]) (.seq (.seq (.region ow false [1,28]) (.cond (.slot 28) (.seq (.region jZ false [2]) .ret) .skip)) (.seq (.seq (.region og false [1,46]) (.cond (.slot 46) (.seq (.region oh false [2]) .ret) .skip)) (.seq (.seq (.region j6 false [1,65]) (.cond (.slot 65) (.seq (.region oF false [2]) .ret) .skip)) (.seq (.seq (.region oH false [1,67,68]) (.block 0 ja)) (.seq (.region uq false [2]) .ret)))))),[.slot 2]⟩
def zv3:List zb:=[⟨some 6,none,.mov (.const (.data false 2 [] true))⟩]
def zxf:List zb:=[⟨some 10,none,.mov (.slot 0)⟩,
 ⟨some 11,none,.mov (.slot 1)⟩,
 ⟨some 12,none,.sl 2 (.slot 10) (some (.slot 11)) none none⟩]
def zwF:List zb:=[⟨some 13,none,.mov (.slot 2)⟩,
 ⟨some 14,none,.len false (.slot 13)⟩,
 ⟨some 7,none,.mov (.slot 14)⟩]
def zz3:List zb:=[⟨some 15,none,.mov (.slot 7)⟩,
 ⟨some 16,none,.bin .eql (.slot 15) (.const (.int .i64 0))⟩]
def zwJ:List zb:=[⟨some 17,none,.mov (.slot 0)⟩,
 ⟨some 6,none,.mov (.slot 17)⟩]
def zAL:List zb:=[⟨some 18,none,.mov (.slot 0)⟩,
 ⟨some 19,none,.len false (.slot 18)⟩,
 ⟨some 8,none,.mov (.slot 19)⟩]
def zw3:List zb:=[⟨some 20,none,.mov (.slot 1)⟩,
 ⟨some 21,none,.mov (.slot 8)⟩,
 ⟨some 22,none,.bin .eql (.slot 20) (.slot 21)⟩]
def zAe:List zb:=[⟨some 23,none,.mov (.slot 0)⟩,
 ⟨some 24,none,.mov (.slot 2)⟩,
 ⟨some 25,none,.append 2 16 (.slot 23) (.slot 24)⟩,
 ⟨some 6,none,.mov (.slot 25)⟩]
def zrl:List zb:=[⟨some 41,none,.mov (.slot 9)⟩,
 ⟨some 42,none,.mov (.slot 1)⟩,
 ⟨some 43,none,.sl 2 (.slot 41) (some (.slot 42)) none none⟩,
 ⟨some 44,none,.mov (.slot 2)⟩,
 ⟨some 45,none,.copy 2 (.slot 43) (.slot 44)⟩]
def zrf:List zb:=[⟨some 46,none,.mov (.slot 9)⟩,
 ⟨some 47,none,.mov (.slot 1)⟩,
 ⟨some 48,none,.mov (.slot 7)⟩,
 ⟨some 49,none,.bin .add (.slot 47) (.slot 48)⟩,
 ⟨some 50,none,.sl 2 (.slot 46) (some (.slot 49)) none none⟩,
 ⟨some 51,none,.mov (.slot 0)⟩,
 ⟨some 52,none,.mov (.slot 1)⟩,
 ⟨some 53,none,.sl 2 (.slot 51) (some (.slot 52)) none none⟩,
 ⟨some 54,none,.copy 2 (.slot 50) (.slot 53)⟩]
def zs4:List zb:=[⟨some 55,none,.mov (.slot 9)⟩,
 ⟨some 6,none,.mov (.slot 55)⟩]
def zru:List zb:=[⟨some 56,none,.mov (.slot 0)⟩,
 ⟨some 57,none,.mov (.slot 8)⟩,
 ⟨some 58,none,.mov (.slot 7)⟩,
 ⟨some 59,none,.bin .add (.slot 57) (.slot 58)⟩,
 ⟨some 60,none,.sl 2 (.slot 56) none (some (.slot 59)) none⟩,
 ⟨some 0,none,.mov (.slot 60)⟩]
def ztm:List zb:=[⟨some 61,none,.mov (.slot 2)⟩,
 ⟨some 62,none,.mov (.slot 0)⟩,
 ⟨some 63,none,.mov (.slot 1)⟩,
 ⟨some 64,none,.mov (.slot 7)⟩,
 ⟨some 65,none,.bin .add (.slot 63) (.slot 64)⟩,
 ⟨some 66,none,.sl 2 (.slot 62) (some (.slot 65)) none none⟩,
 ⟨some 67,none,.call .frz Kr [(.slot 61),(.slot 66)]⟩,
 ⟨some 68,none,.not (.slot 67)⟩]
def zsX:List zb:=[⟨some 69,none,.mov (.slot 0)⟩,
 ⟨some 70,none,.mov (.slot 1)⟩,
 ⟨some 71,none,.mov (.slot 7)⟩,
 ⟨some 72,none,.bin .add (.slot 70) (.slot 71)⟩,
 ⟨some 73,none,.sl 2 (.slot 69) (some (.slot 72)) none none⟩,
 ⟨some 74,none,.mov (.slot 0)⟩,
 ⟨some 75,none,.mov (.slot 1)⟩,
 ⟨some 76,none,.sl 2 (.slot 74) (some (.slot 75)) none none⟩,
 ⟨some 77,none,.copy 2 (.slot 73) (.slot 76)⟩]
def zs1:List zb:=[⟨some 78,none,.mov (.slot 0)⟩,
 ⟨some 79,none,.mov (.slot 1)⟩,
 ⟨some 80,none,.sl 2 (.slot 78) (some (.slot 79)) none none⟩,
 ⟨some 81,none,.mov (.slot 2)⟩,
 ⟨some 82,none,.copy 2 (.slot 80) (.slot 81)⟩]
def ztb:List zb:=[⟨some 83,none,.mov (.slot 0)⟩,
 ⟨some 6,none,.mov (.slot 83)⟩]
def ztd:List zb:=[⟨some 84,none,.mov (.slot 0)⟩,
 ⟨some 85,none,.mov (.slot 8)⟩,
 ⟨some 86,none,.sl 2 (.slot 84) (some (.slot 85)) none none⟩,
 ⟨some 87,none,.mov (.slot 2)⟩,
 ⟨some 88,none,.copy 2 (.slot 86) (.slot 87)⟩]
def zrk:List zb:=[⟨some 89,none,.mov (.slot 0)⟩,
 ⟨some 90,none,.mov (.slot 1)⟩,
 ⟨some 91,none,.sl 2 (.slot 89) (some (.slot 90)) none none⟩,
 ⟨some 92,none,.mov (.slot 7)⟩,
 ⟨some 93,none,.call .frz Pv [(.slot 91),(.slot 92)]⟩]
def zrJ:List zb:=[⟨some 94,none,.mov (.slot 0)⟩,
 ⟨some 6,none,.mov (.slot 94)⟩]
def uM:AFn:=⟨(.seq (.region zv3 false [0,1,2]) (.seq (.region zxf false [0,1,2]) (.seq (.region zwF false [0,1,2,7]) (.seq (.seq (.region zz3 false [0,1,2,7,16]) (.cond (.slot 16) (.seq (.region zwJ false [6]) .ret) .skip)) (.seq (.region zAL false [0,1,2,7,8]) (.seq (.seq (.region zw3 false [0,1,2,7,8,22]) (.cond (.slot 22) (.seq (.region zAe false [6]) .ret) .skip)) (.seq (.seq .dead (.cond (.slot 31) (.seq .dead (.seq (.region zrl false [0,1,7,9]) (.seq (.region zrf true [9]) (.seq (.region zs4 false [6]) .ret)))) .skip)) (.seq (.region zru false [0,1,2,7,8]) (.seq (.seq (.region ztm false [0,1,2,7,8,68]) (.cond (.slot 68) (.seq (.region zsX true [0,1,2]) (.seq (.region zs1 false [0]) (.seq (.region ztb false [6]) .ret))) .skip)) (.seq (.region ztd false [0,1,7]) (.seq (.region zrk false [0]) (.seq (.region zrJ false [6]) .ret)))))))))))),[.slot 6]⟩
def zxL:List zb:=[⟨some 2,none,.mov (.const (.data false 2 [] true))⟩]
def zwC:List zb:=[⟨some 3,none,.mov (.slot 0)⟩,
 ⟨some 4,none,.isnil .ks false (.slot 3)⟩]
def zxn:List zb:=[⟨some 2,none,.mov (.const (.data false 2 [] true))⟩]
def zxI:List zb:=[⟨some 5,none,.mkslice 2 0 [.int .i64 0,.int .i64 0] []⟩,
 ⟨some 6,none,.mov (.slot 0)⟩,
 ⟨some 7,none,.append 2 16 (.slot 5) (.slot 6)⟩,
 ⟨some 2,none,.mov (.slot 7)⟩]
def vZ:AFn:=⟨(.seq (.region zxL false [0]) (.seq (.seq (.region zwC false [0,4]) (.cond (.slot 4) (.seq (.region zxn false [2]) .ret) .skip)) (.seq (.region zxI false [2]) .ret))),[.slot 2]⟩
def zhZ:List zb:=[⟨some 6,none,.mov (.const (.data false 2 [] true))⟩,
 ⟨some 7,none,.mov (.const (.int .i64 0))⟩]
def zgA:List zb:=[⟨some 10,none,.mov (.slot 0)⟩,
 ⟨some 11,none,.call .frz gm [(.slot 10)]⟩,
 ⟨some 12,none,.not (.slot 11)⟩,
 ⟨some 13,none,.mov (.slot 12)⟩,
 ⟨some 14,some (13,false),.mov (.slot 1)⟩,
 ⟨some 15,some (13,false),.bin .lss (.slot 14) (.const (.int .i64 1))⟩,
 ⟨some 16,none,.pick (.slot 13) (.const (.bool true)) (.slot 15)⟩,
 ⟨some 17,none,.mov (.slot 16)⟩,
 ⟨some 18,some (17,false),.mov (.slot 1)⟩,
 ⟨some 19,some (17,false),.bin .gtr (.slot 18) (.const (.int .i64 8))⟩,
 ⟨some 20,none,.pick (.slot 17) (.const (.bool true)) (.slot 19)⟩,
 ⟨some 21,none,.mov (.slot 20)⟩,
 ⟨some 22,some (21,false),.mov (.slot 2)⟩,
 ⟨some 23,some (21,false),.call .frz UR [(.slot 22)]⟩,
 ⟨some 24,some (21,false),.not (.slot 23)⟩,
 ⟨some 25,none,.pick (.slot 21) (.const (.bool true)) (.slot 24)⟩]
def zha:List zb:=[⟨some 6,none,.mov (.const (.data false 2 [] true))⟩,
 ⟨some 7,none,.mov (.const (.int .i64 2))⟩]
def zfV:List zb:=[⟨some 27,none,.mov (.slot 0)⟩,
 ⟨some 28,none,.mov (.slot 1)⟩,
 ⟨some 29,none,.call .frz VL [(.slot 27),(.slot 28)]⟩,
 ⟨some 26,none,.mov (.slot 29)⟩,
 ⟨some 30,none,.extract 0 (.slot 26)⟩,
 ⟨some 31,none,.extract 1 (.slot 26)⟩,
 ⟨some 8,none,.mov (.slot 30)⟩,
 ⟨some 9,none,.mov (.slot 31)⟩]
def zhw:List zb:=[⟨some 32,none,.mov (.slot 9)⟩]
def zhc:List zb:=[⟨some 6,none,.mov (.const (.data false 2 [] true))⟩,
 ⟨some 7,none,.mov (.const (.int .i64 260))⟩]
def zfu:List zb:=[⟨some 33,none,.mov (.slot 0)⟩,
 ⟨some 34,none,.call .adp vW [(.slot 33)]⟩,
 ⟨some 35,none,.mov (.slot 8)⟩,
 ⟨some 36,none,.mov (.slot 1)⟩,
 ⟨some 37,none,.mov (.slot 2)⟩,
 ⟨some 38,none,.build [.int .i64 0,.int .i64 0] [(0,1,(.slot 36)),(1,1,(.slot 37))]⟩,
 ⟨some 39,none,.mkslice 2 1 [.int .i64 0,.int .i64 0] [(0,(.slot 38))]⟩,
 ⟨some 40,none,.call .inl ZX [(.slot 34),(.slot 35),(.slot 39)]⟩,
 ⟨some 6,none,.mov (.slot 40)⟩,
 ⟨some 7,none,.mov (.const (.int .i64 0))⟩]
def uF:AFn:=⟨(.seq (.region zhZ false [0,1,2]) (.seq (.seq (.region zgA false [0,1,2,25]) (.cond (.slot 25) (.seq (.region zha false [6,7]) .ret) .skip)) (.seq (.region zfV false [0,1,2,8,9]) (.seq (.seq (.region zhw false [0,1,2,8,32]) (.cond (.slot 32) (.seq (.region zhc false [6,7]) .ret) .skip)) (.seq (.region zfu false [6,7]) .ret))))),[.slot 6,.slot 7]⟩
def zF6:List zb:=[⟨some 2,none,.mov (.const (.data false 1 [] true))⟩]
def zEz:List zb:=[⟨some 3,none,.mov (.slot 0)⟩,
 ⟨some 4,none,.isnil .ks false (.slot 3)⟩]
def zEJ:List zb:=[⟨some 2,none,.mov (.const (.data false 1 [] true))⟩]
def zE2:List zb:=[⟨some 5,none,.mkslice 1 0 [.int .u8 0] []⟩,
 ⟨some 6,none,.mov (.slot 0)⟩,
 ⟨some 7,none,.append 1 1 (.slot 5) (.slot 6)⟩,
 ⟨some 2,none,.mov (.slot 7)⟩]
def YQ:AFn:=⟨(.seq (.region zF6 false [0]) (.seq (.seq (.region zEz false [0,4]) (.cond (.slot 4) (.seq (.region zEJ false [2]) .ret) .skip)) (.seq (.region zE2 false [2]) .ret))),[.slot 2]⟩
def zwQ:List zb:=[⟨some 2,none,.mov (.const (.data false 3 [] true))⟩]
def zwj:List zb:=[⟨some 3,none,.mknil 3⟩]
def zvZ:List zb:=[⟨some 6,none,.mov (.slot 0)⟩,
 ⟨some 7,none,.len false (.slot 6)⟩,
 ⟨some 8,none,.mov (.const (.int .i64 0))⟩]
def ztj:List zb:=[⟨some 9,none,.bin .lss (.slot 8) (.slot 7)⟩]
def zrh:List zb:=[⟨some 10,none,.idx 3 (.slot 6) (.slot 8)⟩,
 ⟨some 11,none,.load true 3 (.slot 10)⟩,
 ⟨some 5,none,.alloc [.int .i64 0,.int .i64 0,.data false 1 [] true]⟩,
 ⟨none,none,.store true 3 (.slot 5) (.slot 11)⟩]
def zsM:List zb:=[⟨some 12,none,.faddr 2 (.slot 5)⟩,
 ⟨some 13,none,.load false 1 (.slot 12)⟩,
 ⟨some 14,none,.call .frz Kw [(.slot 13)]⟩,
 ⟨some 15,none,.faddr 2 (.slot 5)⟩,
 ⟨none,none,.store false 1 (.slot 15) (.slot 14)⟩]
def zq9:List zb:=[⟨some 16,none,.mov (.slot 3)⟩,
 ⟨some 17,none,.load true 3 (.slot 5)⟩,
 ⟨some 18,none,.mkslice 3 1 [.int .i64 0,.int .i64 0,.data false 1 [] true] [(0,(.slot 17))]⟩,
 ⟨some 19,none,.append 3 40 (.slot 16) (.slot 18)⟩,
 ⟨some 3,none,.mov (.slot 19)⟩]
def zsL:List zb:=[⟨some 20,none,.bin .add (.slot 8) (.const (.int .i64 1))⟩,
 ⟨some 8,none,.mov (.slot 20)⟩]
def WC:zt:=(.seq (.region ztj false [3,6,7,8,9]) (.seq (.cond (.slot 9) .skip (.exit 0)) (.seq (.block 1 (.seq (.region zrh false [3,5,6,7,8]) (.seq (.region zsM false [3,5,6,7,8]) (.region zq9 false [3,6,7,8])))) (.region zsL false [3,6,7,8]))))
def jw:zt:=.loop [3,6,7,8] WC
def zyv:List zb:=[⟨some 21,none,.mov (.slot 3)⟩,
 ⟨some 2,none,.mov (.slot 21)⟩]
def ZN:AFn:=⟨(.seq (.region zwQ false [0]) (.seq (.region zwj false [0,3]) (.seq (.seq (.region zvZ false [3,6,7,8]) (.block 0 jw)) (.seq (.region zyv false [2]) .ret)))),[.slot 2]⟩
def zzd:List zb:=[⟨some 4,none,.mov (.const (.data false 3 [] true))⟩,
 ⟨some 5,none,.mov (.const (.data false 3 [] true))⟩]
def zyo:List zb:=[⟨some 7,none,.mov (.slot 0)⟩,
 ⟨some 8,none,.call .frz gp [(.slot 7)]⟩,
 ⟨some 9,none,.not (.slot 8)⟩]
def zyO:List zb:=[⟨some 4,none,.mov (.const (.data false 3 [] true))⟩,
 ⟨some 5,none,.mov (.const (.data false 3 [] true))⟩]
def zxu:List zb:=[⟨some 6,none,.mov (.const (.int .i64 0))⟩]
def zsd:List zb:=[⟨some 10,none,.mov (.slot 6)⟩,
 ⟨some 11,none,.mov (.slot 0)⟩,
 ⟨some 12,none,.len false (.slot 11)⟩,
 ⟨some 13,none,.bin .lss (.slot 10) (.slot 12)⟩,
 ⟨some 14,none,.mov (.slot 13)⟩,
 ⟨some 15,some (14,true),.mov (.slot 0)⟩,
 ⟨some 16,some (14,true),.mov (.slot 6)⟩,
 ⟨some 17,some (14,true),.idx 3 (.slot 15) (.slot 16)⟩,
 ⟨some 18,some (14,true),.faddr 2 (.slot 17)⟩,
 ⟨some 19,some (14,true),.load false 1 (.slot 18)⟩,
 ⟨some 20,some (14,true),.len false (.slot 19)⟩,
 ⟨some 21,some (14,true),.mov (.slot 1)⟩,
 ⟨some 22,some (14,true),.bin .leq (.slot 20) (.slot 21)⟩,
 ⟨some 23,none,.pick (.slot 14) (.slot 22) (.const (.bool false))⟩]
def ztw:List zb:=[⟨some 24,none,.mov (.slot 1)⟩,
 ⟨some 25,none,.mov (.slot 0)⟩,
 ⟨some 26,none,.mov (.slot 6)⟩,
 ⟨some 27,none,.idx 3 (.slot 25) (.slot 26)⟩,
 ⟨some 28,none,.faddr 2 (.slot 27)⟩,
 ⟨some 29,none,.load false 1 (.slot 28)⟩,
 ⟨some 30,none,.len false (.slot 29)⟩,
 ⟨some 31,none,.bin .sub (.slot 24) (.slot 30)⟩,
 ⟨some 1,none,.mov (.slot 31)⟩]
def zsj:List zb:=[⟨some 32,none,.mov (.slot 6)⟩,
 ⟨some 33,none,.bin .add (.slot 32) (.const (.int .i64 1))⟩,
 ⟨some 6,none,.mov (.slot 33)⟩]
def TZ:zt:=(.seq (.seq (.region zsd false [0,1,6,23]) (.cond (.slot 23) .skip (.exit 0))) (.block 1 (.seq (.region ztw false [0,1,6]) (.region zsj false [0,1,6]))))
def VJ:zt:=.loop [0,1,6] TZ
def zxV:List zb:=[⟨some 34,none,.mov (.slot 0)⟩,
 ⟨some 35,none,.mov (.slot 6)⟩,
 ⟨some 36,none,.mov (.slot 0)⟩,
 ⟨some 37,none,.len false (.slot 36)⟩,
 ⟨some 38,none,.mov (.slot 0)⟩,
 ⟨some 39,none,.len false (.slot 38)⟩,
 ⟨some 40,none,.sl 3 (.slot 34) (some (.slot 35)) (some (.slot 37)) (some (.slot 39))⟩,
 ⟨some 41,none,.call .frz uL [(.slot 40)]⟩,
 ⟨some 42,none,.mov (.slot 0)⟩,
 ⟨some 43,none,.mov (.slot 6)⟩,
 ⟨some 44,none,.mov (.slot 6)⟩,
 ⟨some 45,none,.sl 3 (.slot 42) none (some (.slot 43)) (some (.slot 44))⟩,
 ⟨some 46,none,.call .frz uL [(.slot 45)]⟩,
 ⟨some 4,none,.mov (.slot 41)⟩,
 ⟨some 5,none,.mov (.slot 46)⟩]
def Tk:AFn:=⟨(.seq (.region zzd false [0,1]) (.seq (.seq (.region zyo false [0,1,9]) (.cond (.slot 9) (.seq (.region zyO false [4,5]) .ret) .skip)) (.seq (.region zxu false [0,1,6]) (.seq (.block 0 VJ) (.seq (.region zxV true [4,5]) .ret))))),[.slot 4,.slot 5]⟩
def zxy:List zb:=[⟨some 2,none,.mov (.const (.data false 1 [] true))⟩]
def zwi:List zb:=[⟨some 3,none,.mov (.slot 0)⟩,
 ⟨some 4,none,.isnil .ks false (.slot 3)⟩]
def zAV:List zb:=[⟨some 2,none,.mov (.const (.data false 1 [] true))⟩]
def zxk:List zb:=[⟨some 5,none,.mkslice 1 0 [.int .i64 0] []⟩,
 ⟨some 6,none,.mov (.slot 0)⟩,
 ⟨some 7,none,.append 1 8 (.slot 5) (.slot 6)⟩,
 ⟨some 2,none,.mov (.slot 7)⟩]
def uX:AFn:=⟨(.seq (.region zxy false [0]) (.seq (.seq (.region zwi false [0,4]) (.cond (.slot 4) (.seq (.region zAV false [2]) .ret) .skip)) (.seq (.region zxk false [2]) .ret))),[.slot 2]⟩
def zw8:List zb:=[⟨some 1,none,.box 33 (.slot 0)⟩,
 ⟨some 2,none,.alloc (zL)⟩]
def zz0:List zb:=[⟨some 3,none,.faddr 0 (.slot 1)⟩,
 ⟨some 4,none,.load false 1 (.slot 3)⟩,
 ⟨some 5,none,.call .adp vW [(.slot 4)]⟩,
 ⟨some 6,none,.faddr 1 (.slot 1)⟩,
 ⟨some 7,none,.faddr 1 (.slot 6)⟩,
 ⟨some 8,none,.load false 1 (.slot 7)⟩,
 ⟨some 9,none,.call .adp u7 [(.slot 8)]⟩,
 ⟨some 10,none,.faddr 0 (.slot 1)⟩,
 ⟨none,none,.store false 1 (.slot 10) (.slot 5)⟩,
 ⟨some 11,none,.faddr 1 (.slot 1)⟩,
 ⟨some 12,none,.faddr 1 (.slot 11)⟩,
 ⟨none,none,.store false 1 (.slot 12) (.slot 9)⟩]
def zwM:List zb:=[⟨some 14,none,.faddr 3 (.slot 1)⟩,
 ⟨some 15,none,.load false 1 (.slot 14)⟩,
 ⟨some 16,none,.call .frz Lr [(.slot 15),(.const (.int .i64 (-1)))]⟩,
 ⟨some 13,none,.mov (.slot 16)⟩,
 ⟨some 17,none,.extract 0 (.slot 13)⟩,
 ⟨some 18,none,.extract 1 (.slot 13)⟩,
 ⟨some 19,none,.faddr 3 (.slot 1)⟩,
 ⟨none,none,.store false 1 (.slot 19) (.slot 17)⟩]
def zxo:List zb:=[⟨some 20,none,.load true 33 (.slot 1)⟩,
 ⟨none,none,.store true 33 (.slot 2) (.slot 20)⟩]
def jR:AFn:=⟨(.seq (.region zw8 false [1,2]) (.seq (.region zz0 true [1,2]) (.seq (.region zwM false [1,2]) (.seq (.region zxo false [2]) .ret)))),[.cell 2 true 33]⟩
def zqR:List zb:=[⟨some 4,none,.mov (.const (.data false 3 [] true))⟩]
def zqz:List zb:=[⟨some 8,none,.mov (.slot 0)⟩,
 ⟨some 9,none,.mov (.slot 1)⟩,
 ⟨some 10,none,.call .inl yY [(.slot 8),(.slot 9)]⟩,
 ⟨some 5,none,.mov (.slot 10)⟩]
def zoK:List zb:=[⟨some 11,none,.mov (.slot 5)⟩,
 ⟨some 12,none,.bin .eql (.slot 11) (.const (.int .i64 (-1)))⟩]
def zpU:List zb:=[⟨some 13,none,.mov (.slot 0)⟩,
 ⟨some 4,none,.mov (.slot 13)⟩]
def zpo:List zb:=[⟨some 14,none,.mov (.slot 5)⟩,
 ⟨some 15,none,.bin .add (.slot 14) (.const (.int .i64 1))⟩,
 ⟨some 6,none,.mov (.slot 15)⟩]
def zky:List zb:=[⟨some 16,none,.mov (.slot 6)⟩,
 ⟨some 17,none,.mov (.slot 0)⟩,
 ⟨some 18,none,.len false (.slot 17)⟩,
 ⟨some 19,none,.bin .lss (.slot 16) (.slot 18)⟩]
def zlu:List zb:=[⟨some 22,none,.mov (.slot 0)⟩,
 ⟨some 23,none,.mov (.slot 6)⟩,
 ⟨some 24,none,.idx 3 (.slot 22) (.slot 23)⟩,
 ⟨some 25,none,.load true 3 (.slot 24)⟩,
 ⟨some 7,none,.alloc [.int .i64 0,.int .i64 0,.data false 1 [] true]⟩,
 ⟨none,none,.store true 3 (.slot 7) (.slot 25)⟩]
def zkK:List zb:=[⟨some 26,none,.mov (.slot 1)⟩,
 ⟨some 27,none,.load true 3 (.slot 7)⟩,
 ⟨some 28,none,.callv (.slot 26) [(.slot 27)]⟩,
 ⟨some 29,none,.not (.slot 28)⟩]
def zkf:List zb:=[⟨some 30,none,.mov (.slot 0)⟩,
 ⟨some 31,none,.mov (.slot 5)⟩,
 ⟨some 32,none,.load true 3 (.slot 7)⟩,
 ⟨some 33,none,.idx 3 (.slot 30) (.slot 31)⟩,
 ⟨none,none,.store true 3 (.slot 33) (.slot 32)⟩]
def zeT:List zb:=[⟨some 34,none,.mov (.slot 5)⟩,
 ⟨some 35,none,.bin .add (.slot 34) (.const (.int .i64 1))⟩,
 ⟨some 5,none,.mov (.slot 35)⟩]
def zk3:List zb:=[⟨some 20,none,.mov (.slot 6)⟩,
 ⟨some 21,none,.bin .add (.slot 20) (.const (.int .i64 1))⟩,
 ⟨some 6,none,.mov (.slot 21)⟩]
def um:zt:=(.seq (.seq (.region zky false [0,1,5,6,19]) (.cond (.slot 19) .skip (.exit 0))) (.seq (.block 1 (.seq (.region zlu false [0,1,5,6,7]) (.seq (.region zkK false [0,1,5,6,7,29]) (.cond (.slot 29) (.seq (.region zkf false [0,1,5,6]) (.region zeT false [0,1,5,6])) .skip)))) (.region zk3 false [0,1,5,6])))
def yQ:zt:=.loop [0,1,5,6] um
def zlI:List zb:=[⟨some 36,none,.mov (.slot 0)⟩,
 ⟨some 37,none,.mov (.slot 5)⟩,
 ⟨some 38,none,.sl 3 (.slot 36) (some (.slot 37)) none none⟩,
 ⟨none,none,.clear [.int .i64 0,.int .i64 0,.data false 1 [] true] (.slot 38)⟩]
def zlx:List zb:=[⟨some 39,none,.mov (.slot 0)⟩,
 ⟨some 40,none,.mov (.slot 5)⟩,
 ⟨some 41,none,.sl 3 (.slot 39) none (some (.slot 40)) none⟩,
 ⟨some 4,none,.mov (.slot 41)⟩]
def yH:AFn:=⟨(.seq (.region zqR false [0,1]) (.seq (.region zqz false [0,1,5]) (.seq (.seq (.region zoK false [0,1,5,12]) (.cond (.slot 12) (.seq (.region zpU false [4]) .ret) .skip)) (.seq (.seq (.region zpo false [0,1,5,6]) (.block 0 yQ)) (.seq (.region zlI false [0,5]) (.seq (.region zlx false [4]) .ret)))))),[.slot 4]⟩
def zAz:List zb:=[⟨some 2,none,.box 3 (.slot 0)⟩,
 ⟨some 3,none,.mov (.const (.bool false))⟩]
def zx6:List zb:=[⟨some 4,none,.faddr 0 (.slot 2)⟩,
 ⟨some 5,none,.load false 1 (.slot 4)⟩,
 ⟨some 6,none,.load false 1 (.slot 1)⟩,
 ⟨some 7,none,.bin .eql (.slot 5) (.slot 6)⟩,
 ⟨some 3,none,.mov (.slot 7)⟩]
def ZF:AFn:=⟨(.seq (.region zAz false [1,2]) (.seq (.region zx6 false [3]) .ret)),[.slot 3]⟩
def zyt:List zb:=[⟨some 3,none,.box 1 (.slot 1)⟩,
 ⟨some 4,none,.mov (.const (.data false 3 [] true))⟩]
def zwz:List zb:=[⟨some 5,none,.mov (.slot 0)⟩,
 ⟨some 6,none,.call .frz gp [(.slot 5)]⟩,
 ⟨some 7,none,.not (.slot 6)⟩]
def zv2:List zb:=[⟨some 4,none,.mov (.const (.data false 3 [] true))⟩]
def zwl:List zb:=[⟨some 8,none,.mov (.slot 0)⟩,
 ⟨some 9,none,.call .adp uL [(.slot 8)]⟩,
 ⟨some 10,none,.mkfn (.func TE) [] [(.slot 3)]⟩,
 ⟨some 11,none,.call .inl oM [(.slot 9),(.slot 10)]⟩,
 ⟨some 4,none,.mov (.slot 11)⟩]
def VR:AFn:=⟨(.seq (.region zyt false [0,3]) (.seq (.seq (.region zwz false [0,3,7]) (.cond (.slot 7) (.seq (.region zv2 false [4]) .ret) .skip)) (.seq (.region zwl false [4]) .ret))),[.slot 4]⟩
def zcB:List zb:=[⟨some 2,none,.mov (.slot 0)⟩,
 ⟨some 3,none,.nilchk (.slot 2)⟩,
 ⟨some 4,none,.faddr 0 (.slot 3)⟩,
 ⟨some 5,none,.faddr 0 (.slot 4)⟩,
 ⟨none,none,.store false 1 (.slot 5) (.const (.int .i64 0))⟩]
def zcG:List zb:=[⟨some 6,none,.mov (.slot 0)⟩,
 ⟨some 7,none,.nilchk (.slot 6)⟩,
 ⟨some 8,none,.faddr 0 (.slot 7)⟩,
 ⟨some 9,none,.faddr 1 (.slot 8)⟩,
 ⟨some 10,none,.load false 1 (.slot 9)⟩,
 ⟨some 11,none,.len false (.slot 10)⟩,
 ⟨some 12,none,.bin .gtr (.slot 11) (.const (.int .i64 0))⟩]
def zc8:List zb:=[⟨some 13,none,.mov (.slot 0)⟩,
 ⟨some 14,none,.mov (.slot 0)⟩,
 ⟨some 15,none,.mov (.slot 0)⟩,
 ⟨some 16,none,.nilchk (.slot 15)⟩,
 ⟨some 17,none,.faddr 0 (.slot 16)⟩,
 ⟨some 18,none,.faddr 1 (.slot 17)⟩,
 ⟨some 19,none,.load false 1 (.slot 18)⟩,
 ⟨some 20,none,.idx 1 (.slot 19) (.const (.int .i64 0))⟩,
 ⟨some 21,none,.load false 1 (.slot 20)⟩,
 ⟨some 22,none,.mov (.slot 0)⟩,
 ⟨some 23,none,.nilchk (.slot 22)⟩,
 ⟨some 24,none,.faddr 0 (.slot 23)⟩,
 ⟨some 25,none,.faddr 1 (.slot 24)⟩,
 ⟨some 26,none,.load false 1 (.slot 25)⟩,
 ⟨some 27,none,.sl 1 (.slot 26) (some (.const (.int .i64 1))) none none⟩,
 ⟨some 28,none,.nilchk (.slot 13)⟩,
 ⟨some 29,none,.faddr 0 (.slot 28)⟩,
 ⟨some 30,none,.faddr 0 (.slot 29)⟩,
 ⟨none,none,.store false 1 (.slot 30) (.slot 21)⟩,
 ⟨some 31,none,.nilchk (.slot 14)⟩,
 ⟨some 32,none,.faddr 0 (.slot 31)⟩,
 ⟨some 33,none,.faddr 1 (.slot 32)⟩,
 ⟨none,none,.store false 1 (.slot 33) (.slot 27)⟩]
def yL:AFn:=⟨(.seq (.region zcB false [0]) (.seq (.region zcG false [0,12]) (.cond (.slot 12) (.region zc8 true []) .skip))),[]⟩
def IE:List zb:=[⟨some 2,none,.box 2 (.slot 0)⟩,
 ⟨some 4,none,.alloc [.int .i64 0,.data false 1 [] true]⟩]
def Ik:List zb:=[⟨some 6,none,.faddr 0 (.slot 2)⟩,
 ⟨some 7,none,.load false 1 (.slot 6)⟩,
 ⟨some 8,none,.faddr 1 (.slot 2)⟩,
 ⟨some 9,none,.load false 1 (.slot 8)⟩,
 ⟨some 10,none,.call .adp u7 [(.slot 9)]⟩,
 ⟨some 11,none,.build [.int .i64 0,.data false 1 [] true] [(0,1,(.slot 7)),(1,1,(.slot 10))]⟩,
 ⟨some 12,none,.build [.int .i64 0,.data false 1 [] true] [(0,2,(.slot 11))]⟩,
 ⟨some 13,none,.box 2 (.slot 12)⟩,
 ⟨some 5,none,.mov (.slot 13)⟩]
def IB:List zb:=[⟨some 14,none,.mov (.slot 1)⟩,
 ⟨some 15,none,.mov (.slot 5)⟩,
 ⟨some 16,none,.mov (.slot 5)⟩,
 ⟨some 17,none,.mkfn (.func NM) [(.slot 16)] []⟩,
 ⟨some 18,none,.callv (.slot 14) [(.slot 15),(.slot 17)]⟩]
def JY:List zb:=[⟨some 19,none,.mov (.slot 5)⟩,
 ⟨some 20,none,.nilchk (.slot 19)⟩,
 ⟨some 21,none,.faddr 0 (.slot 20)⟩,
 ⟨some 22,none,.load true 2 (.slot 21)⟩,
 ⟨none,none,.store true 2 (.slot 4) (.slot 22)⟩]
def yX:AFn:=⟨(.seq (.region IE false [1,2,4]) (.seq (.region Ik true [1,4,5]) (.seq (.region IB false [4,5]) (.seq (.region JY false [4]) .ret)))),[.cell 4 true 2]⟩
def zpG:List zb:=[⟨some 4,none,.mov (.const (.int .i64 0))⟩]
def zqb:List zb:=[⟨some 6,none,.mov (.slot 0)⟩,
 ⟨some 7,none,.len false (.slot 6)⟩,
 ⟨some 8,none,.mov (.const (.int .i64 0))⟩]
def zkO:List zb:=[⟨some 9,none,.bin .lss (.slot 8) (.slot 7)⟩]
def zkW:List zb:=[⟨some 10,none,.mov (.slot 8)⟩,
 ⟨some 5,none,.mov (.slot 10)⟩]
def zl1:List zb:=[⟨some 11,none,.mov (.slot 1)⟩,
 ⟨some 12,none,.mov (.slot 0)⟩,
 ⟨some 13,none,.mov (.slot 5)⟩,
 ⟨some 14,none,.idx 1 (.slot 12) (.slot 13)⟩,
 ⟨some 15,none,.load false 1 (.slot 14)⟩,
 ⟨some 16,none,.bin .eql (.slot 11) (.slot 15)⟩]
def zkk:List zb:=[⟨some 17,none,.mov (.slot 5)⟩,
 ⟨some 4,none,.mov (.slot 17)⟩]
def zk0:List zb:=[⟨some 18,none,.bin .add (.slot 8) (.const (.int .i64 1))⟩,
 ⟨some 8,none,.mov (.slot 18)⟩]
def oL:zt:=(.seq (.region zkO false [0,1,7,8,9]) (.seq (.cond (.slot 9) .skip (.exit 0)) (.seq (.block 1 (.seq (.region zkW false [0,1,5,7,8]) (.seq (.region zl1 false [0,1,5,7,8,16]) (.cond (.slot 16) (.seq (.region zkk false [4]) .ret) .skip)))) (.region zk0 false [0,1,7,8]))))
def uW:zt:=.loop [0,1,7,8] oL
def zo1:List zb:=[⟨some 4,none,.mov (.const (.int .i64 (-1)))⟩]
def jb:AFn:=⟨(.seq (.region zpG false [0,1]) (.seq (.seq (.region zqb false [0,1,7,8]) (.block 0 uW)) (.seq (.region zo1 false [4]) .ret))),[.slot 4]⟩
def zxq:List zb:=[⟨some 4,none,.mov (.const (.bool false))⟩]
def zzD:List zb:=[⟨some 5,none,.mov (.slot 0)⟩,
 ⟨some 6,none,.mov (.slot 1)⟩,
 ⟨some 7,none,.call .frz Ym [(.slot 5),(.slot 6)]⟩,
 ⟨some 8,none,.bin .geq (.slot 7) (.const (.int .i64 0))⟩,
 ⟨some 4,none,.mov (.slot 8)⟩]
def uV:AFn:=⟨(.seq (.region zxq false [0,1]) (.seq (.region zzD false [4]) .ret)),[.slot 4]⟩
def zzT:List zb:=[⟨some 3,none,.mov (.const (.bool false))⟩]
def zwK:List zb:=[⟨some 4,none,.load false 1 (.slot 1)⟩,
 ⟨some 5,none,.mov (.slot 0)⟩,
 ⟨some 6,none,.call .frz YY [(.slot 4),(.slot 5)]⟩,
 ⟨some 7,none,.not (.slot 6)⟩,
 ⟨some 3,none,.mov (.slot 7)⟩]
def WQ:AFn:=⟨(.seq (.region zzT false [0,1]) (.seq (.region zwK false [3]) .ret)),[.slot 3]⟩
def zo5:List zb:=[⟨some 4,none,.mov (.const (.data false 1 [] true))⟩]
def zqp:List zb:=[⟨some 8,none,.mov (.slot 0)⟩,
 ⟨some 9,none,.mov (.slot 1)⟩,
 ⟨some 10,none,.call .inl vL [(.slot 8),(.slot 9)]⟩,
 ⟨some 5,none,.mov (.slot 10)⟩]
def zpz:List zb:=[⟨some 11,none,.mov (.slot 5)⟩,
 ⟨some 12,none,.bin .eql (.slot 11) (.const (.int .i64 (-1)))⟩]
def zqe:List zb:=[⟨some 13,none,.mov (.slot 0)⟩,
 ⟨some 4,none,.mov (.slot 13)⟩]
def zqB:List zb:=[⟨some 14,none,.mov (.slot 5)⟩,
 ⟨some 15,none,.bin .add (.slot 14) (.const (.int .i64 1))⟩,
 ⟨some 6,none,.mov (.slot 15)⟩]
def zkS:List zb:=[⟨some 16,none,.mov (.slot 6)⟩,
 ⟨some 17,none,.mov (.slot 0)⟩,
 ⟨some 18,none,.len false (.slot 17)⟩,
 ⟨some 19,none,.bin .lss (.slot 16) (.slot 18)⟩]
def zlQ:List zb:=[⟨some 22,none,.mov (.slot 0)⟩,
 ⟨some 23,none,.mov (.slot 6)⟩,
 ⟨some 24,none,.idx 1 (.slot 22) (.slot 23)⟩,
 ⟨some 25,none,.load false 1 (.slot 24)⟩,
 ⟨some 7,none,.mov (.slot 25)⟩]
def zkl:List zb:=[⟨some 26,none,.mov (.slot 1)⟩,
 ⟨some 27,none,.mov (.slot 7)⟩,
 ⟨some 28,none,.callv (.slot 26) [(.slot 27)]⟩,
 ⟨some 29,none,.not (.slot 28)⟩]
def zlR:List zb:=[⟨some 30,none,.mov (.slot 0)⟩,
 ⟨some 31,none,.mov (.slot 5)⟩,
 ⟨some 32,none,.mov (.slot 7)⟩,
 ⟨some 33,none,.idx 1 (.slot 30) (.slot 31)⟩,
 ⟨none,none,.store false 1 (.slot 33) (.slot 32)⟩]
def zeU:List zb:=[⟨some 34,none,.mov (.slot 5)⟩,
 ⟨some 35,none,.bin .add (.slot 34) (.const (.int .i64 1))⟩,
 ⟨some 5,none,.mov (.slot 35)⟩]
def zkF:List zb:=[⟨some 20,none,.mov (.slot 6)⟩,
 ⟨some 21,none,.bin .add (.slot 20) (.const (.int .i64 1))⟩,
 ⟨some 6,none,.mov (.slot 21)⟩]
def uJ:zt:=(.seq (.seq (.region zkS false [0,1,5,6,19]) (.cond (.slot 19) .skip (.exit 0))) (.seq (.block 1 (.seq (.region zlQ false [0,1,5,6,7]) (.seq (.region zkl false [0,1,5,6,7,29]) (.cond (.slot 29) (.seq (.region zlR false [0,1,5,6]) (.region zeU false [0,1,5,6])) .skip)))) (.region zkF false [0,1,5,6])))
def vH:zt:=.loop [0,1,5,6] uJ
def zlX:List zb:=[⟨some 36,none,.mov (.slot 0)⟩,
 ⟨some 37,none,.mov (.slot 5)⟩,
 ⟨some 38,none,.sl 1 (.slot 36) (some (.slot 37)) none none⟩,
 ⟨none,none,.clear [.int .i64 0] (.slot 38)⟩]
def zkq:List zb:=[⟨some 39,none,.mov (.slot 0)⟩,
 ⟨some 40,none,.mov (.slot 5)⟩,
 ⟨some 41,none,.sl 1 (.slot 39) none (some (.slot 40)) none⟩,
 ⟨some 4,none,.mov (.slot 41)⟩]
def vD:AFn:=⟨(.seq (.region zo5 false [0,1]) (.seq (.region zqp false [0,1,5]) (.seq (.seq (.region zpz false [0,1,5,12]) (.cond (.slot 12) (.seq (.region zqe false [4]) .ret) .skip)) (.seq (.seq (.region zqB false [0,1,5,6]) (.block 0 vH)) (.seq (.region zlX false [0,5]) (.seq (.region zkq false [4]) .ret)))))),[.slot 4]⟩
def zA6:List zb:=[⟨some 5,none,.mov (.slot 0)⟩,
 ⟨some 6,none,.mov (.slot 0)⟩,
 ⟨some 7,none,.nilchk (.slot 6)⟩,
 ⟨some 8,none,.faddr 0 (.slot 7)⟩,
 ⟨some 9,none,.faddr 1 (.slot 8)⟩,
 ⟨some 10,none,.load false 1 (.slot 9)⟩,
 ⟨some 11,none,.load false 1 (.slot 2)⟩,
 ⟨some 12,none,.call .inl gT [(.slot 10),(.slot 11)]⟩,
 ⟨some 13,none,.nilchk (.slot 5)⟩,
 ⟨some 14,none,.faddr 0 (.slot 13)⟩,
 ⟨some 15,none,.faddr 1 (.slot 14)⟩,
 ⟨none,none,.store false 1 (.slot 15) (.slot 12)⟩]
def zzf:List zb:=[⟨some 16,none,.mov (.slot 0)⟩,
 ⟨some 17,none,.nilchk (.slot 16)⟩,
 ⟨some 18,none,.faddr 0 (.slot 17)⟩,
 ⟨some 19,none,.faddr 0 (.slot 18)⟩,
 ⟨some 20,none,.load false 1 (.slot 19)⟩,
 ⟨some 21,none,.bin .neq (.slot 20) (.const (.int .i64 0))⟩,
 ⟨some 22,none,.mov (.slot 21)⟩,
 ⟨some 23,some (22,true),.load false 1 (.slot 2)⟩,
 ⟨some 24,some (22,true),.mov (.slot 0)⟩,
 ⟨some 25,some (22,true),.nilchk (.slot 24)⟩,
 ⟨some 26,some (22,true),.faddr 0 (.slot 25)⟩,
 ⟨some 27,some (22,true),.faddr 0 (.slot 26)⟩,
 ⟨some 28,some (22,true),.load false 1 (.slot 27)⟩,
 ⟨some 29,some (22,true),.callv (.slot 23) [(.slot 28)]⟩,
 ⟨some 30,none,.pick (.slot 22) (.slot 29) (.const (.bool false))⟩]
def zxN:List zb:=[⟨some 31,none,.mov (.slot 1)⟩,
 ⟨some 32,none,.callv (.slot 31) []⟩]
def VD:AFn:=⟨(.seq (.region zA6 true [0,1,2]) (.seq (.region zzf true [1,30]) (.cond (.slot 30) (.region zxN false []) .skip))),[]⟩
def zpI:List zb:=[⟨some 2,none,.box 2 (.slot 0)⟩,
 ⟨some 3,none,.box 1 (.slot 1)⟩,
 ⟨some 4,none,.alloc [.int .i64 0,.data false 1 [] true]⟩,
 ⟨some 5,none,.mov (.const (.int .i64 0))⟩]
def zqH:List zb:=[⟨some 7,none,.load true 2 (.slot 2)⟩,
 ⟨some 8,none,.call .frz Vg [(.slot 7)]⟩,
 ⟨some 9,none,.not (.slot 8)⟩]
def zpy:List zb:=[⟨some 10,none,.build [.int .i64 0,.data false 1 [] true] []⟩,
 ⟨none,none,.store true 2 (.slot 4) (.slot 10)⟩,
 ⟨some 5,none,.mov (.const (.int .i64 2))⟩]
def zoP:List zb:=[⟨some 11,none,.mkfn (.func Vh) [] [(.slot 3)]⟩,
 ⟨some 6,none,.alloc [.nilfn]⟩,
 ⟨none,none,.store false 1 (.slot 6) (.slot 11)⟩]
def zpb:List zb:=[⟨some 12,none,.load true 2 (.slot 2)⟩,
 ⟨some 13,none,.mkfn (.func Dh) [] [(.slot 6)]⟩,
 ⟨some 14,none,.call .inl Sj [(.slot 12),(.slot 13)]⟩,
 ⟨none,none,.store true 2 (.slot 4) (.slot 14)⟩,
 ⟨some 5,none,.mov (.const (.int .i64 0))⟩]
def Uk:AFn:=⟨(.seq (.region zpI false [2,3,4]) (.seq (.seq (.region zqH false [2,3,4,9]) (.cond (.slot 9) (.seq (.region zpy false [4,5]) .ret) .skip)) (.seq (.region zoP false [2,4,6]) (.seq (.region zpb false [4,5]) .ret)))),[.cell 4 true 2,.slot 5]⟩
def zv6:List zb:=[⟨some 2,none,.mov (.const (.data false 1 [] true))⟩]
def zzz:List zb:=[⟨some 6,none,.mov (.slot 0)⟩,
 ⟨some 7,none,.call .frz gm [(.slot 6)]⟩,
 ⟨some 8,none,.not (.slot 7)⟩]
def zA5:List zb:=[⟨some 2,none,.mov (.const (.data false 1 [] true))⟩]
def zAg:List zb:=[⟨some 3,none,.mknil 1⟩]
def zyw:List zb:=[⟨some 9,none,.mov (.slot 0)⟩,
 ⟨some 10,none,.len false (.slot 9)⟩,
 ⟨some 11,none,.mov (.const (.int .i64 0))⟩]
def zsS:List zb:=[⟨some 12,none,.bin .lss (.slot 11) (.slot 10)⟩]
def zse:List zb:=[⟨some 13,none,.idx 2 (.slot 9) (.slot 11)⟩,
 ⟨some 14,none,.load true 2 (.slot 13)⟩,
 ⟨some 5,none,.alloc [.int .i64 0,.int .i64 0]⟩,
 ⟨none,none,.store true 2 (.slot 5) (.slot 14)⟩]
def ztH:List zb:=[⟨some 15,none,.faddr 1 (.slot 5)⟩,
 ⟨some 16,none,.load false 1 (.slot 15)⟩,
 ⟨some 17,none,.bin .eql (.slot 16) (.const (.int .i64 2))⟩]
def ztp:List zb:=[⟨some 18,none,.mov (.slot 3)⟩,
 ⟨some 19,none,.faddr 0 (.slot 5)⟩,
 ⟨some 20,none,.load false 1 (.slot 19)⟩,
 ⟨some 21,none,.mkslice 1 1 [.int .i64 0] [(0,(.slot 20))]⟩,
 ⟨some 22,none,.append 1 8 (.slot 18) (.slot 21)⟩,
 ⟨some 3,none,.mov (.slot 22)⟩]
def ztE:List zb:=[⟨some 23,none,.bin .add (.slot 11) (.const (.int .i64 1))⟩,
 ⟨some 11,none,.mov (.slot 23)⟩]
def gL:zt:=(.seq (.region zsS false [3,9,10,11,12]) (.seq (.cond (.slot 12) .skip (.exit 0)) (.seq (.block 1 (.seq (.region zse false [3,5,9,10,11]) (.seq (.region ztH false [3,5,9,10,11,17]) (.cond (.slot 17) (.region ztp false [3,9,10,11]) .skip)))) (.region ztE false [3,9,10,11]))))
def jF:zt:=.loop [3,9,10,11] gL
def zo0:List zb:=[⟨some 24,none,.mov (.slot 3)⟩,
 ⟨some 2,none,.mov (.slot 24)⟩]
def jV:AFn:=⟨(.seq (.region zv6 false [0]) (.seq (.seq (.region zzz false [0,8]) (.cond (.slot 8) (.seq (.region zA5 false [2]) .ret) .skip)) (.seq (.region zAg false [0,3]) (.seq (.seq (.region zyw false [3,9,10,11]) (.block 0 jF)) (.seq (.region zo0 false [2]) .ret))))),[.slot 2]⟩
def zw0:List zb:=[⟨some 2,none,.mov (.const (.bool false))⟩]
def zyT:List zb:=[⟨some 3,none,.mov (.slot 0)⟩,
 ⟨some 4,none,.bin .geq (.slot 3) (.const (.int .i64 1))⟩,
 ⟨some 5,none,.mov (.slot 4)⟩,
 ⟨some 6,some (5,true),.mov (.slot 0)⟩,
 ⟨some 7,some (5,true),.bin .leq (.slot 6) (.const (.int .i64 8))⟩,
 ⟨some 8,none,.pick (.slot 5) (.slot 7) (.const (.bool false))⟩,
 ⟨some 2,none,.mov (.slot 8)⟩]
def YU:AFn:=⟨(.seq (.region zw0 false [0]) (.seq (.region zyT false [2]) .ret)),[.slot 2]⟩
def zq0:List zb:=[⟨some 3,none,.box 18 (.slot 0)⟩,
 ⟨some 5,none,.box 2 (.slot 2)⟩,
 ⟨some 6,none,.alloc [.int .i64 0,.int .i64 0]⟩]
def zr7:List zb:=[⟨some 12,none,.load true 18 (.slot 3)⟩,
 ⟨some 13,none,.call .frz PP [(.slot 12)]⟩,
 ⟨some 14,none,.not (.slot 13)⟩]
def zq8:List zb:=[⟨some 15,none,.load true 2 (.slot 5)⟩,
 ⟨none,none,.store true 2 (.slot 6) (.slot 15)⟩]
def zrA:List zb:=[⟨some 16,none,.build [.int .i64 0,.int .i64 0] [(0,1,(.const (.int .i64 24))),(1,1,(.const (.int .i64 40)))]⟩,
 ⟨some 7,none,.alloc [.int .i64 0,.int .i64 0]⟩,
 ⟨none,none,.store true 2 (.slot 7) (.slot 16)⟩,
 ⟨some 8,none,.mov (.const (.bool false))⟩]
def ztx:List zb:=[⟨some 17,none,.mov (.slot 1)⟩,
 ⟨some 18,none,.len false (.slot 17)⟩,
 ⟨some 19,none,.mov (.const (.int .i64 0))⟩]
def zj2:List zb:=[⟨some 20,none,.bin .lss (.slot 19) (.slot 18)⟩]
def zjD:List zb:=[⟨some 21,none,.idx 1 (.slot 17) (.slot 19)⟩,
 ⟨some 22,none,.load false 1 (.slot 21)⟩,
 ⟨some 10,none,.mov (.slot 22)⟩]
def zi0:List zb:=[⟨some 23,none,.mov (.slot 10)⟩,
 ⟨some 24,none,.call .frz Rm [(.slot 23)]⟩,
 ⟨some 25,none,.not (.slot 24)⟩,
 ⟨some 26,none,.mov (.slot 25)⟩,
 ⟨some 27,some (26,false),.mov (.slot 10)⟩,
 ⟨some 28,some (26,false),.idxarr 2 9 (.slot 3) (.slot 27)⟩,
 ⟨some 29,some (26,false),.load true 2 (.slot 28)⟩,
 ⟨some 30,some (26,false),.build [.int .i64 0,.int .i64 0] []⟩,
 ⟨some 31,some (26,false),.eq true [.ki,.ki] false (.slot 29) (.slot 30)⟩,
 ⟨some 32,none,.pick (.slot 26) (.const (.bool true)) (.slot 31)⟩]
def zi1:List zb:=[⟨some 8,none,.mov (.const (.bool true))⟩]
def zjy:List zb:=[⟨some 33,none,.mov (.const (.int .i64 0))⟩]
def zqK:List zb:=[⟨some 34,none,.bin .lss (.slot 33) (.const (.int .i64 2))⟩]
def zpj:List zb:=[⟨some 35,none,.mov (.slot 33)⟩,
 ⟨some 11,none,.mov (.slot 35)⟩]
def zp6:List zb:=[⟨some 36,none,.mov (.slot 11)⟩,
 ⟨some 37,none,.mov (.slot 11)⟩,
 ⟨some 38,none,.idxarr 1 2 (.slot 7) (.slot 37)⟩,
 ⟨some 39,none,.load false 1 (.slot 38)⟩,
 ⟨some 40,none,.mov (.slot 10)⟩,
 ⟨some 41,none,.mov (.slot 11)⟩,
 ⟨some 42,none,.idxarr 2 9 (.slot 3) (.slot 40)⟩,
 ⟨some 43,none,.idxarr 1 2 (.slot 42) (.slot 41)⟩,
 ⟨some 44,none,.load false 1 (.slot 43)⟩,
 ⟨some 45,none,.min (.slot 39) (.slot 44)⟩,
 ⟨some 46,none,.idxarr 1 2 (.slot 7) (.slot 36)⟩,
 ⟨none,none,.store false 1 (.slot 46) (.slot 45)⟩]
def zo9:List zb:=[⟨some 47,none,.bin .add (.slot 33) (.const (.int .i64 1))⟩,
 ⟨some 33,none,.mov (.slot 47)⟩]
def RS:zt:=(.seq (.region zqK false [3,5,6,7,8,10,17,18,19,33,34]) (.seq (.cond (.slot 34) .skip (.exit 2)) (.seq (.block 3 (.seq (.region zpj false [3,5,6,7,8,10,11,17,18,19,33]) (.region zp6 true [3,5,6,7,8,10,17,18,19,33]))) (.region zo9 false [3,5,6,7,8,10,17,18,19,33]))))
def RX:zt:=.loop [3,5,6,7,8,10,17,18,19,33] RS
def zdn:List zb:=[⟨some 48,none,.bin .add (.slot 19) (.const (.int .i64 1))⟩,
 ⟨some 19,none,.mov (.slot 48)⟩]
def oQ:zt:=(.seq (.region zj2 false [3,5,6,7,8,17,18,19,20]) (.seq (.cond (.slot 20) .skip (.exit 0)) (.seq (.block 1 (.seq (.region zjD false [3,5,6,7,8,10,17,18,19]) (.seq (.seq (.region zi0 false [3,5,6,7,8,10,17,18,19,32]) (.cond (.slot 32) (.exit 1) .skip)) (.seq (.region zi1 false [3,5,6,7,8,10,17,18,19]) (.seq (.region zjy false [3,5,6,7,8,10,17,18,19,33]) (.block 2 RX)))))) (.region zdn false [3,5,6,7,8,17,18,19]))))
def Tc:zt:=.loop [3,5,6,7,8,17,18,19] oQ
def zlj:List zb:=[⟨some 49,none,.mov (.slot 8)⟩,
 ⟨some 50,none,.not (.slot 49)⟩]
def zl0:List zb:=[⟨some 51,none,.load true 2 (.slot 5)⟩,
 ⟨none,none,.store true 2 (.slot 6) (.slot 51)⟩]
def zlA:List zb:=[⟨some 52,none,.load true 2 (.slot 7)⟩,
 ⟨none,none,.store true 2 (.slot 6) (.slot 52)⟩]
def ZR:AFn:=⟨(.seq (.region zq0 false [1,3,5,6]) (.seq (.seq (.region zr7 false [1,3,5,6,14]) (.cond (.slot 14) (.seq (.region zq8 false [6]) .ret) .skip)) (.seq (.region zrA false [1,3,5,6,7,8]) (.seq (.seq (.region ztx false [3,5,6,7,8,17,18,19]) (.block 0 Tc)) (.seq (.seq (.region zlj false [5,6,7,50]) (.cond (.slot 50) (.seq (.region zl0 false [6]) .ret) .skip)) (.seq (.region zlA false [6]) .ret)))))),[.cell 6 true 2]⟩
def zEa:List zb:=[⟨some 1,none,.box 33 (.slot 0)⟩,
 ⟨some 2,none,.alloc (zL)⟩]
def zDq:List zb:=[⟨some 8,none,.faddr 1 (.slot 1)⟩,
 ⟨some 9,none,.load true 2 (.slot 8)⟩,
 ⟨some 10,none,.faddr 0 (.slot 1)⟩,
 ⟨some 11,none,.load false 1 (.slot 10)⟩,
 ⟨some 12,none,.call .frz SL [(.slot 11)]⟩,
 ⟨some 13,none,.call .frz IC [(.slot 9),(.slot 12)]⟩,
 ⟨some 7,none,.mov (.slot 13)⟩,
 ⟨some 14,none,.extract 0 (.slot 7)⟩,
 ⟨some 15,none,.extract 1 (.slot 7)⟩,
 ⟨some 16,none,.faddr 1 (.slot 1)⟩,
 ⟨none,none,.store true 2 (.slot 16) (.slot 14)⟩]
def zDx:List zb:=[⟨some 3,none,.mknil 1⟩]
def zDP:List zb:=[⟨some 17,none,.faddr 0 (.slot 1)⟩,
 ⟨some 18,none,.load false 1 (.slot 17)⟩,
 ⟨some 19,none,.len false (.slot 18)⟩,
 ⟨some 20,none,.mov (.const (.int .i64 0))⟩]
def zyF:List zb:=[⟨some 21,none,.bin .lss (.slot 20) (.slot 19)⟩]
def zvW:List zb:=[⟨some 22,none,.idx 2 (.slot 18) (.slot 20)⟩,
 ⟨some 23,none,.load true 2 (.slot 22)⟩,
 ⟨some 5,none,.alloc [.int .i64 0,.int .i64 0]⟩,
 ⟨none,none,.store true 2 (.slot 5) (.slot 23)⟩]
def zAi:List zb:=[⟨some 24,none,.mov (.slot 3)⟩,
 ⟨some 25,none,.faddr 0 (.slot 5)⟩,
 ⟨some 26,none,.load false 1 (.slot 25)⟩,
 ⟨some 27,none,.mkslice 1 1 [.int .i64 0] [(0,(.slot 26))]⟩,
 ⟨some 28,none,.append 1 8 (.slot 24) (.slot 27)⟩,
 ⟨some 3,none,.mov (.slot 28)⟩]
def zAG:List zb:=[⟨some 29,none,.bin .add (.slot 20) (.const (.int .i64 1))⟩,
 ⟨some 20,none,.mov (.slot 29)⟩]
def WY:zt:=(.seq (.region zyF false [1,2,3,18,19,20,21]) (.seq (.cond (.slot 21) .skip (.exit 0)) (.seq (.block 1 (.seq (.region zvW false [1,2,3,5,18,19,20]) (.region zAi false [1,2,3,18,19,20]))) (.region zAG false [1,2,3,18,19,20]))))
def ut:zt:=.loop [1,2,3,18,19,20] WY
def zDv:List zb:=[⟨some 30,none,.faddr 4 (.slot 1)⟩,
 ⟨some 31,none,.load true 18 (.slot 30)⟩,
 ⟨some 32,none,.mov (.slot 3)⟩,
 ⟨some 33,none,.faddr 22 (.slot 1)⟩,
 ⟨some 34,none,.load false 1 (.slot 33)⟩,
 ⟨some 35,none,.faddr 23 (.slot 1)⟩,
 ⟨some 36,none,.load false 1 (.slot 35)⟩,
 ⟨some 37,none,.build [.int .i64 0,.int .i64 0] [(0,1,(.slot 34)),(1,1,(.slot 36))]⟩,
 ⟨some 38,none,.call .frz JN [(.slot 31),(.slot 32),(.slot 37)]⟩,
 ⟨some 6,none,.alloc [.int .i64 0,.int .i64 0]⟩,
 ⟨none,none,.store true 2 (.slot 6) (.slot 38)⟩]
def zDj:List zb:=[⟨some 39,none,.idxarr 1 2 (.slot 6) (.const (.int .i64 0))⟩,
 ⟨some 40,none,.load false 1 (.slot 39)⟩,
 ⟨some 41,none,.idxarr 1 2 (.slot 6) (.const (.int .i64 1))⟩,
 ⟨some 42,none,.load false 1 (.slot 41)⟩,
 ⟨some 43,none,.faddr 22 (.slot 1)⟩,
 ⟨none,none,.store false 1 (.slot 43) (.slot 40)⟩,
 ⟨some 44,none,.faddr 23 (.slot 1)⟩,
 ⟨none,none,.store false 1 (.slot 44) (.slot 42)⟩]
def zyQ:List zb:=[⟨some 45,none,.load true 33 (.slot 1)⟩,
 ⟨none,none,.store true 33 (.slot 2) (.slot 45)⟩]
def o8:AFn:=⟨(.seq (.region zEa false [1,2]) (.seq (.region zDq true [1,2]) (.seq (.region zDx false [1,2,3]) (.seq (.seq (.region zDP false [1,2,3,18,19,20]) (.block 0 ut)) (.seq (.region zDv false [1,2,6]) (.seq (.regionQ zDj [0,1,2,3,4,5,6,7] [(3,[5,7])] [1,2]) (.seq (.region zyQ false [2]) .ret))))))),[.cell 2 true 33]⟩
def zwf:List zb:=[⟨some 3,none,.box 33 (.slot 0)⟩,
 ⟨some 6,none,.alloc (zL)⟩,
 ⟨some 7,none,.mov (.const (.int .i64 0))⟩]
def zza:List zb:=[⟨some 11,none,.mov (.slot 2)⟩,
 ⟨some 12,none,.bin .neq (.slot 11) (.const (.int .i64 0))⟩]
def zzL:List zb:=[⟨some 13,none,.build (zL) []⟩,
 ⟨some 14,none,.mov (.slot 2)⟩,
 ⟨none,none,.store true 33 (.slot 6) (.slot 13)⟩,
 ⟨some 7,none,.mov (.slot 14)⟩]
def zxs:List zb:=[⟨some 15,none,.load true 33 (.slot 3)⟩,
 ⟨some 16,none,.call .frz jP [(.slot 15)]⟩,
 ⟨none,none,.store true 33 (.slot 3) (.slot 16)⟩]
def zzi:List zb:=[⟨some 17,none,.mov (.slot 1)⟩,
 ⟨some 18,none,.faddr 0 (.slot 3)⟩,
 ⟨none,none,.store false 1 (.slot 18) (.slot 17)⟩]
def zy5:List zb:=[⟨some 19,none,.mov (.const (.int .i64 0))⟩]
def zrr:List zb:=[⟨some 20,none,.bin .lss (.slot 19) (.const (.int .i64 9))⟩]
def zr2:List zb:=[⟨some 21,none,.mov (.slot 19)⟩,
 ⟨some 8,none,.mov (.slot 21)⟩]
def zsk:List zb:=[⟨some 23,none,.mov (.slot 1)⟩,
 ⟨some 24,none,.mov (.slot 8)⟩,
 ⟨some 25,none,.call .frz jk [(.slot 23),(.slot 24)]⟩,
 ⟨some 22,none,.mov (.slot 25)⟩,
 ⟨some 26,none,.extract 0 (.slot 22)⟩,
 ⟨some 27,none,.extract 1 (.slot 22)⟩,
 ⟨some 9,none,.alloc [.int .i64 0,.int .i64 0]⟩,
 ⟨none,none,.store true 2 (.slot 9) (.slot 26)⟩,
 ⟨some 10,none,.mov (.slot 27)⟩]
def zsb:List zb:=[⟨some 28,none,.mov (.slot 10)⟩,
 ⟨some 29,none,.not (.slot 28)⟩]
def zlc:List zb:=[⟨some 30,none,.mov (.slot 8)⟩,
 ⟨some 31,none,.mov (.slot 8)⟩,
 ⟨some 32,none,.build [.int .i64 0,.int .i64 0] []⟩,
 ⟨some 33,none,.faddr 24 (.slot 3)⟩,
 ⟨some 34,none,.idxarr 1 9 (.slot 33) (.slot 30)⟩,
 ⟨none,none,.store false 1 (.slot 34) (.const (.int .i64 0))⟩,
 ⟨some 35,none,.faddr 4 (.slot 3)⟩,
 ⟨some 36,none,.idxarr 2 9 (.slot 35) (.slot 31)⟩,
 ⟨none,none,.store true 2 (.slot 36) (.slot 32)⟩]
def zkv:List zb:=[⟨some 37,none,.faddr 3 (.slot 3)⟩,
 ⟨some 38,none,.load false 1 (.slot 37)⟩,
 ⟨some 39,none,.mov (.slot 8)⟩,
 ⟨some 40,none,.call .frz Ir [(.slot 38),(.slot 39)]⟩,
 ⟨some 41,none,.faddr 3 (.slot 3)⟩,
 ⟨none,none,.store false 1 (.slot 41) (.slot 40)⟩]
def zlU:List zb:=[⟨some 42,none,.bin .add (.slot 19) (.const (.int .i64 1))⟩,
 ⟨some 19,none,.mov (.slot 42)⟩]
def Wt:zt:=(.seq (.region zrr false [1,3,6,19,20]) (.seq (.cond (.slot 20) .skip (.exit 0)) (.seq (.block 1 (.seq (.region zr2 false [1,3,6,8,19]) (.seq (.region zsk false [1,3,6,8,10,19]) (.seq (.region zsb false [1,3,6,8,19,29]) (.cond (.slot 29) (.seq (.region zlc false [1,3,6,8,19]) (.region zkv false [1,3,6,19])) .skip))))) (.region zlU false [1,3,6,19]))))
def jy:zt:=.loop [1,3,6,19] Wt
def zqo:List zb:=[⟨some 43,none,.load true 33 (.slot 3)⟩,
 ⟨some 44,none,.call .frz Wu [(.slot 43)]⟩,
 ⟨none,none,.store true 33 (.slot 6) (.slot 44)⟩,
 ⟨some 7,none,.mov (.const (.int .i64 0))⟩]
def gN:AFn:=⟨(.seq (.region zwf false [1,2,3,6]) (.seq (.seq (.region zza false [1,2,3,6,12]) (.cond (.slot 12) (.seq (.region zzL false [6,7]) .ret) .skip)) (.seq (.region zxs false [1,3,6]) (.seq (.region zzi false [1,3,6]) (.seq (.seq (.region zy5 false [1,3,6,19]) (.block 0 jy)) (.seq (.region zqo false [6,7]) .ret)))))),[.cell 6 true 33,.slot 7]⟩
def zrs:List zb:=[⟨some 3,none,.box 33 (.slot 0)⟩,
 ⟨some 6,none,.alloc (zL)⟩,
 ⟨some 7,none,.mov (.const (.int .i64 0))⟩]
def zr6:List zb:=[⟨some 10,none,.load true 33 (.slot 3)⟩,
 ⟨some 11,none,.call .frz jM [(.slot 10)]⟩,
 ⟨some 12,none,.not (.slot 11)⟩]
def zrQ:List zb:=[⟨some 13,none,.build (zL) []⟩,
 ⟨none,none,.store true 33 (.slot 6) (.slot 13)⟩,
 ⟨some 7,none,.mov (.const (.int .i64 2))⟩]
def zrI:List zb:=[⟨some 15,none,.faddr 0 (.slot 3)⟩,
 ⟨some 16,none,.load false 1 (.slot 15)⟩,
 ⟨some 17,none,.mov (.slot 1)⟩,
 ⟨some 18,none,.mov (.slot 2)⟩,
 ⟨some 19,none,.call .frz Kc [(.slot 16),(.slot 17),(.slot 18)]⟩,
 ⟨some 14,none,.mov (.slot 19)⟩,
 ⟨some 20,none,.extract 0 (.slot 14)⟩,
 ⟨some 21,none,.extract 1 (.slot 14)⟩,
 ⟨some 8,none,.mov (.slot 20)⟩,
 ⟨some 9,none,.mov (.slot 21)⟩]
def zsq:List zb:=[⟨some 22,none,.load true 33 (.slot 3)⟩,
 ⟨some 23,none,.mov (.slot 8)⟩,
 ⟨some 24,none,.mov (.slot 9)⟩,
 ⟨some 25,none,.call .frz ZL [(.slot 22),(.slot 23),(.slot 24)]⟩,
 ⟨some 26,none,.extract 0 (.slot 25)⟩,
 ⟨some 27,none,.extract 1 (.slot 25)⟩,
 ⟨none,none,.store true 33 (.slot 6) (.slot 26)⟩,
 ⟨some 7,none,.mov (.slot 27)⟩]
def oG:AFn:=⟨(.seq (.region zrs false [1,2,3,6]) (.seq (.seq (.region zr6 false [1,2,3,6,12]) (.cond (.slot 12) (.seq (.region zrQ false [6,7]) .ret) .skip)) (.seq (.region zrI false [3,6,8,9]) (.seq (.region zsq false [6,7]) .ret)))),[.cell 6 true 33,.slot 7]⟩
def zo6:List zb:=[⟨some 4,none,.mov (.const (.data false 2 [] true))⟩]
def zoI:List zb:=[⟨some 8,none,.mov (.slot 0)⟩,
 ⟨some 9,none,.mov (.slot 1)⟩,
 ⟨some 10,none,.call .inl yJ [(.slot 8),(.slot 9)]⟩,
 ⟨some 5,none,.mov (.slot 10)⟩]
def zov:List zb:=[⟨some 11,none,.mov (.slot 5)⟩,
 ⟨some 12,none,.bin .eql (.slot 11) (.const (.int .i64 (-1)))⟩]
def zpK:List zb:=[⟨some 13,none,.mov (.slot 0)⟩,
 ⟨some 4,none,.mov (.slot 13)⟩]
def zqQ:List zb:=[⟨some 14,none,.mov (.slot 5)⟩,
 ⟨some 15,none,.bin .add (.slot 14) (.const (.int .i64 1))⟩,
 ⟨some 6,none,.mov (.slot 15)⟩]
def zln:List zb:=[⟨some 16,none,.mov (.slot 6)⟩,
 ⟨some 17,none,.mov (.slot 0)⟩,
 ⟨some 18,none,.len false (.slot 17)⟩,
 ⟨some 19,none,.bin .lss (.slot 16) (.slot 18)⟩]
def zle:List zb:=[⟨some 22,none,.mov (.slot 0)⟩,
 ⟨some 23,none,.mov (.slot 6)⟩,
 ⟨some 24,none,.idx 2 (.slot 22) (.slot 23)⟩,
 ⟨some 25,none,.load true 2 (.slot 24)⟩,
 ⟨some 7,none,.alloc [.int .i64 0,.int .i64 0]⟩,
 ⟨none,none,.store true 2 (.slot 7) (.slot 25)⟩]
def zk9:List zb:=[⟨some 26,none,.mov (.slot 1)⟩,
 ⟨some 27,none,.load true 2 (.slot 7)⟩,
 ⟨some 28,none,.callv (.slot 26) [(.slot 27)]⟩,
 ⟨some 29,none,.not (.slot 28)⟩]
def zlH:List zb:=[⟨some 30,none,.mov (.slot 0)⟩,
 ⟨some 31,none,.mov (.slot 5)⟩,
 ⟨some 32,none,.load true 2 (.slot 7)⟩,
 ⟨some 33,none,.idx 2 (.slot 30) (.slot 31)⟩,
 ⟨none,none,.store true 2 (.slot 33) (.slot 32)⟩]
def zeM:List zb:=[⟨some 34,none,.mov (.slot 5)⟩,
 ⟨some 35,none,.bin .add (.slot 34) (.const (.int .i64 1))⟩,
 ⟨some 5,none,.mov (.slot 35)⟩]
def zkU:List zb:=[⟨some 20,none,.mov (.slot 6)⟩,
 ⟨some 21,none,.bin .add (.slot 20) (.const (.int .i64 1))⟩,
 ⟨some 6,none,.mov (.slot 21)⟩]
def vQ:zt:=(.seq (.seq (.region zln false [0,1,5,6,19]) (.cond (.slot 19) .skip (.exit 0))) (.seq (.block 1 (.seq (.region zle false [0,1,5,6,7]) (.seq (.region zk9 false [0,1,5,6,7,29]) (.cond (.slot 29) (.seq (.region zlH false [0,1,5,6]) (.region zeM false [0,1,5,6])) .skip)))) (.region zkU false [0,1,5,6])))
def yG:zt:=.loop [0,1,5,6] vQ
def zlz:List zb:=[⟨some 36,none,.mov (.slot 0)⟩,
 ⟨some 37,none,.mov (.slot 5)⟩,
 ⟨some 38,none,.sl 2 (.slot 36) (some (.slot 37)) none none⟩,
 ⟨none,none,.clear [.int .i64 0,.int .i64 0] (.slot 38)⟩]
def zlm:List zb:=[⟨some 39,none,.mov (.slot 0)⟩,
 ⟨some 40,none,.mov (.slot 5)⟩,
 ⟨some 41,none,.sl 2 (.slot 39) none (some (.slot 40)) none⟩,
 ⟨some 4,none,.mov (.slot 41)⟩]
def yC:AFn:=⟨(.seq (.region zo6 false [0,1]) (.seq (.region zoI false [0,1,5]) (.seq (.seq (.region zov false [0,1,5,12]) (.cond (.slot 12) (.seq (.region zpK false [4]) .ret) .skip)) (.seq (.seq (.region zqQ false [0,1,5,6]) (.block 0 yG)) (.seq (.region zlz false [0,5]) (.seq (.region zlm false [4]) .ret)))))),[.slot 4]⟩
def zD5:List zb:=[⟨some 2,none,.box 2 (.slot 0)⟩,
 ⟨some 3,none,.mov (.const (.bool false))⟩]
def zEw:List zb:=[⟨some 4,none,.load true 2 (.slot 2)⟩,
 ⟨some 5,none,.load true 2 (.slot 1)⟩,
 ⟨some 6,none,.eq true [.ki,.ki] false (.slot 4) (.slot 5)⟩,
 ⟨some 3,none,.mov (.slot 6)⟩]
def gP:AFn:=⟨(.seq (.region zD5 false [1,2]) (.seq (.region zEw false [3]) .ret)),[.slot 3]⟩
def zsJ:List zb:=[⟨some 4,none,.mov (.const (.data false 2 [] true))⟩,
 ⟨some 5,none,.mov (.const (.int .i64 0))⟩]
def zri:List zb:=[⟨some 8,none,.mov (.slot 0)⟩,
 ⟨some 9,none,.call .frz gm [(.slot 8)]⟩,
 ⟨some 10,none,.not (.slot 9)⟩]
def zq1:List zb:=[⟨some 4,none,.mov (.const (.data false 2 [] true))⟩,
 ⟨some 5,none,.mov (.const (.int .i64 2))⟩]
def zsN:List zb:=[⟨some 12,none,.mov (.slot 0)⟩,
 ⟨some 13,none,.mov (.slot 1)⟩,
 ⟨some 14,none,.call .frz jk [(.slot 12),(.slot 13)]⟩,
 ⟨some 11,none,.mov (.slot 14)⟩,
 ⟨some 15,none,.extract 0 (.slot 11)⟩,
 ⟨some 16,none,.extract 1 (.slot 11)⟩,
 ⟨some 6,none,.alloc [.int .i64 0,.int .i64 0]⟩,
 ⟨none,none,.store true 2 (.slot 6) (.slot 15)⟩,
 ⟨some 7,none,.mov (.slot 16)⟩]
def zs2:List zb:=[⟨some 17,none,.mov (.slot 7)⟩,
 ⟨some 18,none,.not (.slot 17)⟩]
def zrd:List zb:=[⟨some 4,none,.mov (.const (.data false 2 [] true))⟩,
 ⟨some 5,none,.mov (.const (.int .i64 6))⟩]
def ztg:List zb:=[⟨some 19,none,.mov (.slot 0)⟩,
 ⟨some 20,none,.call .adp vW [(.slot 19)]⟩,
 ⟨some 21,none,.mkfn (.func Uz) [] [(.slot 6)]⟩,
 ⟨some 22,none,.call .inl ou [(.slot 20),(.slot 21)]⟩,
 ⟨some 4,none,.mov (.slot 22)⟩,
 ⟨some 5,none,.mov (.const (.int .i64 0))⟩]
def j5:AFn:=⟨(.seq (.region zsJ false [0,1]) (.seq (.seq (.region zri false [0,1,10]) (.cond (.slot 10) (.seq (.region zq1 false [4,5]) .ret) .skip)) (.seq (.region zsN false [0,6,7]) (.seq (.seq (.region zs2 false [0,6,18]) (.cond (.slot 18) (.seq (.region zrd false [4,5]) .ret) .skip)) (.seq (.region ztg false [4,5]) .ret))))),[.slot 4,.slot 5]⟩
def zrD:List zb:=[⟨some 2,none,.box 33 (.slot 0)⟩,
 ⟨some 4,none,.alloc (zL)⟩,
 ⟨some 5,none,.mov (.const (.int .i64 0))⟩]
def zrp:List zb:=[⟨some 8,none,.load true 33 (.slot 2)⟩,
 ⟨some 9,none,.call .frz jM [(.slot 8)]⟩,
 ⟨some 10,none,.not (.slot 9)⟩]
def zsU:List zb:=[⟨some 11,none,.build (zL) []⟩,
 ⟨none,none,.store true 33 (.slot 4) (.slot 11)⟩,
 ⟨some 5,none,.mov (.const (.int .i64 2))⟩]
def ztq:List zb:=[⟨some 13,none,.faddr 0 (.slot 2)⟩,
 ⟨some 14,none,.load false 1 (.slot 13)⟩,
 ⟨some 15,none,.mov (.slot 1)⟩,
 ⟨some 16,none,.call .frz NG [(.slot 14),(.slot 15)]⟩,
 ⟨some 12,none,.mov (.slot 16)⟩,
 ⟨some 17,none,.extract 0 (.slot 12)⟩,
 ⟨some 18,none,.extract 1 (.slot 12)⟩,
 ⟨some 6,none,.mov (.slot 17)⟩,
 ⟨some 7,none,.mov (.slot 18)⟩]
def zr1:List zb:=[⟨some 19,none,.load true 33 (.slot 2)⟩,
 ⟨some 20,none,.mov (.slot 6)⟩,
 ⟨some 21,none,.mov (.slot 7)⟩,
 ⟨some 22,none,.call .frz ZL [(.slot 19),(.slot 20),(.slot 21)]⟩,
 ⟨some 23,none,.extract 0 (.slot 22)⟩,
 ⟨some 24,none,.extract 1 (.slot 22)⟩,
 ⟨none,none,.store true 33 (.slot 4) (.slot 23)⟩,
 ⟨some 5,none,.mov (.slot 24)⟩]
def jE:AFn:=⟨(.seq (.region zrD false [1,2,4]) (.seq (.seq (.region zrp false [1,2,4,10]) (.cond (.slot 10) (.seq (.region zsU false [4,5]) .ret) .skip)) (.seq (.region ztq false [2,4,6,7]) (.seq (.region zr1 false [4,5]) .ret)))),[.cell 4 true 33,.slot 5]⟩
def znD:List zb:=[⟨some 6,none,.mov (.const (.data false 2 [] true))⟩,
 ⟨some 7,none,.mov (.const (.int .i64 0))⟩]
def zmz:List zb:=[⟨some 13,none,.mov (.slot 0)⟩,
 ⟨some 14,none,.call .frz gm [(.slot 13)]⟩,
 ⟨some 15,none,.not (.slot 14)⟩,
 ⟨some 16,none,.mov (.slot 15)⟩,
 ⟨some 17,some (16,false),.mov (.slot 2)⟩,
 ⟨some 18,some (16,false),.call .frz UR [(.slot 17)]⟩,
 ⟨some 19,some (16,false),.not (.slot 18)⟩,
 ⟨some 20,none,.pick (.slot 16) (.const (.bool true)) (.slot 19)⟩]
def zny:List zb:=[⟨some 6,none,.mov (.const (.data false 2 [] true))⟩,
 ⟨some 7,none,.mov (.const (.int .i64 2))⟩]
def zmt:List zb:=[⟨some 22,none,.mov (.slot 0)⟩,
 ⟨some 23,none,.mov (.slot 1)⟩,
 ⟨some 24,none,.call .frz jk [(.slot 22),(.slot 23)]⟩,
 ⟨some 21,none,.mov (.slot 24)⟩,
 ⟨some 25,none,.extract 0 (.slot 21)⟩,
 ⟨some 26,none,.extract 1 (.slot 21)⟩,
 ⟨some 8,none,.alloc [.int .i64 0,.int .i64 0]⟩,
 ⟨none,none,.store true 2 (.slot 8) (.slot 25)⟩,
 ⟨some 9,none,.mov (.slot 26)⟩]
def znr:List zb:=[⟨some 27,none,.mov (.slot 9)⟩,
 ⟨some 28,none,.not (.slot 27)⟩]
def zn5:List zb:=[⟨some 6,none,.mov (.const (.data false 2 [] true))⟩,
 ⟨some 7,none,.mov (.const (.int .i64 6))⟩]
def zma:List zb:=[⟨some 29,none,.mov (.slot 0)⟩,
 ⟨some 30,none,.call .adp vW [(.slot 29)]⟩,
 ⟨some 10,none,.mov (.slot 30)⟩]
def zmg:List zb:=[⟨some 32,none,.mov (.slot 0)⟩,
 ⟨some 33,none,.mov (.slot 1)⟩,
 ⟨some 34,none,.call .frz VL [(.slot 32),(.slot 33)]⟩,
 ⟨some 31,none,.mov (.slot 34)⟩,
 ⟨some 35,none,.extract 0 (.slot 31)⟩,
 ⟨some 36,none,.extract 1 (.slot 31)⟩,
 ⟨some 11,none,.mov (.slot 35)⟩,
 ⟨some 12,none,.mov (.slot 36)⟩]
def zmp:List zb:=[⟨some 37,none,.mov (.slot 10)⟩,
 ⟨some 38,none,.mov (.slot 11)⟩,
 ⟨some 39,none,.mov (.slot 2)⟩,
 ⟨some 40,none,.idx 2 (.slot 37) (.slot 38)⟩,
 ⟨some 41,none,.faddr 1 (.slot 40)⟩,
 ⟨none,none,.store false 1 (.slot 41) (.slot 39)⟩]
def zof:List zb:=[⟨some 42,none,.mov (.slot 10)⟩,
 ⟨some 6,none,.mov (.slot 42)⟩,
 ⟨some 7,none,.mov (.const (.int .i64 0))⟩]
def uS:AFn:=⟨(.seq (.region znD false [0,1,2]) (.seq (.seq (.region zmz false [0,1,2,20]) (.cond (.slot 20) (.seq (.region zny false [6,7]) .ret) .skip)) (.seq (.seq (.region zmt false [0,1,2,9]) (.seq (.region znr false [0,1,2,28]) (.cond (.slot 28) (.seq (.region zn5 false [6,7]) .ret) .skip))) (.seq (.region zma false [0,1,2,10]) (.seq (.region zmg false [2,10,11]) (.seq (.region zmp false [10]) (.seq (.region zof false [6,7]) .ret))))))),[.slot 6,.slot 7]⟩
def zrY:List zb:=[⟨some 3,none,.box 33 (.slot 0)⟩,
 ⟨some 6,none,.alloc (zL)⟩,
 ⟨some 7,none,.mov (.const (.int .i64 0))⟩]
def ztB:List zb:=[⟨some 10,none,.load true 33 (.slot 3)⟩,
 ⟨some 11,none,.call .frz jM [(.slot 10)]⟩,
 ⟨some 12,none,.not (.slot 11)⟩]
def zsA:List zb:=[⟨some 13,none,.build (zL) []⟩,
 ⟨none,none,.store true 33 (.slot 6) (.slot 13)⟩,
 ⟨some 7,none,.mov (.const (.int .i64 2))⟩]
def zsp:List zb:=[⟨some 15,none,.faddr 0 (.slot 3)⟩,
 ⟨some 16,none,.load false 1 (.slot 15)⟩,
 ⟨some 17,none,.mov (.slot 1)⟩,
 ⟨some 18,none,.mov (.slot 2)⟩,
 ⟨some 19,none,.call .frz RH [(.slot 16),(.slot 17),(.slot 18)]⟩,
 ⟨some 14,none,.mov (.slot 19)⟩,
 ⟨some 20,none,.extract 0 (.slot 14)⟩,
 ⟨some 21,none,.extract 1 (.slot 14)⟩,
 ⟨some 8,none,.mov (.slot 20)⟩,
 ⟨some 9,none,.mov (.slot 21)⟩]
def zq3:List zb:=[⟨some 22,none,.load true 33 (.slot 3)⟩,
 ⟨some 23,none,.mov (.slot 8)⟩,
 ⟨some 24,none,.mov (.slot 9)⟩,
 ⟨some 25,none,.call .frz ZL [(.slot 22),(.slot 23),(.slot 24)]⟩,
 ⟨some 26,none,.extract 0 (.slot 25)⟩,
 ⟨some 27,none,.extract 1 (.slot 25)⟩,
 ⟨none,none,.store true 33 (.slot 6) (.slot 26)⟩,
 ⟨some 7,none,.mov (.slot 27)⟩]
def uY:AFn:=⟨(.seq (.region zrY false [1,2,3,6]) (.seq (.seq (.region ztB false [1,2,3,6,12]) (.cond (.slot 12) (.seq (.region zsA false [6,7]) .ret) .skip)) (.seq (.region zsp false [3,6,8,9]) (.seq (.region zq3 false [6,7]) .ret)))),[.cell 6 true 33,.slot 7]⟩
def zoB:List zb:=[⟨some 4,none,.mov (.const (.int .i64 0))⟩]
def zpS:List zb:=[⟨some 6,none,.mov (.slot 0)⟩,
 ⟨some 7,none,.len false (.slot 6)⟩,
 ⟨some 8,none,.mov (.const (.int .i64 0))⟩]
def zpF:List zb:=[⟨some 9,none,.bin .lss (.slot 8) (.slot 7)⟩]
def zpn:List zb:=[⟨some 10,none,.mov (.slot 8)⟩,
 ⟨some 5,none,.mov (.slot 10)⟩]
def zqN:List zb:=[⟨some 11,none,.mov (.slot 1)⟩,
 ⟨some 12,none,.mov (.slot 0)⟩,
 ⟨some 13,none,.mov (.slot 5)⟩,
 ⟨some 14,none,.idx 4 (.slot 12) (.slot 13)⟩,
 ⟨some 15,none,.load true 4 (.slot 14)⟩,
 ⟨some 16,none,.callv (.slot 11) [(.slot 15)]⟩]
def zo3:List zb:=[⟨some 17,none,.mov (.slot 5)⟩,
 ⟨some 4,none,.mov (.slot 17)⟩]
def zqs:List zb:=[⟨some 18,none,.bin .add (.slot 8) (.const (.int .i64 1))⟩,
 ⟨some 8,none,.mov (.slot 18)⟩]
def oD:zt:=(.seq (.region zpF false [0,1,7,8,9]) (.seq (.cond (.slot 9) .skip (.exit 0)) (.seq (.block 1 (.seq (.region zpn false [0,1,5,7,8]) (.seq (.region zqN false [0,1,5,7,8,16]) (.cond (.slot 16) (.seq (.region zo3 false [4]) .ret) .skip)))) (.region zqs false [0,1,7,8]))))
def j4:zt:=.loop [0,1,7,8] oD
def zoL:List zb:=[⟨some 4,none,.mov (.const (.int .i64 (-1)))⟩]
def vz:AFn:=⟨(.seq (.region zoB false [0,1]) (.seq (.seq (.region zpS false [0,1,7,8]) (.block 0 j4)) (.seq (.region zoL false [4]) .ret))),[.slot 4]⟩
def zz1:List zb:=[⟨some 4,none,.mov (.const (.bool false))⟩]
def zAm:List zb:=[⟨some 5,none,.mov (.slot 0)⟩,
 ⟨some 6,none,.mov (.slot 1)⟩,
 ⟨some 7,none,.call .inl TC [(.slot 5),(.slot 6)]⟩,
 ⟨some 8,none,.bin .geq (.slot 7) (.const (.int .i64 0))⟩,
 ⟨some 4,none,.mov (.slot 8)⟩]
def yD:AFn:=⟨(.seq (.region zz1 false [0,1]) (.seq (.region zAm false [4]) .ret)),[.slot 4]⟩
def zFM:List zb:=[⟨some 2,none,.mov (.const (.bool false))⟩]
def zFd:List zb:=[⟨some 3,none,.mov (.slot 0)⟩,
 ⟨some 4,none,.bin .geq (.slot 3) (.const (.int .i64 1))⟩,
 ⟨some 5,none,.mov (.slot 4)⟩,
 ⟨some 6,some (5,true),.mov (.slot 0)⟩,
 ⟨some 7,some (5,true),.bin .leq (.slot 6) (.const (.int .i64 1000))⟩,
 ⟨some 8,none,.pick (.slot 5) (.slot 7) (.const (.bool false))⟩,
 ⟨some 2,none,.mov (.slot 8)⟩]
def YP:AFn:=⟨(.seq (.region zFM false [0]) (.seq (.region zFd false [2]) .ret)),[.slot 2]⟩
def zhK:List zb:=[⟨some 1,none,.box 4 (.slot 0)⟩,
 ⟨some 2,none,.mov (.const (.bool false))⟩]
def zhT:List zb:=[⟨some 3,none,.mov (.func Kg)⟩]
def zga:List zb:=[⟨some 5,none,.faddr 2 (.slot 1)⟩,
 ⟨some 6,none,.load false 1 (.slot 5)⟩,
 ⟨some 7,none,.bin .neq (.slot 6) (.const (.int .i64 0))⟩,
 ⟨some 8,none,.mov (.slot 7)⟩,
 ⟨some 9,some (8,false),.faddr 3 (.slot 1)⟩,
 ⟨some 10,some (8,false),.load false 1 (.slot 9)⟩,
 ⟨some 11,some (8,false),.bin .neq (.slot 10) (.const (.int .i64 0))⟩,
 ⟨some 12,none,.pick (.slot 8) (.const (.bool true)) (.slot 11)⟩,
 ⟨some 4,none,.mov (.slot 12)⟩]
def zhA:List zb:=[⟨some 13,none,.faddr 0 (.slot 1)⟩,
 ⟨some 14,none,.load false 1 (.slot 13)⟩]
def zgD:List zb:=[⟨some 16,none,.bin .eql (.slot 14) (.const (.int .i64 1))⟩,
 ⟨some 15,none,.mov (.slot 16)⟩]
def zgV:List zb:=[⟨some 17,none,.faddr 1 (.slot 1)⟩,
 ⟨some 18,none,.load false 1 (.slot 17)⟩,
 ⟨some 19,none,.len false (.slot 18)⟩,
 ⟨some 20,none,.bin .geq (.slot 19) (.const (.int .i64 1))⟩,
 ⟨some 21,none,.mov (.slot 20)⟩,
 ⟨some 22,some (21,true),.faddr 1 (.slot 1)⟩,
 ⟨some 23,some (21,true),.load false 1 (.slot 22)⟩,
 ⟨some 24,some (21,true),.len false (.slot 23)⟩,
 ⟨some 25,some (21,true),.bin .leq (.slot 24) (.const (.int .i64 16))⟩,
 ⟨some 26,none,.pick (.slot 21) (.slot 25) (.const (.bool false))⟩,
 ⟨some 27,none,.mov (.slot 26)⟩,
 ⟨some 28,some (27,true),.mov (.slot 4)⟩,
 ⟨some 29,some (27,true),.not (.slot 28)⟩,
 ⟨some 30,none,.pick (.slot 27) (.slot 29) (.const (.bool false))⟩,
 ⟨some 2,none,.mov (.slot 30)⟩]
def zgI:List zb:=[⟨some 32,none,.bin .eql (.slot 14) (.const (.int .i64 2))⟩,
 ⟨some 31,none,.mov (.slot 32)⟩]
def zhj:List zb:=[⟨some 33,none,.mov (.slot 3)⟩,
 ⟨some 34,none,.faddr 2 (.slot 1)⟩,
 ⟨some 35,none,.load false 1 (.slot 34)⟩,
 ⟨some 36,none,.callv (.slot 33) [(.slot 35)]⟩,
 ⟨some 37,none,.mov (.slot 36)⟩,
 ⟨some 38,some (37,true),.mov (.slot 3)⟩,
 ⟨some 39,some (37,true),.faddr 3 (.slot 1)⟩,
 ⟨some 40,some (37,true),.load false 1 (.slot 39)⟩,
 ⟨some 41,some (37,true),.callv (.slot 38) [(.slot 40)]⟩,
 ⟨some 42,none,.pick (.slot 37) (.slot 41) (.const (.bool false))⟩,
 ⟨some 43,none,.mov (.slot 42)⟩,
 ⟨some 44,some (43,true),.faddr 1 (.slot 1)⟩,
 ⟨some 45,some (43,true),.load false 1 (.slot 44)⟩,
 ⟨some 46,some (43,true),.len false (.slot 45)⟩,
 ⟨some 47,some (43,true),.bin .eql (.slot 46) (.const (.int .i64 0))⟩,
 ⟨some 48,none,.pick (.slot 43) (.slot 47) (.const (.bool false))⟩,
 ⟨some 2,none,.mov (.slot 48)⟩]
def zgS:List zb:=[⟨some 50,none,.bin .eql (.slot 14) (.const (.int .i64 3))⟩,
 ⟨some 49,none,.mov (.slot 50)⟩]
def zgp:List zb:=[⟨some 51,none,.bin .eql (.slot 14) (.const (.int .i64 4))⟩,
 ⟨some 49,none,.mov (.slot 51)⟩]
def FM:List zb:=[⟨some 52,none,.faddr 1 (.slot 1)⟩,
 ⟨some 53,none,.load false 1 (.slot 52)⟩,
 ⟨some 54,none,.len false (.slot 53)⟩,
 ⟨some 55,none,.bin .eql (.slot 54) (.const (.int .i64 0))⟩,
 ⟨some 56,none,.mov (.slot 55)⟩,
 ⟨some 57,some (56,true),.mov (.slot 4)⟩,
 ⟨some 58,some (56,true),.not (.slot 57)⟩,
 ⟨some 59,none,.pick (.slot 56) (.slot 58) (.const (.bool false))⟩,
 ⟨some 2,none,.mov (.slot 59)⟩]
def FW:List zb:=[⟨some 2,none,.mov (.const (.bool false))⟩]
def vS:AFn:=⟨(.seq (.region zhK false [1]) (.seq (.region zhT false [1,3]) (.seq (.region zga false [1,3,4]) (.seq (.seq (.region zhA false [1,3,4,14]) (.block 0 (.seq (.region zgD false [1,3,4,14,15]) (.cond (.slot 15) (.seq (.region zgV false [2]) .ret) (.seq (.region zgI false [1,3,4,14,31]) (.cond (.slot 31) (.seq (.region zhj false [2]) .ret) (.seq (.seq (.region zgS false [1,4,14,49]) (.cond (.slot 49) .skip (.region zgp false [1,4,49]))) (.cond (.slot 49) (.seq (.region FM false [2]) .ret) .skip)))))))) (.seq (.region FW false [2]) .ret))))),[.slot 2]⟩
def zFA:List zb:=[⟨some 1,none,.box 4 (.slot 0)⟩,
 ⟨some 2,none,.mov (.const (.bool false))⟩]
def zFK:List zb:=[⟨some 3,none,.load true 4 (.slot 1)⟩,
 ⟨some 4,none,.call .frz DJ [(.slot 3)]⟩,
 ⟨some 5,none,.not (.slot 4)⟩,
 ⟨some 2,none,.mov (.slot 5)⟩]
def YR:AFn:=⟨(.seq (.region zFA false [1]) (.seq (.region zFK false [2]) .ret)),[.slot 2]⟩
def zE3:List zb:=[⟨some 1,none,.box 2 (.slot 0)⟩,
 ⟨some 2,none,.mov (.const (.bool false))⟩]
def zE4:List zb:=[⟨some 3,none,.faddr 0 (.slot 1)⟩,
 ⟨some 4,none,.load false 1 (.slot 3)⟩,
 ⟨some 5,none,.bin .lss (.slot 4) (.const (.int .i64 0))⟩,
 ⟨some 6,none,.mov (.slot 5)⟩,
 ⟨some 7,some (6,false),.faddr 1 (.slot 1)⟩,
 ⟨some 8,some (6,false),.load false 1 (.slot 7)⟩,
 ⟨some 9,some (6,false),.len false (.slot 8)⟩,
 ⟨some 10,some (6,false),.bin .gtr (.slot 9) (.const (.int .i64 64))⟩,
 ⟨some 11,none,.pick (.slot 6) (.const (.bool true)) (.slot 10)⟩,
 ⟨some 12,none,.mov (.slot 11)⟩,
 ⟨some 13,some (12,false),.faddr 0 (.slot 1)⟩,
 ⟨some 14,some (12,false),.load false 1 (.slot 13)⟩,
 ⟨some 15,some (12,false),.faddr 1 (.slot 1)⟩,
 ⟨some 16,some (12,false),.load false 1 (.slot 15)⟩,
 ⟨some 17,some (12,false),.len false (.slot 16)⟩,
 ⟨some 18,some (12,false),.bin .sub (.const (.int .i64 1073741824)) (.slot 17)⟩,
 ⟨some 19,some (12,false),.bin .gtr (.slot 14) (.slot 18)⟩,
 ⟨some 20,none,.pick (.slot 12) (.const (.bool true)) (.slot 19)⟩]
def zF7:List zb:=[⟨some 2,none,.mov (.const (.bool false))⟩]
def zE6:List zb:=[⟨some 21,none,.faddr 1 (.slot 1)⟩,
 ⟨some 22,none,.load false 1 (.slot 21)⟩,
 ⟨some 23,none,.call .inl VB [(.slot 22),(.func zaB)]⟩,
 ⟨some 24,none,.not (.slot 23)⟩,
 ⟨some 2,none,.mov (.slot 24)⟩]
def Tv:AFn:=⟨(.seq (.region zE3 false [1]) (.seq (.seq (.region zE4 false [1,20]) (.cond (.slot 20) (.seq (.region zF7 false [2]) .ret) .skip)) (.seq (.region zE6 false [2]) .ret))),[.slot 2]⟩
def zmj:List zb:=[⟨some 3,none,.box 3 (.slot 1)⟩,
 ⟨some 4,none,.mov (.const (.data false 3 [] true))⟩,
 ⟨some 5,none,.mov (.const (.bool false))⟩]
def zms:List zb:=[⟨some 7,none,.mov (.slot 0)⟩,
 ⟨some 8,none,.call .frz gp [(.slot 7)]⟩,
 ⟨some 9,none,.not (.slot 8)⟩]
def zmK:List zb:=[⟨some 4,none,.mov (.const (.data false 3 [] true))⟩,
 ⟨some 5,none,.mov (.const (.bool false))⟩]
def znE:List zb:=[⟨some 10,none,.mov (.slot 0)⟩,
 ⟨some 11,none,.call .adp uL [(.slot 10)]⟩,
 ⟨some 6,none,.mov (.slot 11)⟩]
def znq:List zb:=[⟨some 12,none,.load true 3 (.slot 3)⟩,
 ⟨some 13,none,.call .frz gF [(.slot 12)]⟩,
 ⟨some 14,none,.not (.slot 13)⟩,
 ⟨some 15,none,.mov (.slot 14)⟩,
 ⟨some 16,some (15,false),.mov (.slot 0)⟩,
 ⟨some 17,some (15,false),.call .frz JL [(.slot 16)]⟩,
 ⟨some 18,some (15,false),.faddr 2 (.slot 3)⟩,
 ⟨some 19,some (15,false),.load false 1 (.slot 18)⟩,
 ⟨some 20,some (15,false),.len false (.slot 19)⟩,
 ⟨some 21,some (15,false),.bin .add (.slot 17) (.slot 20)⟩,
 ⟨some 22,some (15,false),.bin .gtr (.slot 21) (.const (.int .i64 64))⟩,
 ⟨some 23,none,.pick (.slot 15) (.const (.bool true)) (.slot 22)⟩]
def znc:List zb:=[⟨some 24,none,.mov (.slot 6)⟩,
 ⟨some 4,none,.mov (.slot 24)⟩,
 ⟨some 5,none,.mov (.const (.bool false))⟩]
def zmF:List zb:=[⟨some 25,none,.mov (.slot 6)⟩,
 ⟨some 26,none,.load true 3 (.slot 3)⟩,
 ⟨some 27,none,.mkslice 3 1 [.int .i64 0,.int .i64 0,.data false 1 [] true] [(0,(.slot 26))]⟩,
 ⟨some 28,none,.call .inl uL [(.slot 27)]⟩,
 ⟨some 29,none,.append 3 40 (.slot 25) (.slot 28)⟩,
 ⟨some 4,none,.mov (.slot 29)⟩,
 ⟨some 5,none,.mov (.const (.bool true))⟩]
def gq:AFn:=⟨(.seq (.region zmj false [0,3]) (.seq (.seq (.region zms false [0,3,9]) (.cond (.slot 9) (.seq (.region zmK false [4,5]) .ret) .skip)) (.seq (.region znE false [0,3,6]) (.seq (.seq (.region znq true [3,6,23]) (.cond (.slot 23) (.seq (.region znc false [4,5]) .ret) .skip)) (.seq (.region zmF false [4,5]) .ret))))),[.slot 4,.slot 5]⟩
def zAM:List zb:=[⟨some 4,none,.box 33 (.slot 0)⟩,
 ⟨some 5,none,.alloc (zL)⟩]
def zBa:List zb:=[⟨some 6,none,.faddr 1 (.slot 4)⟩,
 ⟨some 7,none,.faddr 0 (.slot 6)⟩,
 ⟨some 8,none,.load false 1 (.slot 7)⟩,
 ⟨some 9,none,.load false 1 (.slot 1)⟩,
 ⟨some 10,none,.bin .eql (.slot 8) (.slot 9)⟩]
def zy4:List zb:=[⟨some 12,none,.faddr 3 (.slot 4)⟩,
 ⟨some 13,none,.load false 1 (.slot 12)⟩,
 ⟨some 14,none,.load false 1 (.slot 1)⟩,
 ⟨some 15,none,.load false 1 (.slot 2)⟩,
 ⟨some 16,none,.faddr 1 (.slot 3)⟩,
 ⟨some 17,none,.load false 1 (.slot 16)⟩,
 ⟨some 18,none,.build [.int .i64 0,.int .i64 0,.data false 1 [] true] [(0,1,(.slot 14)),(1,1,(.slot 15)),(2,1,(.slot 17))]⟩,
 ⟨some 19,none,.call .frz JZ [(.slot 13),(.slot 18)]⟩,
 ⟨some 11,none,.mov (.slot 19)⟩,
 ⟨some 20,none,.extract 0 (.slot 11)⟩,
 ⟨some 21,none,.extract 1 (.slot 11)⟩,
 ⟨some 22,none,.faddr 3 (.slot 4)⟩,
 ⟨none,none,.store false 1 (.slot 22) (.slot 20)⟩]
def zwk:List zb:=[⟨some 23,none,.load true 33 (.slot 4)⟩,
 ⟨none,none,.store true 33 (.slot 5) (.slot 23)⟩]
def jT:AFn:=⟨(.seq (.region zAM false [1,2,3,4,5]) (.seq (.seq (.region zBa false [1,2,3,4,5,10]) (.cond (.slot 10) (.region zy4 false [4,5]) .skip)) (.seq (.region zwk false [5]) .ret))),[.cell 5 true 33]⟩
def zDp:List zb:=[⟨some 4,none,.box 18 (.slot 0)⟩,
 ⟨some 8,none,.alloc [.int .i64 0,.int .i64 0,.int .i64 0,.int .i64 0,.int .i64 0,.int .i64 0,.int .i64 0,.int .i64 0,.int .i64 0,.int .i64 0,.int .i64 0,.int .i64 0,.int .i64 0,.int .i64 0,.int .i64 0,.int .i64 0,.int .i64 0,.int .i64 0]⟩,
 ⟨some 9,none,.mov (.const (.int .i64 0))⟩]
def zDW:List zb:=[⟨some 10,none,.load true 18 (.slot 4)⟩,
 ⟨some 11,none,.call .frz PP [(.slot 10)]⟩,
 ⟨some 12,none,.not (.slot 11)⟩,
 ⟨some 13,none,.mov (.slot 12)⟩,
 ⟨some 14,some (13,false),.mov (.slot 1)⟩,
 ⟨some 15,some (13,false),.call .frz Rm [(.slot 14)]⟩,
 ⟨some 16,some (13,false),.not (.slot 15)⟩,
 ⟨some 17,none,.pick (.slot 13) (.const (.bool true)) (.slot 16)⟩,
 ⟨some 18,none,.mov (.slot 17)⟩,
 ⟨some 19,some (18,false),.mov (.slot 2)⟩,
 ⟨some 20,some (18,false),.call .frz Tm [(.slot 19)]⟩,
 ⟨some 21,some (18,false),.not (.slot 20)⟩,
 ⟨some 22,none,.pick (.slot 18) (.const (.bool true)) (.slot 21)⟩,
 ⟨some 23,none,.mov (.slot 22)⟩,
 ⟨some 24,some (23,false),.mov (.slot 3)⟩,
 ⟨some 25,some (23,false),.call .frz Tm [(.slot 24)]⟩,
 ⟨some 26,some (23,false),.not (.slot 25)⟩,
 ⟨some 27,none,.pick (.slot 23) (.const (.bool true)) (.slot 26)⟩]
def zDl:List zb:=[⟨some 28,none,.build [.int .i64 0,.int .i64 0,.int .i64 0,.int .i64 0,.int .i64 0,.int .i64 0,.int .i64 0,.int .i64 0,.int .i64 0,.int .i64 0,.int .i64 0,.int .i64 0,.int .i64 0,.int .i64 0,.int .i64 0,.int .i64 0,.int .i64 0,.int .i64 0] []⟩,
 ⟨none,none,.store true 18 (.slot 8) (.slot 28)⟩,
 ⟨some 9,none,.mov (.const (.int .i64 2))⟩]
def zDT:List zb:=[⟨some 29,none,.mov (.slot 1)⟩,
 ⟨some 30,none,.mov (.slot 2)⟩,
 ⟨some 31,none,.mov (.slot 3)⟩,
 ⟨some 32,none,.build [.int .i64 0,.int .i64 0] [(0,1,(.slot 30)),(1,1,(.slot 31))]⟩,
 ⟨some 33,none,.idxarr 2 9 (.slot 4) (.slot 29)⟩,
 ⟨none,none,.store true 2 (.slot 33) (.slot 32)⟩]
def zDN:List zb:=[⟨some 34,none,.load true 18 (.slot 4)⟩,
 ⟨none,none,.store true 18 (.slot 8) (.slot 34)⟩,
 ⟨some 9,none,.mov (.const (.int .i64 0))⟩]
def NA:AFn:=⟨(.seq (.region zDp false [1,2,3,4,8]) (.seq (.seq (.region zDW false [1,2,3,4,8,27]) (.cond (.slot 27) (.seq (.region zDl false [8,9]) .ret) .skip)) (.seq (.region zDT false [4,8]) (.seq (.region zDN false [8,9]) .ret)))),[.cell 8 true 18,.slot 9]⟩
def zEx:List zb:=[⟨some 3,none,.box 33 (.slot 0)⟩,
 ⟨some 4,none,.alloc (zL)⟩]
def zEf:List zb:=[⟨some 6,none,.faddr 4 (.slot 3)⟩,
 ⟨some 7,none,.load true 18 (.slot 6)⟩,
 ⟨some 8,none,.load false 1 (.slot 1)⟩,
 ⟨some 9,none,.faddr 2 (.slot 2)⟩,
 ⟨some 10,none,.load false 1 (.slot 9)⟩,
 ⟨some 11,none,.faddr 3 (.slot 2)⟩,
 ⟨some 12,none,.load false 1 (.slot 11)⟩,
 ⟨some 13,none,.call .frz zaX [(.slot 7),(.slot 8),(.slot 10),(.slot 12)]⟩,
 ⟨some 5,none,.mov (.slot 13)⟩,
 ⟨some 14,none,.extract 0 (.slot 5)⟩,
 ⟨some 15,none,.extract 1 (.slot 5)⟩,
 ⟨some 16,none,.faddr 4 (.slot 3)⟩,
 ⟨none,none,.store true 18 (.slot 16) (.slot 14)⟩]
def zDa:List zb:=[⟨some 17,none,.load true 33 (.slot 3)⟩,
 ⟨some 18,none,.call .frz Wu [(.slot 17)]⟩,
 ⟨none,none,.store true 33 (.slot 4) (.slot 18)⟩]
def ZI:AFn:=⟨(.seq (.region zEx false [1,2,3,4]) (.seq (.region zEf false [3,4]) (.seq (.region zDa false [4]) .ret))),[.cell 4 true 33]⟩
def zcz:List zb:=[⟨some 2,none,.box 2 (.slot 0)⟩,
 ⟨some 4,none,.mov (.const (.int .i64 0))⟩]
def zco:List zb:=[⟨some 7,none,.load true 2 (.slot 2)⟩,
 ⟨some 8,none,.call .frz Vg [(.slot 7)]⟩,
 ⟨some 9,none,.not (.slot 8)⟩,
 ⟨some 10,none,.mov (.slot 9)⟩,
 ⟨some 11,some (10,false),.mov (.slot 1)⟩,
 ⟨some 12,some (10,false),.call .frz ZJ [(.slot 11)]⟩,
 ⟨some 13,some (10,false),.not (.slot 12)⟩,
 ⟨some 14,none,.pick (.slot 10) (.const (.bool true)) (.slot 13)⟩,
 ⟨some 6,none,.mov (.slot 14)⟩]
def zcq:List zb:=[⟨some 4,none,.mov (.const (.int .i64 (-1)))⟩]
def zcp:List zb:=[⟨some 16,none,.faddr 0 (.slot 2)⟩,
 ⟨some 17,none,.load false 1 (.slot 16)⟩,
 ⟨some 18,none,.mov (.slot 1)⟩,
 ⟨some 19,none,.bin .eql (.slot 17) (.slot 18)⟩,
 ⟨some 15,none,.mov (.slot 19)⟩]
def zdu:List zb:=[⟨some 4,none,.mov (.const (.int .i64 0))⟩]
def zc0:List zb:=[⟨some 20,none,.faddr 1 (.slot 2)⟩,
 ⟨some 21,none,.load false 1 (.slot 20)⟩,
 ⟨some 22,none,.mov (.slot 1)⟩,
 ⟨some 23,none,.call .frz Ym [(.slot 21),(.slot 22)]⟩,
 ⟨some 5,none,.mov (.slot 23)⟩]
def zcm:List zb:=[⟨some 24,none,.mov (.slot 5)⟩,
 ⟨some 25,none,.bin .geq (.slot 24) (.const (.int .i64 0))⟩]
def zcM:List zb:=[⟨some 26,none,.mov (.slot 5)⟩,
 ⟨some 27,none,.bin .add (.slot 26) (.const (.int .i64 1))⟩,
 ⟨some 4,none,.mov (.slot 27)⟩]
def zdq:List zb:=[⟨some 4,none,.mov (.const (.int .i64 (-1)))⟩]
def jg:AFn:=⟨(.seq (.region zcz false [1,2]) (.seq (.block 0 (.seq (.region zco false [1,2,6]) (.cond (.slot 6) (.seq (.region zcq false [4]) .ret) (.seq (.region zcp false [1,2,15]) (.cond (.slot 15) (.seq (.region zdu false [4]) .ret) .skip))))) (.seq (.seq (.region zc0 false [5]) (.seq (.region zcm false [5,25]) (.cond (.slot 25) (.seq (.region zcM false [4]) .ret) .skip))) (.seq (.region zdq false [4]) .ret)))),[.slot 4]⟩
def zk2:List zb:=[⟨some 6,none,.load false 1 (.slot 2)⟩,
 ⟨some 7,none,.bin .lss (.slot 6) (.const (.int .i64 0))⟩]
def zkB:List zb:=[⟨some 8,none,.mov (.slot 0)⟩,
 ⟨some 9,none,.mov (.slot 0)⟩,
 ⟨some 10,none,.nilchk (.slot 9)⟩,
 ⟨some 11,none,.faddr 0 (.slot 10)⟩,
 ⟨some 12,none,.faddr 1 (.slot 11)⟩,
 ⟨some 13,none,.load false 1 (.slot 12)⟩,
 ⟨some 14,none,.load false 1 (.slot 3)⟩,
 ⟨some 15,none,.mkslice 1 1 [.int .i64 0] [(0,(.slot 14))]⟩,
 ⟨some 16,none,.append 1 8 (.slot 13) (.slot 15)⟩,
 ⟨some 17,none,.nilchk (.slot 8)⟩,
 ⟨some 18,none,.faddr 0 (.slot 17)⟩,
 ⟨some 19,none,.faddr 1 (.slot 18)⟩,
 ⟨none,none,.store false 1 (.slot 19) (.slot 16)⟩]
def zkN:List zb:=[⟨some 20,none,.mov (.slot 0)⟩,
 ⟨some 21,none,.nilchk (.slot 20)⟩,
 ⟨some 22,none,.faddr 0 (.slot 21)⟩,
 ⟨some 23,none,.faddr 0 (.slot 22)⟩,
 ⟨some 24,none,.load false 1 (.slot 23)⟩,
 ⟨some 25,none,.bin .eql (.slot 24) (.const (.int .i64 0))⟩]
def zkD:List zb:=[⟨some 26,none,.mov (.slot 1)⟩,
 ⟨some 27,none,.callv (.slot 26) []⟩]
def gK:AFn:=⟨(.seq (.seq (.region zk2 false [0,1,3,7]) (.cond (.slot 7) (.region zkB true [0,1]) .skip)) (.seq (.region zkN false [1,25]) (.cond (.slot 25) (.region zkD false []) .skip))),[]⟩
def zcA:List zb:=[⟨some 2,none,.box 2 (.slot 0)⟩,
 ⟨some 3,none,.box 1 (.slot 1)⟩,
 ⟨some 4,none,.alloc [.int .i64 0,.data false 1 [] true]⟩,
 ⟨some 5,none,.mov (.const (.int .i64 0))⟩]
def zcy:List zb:=[⟨some 7,none,.load true 2 (.slot 2)⟩,
 ⟨some 8,none,.call .frz Vg [(.slot 7)]⟩,
 ⟨some 9,none,.not (.slot 8)⟩,
 ⟨some 10,none,.mov (.slot 9)⟩,
 ⟨some 11,some (10,false),.load false 1 (.slot 3)⟩,
 ⟨some 12,some (10,false),.call .frz ZJ [(.slot 11)]⟩,
 ⟨some 13,some (10,false),.not (.slot 12)⟩,
 ⟨some 14,none,.pick (.slot 10) (.const (.bool true)) (.slot 13)⟩]
def zdl:List zb:=[⟨some 15,none,.build [.int .i64 0,.data false 1 [] true] []⟩,
 ⟨none,none,.store true 2 (.slot 4) (.slot 15)⟩,
 ⟨some 5,none,.mov (.const (.int .i64 2))⟩]
def zc4:List zb:=[⟨some 16,none,.load true 2 (.slot 2)⟩,
 ⟨some 17,none,.load false 1 (.slot 3)⟩,
 ⟨some 18,none,.call .frz Rk [(.slot 16),(.slot 17)]⟩,
 ⟨some 6,none,.alloc [.int .i64 0]⟩,
 ⟨none,none,.store false 1 (.slot 6) (.slot 18)⟩]
def zcw:List zb:=[⟨some 19,none,.load true 2 (.slot 2)⟩,
 ⟨some 20,none,.mkfn (.func zaE) [] [(.slot 6),(.slot 3)]⟩,
 ⟨some 21,none,.call .inl Sj [(.slot 19),(.slot 20)]⟩,
 ⟨none,none,.store true 2 (.slot 4) (.slot 21)⟩,
 ⟨some 5,none,.mov (.const (.int .i64 0))⟩]
def gy:AFn:=⟨(.seq (.region zcA false [2,3,4]) (.seq (.seq (.region zcy false [2,3,4,14]) (.cond (.slot 14) (.seq (.region zdl false [4,5]) .ret) .skip)) (.seq (.region zc4 false [2,3,4,6]) (.seq (.region zcw false [4,5]) .ret)))),[.cell 4 true 2,.slot 5]⟩
def zAs:List zb:=[⟨some 2,none,.box 33 (.slot 0)⟩,
 ⟨some 3,none,.alloc (zL)⟩]
def zz9:List zb:=[⟨some 4,none,.load true 33 (.slot 2)⟩,
 ⟨some 5,none,.load false 1 (.slot 1)⟩,
 ⟨some 6,none,.call .frz jQ [(.slot 4),(.slot 5)]⟩]
def zAJ:List zb:=[⟨some 8,none,.faddr 1 (.slot 2)⟩,
 ⟨some 9,none,.load true 2 (.slot 8)⟩,
 ⟨some 10,none,.load false 1 (.slot 1)⟩,
 ⟨some 11,none,.call .frz DF [(.slot 9),(.slot 10)]⟩,
 ⟨some 7,none,.mov (.slot 11)⟩,
 ⟨some 12,none,.extract 0 (.slot 7)⟩,
 ⟨some 13,none,.extract 1 (.slot 7)⟩,
 ⟨some 14,none,.faddr 1 (.slot 2)⟩,
 ⟨none,none,.store true 2 (.slot 14) (.slot 12)⟩]
def zw9:List zb:=[⟨some 15,none,.load true 33 (.slot 2)⟩,
 ⟨none,none,.store true 33 (.slot 3) (.slot 15)⟩]
def jS:AFn:=⟨(.seq (.region zAs false [1,2,3]) (.seq (.seq (.region zz9 false [1,2,3,6]) (.cond (.slot 6) (.region zAJ false [2,3]) .skip)) (.seq (.region zw9 false [3]) .ret))),[.cell 3 true 33]⟩
def zyR:List zb:=[⟨some 6,none,.mov (.const (.data false 1 [] true))⟩]
def zA3:List zb:=[⟨some 8,none,.mov (.slot 0)⟩,
 ⟨some 9,none,.mov (.slot 1)⟩,
 ⟨some 10,none,.mov (.slot 2)⟩,
 ⟨some 11,none,.mov (.slot 0)⟩,
 ⟨some 12,none,.len false (.slot 11)⟩,
 ⟨some 13,none,.sl 1 (.slot 8) (some (.slot 9)) (some (.slot 10)) (some (.slot 12))⟩]
def zA0:List zb:=[⟨some 14,none,.mov (.slot 1)⟩,
 ⟨some 15,none,.mov (.slot 2)⟩,
 ⟨some 16,none,.bin .eql (.slot 14) (.slot 15)⟩]
def zxg:List zb:=[⟨some 17,none,.mov (.slot 0)⟩,
 ⟨some 6,none,.mov (.slot 17)⟩]
def zwt:List zb:=[⟨some 18,none,.mov (.slot 0)⟩,
 ⟨some 19,none,.len false (.slot 18)⟩,
 ⟨some 7,none,.mov (.slot 19)⟩]
def zxA:List zb:=[⟨some 20,none,.mov (.slot 0)⟩,
 ⟨some 21,none,.mov (.slot 1)⟩,
 ⟨some 22,none,.sl 1 (.slot 20) none (some (.slot 21)) none⟩,
 ⟨some 23,none,.mov (.slot 0)⟩,
 ⟨some 24,none,.mov (.slot 2)⟩,
 ⟨some 25,none,.sl 1 (.slot 23) (some (.slot 24)) none none⟩,
 ⟨some 26,none,.append 1 8 (.slot 22) (.slot 25)⟩,
 ⟨some 0,none,.mov (.slot 26)⟩]
def zy3:List zb:=[⟨some 27,none,.mov (.slot 0)⟩,
 ⟨some 28,none,.mov (.slot 0)⟩,
 ⟨some 29,none,.len false (.slot 28)⟩,
 ⟨some 30,none,.mov (.slot 7)⟩,
 ⟨some 31,none,.sl 1 (.slot 27) (some (.slot 29)) (some (.slot 30)) none⟩,
 ⟨none,none,.clear [.int .i64 0] (.slot 31)⟩]
def zwr:List zb:=[⟨some 32,none,.mov (.slot 0)⟩,
 ⟨some 6,none,.mov (.slot 32)⟩]
def jJ:AFn:=⟨(.seq (.region zyR false [0,1,2]) (.seq (.region zA3 false [0,1,2]) (.seq (.seq (.region zA0 false [0,1,2,16]) (.cond (.slot 16) (.seq (.region zxg false [6]) .ret) .skip)) (.seq (.region zwt false [0,1,2,7]) (.seq (.region zxA true [0,7]) (.seq (.region zy3 false [0]) (.seq (.region zwr false [6]) .ret))))))),[.slot 6]⟩
def zf5:List zb:=[⟨some 6,none,.load false 1 (.slot 2)⟩,
 ⟨some 7,none,.bin .eql (.slot 6) (.const (.int .i64 0))⟩,
 ⟨some 5,none,.mov (.slot 7)⟩]
def zfi:List zb:=[⟨some 8,none,.mov (.slot 1)⟩,
 ⟨some 9,none,.callv (.slot 8) []⟩]
def ze7:List zb:=[⟨some 11,none,.load false 1 (.slot 2)⟩,
 ⟨some 12,none,.bin .gtr (.slot 11) (.const (.int .i64 0))⟩,
 ⟨some 10,none,.mov (.slot 12)⟩]
def zhV:List zb:=[⟨some 13,none,.mov (.slot 0)⟩,
 ⟨some 14,none,.mov (.slot 0)⟩,
 ⟨some 15,none,.nilchk (.slot 14)⟩,
 ⟨some 16,none,.faddr 0 (.slot 15)⟩,
 ⟨some 17,none,.faddr 1 (.slot 16)⟩,
 ⟨some 18,none,.load false 1 (.slot 17)⟩,
 ⟨some 19,none,.load false 1 (.slot 2)⟩,
 ⟨some 20,none,.bin .sub (.slot 19) (.const (.int .i64 1))⟩,
 ⟨some 21,none,.load false 1 (.slot 2)⟩,
 ⟨some 22,none,.call .inl UI [(.slot 18),(.slot 20),(.slot 21)]⟩,
 ⟨some 23,none,.nilchk (.slot 13)⟩,
 ⟨some 24,none,.faddr 0 (.slot 23)⟩,
 ⟨some 25,none,.faddr 1 (.slot 24)⟩,
 ⟨none,none,.store false 1 (.slot 25) (.slot 22)⟩]
def jq:AFn:=⟨(.block 0 (.seq (.region zf5 false [0,1,2,5]) (.cond (.slot 5) (.region zfi false []) (.seq (.region ze7 false [0,2,10]) (.cond (.slot 10) (.region zhV true []) .skip))))),[]⟩
def zaG:List zb:=[⟨some 2,none,.box 2 (.slot 0)⟩,
 ⟨some 4,none,.alloc [.int .i64 0,.data false 1 [] true]⟩,
 ⟨some 5,none,.mov (.const (.int .i64 0))⟩]
def zaK:List zb:=[⟨some 7,none,.load true 2 (.slot 2)⟩,
 ⟨some 8,none,.call .frz Vg [(.slot 7)]⟩,
 ⟨some 9,none,.not (.slot 8)⟩,
 ⟨some 10,none,.mov (.slot 9)⟩,
 ⟨some 11,some (10,false),.mov (.slot 1)⟩,
 ⟨some 12,some (10,false),.call .frz ZJ [(.slot 11)]⟩,
 ⟨some 13,some (10,false),.not (.slot 12)⟩,
 ⟨some 14,none,.pick (.slot 10) (.const (.bool true)) (.slot 13)⟩]
def zaR:List zb:=[⟨some 15,none,.build [.int .i64 0,.data false 1 [] true] []⟩,
 ⟨none,none,.store true 2 (.slot 4) (.slot 15)⟩,
 ⟨some 5,none,.mov (.const (.int .i64 2))⟩]
def za4:List zb:=[⟨some 16,none,.load true 2 (.slot 2)⟩,
 ⟨some 17,none,.mov (.slot 1)⟩,
 ⟨some 18,none,.call .frz Rk [(.slot 16),(.slot 17)]⟩,
 ⟨some 6,none,.alloc [.int .i64 0]⟩,
 ⟨none,none,.store false 1 (.slot 6) (.slot 18)⟩]
def zaL:List zb:=[⟨some 19,none,.load true 2 (.slot 2)⟩,
 ⟨some 20,none,.mkfn (.func DN) [] [(.slot 6)]⟩,
 ⟨some 21,none,.call .inl Sj [(.slot 19),(.slot 20)]⟩,
 ⟨none,none,.store true 2 (.slot 4) (.slot 21)⟩,
 ⟨some 5,none,.mov (.const (.int .i64 0))⟩]
def jf:AFn:=⟨(.seq (.region zaG false [1,2,4]) (.seq (.seq (.region zaK false [1,2,4,14]) (.cond (.slot 14) (.seq (.region zaR false [4,5]) .ret) .skip)) (.seq (.region za4 false [2,4,6]) (.seq (.region zaL false [4,5]) .ret)))),[.cell 4 true 2,.slot 5]⟩
def zDQ:List zb:=[⟨some 2,none,.box 33 (.slot 0)⟩,
 ⟨some 3,none,.alloc (zL)⟩]
def zDo:List zb:=[⟨some 5,none,.faddr 1 (.slot 2)⟩,
 ⟨some 6,none,.load true 2 (.slot 5)⟩,
 ⟨some 7,none,.load false 1 (.slot 1)⟩,
 ⟨some 8,none,.call .frz JP [(.slot 6),(.slot 7)]⟩,
 ⟨some 4,none,.mov (.slot 8)⟩,
 ⟨some 9,none,.extract 0 (.slot 4)⟩,
 ⟨some 10,none,.extract 1 (.slot 4)⟩,
 ⟨some 11,none,.faddr 1 (.slot 2)⟩,
 ⟨none,none,.store true 2 (.slot 11) (.slot 9)⟩]
def zEp:List zb:=[⟨some 12,none,.load true 33 (.slot 2)⟩,
 ⟨none,none,.store true 33 (.slot 3) (.slot 12)⟩]
def ZA:AFn:=⟨(.seq (.region zDQ false [1,2,3]) (.seq (.region zDo false [2,3]) (.seq (.region zEp false [3]) .ret))),[.cell 3 true 33]⟩
def zjW:List zb:=[⟨some 3,none,.box 1 (.slot 0)⟩,
 ⟨some 4,none,.box 1 (.slot 1)⟩,
 ⟨some 5,none,.box 4 (.slot 2)⟩,
 ⟨some 6,none,.mov (.const .nilfn)⟩]
def zji:List zb:=[⟨some 7,none,.load true 4 (.slot 5)⟩,
 ⟨some 8,none,.mkslice 4 1 [.int .i64 0,.data false 1 [] true,.int .i64 0,.int .i64 0] [(0,(.slot 7))]⟩,
 ⟨some 9,none,.build [.int .i64 0,.data false 4 [] true] [(1,1,(.slot 8))]⟩,
 ⟨some 10,none,.call .inl Ld [(.slot 9)]⟩,
 ⟨some 11,none,.not (.slot 10)⟩]
def zjb:List zb:=[⟨some 6,none,.mov (.const .nilfn)⟩]
def ziS:List zb:=[⟨some 12,none,.faddr 0 (.slot 5)⟩,
 ⟨some 13,none,.load false 1 (.slot 12)⟩]
def zjm:List zb:=[⟨some 15,none,.bin .eql (.slot 13) (.const (.int .i64 1))⟩,
 ⟨some 14,none,.mov (.slot 15)⟩]
def zj5:List zb:=[⟨some 16,none,.mkfn (.func VZ) [] [(.slot 3),(.slot 4),(.slot 5)]⟩,
 ⟨some 6,none,.mov (.slot 16)⟩]
def zjf:List zb:=[⟨some 18,none,.bin .eql (.slot 13) (.const (.int .i64 2))⟩,
 ⟨some 17,none,.mov (.slot 18)⟩]
def ziQ:List zb:=[⟨some 19,none,.mkfn (.func VQ) [] [(.slot 3),(.slot 5)]⟩,
 ⟨some 6,none,.mov (.slot 19)⟩]
def ziX:List zb:=[⟨some 21,none,.bin .eql (.slot 13) (.const (.int .i64 3))⟩,
 ⟨some 20,none,.mov (.slot 21)⟩]
def zjO:List zb:=[⟨some 22,none,.mkfn (.func UB) [] [(.slot 3)]⟩,
 ⟨some 6,none,.mov (.slot 22)⟩]
def zdg:List zb:=[⟨some 23,none,.mkfn (.func UA) [] [(.slot 3)]⟩,
 ⟨some 6,none,.mov (.slot 23)⟩]
def uG:AFn:=⟨(.seq (.region zjW false [3,4,5]) (.seq (.seq (.region zji false [3,4,5,11]) (.cond (.slot 11) (.seq (.region zjb false [6]) .ret) .skip)) (.seq (.seq (.region ziS false [3,4,5,13]) (.block 0 (.seq (.region zjm false [3,4,5,13,14]) (.cond (.slot 14) (.seq (.region zj5 false [6]) .ret) (.seq (.region zjf false [3,5,13,17]) (.cond (.slot 17) (.seq (.region ziQ false [6]) .ret) (.seq (.region ziX false [3,20]) (.cond (.slot 20) (.seq (.region zjO false [6]) .ret) .skip)))))))) (.seq (.region zdg false [6]) .ret)))),[.slot 6]⟩
def zfJ:List zb:=[⟨some 4,none,.box 33 (.slot 0)⟩,
 ⟨some 7,none,.box 4 (.slot 3)⟩,
 ⟨some 8,none,.alloc (zL)⟩,
 ⟨some 9,none,.mov (.const (.int .i64 0))⟩]
def zhU:List zb:=[⟨some 13,none,.load true 33 (.slot 4)⟩,
 ⟨some 14,none,.call .frz jM [(.slot 13)]⟩,
 ⟨some 15,none,.not (.slot 14)⟩]
def zh2:List zb:=[⟨some 16,none,.build (zL) []⟩,
 ⟨none,none,.store true 33 (.slot 8) (.slot 16)⟩,
 ⟨some 9,none,.mov (.const (.int .i64 2))⟩]
def zfp:List zb:=[⟨some 18,none,.faddr 0 (.slot 4)⟩,
 ⟨some 19,none,.load false 1 (.slot 18)⟩,
 ⟨some 20,none,.mov (.slot 1)⟩,
 ⟨some 21,none,.call .frz jk [(.slot 19),(.slot 20)]⟩,
 ⟨some 17,none,.mov (.slot 21)⟩,
 ⟨some 22,none,.extract 0 (.slot 17)⟩,
 ⟨some 23,none,.extract 1 (.slot 17)⟩,
 ⟨some 10,none,.alloc [.int .i64 0,.int .i64 0]⟩,
 ⟨none,none,.store true 2 (.slot 10) (.slot 22)⟩,
 ⟨some 11,none,.mov (.slot 23)⟩]
def zfH:List zb:=[⟨some 24,none,.mov (.slot 11)⟩,
 ⟨some 25,none,.not (.slot 24)⟩]
def zgP:List zb:=[⟨some 26,none,.build (zL) []⟩,
 ⟨none,none,.store true 33 (.slot 8) (.slot 26)⟩,
 ⟨some 9,none,.mov (.const (.int .i64 6))⟩]
def ze6:List zb:=[⟨some 27,none,.mov (.slot 1)⟩,
 ⟨some 28,none,.faddr 24 (.slot 4)⟩,
 ⟨some 29,none,.idxarr 1 9 (.slot 28) (.slot 27)⟩,
 ⟨some 30,none,.load false 1 (.slot 29)⟩,
 ⟨some 31,none,.bin .geq (.slot 30) (.const (.int .i64 1073741824))⟩,
 ⟨some 32,none,.mov (.slot 31)⟩,
 ⟨some 33,some (32,false),.mov (.slot 2)⟩,
 ⟨some 34,some (32,false),.mov (.slot 1)⟩,
 ⟨some 35,some (32,false),.faddr 24 (.slot 4)⟩,
 ⟨some 36,some (32,false),.idxarr 1 9 (.slot 35) (.slot 34)⟩,
 ⟨some 37,some (32,false),.load false 1 (.slot 36)⟩,
 ⟨some 38,some (32,false),.bin .add (.slot 37) (.const (.int .i64 1))⟩,
 ⟨some 39,some (32,false),.bin .neq (.slot 33) (.slot 38)⟩,
 ⟨some 40,none,.pick (.slot 32) (.const (.bool true)) (.slot 39)⟩]
def zh1:List zb:=[⟨some 41,none,.build (zL) []⟩,
 ⟨none,none,.store true 33 (.slot 8) (.slot 41)⟩,
 ⟨some 9,none,.mov (.const (.int .i64 300))⟩]
def zfm:List zb:=[⟨some 42,none,.mov (.slot 1)⟩,
 ⟨some 43,none,.mov (.slot 2)⟩,
 ⟨some 44,none,.load true 4 (.slot 7)⟩,
 ⟨some 45,none,.call .inl TD [(.slot 42),(.slot 43),(.slot 44)]⟩,
 ⟨some 12,none,.mov (.slot 45)⟩]
def ze5:List zb:=[⟨some 46,none,.mov (.slot 12)⟩,
 ⟨some 47,none,.isnil .kf false (.slot 46)⟩]
def za3:List zb:=[⟨some 48,none,.build (zL) []⟩,
 ⟨none,none,.store true 33 (.slot 8) (.slot 48)⟩,
 ⟨some 9,none,.mov (.const (.int .i64 2))⟩]
def zaJ:List zb:=[⟨some 49,none,.load true 33 (.slot 4)⟩,
 ⟨some 50,none,.call .frz jP [(.slot 49)]⟩,
 ⟨none,none,.store true 33 (.slot 4) (.slot 50)⟩]
def zbq:List zb:=[⟨some 51,none,.mov (.slot 1)⟩,
 ⟨some 52,none,.mov (.slot 2)⟩,
 ⟨some 53,none,.faddr 24 (.slot 4)⟩,
 ⟨some 54,none,.idxarr 1 9 (.slot 53) (.slot 51)⟩,
 ⟨none,none,.store false 1 (.slot 54) (.slot 52)⟩]
def za2:List zb:=[⟨some 55,none,.mov (.slot 12)⟩,
 ⟨some 56,none,.load true 33 (.slot 4)⟩,
 ⟨some 57,none,.callv (.slot 55) [(.slot 56)]⟩,
 ⟨none,none,.store true 33 (.slot 8) (.slot 57)⟩,
 ⟨some 9,none,.mov (.const (.int .i64 0))⟩]
def uf:AFn:=⟨(.seq (.region zfJ false [1,2,4,7,8]) (.seq (.seq (.region zhU false [1,2,4,7,8,15]) (.cond (.slot 15) (.seq (.region zh2 false [8,9]) .ret) .skip)) (.seq (.seq (.region zfp false [1,2,4,7,8,11]) (.seq (.region zfH false [1,2,4,7,8,25]) (.cond (.slot 25) (.seq (.region zgP false [8,9]) .ret) .skip))) (.seq (.seq (.region ze6 false [1,2,4,7,8,40]) (.cond (.slot 40) (.seq (.region zh1 false [8,9]) .ret) .skip)) (.seq (.region zfm false [1,2,4,8,12]) (.seq (.seq (.region ze5 false [1,2,4,8,12,47]) (.cond (.slot 47) (.seq (.region za3 false [8,9]) .ret) .skip)) (.seq (.region zaJ false [1,2,4,8,12]) (.seq (.region zbq false [4,8,12]) (.seq (.region za2 false [8,9]) .ret))))))))),[.cell 8 true 33,.slot 9]⟩
def zyW:List zb:=[⟨some 2,none,.box 33 (.slot 0)⟩,
 ⟨some 4,none,.alloc (zL)⟩,
 ⟨some 5,none,.mov (.const (.data false 3 [] true))⟩]
def zxd:List zb:=[⟨some 7,none,.load true 33 (.slot 2)⟩,
 ⟨some 8,none,.call .frz jM [(.slot 7)]⟩,
 ⟨some 9,none,.not (.slot 8)⟩]
def zwO:List zb:=[⟨some 10,none,.build (zL) []⟩,
 ⟨none,none,.store true 33 (.slot 4) (.slot 10)⟩,
 ⟨some 5,none,.mov (.const (.data false 3 [] true))⟩]
def zAN:List zb:=[⟨some 11,none,.load true 33 (.slot 2)⟩,
 ⟨some 12,none,.call .frz jP [(.slot 11)]⟩,
 ⟨none,none,.store true 33 (.slot 2) (.slot 12)⟩]
def zyG:List zb:=[⟨some 6,none,.mov (.const (.data false 3 [] true))⟩]
def zyZ:List zb:=[⟨some 14,none,.faddr 3 (.slot 2)⟩,
 ⟨some 15,none,.load false 1 (.slot 14)⟩,
 ⟨some 16,none,.mov (.slot 1)⟩,
 ⟨some 17,none,.call .frz Lr [(.slot 15),(.slot 16)]⟩,
 ⟨some 13,none,.mov (.slot 17)⟩,
 ⟨some 18,none,.extract 0 (.slot 13)⟩,
 ⟨some 19,none,.extract 1 (.slot 13)⟩,
 ⟨some 20,none,.faddr 3 (.slot 2)⟩,
 ⟨none,none,.store false 1 (.slot 20) (.slot 18)⟩,
 ⟨some 6,none,.mov (.slot 19)⟩]
def zxp:List zb:=[⟨some 21,none,.load true 33 (.slot 2)⟩,
 ⟨some 22,none,.mov (.slot 6)⟩,
 ⟨none,none,.store true 33 (.slot 4) (.slot 21)⟩,
 ⟨some 5,none,.mov (.slot 22)⟩]
def o7:AFn:=⟨(.seq (.region zyW false [1,2,4]) (.seq (.seq (.region zxd false [1,2,4,9]) (.cond (.slot 9) (.seq (.region zwO false [4,5]) .ret) .skip)) (.seq (.region zAN false [1,2,4]) (.seq (.region zyG false [1,2,4]) (.seq (.region zyZ false [2,4,6]) (.seq (.region zxp false [4,5]) .ret)))))),[.cell 4 true 33,.slot 5]⟩
def zGw:List zb:=[⟨some 0,none,.alloc (zL)⟩]
def zGn:List zb:=[⟨some 1,none,.build (zL) [(22,1,(.const (.int .i64 24))),(23,1,(.const (.int .i64 40)))]⟩,
 ⟨none,none,.store true 33 (.slot 0) (.slot 1)⟩]
def Hm:AFn:=⟨(.seq (.region zGw false [0]) (.seq (.region zGn false [0]) .ret)),[.cell 0 true 33]⟩
def zHE:List zb:=[⟨some 0,none,.mov (.const (.bool false))⟩]
def zHM:List zb:=[⟨some 19,none,.build [.int .i64 0,.data false 1 [] true,.int .i64 0,.int .i64 0] [(0,1,(.const (.int .i64 3)))]⟩,
 ⟨some 1,none,.alloc [.int .i64 0,.data false 1 [] true,.int .i64 0,.int .i64 0]⟩,
 ⟨none,none,.store true 4 (.slot 1) (.slot 19)⟩]
def zHB:List zb:=[⟨some 21,none,.call .frz zet []⟩,
 ⟨some 22,none,.call .frz ZG [(.slot 21),(.const (.int .i64 3)),(.const (.int .i64 2))]⟩,
 ⟨some 20,none,.mov (.slot 22)⟩,
 ⟨some 23,none,.extract 0 (.slot 20)⟩,
 ⟨some 24,none,.extract 1 (.slot 20)⟩,
 ⟨some 2,none,.alloc (zL)⟩,
 ⟨none,none,.store true 33 (.slot 2) (.slot 23)⟩,
 ⟨some 3,none,.mov (.slot 24)⟩]
def zHP:List zb:=[⟨some 26,none,.load true 33 (.slot 2)⟩,
 ⟨some 27,none,.load true 4 (.slot 1)⟩,
 ⟨some 28,none,.call .frz vI [(.slot 26),(.const (.int .i64 3)),(.const (.int .i64 1)),(.slot 27)]⟩,
 ⟨some 25,none,.mov (.slot 28)⟩,
 ⟨some 29,none,.extract 0 (.slot 25)⟩,
 ⟨some 30,none,.extract 1 (.slot 25)⟩,
 ⟨none,none,.store true 33 (.slot 2) (.slot 29)⟩,
 ⟨some 4,none,.mov (.slot 30)⟩]
def zHK:List zb:=[⟨some 32,none,.load true 33 (.slot 2)⟩,
 ⟨some 33,none,.mkslice 1 2 [.int .u8 0] [(0,(.const (.int .u8 97))),(1,(.const (.int .u8 98)))]⟩,
 ⟨some 34,none,.mark (.slot 33)⟩,
 ⟨some 35,none,.build [.int .i64 0,.data false 1 [] true,.int .i64 0,.int .i64 0] [(0,1,(.const (.int .i64 1))),(1,1,(.slot 34))]⟩,
 ⟨some 36,none,.call .frz vI [(.slot 32),(.const (.int .i64 3)),(.const (.int .i64 2)),(.slot 35)]⟩,
 ⟨some 31,none,.mov (.slot 36)⟩,
 ⟨some 37,none,.extract 0 (.slot 31)⟩,
 ⟨some 38,none,.extract 1 (.slot 31)⟩,
 ⟨none,none,.store true 33 (.slot 2) (.slot 37)⟩,
 ⟨some 5,none,.mov (.slot 38)⟩]
def zHQ:List zb:=[⟨some 40,none,.load true 33 (.slot 2)⟩,
 ⟨some 41,none,.call .frz ZG [(.slot 40),(.const (.int .i64 5)),(.const (.int .i64 2))]⟩,
 ⟨some 39,none,.mov (.slot 41)⟩,
 ⟨some 42,none,.extract 0 (.slot 39)⟩,
 ⟨some 43,none,.extract 1 (.slot 39)⟩,
 ⟨none,none,.store true 33 (.slot 2) (.slot 42)⟩,
 ⟨some 6,none,.mov (.slot 43)⟩]
def zHH:List zb:=[⟨some 45,none,.load true 33 (.slot 2)⟩,
 ⟨some 46,none,.mkslice 1 1 [.int .u8 0] [(0,(.const (.int .u8 120)))]⟩,
 ⟨some 47,none,.mark (.slot 46)⟩,
 ⟨some 48,none,.build [.int .i64 0,.data false 1 [] true,.int .i64 0,.int .i64 0] [(0,1,(.const (.int .i64 1))),(1,1,(.slot 47))]⟩,
 ⟨some 49,none,.call .frz vI [(.slot 45),(.const (.int .i64 5)),(.const (.int .i64 1)),(.slot 48)]⟩,
 ⟨some 44,none,.mov (.slot 49)⟩,
 ⟨some 50,none,.extract 0 (.slot 44)⟩,
 ⟨some 51,none,.extract 1 (.slot 44)⟩,
 ⟨none,none,.store true 33 (.slot 2) (.slot 50)⟩,
 ⟨some 7,none,.mov (.slot 51)⟩]
def zHR:List zb:=[⟨some 53,none,.load true 33 (.slot 2)⟩,
 ⟨some 54,none,.load true 4 (.slot 1)⟩,
 ⟨some 55,none,.call .frz vI [(.slot 53),(.const (.int .i64 5)),(.const (.int .i64 1)),(.slot 54)]⟩,
 ⟨some 52,none,.mov (.slot 55)⟩,
 ⟨some 56,none,.extract 0 (.slot 52)⟩,
 ⟨some 57,none,.extract 1 (.slot 52)⟩,
 ⟨some 8,none,.alloc (zL)⟩,
 ⟨none,none,.store true 33 (.slot 8) (.slot 56)⟩,
 ⟨some 9,none,.mov (.slot 57)⟩]
def zHC:List zb:=[⟨some 59,none,.load true 33 (.slot 2)⟩,
 ⟨some 60,none,.load true 4 (.slot 1)⟩,
 ⟨some 61,none,.call .frz vI [(.slot 59),(.const (.int .i64 9)),(.const (.int .i64 1)),(.slot 60)]⟩,
 ⟨some 58,none,.mov (.slot 61)⟩,
 ⟨some 62,none,.extract 0 (.slot 58)⟩,
 ⟨some 63,none,.extract 1 (.slot 58)⟩,
 ⟨some 10,none,.alloc (zL)⟩,
 ⟨none,none,.store true 33 (.slot 10) (.slot 62)⟩,
 ⟨some 11,none,.mov (.slot 63)⟩]
def zHV:List zb:=[⟨some 65,none,.load true 33 (.slot 2)⟩,
 ⟨some 66,none,.load true 4 (.slot 1)⟩,
 ⟨some 67,none,.call .frz vI [(.slot 65),(.const (.int .i64 5)),(.const (.int .i64 2)),(.slot 66)]⟩,
 ⟨some 64,none,.mov (.slot 67)⟩,
 ⟨some 68,none,.extract 0 (.slot 64)⟩,
 ⟨some 69,none,.extract 1 (.slot 64)⟩,
 ⟨none,none,.store true 33 (.slot 2) (.slot 68)⟩,
 ⟨some 12,none,.mov (.slot 69)⟩]
def zG0:List zb:=[⟨some 71,none,.load true 33 (.slot 2)⟩,
 ⟨some 72,none,.build [.int .i64 0,.data false 1 [] true,.int .i64 0,.int .i64 0] [(0,1,(.const (.int .i64 2))),(2,1,(.const (.int .i64 10))),(3,1,(.const (.int .i64 20)))]⟩,
 ⟨some 73,none,.call .frz vI [(.slot 71),(.const (.int .i64 3)),(.const (.int .i64 3)),(.slot 72)]⟩,
 ⟨some 70,none,.mov (.slot 73)⟩,
 ⟨some 74,none,.extract 0 (.slot 70)⟩,
 ⟨some 75,none,.extract 1 (.slot 70)⟩,
 ⟨none,none,.store true 33 (.slot 2) (.slot 74)⟩,
 ⟨some 13,none,.mov (.slot 75)⟩]
def zHm:List zb:=[⟨some 77,none,.load true 33 (.slot 2)⟩,
 ⟨some 78,none,.call .frz ZH [(.slot 77),(.const (.int .i64 3)),(.const (.int .i64 1))]⟩,
 ⟨some 76,none,.mov (.slot 78)⟩,
 ⟨some 79,none,.extract 0 (.slot 76)⟩,
 ⟨some 80,none,.extract 1 (.slot 76)⟩,
 ⟨none,none,.store true 33 (.slot 2) (.slot 79)⟩,
 ⟨some 14,none,.mov (.slot 80)⟩]
def zGV:List zb:=[⟨some 82,none,.load true 33 (.slot 2)⟩,
 ⟨some 83,none,.call .frz YI [(.slot 82),(.const (.int .i64 5))]⟩,
 ⟨some 81,none,.mov (.slot 83)⟩,
 ⟨some 84,none,.extract 0 (.slot 81)⟩,
 ⟨some 85,none,.extract 1 (.slot 81)⟩,
 ⟨some 15,none,.alloc (zL)⟩,
 ⟨none,none,.store true 33 (.slot 15) (.slot 84)⟩,
 ⟨some 16,none,.mov (.slot 85)⟩]
def zHs:List zb:=[⟨some 87,none,.load true 33 (.slot 15)⟩,
 ⟨some 88,none,.call .frz YD [(.slot 87),(.const (.int .i64 5))]⟩,
 ⟨some 86,none,.mov (.slot 88)⟩,
 ⟨some 89,none,.extract 0 (.slot 86)⟩,
 ⟨some 90,none,.extract 1 (.slot 86)⟩,
 ⟨some 17,none,.alloc (zL)⟩,
 ⟨none,none,.store true 33 (.slot 17) (.slot 89)⟩,
 ⟨some 18,none,.mov (.slot 90)⟩]
def zHb:List zb:=⟨some 91,none,.mov (.slot 3)⟩::
 ⟨some 92,none,.bin .neq (.slot 91) (.const (.int .i64 0))⟩::
 ⟨some 93,none,.mov (.slot 92)⟩::
 ⟨some 94,some (93,false),.mov (.slot 4)⟩::
 ⟨some 95,some (93,false),.bin .neq (.slot 94) (.const (.int .i64 0))⟩::
 ⟨some 96,none,.pick (.slot 93) (.const (.bool true)) (.slot 95)⟩::
 ⟨some 97,none,.mov (.slot 96)⟩::
 ⟨some 98,some (97,false),.mov (.slot 5)⟩::
 ⟨some 99,some (97,false),.bin .neq (.slot 98) (.const (.int .i64 0))⟩::
 ⟨some 100,none,.pick (.slot 97) (.const (.bool true)) (.slot 99)⟩::
 ⟨some 101,none,.mov (.slot 100)⟩::
 ⟨some 102,some (101,false),.mov (.slot 6)⟩::
 ⟨some 103,some (101,false),.bin .neq (.slot 102) (.const (.int .i64 0))⟩::
 ⟨some 104,none,.pick (.slot 101) (.const (.bool true)) (.slot 103)⟩::
 ⟨some 105,none,.mov (.slot 104)⟩::
 ⟨some 106,some (105,false),.mov (.slot 7)⟩::
 ⟨some 107,some (105,false),.bin .neq (.slot 106) (.const (.int .i64 0))⟩::
 ⟨some 108,none,.pick (.slot 105) (.const (.bool true)) (.slot 107)⟩::
 ⟨some 109,none,.mov (.slot 108)⟩::
 ⟨some 110,some (109,false),.mov (.slot 12)⟩::
 ⟨some 111,some (109,false),.bin .neq (.slot 110) (.const (.int .i64 0))⟩::
 ⟨some 112,none,.pick (.slot 109) (.const (.bool true)) (.slot 111)⟩::
 ⟨some 113,none,.mov (.slot 112)⟩::
 ⟨some 114,some (113,false),.mov (.slot 13)⟩::
 ⟨some 115,some (113,false),.bin .neq (.slot 114) (.const (.int .i64 0))⟩::
 ⟨some 116,none,.pick (.slot 113) (.const (.bool true)) (.slot 115)⟩::
 ⟨some 117,none,.mov (.slot 116)⟩::
 ⟨some 118,some (117,false),.mov (.slot 14)⟩::
 ⟨some 119,some (117,false),.bin .neq (.slot 118) (.const (.int .i64 0))⟩::
 ⟨some 120,none,.pick (.slot 117) (.const (.bool true)) (.slot 119)⟩::
 ⟨some 121,none,.mov (.slot 120)⟩::
 ⟨some 122,some (121,false),.mov (.slot 18)⟩::
 ⟨some 123,some (121,false),.bin .neq (.slot 122) (.const (.int .i64 0))⟩::
 ⟨some 124,none,.pick (.slot 121) (.const (.bool true)) (.slot 123)⟩::
 ⟨some 125,none,.mov (.slot 124)⟩::
 ⟨some 126,some (125,false),.mov (.slot 9)⟩::
 ⟨some 127,some (125,false),.bin .neq (.slot 126) (.const (.int .i64 300))⟩::
 ⟨some 128,none,.pick (.slot 125) (.const (.bool true)) (.slot 127)⟩::
 ⟨some 129,none,.mov (.slot 128)⟩::
 ⟨some 130,some (129,false),.mov (.slot 11)⟩::
 ⟨some 131,some (129,false),.bin .neq (.slot 130) (.const (.int .i64 6))⟩::
 ⟨some 132,none,.pick (.slot 129) (.const (.bool true)) (.slot 131)⟩::[]
def zHa:List zb:=[⟨some 0,none,.mov (.const (.bool false))⟩]
def zGv:List zb:=⟨some 133,none,.faddr 22 (.slot 2)⟩::
 ⟨some 134,none,.load false 1 (.slot 133)⟩::
 ⟨some 135,none,.bin .eql (.slot 134) (.const (.int .i64 10))⟩::
 ⟨some 136,none,.mov (.slot 135)⟩::
 ⟨some 137,some (136,true),.faddr 23 (.slot 2)⟩::
 ⟨some 138,some (136,true),.load false 1 (.slot 137)⟩::
 ⟨some 139,some (136,true),.bin .eql (.slot 138) (.const (.int .i64 20))⟩::
 ⟨some 140,none,.pick (.slot 136) (.slot 139) (.const (.bool false))⟩::
 ⟨some 141,none,.mov (.slot 140)⟩::
 ⟨some 142,some (141,true),.faddr 1 (.slot 2)⟩::
 ⟨some 143,some (141,true),.faddr 0 (.slot 142)⟩::
 ⟨some 144,some (141,true),.load false 1 (.slot 143)⟩::
 ⟨some 145,some (141,true),.bin .eql (.slot 144) (.const (.int .i64 5))⟩::
 ⟨some 146,none,.pick (.slot 141) (.slot 145) (.const (.bool false))⟩::
 ⟨some 147,none,.mov (.slot 146)⟩::
 ⟨some 148,some (147,true),.mov (.slot 16)⟩::
 ⟨some 149,some (147,true),.len false (.slot 148)⟩::
 ⟨some 150,some (147,true),.bin .eql (.slot 149) (.const (.int .i64 1))⟩::
 ⟨some 151,none,.pick (.slot 147) (.slot 150) (.const (.bool false))⟩::
 ⟨some 152,none,.mov (.slot 151)⟩::
 ⟨some 153,some (152,true),.mov (.slot 16)⟩::
 ⟨some 154,some (152,true),.idx 3 (.slot 153) (.const (.int .i64 0))⟩::
 ⟨some 155,some (152,true),.faddr 2 (.slot 154)⟩::
 ⟨some 156,some (152,true),.load false 1 (.slot 155)⟩::
 ⟨some 157,some (152,true),.bstr (.slot 156)⟩::
 ⟨some 158,some (152,true),.eq false [.ks] false (.slot 157) (.const (.str ⟨#[97,98]⟩))⟩::
 ⟨some 159,none,.pick (.slot 152) (.slot 158) (.const (.bool false))⟩::
 ⟨some 160,none,.mov (.slot 159)⟩::
 ⟨some 161,some (160,true),.mov (.slot 16)⟩::
 ⟨some 162,some (160,true),.idx 3 (.slot 161) (.const (.int .i64 0))⟩::
 ⟨some 163,some (160,true),.faddr 0 (.slot 162)⟩::
 ⟨some 164,some (160,true),.load false 1 (.slot 163)⟩::
 ⟨some 165,some (160,true),.bin .eql (.slot 164) (.const (.int .i64 3))⟩::
 ⟨some 166,none,.pick (.slot 160) (.slot 165) (.const (.bool false))⟩::
 ⟨some 167,none,.mov (.slot 166)⟩::
 ⟨some 168,some (167,true),.faddr 1 (.slot 17)⟩::
 ⟨some 169,some (167,true),.faddr 0 (.slot 168)⟩::
 ⟨some 170,some (167,true),.load false 1 (.slot 169)⟩::
 ⟨some 171,some (167,true),.bin .eql (.slot 170) (.const (.int .i64 0))⟩::
 ⟨some 172,none,.pick (.slot 167) (.slot 171) (.const (.bool false))⟩::
 ⟨some 173,none,.mov (.slot 172)⟩::
 ⟨some 174,some (173,true),.faddr 3 (.slot 17)⟩::
 ⟨some 175,some (173,true),.load false 1 (.slot 174)⟩::
 ⟨some 176,some (173,true),.len false (.slot 175)⟩::
 ⟨some 177,some (173,true),.bin .eql (.slot 176) (.const (.int .i64 0))⟩::
 ⟨some 178,none,.pick (.slot 173) (.slot 177) (.const (.bool false))⟩::
 ⟨some 0,none,.mov (.slot 178)⟩::[]
def zay:AFn:=⟨(.seq (.region zHE false []) (.seq (.region zHM false [1]) (.seq (.region zHB false [1,2,3]) (.seq (.region zHP false [1,2,3,4]) (.seq (.region zHK false [1,2,3,4,5]) (.seq (.region zHQ false [1,2,3,4,5,6]) (.seq (.region zHH false [1,2,3,4,5,6,7]) (.seq (.region zHR false [1,2,3,4,5,6,7,9]) (.seq (.region zHC false [1,2,3,4,5,6,7,9,11]) (.seq (.region zHV false [2,3,4,5,6,7,9,11,12]) (.seq (.region zG0 false [2,3,4,5,6,7,9,11,12,13]) (.seq (.region zHm false [2,3,4,5,6,7,9,11,12,13,14]) (.seq (.region zGV false [2,3,4,5,6,7,9,11,12,13,14,15,16]) (.seq (.region zHs false [2,3,4,5,6,7,9,11,12,13,14,16,17,18]) (.seq (.seq (.region zHb false [2,16,17,132]) (.cond (.slot 132) (.seq (.region zHa false [0]) .ret) .skip)) (.seq (.region zGv false [0]) .ret)))))))))))))))),[.slot 0]⟩
def zvy:List zb:=[⟨some 1,none,.box 33 (.slot 0)⟩,
 ⟨some 2,none,.mov (.const (.bool false))⟩]
def ztP:List zb:=[⟨some 4,none,.faddr 0 (.slot 1)⟩,
 ⟨some 5,none,.load false 1 (.slot 4)⟩,
 ⟨some 6,none,.len false (.slot 5)⟩,
 ⟨some 7,none,.bin .gtr (.slot 6) (.const (.int .i64 50))⟩,
 ⟨some 8,none,.mov (.slot 7)⟩,
 ⟨some 9,some (8,false),.faddr 1 (.slot 1)⟩,
 ⟨some 10,some (8,false),.faddr 1 (.slot 9)⟩,
 ⟨some 11,some (8,false),.load false 1 (.slot 10)⟩,
 ⟨some 12,some (8,false),.len false (.slot 11)⟩,
 ⟨some 13,some (8,false),.bin .gtr (.slot 12) (.const (.int .i64 50))⟩,
 ⟨some 14,none,.pick (.slot 8) (.const (.bool true)) (.slot 13)⟩,
 ⟨some 15,none,.mov (.slot 14)⟩,
 ⟨some 16,some (15,false),.faddr 3 (.slot 1)⟩,
 ⟨some 17,some (15,false),.load false 1 (.slot 16)⟩,
 ⟨some 18,some (15,false),.len false (.slot 17)⟩,
 ⟨some 19,some (15,false),.bin .gtr (.slot 18) (.const (.int .i64 80))⟩,
 ⟨some 20,none,.pick (.slot 15) (.const (.bool true)) (.slot 19)⟩]
def zup:List zb:=[⟨some 2,none,.mov (.const (.bool true))⟩]
def zuN:List zb:=[⟨some 3,none,.mov (.const (.int .i64 0))⟩]
def zCp:List zb:=[⟨some 21,none,.mov (.slot 3)⟩,
 ⟨some 22,none,.faddr 3 (.slot 1)⟩,
 ⟨some 23,none,.load false 1 (.slot 22)⟩,
 ⟨some 24,none,.len false (.slot 23)⟩,
 ⟨some 25,none,.bin .lss (.slot 21) (.slot 24)⟩]
def zCb:List zb:=[⟨some 28,none,.faddr 3 (.slot 1)⟩,
 ⟨some 29,none,.load false 1 (.slot 28)⟩,
 ⟨some 30,none,.mov (.slot 3)⟩,
 ⟨some 31,none,.idx 3 (.slot 29) (.slot 30)⟩,
 ⟨some 32,none,.faddr 2 (.slot 31)⟩,
 ⟨some 33,none,.load false 1 (.slot 32)⟩,
 ⟨some 34,none,.len false (.slot 33)⟩,
 ⟨some 35,none,.bin .gtr (.slot 34) (.const (.int .i64 100))⟩]
def zCA:List zb:=[⟨some 2,none,.mov (.const (.bool true))⟩]
def zCd:List zb:=[⟨some 26,none,.mov (.slot 3)⟩,
 ⟨some 27,none,.bin .add (.slot 26) (.const (.int .i64 1))⟩,
 ⟨some 3,none,.mov (.slot 27)⟩]
def VT:zt:=(.seq (.seq (.region zCp false [1,3,25]) (.cond (.slot 25) .skip (.exit 0))) (.seq (.block 1 (.seq (.region zCb false [1,3,35]) (.cond (.slot 35) (.seq (.region zCA false [2]) .ret) .skip))) (.region zCd false [1,3])))
def gU:zt:=.loop [1,3] VT
def ztQ:List zb:=[⟨some 2,none,.mov (.const (.bool false))⟩]
def ji:AFn:=⟨(.seq (.region zvy false [1]) (.seq (.seq (.region ztP false [1,20]) (.cond (.slot 20) (.seq (.region zup false [2]) .ret) .skip)) (.seq (.seq (.region zuN false [1,3]) (.block 0 gU)) (.seq (.region ztQ false [2]) .ret)))),[.slot 2]⟩
def zxj:List zb:=[⟨some 2,none,.mov (.const (.data false 3 [] true))⟩]
def zA7:List zb:=[⟨some 3,none,.mknil 3⟩]
def zwH:List zb:=[⟨some 4,none,.mov (.const (.int .i64 0))⟩]
def zyC:List zb:=[⟨some 6,none,.mov (.slot 4)⟩,
 ⟨some 7,none,.mov (.slot 0)⟩,
 ⟨some 8,none,.len false (.slot 7)⟩,
 ⟨some 9,none,.bin .lss (.slot 6) (.slot 8)⟩]
def zzk:List zb:=[⟨some 12,none,.mov (.slot 0)⟩,
 ⟨some 13,none,.mov (.slot 4)⟩,
 ⟨some 14,none,.idx 3 (.slot 12) (.slot 13)⟩,
 ⟨some 15,none,.load true 3 (.slot 14)⟩,
 ⟨some 5,none,.alloc [.int .i64 0,.int .i64 0,.data false 1 [] true]⟩,
 ⟨none,none,.store true 3 (.slot 5) (.slot 15)⟩]
def zvX:List zb:=[⟨some 16,none,.mkdata 1 0 [.int .u8 0] []⟩,
 ⟨some 17,none,.faddr 2 (.slot 5)⟩,
 ⟨some 18,none,.load false 1 (.slot 17)⟩,
 ⟨some 19,none,.appendD 1 1 (.slot 16) (.slot 18)⟩,
 ⟨some 20,none,.faddr 2 (.slot 5)⟩,
 ⟨none,none,.store false 1 (.slot 20) (.slot 19)⟩]
def zxM:List zb:=[⟨some 21,none,.mov (.slot 3)⟩,
 ⟨some 22,none,.load true 3 (.slot 5)⟩,
 ⟨some 23,none,.mkslice 3 1 [.int .i64 0,.int .i64 0,.data false 1 [] true] [(0,(.slot 22))]⟩,
 ⟨some 24,none,.append 3 40 (.slot 21) (.slot 23)⟩,
 ⟨some 3,none,.mov (.slot 24)⟩]
def zBg:List zb:=[⟨some 10,none,.mov (.slot 4)⟩,
 ⟨some 11,none,.bin .add (.slot 10) (.const (.int .i64 1))⟩,
 ⟨some 4,none,.mov (.slot 11)⟩]
def RY:zt:=(.seq (.seq (.region zyC false [0,3,4,9]) (.cond (.slot 9) .skip (.exit 0))) (.seq (.block 1 (.seq (.region zzk false [0,3,4,5]) (.seq (.region zvX false [0,3,4,5]) (.region zxM false [0,3,4])))) (.region zBg false [0,3,4])))
def YE:zt:=.loop [0,3,4] RY
def zwc:List zb:=[⟨some 25,none,.mov (.slot 3)⟩,
 ⟨some 2,none,.mov (.slot 25)⟩]
def Ui:AFn:=⟨(.seq (.region zxj false [0]) (.seq (.region zA7 false [0,3]) (.seq (.seq (.region zwH false [0,3,4]) (.block 0 YE)) (.seq (.region zwc false [2]) .ret)))),[.slot 2]⟩
def zDm:List zb:=[⟨some 1,none,.box 33 (.slot 0)⟩,
 ⟨some 2,none,.alloc (zL)⟩]
def zDs:List zb:=[⟨some 3,none,.mkslice 2 0 [.int .i64 0,.int .i64 0] []⟩,
 ⟨some 4,none,.faddr 0 (.slot 1)⟩,
 ⟨some 5,none,.load false 1 (.slot 4)⟩,
 ⟨some 6,none,.append 2 16 (.slot 3) (.slot 5)⟩,
 ⟨some 7,none,.faddr 0 (.slot 1)⟩,
 ⟨none,none,.store false 1 (.slot 7) (.slot 6)⟩]
def zC9:List zb:=[⟨some 8,none,.mkslice 1 0 [.int .i64 0] []⟩,
 ⟨some 9,none,.faddr 1 (.slot 1)⟩,
 ⟨some 10,none,.faddr 1 (.slot 9)⟩,
 ⟨some 11,none,.load false 1 (.slot 10)⟩,
 ⟨some 12,none,.append 1 8 (.slot 8) (.slot 11)⟩,
 ⟨some 13,none,.faddr 1 (.slot 1)⟩,
 ⟨some 14,none,.faddr 1 (.slot 13)⟩,
 ⟨none,none,.store false 1 (.slot 14) (.slot 12)⟩]
def zD9:List zb:=[⟨some 15,none,.faddr 3 (.slot 1)⟩,
 ⟨some 16,none,.load false 1 (.slot 15)⟩,
 ⟨some 17,none,.call .frz SB [(.slot 16)]⟩,
 ⟨some 18,none,.faddr 3 (.slot 1)⟩,
 ⟨none,none,.store false 1 (.slot 18) (.slot 17)⟩]
def zC7:List zb:=[⟨some 19,none,.load true 33 (.slot 1)⟩,
 ⟨none,none,.store true 33 (.slot 2) (.slot 19)⟩]
def TW:AFn:=⟨(.seq (.region zDm false [1,2]) (.seq (.region zDs false [1,2]) (.seq (.region zC9 false [1,2]) (.seq (.region zD9 false [1,2]) (.seq (.region zC7 false [2]) .ret))))),[.cell 2 true 33]⟩
def zq6:List zb:=[⟨some 4,none,.mov (.const (.bool false))⟩]
def zsr:List zb:=[⟨some 6,none,.mov (.slot 0)⟩,
 ⟨some 7,none,.len false (.slot 6)⟩,
 ⟨some 8,none,.mov (.slot 1)⟩,
 ⟨some 9,none,.len false (.slot 8)⟩,
 ⟨some 10,none,.bin .neq (.slot 7) (.slot 9)⟩]
def zra:List zb:=[⟨some 4,none,.mov (.const (.bool false))⟩]
def ztk:List zb:=[⟨some 5,none,.mov (.const (.int .i64 0))⟩]
def zi2:List zb:=[⟨some 11,none,.mov (.slot 5)⟩,
 ⟨some 12,none,.mov (.slot 0)⟩,
 ⟨some 13,none,.len false (.slot 12)⟩,
 ⟨some 14,none,.bin .lss (.slot 11) (.slot 13)⟩]
def ziW:List zb:=⟨some 17,none,.mov (.slot 0)⟩::
 ⟨some 18,none,.mov (.slot 5)⟩::
 ⟨some 19,none,.idx 3 (.slot 17) (.slot 18)⟩::
 ⟨some 20,none,.faddr 0 (.slot 19)⟩::
 ⟨some 21,none,.load false 1 (.slot 20)⟩::
 ⟨some 22,none,.mov (.slot 1)⟩::
 ⟨some 23,none,.mov (.slot 5)⟩::
 ⟨some 24,none,.idx 3 (.slot 22) (.slot 23)⟩::
 ⟨some 25,none,.faddr 0 (.slot 24)⟩::
 ⟨some 26,none,.load false 1 (.slot 25)⟩::
 ⟨some 27,none,.bin .neq (.slot 21) (.slot 26)⟩::
 ⟨some 28,none,.mov (.slot 27)⟩::
 ⟨some 29,some (28,false),.mov (.slot 0)⟩::
 ⟨some 30,some (28,false),.mov (.slot 5)⟩::
 ⟨some 31,some (28,false),.idx 3 (.slot 29) (.slot 30)⟩::
 ⟨some 32,some (28,false),.faddr 1 (.slot 31)⟩::
 ⟨some 33,some (28,false),.load false 1 (.slot 32)⟩::
 ⟨some 34,some (28,false),.mov (.slot 1)⟩::
 ⟨some 35,some (28,false),.mov (.slot 5)⟩::
 ⟨some 36,some (28,false),.idx 3 (.slot 34) (.slot 35)⟩::
 ⟨some 37,some (28,false),.faddr 1 (.slot 36)⟩::
 ⟨some 38,some (28,false),.load false 1 (.slot 37)⟩::
 ⟨some 39,some (28,false),.bin .neq (.slot 33) (.slot 38)⟩::
 ⟨some 40,none,.pick (.slot 28) (.const (.bool true)) (.slot 39)⟩::
 ⟨some 41,none,.mov (.slot 40)⟩::
 ⟨some 42,some (41,false),.mov (.slot 0)⟩::
 ⟨some 43,some (41,false),.mov (.slot 5)⟩::
 ⟨some 44,some (41,false),.idx 3 (.slot 42) (.slot 43)⟩::
 ⟨some 45,some (41,false),.faddr 2 (.slot 44)⟩::
 ⟨some 46,some (41,false),.load false 1 (.slot 45)⟩::
 ⟨some 47,some (41,false),.bstr (.slot 46)⟩::
 ⟨some 48,some (41,false),.mov (.slot 1)⟩::
 ⟨some 49,some (41,false),.mov (.slot 5)⟩::
 ⟨some 50,some (41,false),.idx 3 (.slot 48) (.slot 49)⟩::
 ⟨some 51,some (41,false),.faddr 2 (.slot 50)⟩::
 ⟨some 52,some (41,false),.load false 1 (.slot 51)⟩::
 ⟨some 53,some (41,false),.bstr (.slot 52)⟩::
 ⟨some 54,some (41,false),.eq false [.ks] true (.slot 47) (.slot 53)⟩::
 ⟨some 55,none,.pick (.slot 41) (.const (.bool true)) (.slot 54)⟩::[]
def zjV:List zb:=[⟨some 4,none,.mov (.const (.bool false))⟩]
def ziO:List zb:=[⟨some 15,none,.mov (.slot 5)⟩,
 ⟨some 16,none,.bin .add (.slot 15) (.const (.int .i64 1))⟩,
 ⟨some 5,none,.mov (.slot 16)⟩]
def oW:zt:=(.seq (.seq (.region zi2 false [0,1,5,14]) (.cond (.slot 14) .skip (.exit 0))) (.seq (.block 1 (.seq (.region ziW true [0,1,5,55]) (.cond (.slot 55) (.seq (.region zjV false [4]) .ret) .skip))) (.region ziO false [0,1,5])))
def YJ:zt:=.loop [0,1,5] oW
def zrT:List zb:=[⟨some 4,none,.mov (.const (.bool true))⟩]
def ZY:AFn:=⟨(.seq (.region zq6 false [0,1]) (.seq (.seq (.region zsr false [0,1,10]) (.cond (.slot 10) (.seq (.region zra false [4]) .ret) .skip)) (.seq (.seq (.region ztk false [0,1,5]) (.block 0 YJ)) (.seq (.region zrT false [4]) .ret)))),[.slot 4]⟩
def zsP:List zb:=[⟨some 4,none,.mov (.const (.bool false))⟩]
def zsO:List zb:=[⟨some 6,none,.mov (.slot 0)⟩,
 ⟨some 7,none,.len false (.slot 6)⟩,
 ⟨some 8,none,.mov (.slot 1)⟩,
 ⟨some 9,none,.len false (.slot 8)⟩,
 ⟨some 10,none,.bin .neq (.slot 7) (.slot 9)⟩]
def zrP:List zb:=[⟨some 4,none,.mov (.const (.bool false))⟩]
def zr3:List zb:=[⟨some 5,none,.mov (.const (.int .i64 0))⟩]
def zm2:List zb:=[⟨some 11,none,.mov (.slot 5)⟩,
 ⟨some 12,none,.mov (.slot 0)⟩,
 ⟨some 13,none,.len false (.slot 12)⟩,
 ⟨some 14,none,.bin .lss (.slot 11) (.slot 13)⟩]
def znB:List zb:=[⟨some 17,none,.mov (.slot 0)⟩,
 ⟨some 18,none,.mov (.slot 5)⟩,
 ⟨some 19,none,.idx 2 (.slot 17) (.slot 18)⟩,
 ⟨some 20,none,.load true 2 (.slot 19)⟩,
 ⟨some 21,none,.mov (.slot 1)⟩,
 ⟨some 22,none,.mov (.slot 5)⟩,
 ⟨some 23,none,.idx 2 (.slot 21) (.slot 22)⟩,
 ⟨some 24,none,.load true 2 (.slot 23)⟩,
 ⟨some 25,none,.eq true [.ki,.ki] true (.slot 20) (.slot 24)⟩]
def zom:List zb:=[⟨some 4,none,.mov (.const (.bool false))⟩]
def zmA:List zb:=[⟨some 15,none,.mov (.slot 5)⟩,
 ⟨some 16,none,.bin .add (.slot 15) (.const (.int .i64 1))⟩,
 ⟨some 5,none,.mov (.slot 16)⟩]
def YH:zt:=(.seq (.seq (.region zm2 false [0,1,5,14]) (.cond (.slot 14) .skip (.exit 0))) (.seq (.block 1 (.seq (.region znB true [0,1,5,25]) (.cond (.slot 25) (.seq (.region zom false [4]) .ret) .skip))) (.region zmA false [0,1,5])))
def YN:zt:=.loop [0,1,5] YH
def zsV:List zb:=[⟨some 4,none,.mov (.const (.bool true))⟩]
def Yl:AFn:=⟨(.seq (.region zsP false [0,1]) (.seq (.seq (.region zsO false [0,1,10]) (.cond (.slot 10) (.seq (.region zrP false [4]) .ret) .skip)) (.seq (.seq (.region zr3 false [0,1,5]) (.block 0 YN)) (.seq (.region zsV false [4]) .ret)))),[.slot 4]⟩
def zne:List zb:=[⟨some 2,none,.box 2 (.slot 0)⟩,
 ⟨some 3,none,.box 2 (.slot 1)⟩,
 ⟨some 4,none,.mov (.const (.bool false))⟩]
def znl:List zb:=[⟨some 6,none,.faddr 0 (.slot 2)⟩,
 ⟨some 7,none,.load false 1 (.slot 6)⟩,
 ⟨some 8,none,.faddr 0 (.slot 3)⟩,
 ⟨some 9,none,.load false 1 (.slot 8)⟩,
 ⟨some 10,none,.bin .neq (.slot 7) (.slot 9)⟩,
 ⟨some 11,none,.mov (.slot 10)⟩,
 ⟨some 12,some (11,false),.faddr 1 (.slot 2)⟩,
 ⟨some 13,some (11,false),.load false 1 (.slot 12)⟩,
 ⟨some 14,some (11,false),.len false (.slot 13)⟩,
 ⟨some 15,some (11,false),.faddr 1 (.slot 3)⟩,
 ⟨some 16,some (11,false),.load false 1 (.slot 15)⟩,
 ⟨some 17,some (11,false),.len false (.slot 16)⟩,
 ⟨some 18,some (11,false),.bin .neq (.slot 14) (.slot 17)⟩,
 ⟨some 19,none,.pick (.slot 11) (.const (.bool true)) (.slot 18)⟩]
def zl6:List zb:=[⟨some 4,none,.mov (.const (.bool false))⟩]
def zmV:List zb:=[⟨some 5,none,.mov (.const (.int .i64 0))⟩]
def zts:List zb:=[⟨some 20,none,.mov (.slot 5)⟩,
 ⟨some 21,none,.faddr 1 (.slot 2)⟩,
 ⟨some 22,none,.load false 1 (.slot 21)⟩,
 ⟨some 23,none,.len false (.slot 22)⟩,
 ⟨some 24,none,.bin .lss (.slot 20) (.slot 23)⟩]
def zrV:List zb:=[⟨some 27,none,.faddr 1 (.slot 2)⟩,
 ⟨some 28,none,.load false 1 (.slot 27)⟩,
 ⟨some 29,none,.mov (.slot 5)⟩,
 ⟨some 30,none,.idx 1 (.slot 28) (.slot 29)⟩,
 ⟨some 31,none,.load false 1 (.slot 30)⟩,
 ⟨some 32,none,.faddr 1 (.slot 3)⟩,
 ⟨some 33,none,.load false 1 (.slot 32)⟩,
 ⟨some 34,none,.mov (.slot 5)⟩,
 ⟨some 35,none,.idx 1 (.slot 33) (.slot 34)⟩,
 ⟨some 36,none,.load false 1 (.slot 35)⟩,
 ⟨some 37,none,.bin .neq (.slot 31) (.slot 36)⟩]
def zr5:List zb:=[⟨some 4,none,.mov (.const (.bool false))⟩]
def zsw:List zb:=[⟨some 25,none,.mov (.slot 5)⟩,
 ⟨some 26,none,.bin .add (.slot 25) (.const (.int .i64 1))⟩,
 ⟨some 5,none,.mov (.slot 26)⟩]
def UX:zt:=(.seq (.seq (.region zts false [2,3,5,24]) (.cond (.slot 24) .skip (.exit 0))) (.seq (.block 1 (.seq (.region zrV true [2,3,5,37]) (.cond (.slot 37) (.seq (.region zr5 false [4]) .ret) .skip))) (.region zsw false [2,3,5])))
def YB:zt:=.loop [2,3,5] UX
def zm4:List zb:=[⟨some 4,none,.mov (.const (.bool true))⟩]
def o9:AFn:=⟨(.seq (.region zne false [2,3]) (.seq (.seq (.region znl false [2,3,19]) (.cond (.slot 19) (.seq (.region zl6 false [4]) .ret) .skip)) (.seq (.seq (.region zmV false [2,3,5]) (.block 0 YB)) (.seq (.region zm4 false [4]) .ret)))),[.slot 4]⟩
def zdB:List zb:=[⟨some 2,none,.box 33 (.slot 0)⟩,
 ⟨some 3,none,.box 33 (.slot 1)⟩,
 ⟨some 4,none,.mov (.const (.bool false))⟩]
def zdy:List zb:=⟨some 5,none,.faddr 0 (.slot 2)⟩::
 ⟨some 6,none,.load false 1 (.slot 5)⟩::
 ⟨some 7,none,.faddr 0 (.slot 3)⟩::
 ⟨some 8,none,.load false 1 (.slot 7)⟩::
 ⟨some 9,none,.call .frz JW [(.slot 6),(.slot 8)]⟩::
 ⟨some 10,none,.mov (.slot 9)⟩::
 ⟨some 11,some (10,true),.faddr 1 (.slot 2)⟩::
 ⟨some 12,some (10,true),.load true 2 (.slot 11)⟩::
 ⟨some 13,some (10,true),.faddr 1 (.slot 3)⟩::
 ⟨some 14,some (10,true),.load true 2 (.slot 13)⟩::
 ⟨some 15,some (10,true),.call .frz IJ [(.slot 12),(.slot 14)]⟩::
 ⟨some 16,none,.pick (.slot 10) (.slot 15) (.const (.bool false))⟩::
 ⟨some 17,none,.mov (.slot 16)⟩::
 ⟨some 18,some (17,true),.faddr 3 (.slot 2)⟩::
 ⟨some 19,some (17,true),.load false 1 (.slot 18)⟩::
 ⟨some 20,some (17,true),.faddr 3 (.slot 3)⟩::
 ⟨some 21,some (17,true),.load false 1 (.slot 20)⟩::
 ⟨some 22,some (17,true),.call .frz VN [(.slot 19),(.slot 21)]⟩::
 ⟨some 23,none,.pick (.slot 17) (.slot 22) (.const (.bool false))⟩::
 ⟨some 24,none,.mov (.slot 23)⟩::
 ⟨some 25,some (24,true),.faddr 4 (.slot 2)⟩::
 ⟨some 26,some (24,true),.load true 18 (.slot 25)⟩::
 ⟨some 27,some (24,true),.faddr 4 (.slot 3)⟩::
 ⟨some 28,some (24,true),.load true 18 (.slot 27)⟩::
 ⟨some 29,some (24,true),.eq true [.ki,.ki,.ki,.ki,.ki,.ki,.ki,.ki,.ki,.ki,.ki,.ki,.ki,.ki,.ki,.ki,.ki,.ki] false (.slot 26) (.slot 28)⟩::
 ⟨some 30,none,.pick (.slot 24) (.slot 29) (.const (.bool false))⟩::
 ⟨some 31,none,.mov (.slot 30)⟩::
 ⟨some 32,some (31,true),.faddr 22 (.slot 2)⟩::
 ⟨some 33,some (31,true),.load false 1 (.slot 32)⟩::
 ⟨some 34,some (31,true),.faddr 22 (.slot 3)⟩::
 ⟨some 35,some (31,true),.load false 1 (.slot 34)⟩::
 ⟨some 36,some (31,true),.bin .eql (.slot 33) (.slot 35)⟩::
 ⟨some 37,none,.pick (.slot 31) (.slot 36) (.const (.bool false))⟩::
 ⟨some 38,none,.mov (.slot 37)⟩::
 ⟨some 39,some (38,true),.faddr 23 (.slot 2)⟩::
 ⟨some 40,some (38,true),.load false 1 (.slot 39)⟩::
 ⟨some 41,some (38,true),.faddr 23 (.slot 3)⟩::
 ⟨some 42,some (38,true),.load false 1 (.slot 41)⟩::
 ⟨some 43,some (38,true),.bin .eql (.slot 40) (.slot 42)⟩::
 ⟨some 44,none,.pick (.slot 38) (.slot 43) (.const (.bool false))⟩::
 ⟨some 45,none,.mov (.slot 44)⟩::
 ⟨some 46,some (45,true),.faddr 24 (.slot 2)⟩::
 ⟨some 47,some (45,true),.load true 9 (.slot 46)⟩::
 ⟨some 48,some (45,true),.faddr 24 (.slot 3)⟩::
 ⟨some 49,some (45,true),.load true 9 (.slot 48)⟩::
 ⟨some 50,some (45,true),.eq true [.ki,.ki,.ki,.ki,.ki,.ki,.ki,.ki,.ki] false (.slot 47) (.slot 49)⟩::
 ⟨some 51,none,.pick (.slot 45) (.slot 50) (.const (.bool false))⟩::
 ⟨some 4,none,.mov (.slot 51)⟩::[]
def uO:AFn:=⟨(.seq (.region zdB false [2,3]) (.seq (.region zdy false [4]) .ret)),[.slot 4]⟩
def zxC:List zb:=[⟨some 4,none,.mov (.const (.bool false))⟩]
def zzc:List zb:=[⟨some 7,none,.mov (.slot 1)⟩,
 ⟨some 8,none,.bin .eql (.slot 7) (.const (.int .i64 0))⟩,
 ⟨some 5,none,.mov (.slot 8)⟩]
def zBd:List zb:=[⟨some 6,none,.mov (.const (.int .i64 0))⟩]
def zbx:List zb:=[⟨some 9,none,.mov (.slot 6)⟩,
 ⟨some 10,none,.mov (.slot 0)⟩,
 ⟨some 11,none,.len false (.slot 10)⟩,
 ⟨some 12,none,.bin .lss (.slot 9) (.slot 11)⟩]
def zbV:List zb:=⟨some 15,none,.mov (.slot 0)⟩::
 ⟨some 16,none,.mov (.slot 6)⟩::
 ⟨some 17,none,.idx 2 (.slot 15) (.slot 16)⟩::
 ⟨some 18,none,.faddr 0 (.slot 17)⟩::
 ⟨some 19,none,.load false 1 (.slot 18)⟩::
 ⟨some 20,none,.bin .lss (.slot 19) (.const (.int .i64 1))⟩::
 ⟨some 21,none,.mov (.slot 20)⟩::
 ⟨some 22,some (21,false),.mov (.slot 0)⟩::
 ⟨some 23,some (21,false),.mov (.slot 6)⟩::
 ⟨some 24,some (21,false),.idx 2 (.slot 22) (.slot 23)⟩::
 ⟨some 25,some (21,false),.faddr 0 (.slot 24)⟩::
 ⟨some 26,some (21,false),.load false 1 (.slot 25)⟩::
 ⟨some 27,some (21,false),.bin .gtr (.slot 26) (.const (.int .i64 8))⟩::
 ⟨some 28,none,.pick (.slot 21) (.const (.bool true)) (.slot 27)⟩::
 ⟨some 29,none,.mov (.slot 28)⟩::
 ⟨some 30,some (29,false),.mov (.slot 0)⟩::
 ⟨some 31,some (29,false),.mov (.slot 6)⟩::
 ⟨some 32,some (29,false),.idx 2 (.slot 30) (.slot 31)⟩::
 ⟨some 33,some (29,false),.faddr 1 (.slot 32)⟩::
 ⟨some 34,some (29,false),.load false 1 (.slot 33)⟩::
 ⟨some 35,some (29,false),.bin .lss (.slot 34) (.const (.int .i64 1))⟩::
 ⟨some 36,none,.pick (.slot 29) (.const (.bool true)) (.slot 35)⟩::
 ⟨some 37,none,.mov (.slot 36)⟩::
 ⟨some 38,some (37,false),.mov (.slot 0)⟩::
 ⟨some 39,some (37,false),.mov (.slot 6)⟩::
 ⟨some 40,some (37,false),.idx 2 (.slot 38) (.slot 39)⟩::
 ⟨some 41,some (37,false),.faddr 1 (.slot 40)⟩::
 ⟨some 42,some (37,false),.load false 1 (.slot 41)⟩::
 ⟨some 43,some (37,false),.bin .gtr (.slot 42) (.const (.int .i64 2))⟩::
 ⟨some 44,none,.pick (.slot 37) (.const (.bool true)) (.slot 43)⟩::
 ⟨some 45,none,.mov (.slot 44)⟩::
 ⟨some 46,some (45,false),.mov (.slot 6)⟩::
 ⟨some 47,some (45,false),.bin .gtr (.slot 46) (.const (.int .i64 0))⟩::
 ⟨some 48,some (45,false),.mov (.slot 47)⟩::
 ⟨some 49,some (48,true),.mov (.slot 0)⟩::
 ⟨some 50,some (48,true),.mov (.slot 6)⟩::
 ⟨some 51,some (48,true),.idx 2 (.slot 49) (.slot 50)⟩::
 ⟨some 52,some (48,true),.faddr 0 (.slot 51)⟩::
 ⟨some 53,some (48,true),.load false 1 (.slot 52)⟩::
 ⟨some 54,some (48,true),.mov (.slot 0)⟩::
 ⟨some 55,some (48,true),.mov (.slot 6)⟩::
 ⟨some 56,some (48,true),.bin .sub (.slot 55) (.const (.int .i64 1))⟩::
 ⟨some 57,some (48,true),.idx 2 (.slot 54) (.slot 56)⟩::
 ⟨some 58,some (48,true),.faddr 0 (.slot 57)⟩::
 ⟨some 59,some (48,true),.load false 1 (.slot 58)⟩::
 ⟨some 60,some (48,true),.bin .leq (.slot 53) (.slot 59)⟩::
 ⟨some 61,some (45,false),.pick (.slot 48) (.slot 60) (.const (.bool false))⟩::
 ⟨some 62,none,.pick (.slot 45) (.const (.bool true)) (.slot 61)⟩::[]
def zbY:List zb:=[⟨some 4,none,.mov (.const (.bool false))⟩]
def zbw:List zb:=[⟨some 63,none,.mov (.slot 0)⟩,
 ⟨some 64,none,.mov (.slot 6)⟩,
 ⟨some 65,none,.idx 2 (.slot 63) (.slot 64)⟩,
 ⟨some 66,none,.faddr 0 (.slot 65)⟩,
 ⟨some 67,none,.load false 1 (.slot 66)⟩,
 ⟨some 68,none,.mov (.slot 1)⟩,
 ⟨some 69,none,.bin .eql (.slot 67) (.slot 68)⟩,
 ⟨some 70,none,.mov (.slot 69)⟩,
 ⟨some 71,some (70,true),.mov (.slot 0)⟩,
 ⟨some 72,some (70,true),.mov (.slot 6)⟩,
 ⟨some 73,some (70,true),.idx 2 (.slot 71) (.slot 72)⟩,
 ⟨some 74,some (70,true),.faddr 1 (.slot 73)⟩,
 ⟨some 75,some (70,true),.load false 1 (.slot 74)⟩,
 ⟨some 76,some (70,true),.bin .eql (.slot 75) (.const (.int .i64 2))⟩,
 ⟨some 77,none,.pick (.slot 70) (.slot 76) (.const (.bool false))⟩]
def zbR:List zb:=[⟨some 5,none,.mov (.const (.bool true))⟩]
def zbH:List zb:=[⟨some 13,none,.mov (.slot 6)⟩,
 ⟨some 14,none,.bin .add (.slot 13) (.const (.int .i64 1))⟩,
 ⟨some 6,none,.mov (.slot 14)⟩]
def uk:zt:=(.seq (.seq (.region zbx false [0,1,5,6,12]) (.cond (.slot 12) .skip (.exit 0))) (.seq (.block 1 (.seq (.seq (.region zbV true [0,1,5,6,62]) (.cond (.slot 62) (.seq (.region zbY false [4]) .ret) .skip)) (.seq (.region zbw false [0,1,5,6,77]) (.cond (.slot 77) (.region zbR false [0,1,5,6]) .skip)))) (.region zbH false [0,1,5,6])))
def YM:zt:=.loop [0,1,5,6] uk
def zyE:List zb:=[⟨some 78,none,.mov (.slot 5)⟩,
 ⟨some 4,none,.mov (.slot 78)⟩]
def VV:AFn:=⟨(.seq (.region zxC false [0,1]) (.seq (.region zzc false [0,1,5]) (.seq (.seq (.region zBd false [0,1,5,6]) (.block 0 YM)) (.seq (.region zyE false [4]) .ret)))),[.slot 4]⟩
def zDX:List zb:=[⟨some 2,none,.mov (.const (.bool false))⟩]
def zEd:List zb:=[⟨some 3,none,.mov (.slot 0)⟩,
 ⟨some 4,none,.call .frz Hd [(.slot 3),(.const (.int .i64 0))]⟩,
 ⟨some 2,none,.mov (.slot 4)⟩]
def RB:AFn:=⟨(.seq (.region zDX false [0]) (.seq (.region zEd false [2]) .ret)),[.slot 2]⟩
def zwy:List zb:=[⟨some 1,none,.box 2 (.slot 0)⟩,
 ⟨some 2,none,.mov (.const (.data false 1 [] true))⟩]
def zA2:List zb:=[⟨some 3,none,.faddr 0 (.slot 1)⟩,
 ⟨some 4,none,.load false 1 (.slot 3)⟩,
 ⟨some 5,none,.bin .eql (.slot 4) (.const (.int .i64 0))⟩]
def zv8:List zb:=[⟨some 2,none,.mov (.const (.data false 1 [] true))⟩]
def zAI:List zb:=[⟨some 6,none,.faddr 0 (.slot 1)⟩,
 ⟨some 7,none,.load false 1 (.slot 6)⟩,
 ⟨some 8,none,.mkslice 1 1 [.int .i64 0] [(0,(.slot 7))]⟩,
 ⟨some 9,none,.faddr 1 (.slot 1)⟩,
 ⟨some 10,none,.load false 1 (.slot 9)⟩,
 ⟨some 11,none,.append 1 8 (.slot 8) (.slot 10)⟩,
 ⟨some 2,none,.mov (.slot 11)⟩]
def Tw:AFn:=⟨(.seq (.region zwy false [1]) (.seq (.seq (.region zA2 false [1,5]) (.cond (.slot 5) (.seq (.region zv8 false [2]) .ret) .skip)) (.seq (.region zAI false [2]) .ret))),[.slot 2]⟩
def zAE:List zb:=[⟨some 4,none,.mov (.const (.bool false))⟩]
def zym:List zb:=[⟨some 5,none,.mov (.const (.int .i64 0))⟩]
def zoi:List zb:=[⟨some 6,none,.mov (.slot 5)⟩,
 ⟨some 7,none,.mov (.slot 0)⟩,
 ⟨some 8,none,.len false (.slot 7)⟩,
 ⟨some 9,none,.bin .lss (.slot 6) (.slot 8)⟩]
def znT:List zb:=[⟨some 12,none,.mov (.slot 0)⟩,
 ⟨some 13,none,.mov (.slot 5)⟩,
 ⟨some 14,none,.idx 1 (.slot 12) (.slot 13)⟩,
 ⟨some 15,none,.load false 1 (.slot 14)⟩,
 ⟨some 16,none,.mov (.slot 1)⟩,
 ⟨some 17,none,.bin .eql (.slot 15) (.slot 16)⟩]
def zmk:List zb:=[⟨some 4,none,.mov (.const (.bool true))⟩]
def zol:List zb:=[⟨some 10,none,.mov (.slot 5)⟩,
 ⟨some 11,none,.bin .add (.slot 10) (.const (.int .i64 1))⟩,
 ⟨some 5,none,.mov (.slot 11)⟩]
def WI:zt:=(.seq (.seq (.region zoi false [0,1,5,9]) (.cond (.slot 9) .skip (.exit 0))) (.seq (.block 1 (.seq (.region znT false [0,1,5,17]) (.cond (.slot 17) (.seq (.region zmk false [4]) .ret) .skip))) (.region zol false [0,1,5])))
def WR:zt:=.loop [0,1,5] WI
def zzB:List zb:=[⟨some 4,none,.mov (.const (.bool false))⟩]
def Tu:AFn:=⟨(.seq (.region zAE false [0,1]) (.seq (.seq (.region zym false [0,1,5]) (.block 0 WR)) (.seq (.region zzB false [4]) .ret))),[.slot 4]⟩
def ztz:List zb:=[⟨some 1,none,.box 2 (.slot 0)⟩,
 ⟨some 2,none,.mov (.const (.bool false))⟩]
def zta:List zb:=[⟨some 5,none,.faddr 0 (.slot 1)⟩,
 ⟨some 6,none,.load false 1 (.slot 5)⟩,
 ⟨some 7,none,.bin .eql (.slot 6) (.const (.int .i64 0))⟩]
def zry:List zb:=[⟨some 8,none,.faddr 1 (.slot 1)⟩,
 ⟨some 9,none,.load false 1 (.slot 8)⟩,
 ⟨some 10,none,.len false (.slot 9)⟩,
 ⟨some 11,none,.bin .eql (.slot 10) (.const (.int .i64 0))⟩,
 ⟨some 2,none,.mov (.slot 11)⟩]
def zsh:List zb:=[⟨some 12,none,.load true 2 (.slot 1)⟩,
 ⟨some 13,none,.call .frz VI [(.slot 12)]⟩,
 ⟨some 3,none,.mov (.slot 13)⟩]
def zrb:List zb:=[⟨some 4,none,.mov (.const (.int .i64 0))⟩]
def zi5:List zb:=[⟨some 14,none,.mov (.slot 4)⟩,
 ⟨some 15,none,.mov (.slot 3)⟩,
 ⟨some 16,none,.len false (.slot 15)⟩,
 ⟨some 17,none,.bin .lss (.slot 14) (.slot 16)⟩]
def zjB:List zb:=[⟨some 20,none,.mov (.slot 3)⟩,
 ⟨some 21,none,.mov (.slot 4)⟩,
 ⟨some 22,none,.idx 1 (.slot 20) (.slot 21)⟩,
 ⟨some 23,none,.load false 1 (.slot 22)⟩,
 ⟨some 24,none,.bin .lss (.slot 23) (.const (.int .i64 1))⟩,
 ⟨some 25,none,.mov (.slot 24)⟩,
 ⟨some 26,some (25,false),.mov (.slot 3)⟩,
 ⟨some 27,some (25,false),.mov (.slot 4)⟩,
 ⟨some 28,some (25,false),.idx 1 (.slot 26) (.slot 27)⟩,
 ⟨some 29,some (25,false),.load false 1 (.slot 28)⟩,
 ⟨some 30,some (25,false),.bin .gtr (.slot 29) (.const (.int .i64 8))⟩,
 ⟨some 31,none,.pick (.slot 25) (.const (.bool true)) (.slot 30)⟩,
 ⟨some 32,none,.mov (.slot 31)⟩,
 ⟨some 33,some (32,false),.mov (.slot 3)⟩,
 ⟨some 34,some (32,false),.mov (.slot 4)⟩,
 ⟨some 35,some (32,false),.sl 1 (.slot 33) none (some (.slot 34)) none⟩,
 ⟨some 36,some (32,false),.mov (.slot 3)⟩,
 ⟨some 37,some (32,false),.mov (.slot 4)⟩,
 ⟨some 38,some (32,false),.idx 1 (.slot 36) (.slot 37)⟩,
 ⟨some 39,some (32,false),.load false 1 (.slot 38)⟩,
 ⟨some 40,some (32,false),.call .frz Ro [(.slot 35),(.slot 39)]⟩,
 ⟨some 41,none,.pick (.slot 32) (.const (.bool true)) (.slot 40)⟩]
def zjL:List zb:=[⟨some 2,none,.mov (.const (.bool false))⟩]
def zjC:List zb:=[⟨some 18,none,.mov (.slot 4)⟩,
 ⟨some 19,none,.bin .add (.slot 18) (.const (.int .i64 1))⟩,
 ⟨some 4,none,.mov (.slot 19)⟩]
def ZK:zt:=(.seq (.seq (.region zi5 false [3,4,17]) (.cond (.slot 17) .skip (.exit 0))) (.seq (.block 1 (.seq (.region zjB true [3,4,41]) (.cond (.slot 41) (.seq (.region zjL false [2]) .ret) .skip))) (.region zjC false [3,4])))
def jo:zt:=.loop [3,4] ZK
def zq7:List zb:=[⟨some 2,none,.mov (.const (.bool true))⟩]
def WE:AFn:=⟨(.seq (.region ztz false [1]) (.seq (.seq (.region zta false [1,7]) (.cond (.slot 7) (.seq (.region zry false [2]) .ret) .skip)) (.seq (.region zsh false [3]) (.seq (.seq (.region zrb false [3,4]) (.block 0 jo)) (.seq (.region zq7 false [2]) .ret))))),[.slot 2]⟩
def zDC:List zb:=[⟨some 2,none,.mov (.const (.int .i64 0))⟩]
def zDz:List zb:=[⟨some 3,none,.mov (.const (.int .i64 0))⟩]
def zC5:List zb:=[⟨some 4,none,.mov (.const (.int .i64 0))⟩]
def zxF:List zb:=[⟨some 5,none,.mov (.slot 4)⟩,
 ⟨some 6,none,.mov (.slot 0)⟩,
 ⟨some 7,none,.len false (.slot 6)⟩,
 ⟨some 8,none,.bin .lss (.slot 5) (.slot 7)⟩]
def zwP:List zb:=[⟨some 11,none,.mov (.slot 3)⟩,
 ⟨some 12,none,.mov (.slot 0)⟩,
 ⟨some 13,none,.mov (.slot 4)⟩,
 ⟨some 14,none,.idx 3 (.slot 12) (.slot 13)⟩,
 ⟨some 15,none,.faddr 2 (.slot 14)⟩,
 ⟨some 16,none,.load false 1 (.slot 15)⟩,
 ⟨some 17,none,.len false (.slot 16)⟩,
 ⟨some 18,none,.bin .add (.slot 11) (.slot 17)⟩,
 ⟨some 3,none,.mov (.slot 18)⟩]
def zyI:List zb:=[⟨some 9,none,.mov (.slot 4)⟩,
 ⟨some 10,none,.bin .add (.slot 9) (.const (.int .i64 1))⟩,
 ⟨some 4,none,.mov (.slot 10)⟩]
def RV:zt:=(.seq (.seq (.region zxF false [0,3,4,8]) (.cond (.slot 8) .skip (.exit 0))) (.seq (.block 1 (.region zwP false [0,3,4])) (.region zyI false [0,3,4])))
def YA:zt:=.loop [0,3,4] RV
def zEq:List zb:=[⟨some 19,none,.mov (.slot 3)⟩,
 ⟨some 2,none,.mov (.slot 19)⟩]
def TM:AFn:=⟨(.seq (.region zDC false [0]) (.seq (.region zDz false [0,3]) (.seq (.seq (.region zC5 false [0,3,4]) (.block 0 YA)) (.seq (.region zEq false [2]) .ret)))),[.slot 2]⟩
def zdJ:List zb:=[⟨some 1,none,.box 3 (.slot 0)⟩,
 ⟨some 2,none,.mov (.const (.bool false))⟩]
def zdF:List zb:=⟨some 3,none,.faddr 0 (.slot 1)⟩::
 ⟨some 4,none,.load false 1 (.slot 3)⟩::
 ⟨some 5,none,.bin .gtr (.slot 4) (.const (.int .i64 0))⟩::
 ⟨some 6,none,.mov (.slot 5)⟩::
 ⟨some 7,some (6,true),.faddr 0 (.slot 1)⟩::
 ⟨some 8,some (6,true),.load false 1 (.slot 7)⟩::
 ⟨some 9,some (6,true),.bin .lss (.slot 8) (.const (.int .i64 9))⟩::
 ⟨some 10,none,.pick (.slot 6) (.slot 9) (.const (.bool false))⟩::
 ⟨some 11,none,.mov (.slot 10)⟩::
 ⟨some 12,some (11,true),.faddr 1 (.slot 1)⟩::
 ⟨some 13,some (11,true),.load false 1 (.slot 12)⟩::
 ⟨some 14,some (11,true),.bin .gtr (.slot 13) (.const (.int .i64 0))⟩::
 ⟨some 15,none,.pick (.slot 11) (.slot 14) (.const (.bool false))⟩::
 ⟨some 16,none,.mov (.slot 15)⟩::
 ⟨some 17,some (16,true),.faddr 1 (.slot 1)⟩::
 ⟨some 18,some (16,true),.load false 1 (.slot 17)⟩::
 ⟨some 19,some (16,true),.bin .leq (.slot 18) (.const (.int .i64 1073741824))⟩::
 ⟨some 20,none,.pick (.slot 16) (.slot 19) (.const (.bool false))⟩::
 ⟨some 21,none,.mov (.slot 20)⟩::
 ⟨some 22,some (21,true),.faddr 2 (.slot 1)⟩::
 ⟨some 23,some (21,true),.load false 1 (.slot 22)⟩::
 ⟨some 24,some (21,true),.len false (.slot 23)⟩::
 ⟨some 25,some (21,true),.bin .gtr (.slot 24) (.const (.int .i64 0))⟩::
 ⟨some 26,none,.pick (.slot 21) (.slot 25) (.const (.bool false))⟩::
 ⟨some 27,none,.mov (.slot 26)⟩::
 ⟨some 28,some (27,true),.faddr 2 (.slot 1)⟩::
 ⟨some 29,some (27,true),.load false 1 (.slot 28)⟩::
 ⟨some 30,some (27,true),.len false (.slot 29)⟩::
 ⟨some 31,some (27,true),.bin .lss (.slot 30) (.const (.int .i64 17))⟩::
 ⟨some 32,none,.pick (.slot 27) (.slot 31) (.const (.bool false))⟩::
 ⟨some 2,none,.mov (.slot 32)⟩::[]
def ui:AFn:=⟨(.seq (.region zdJ false [1]) (.seq (.region zdF false [2]) .ret)),[.slot 2]⟩
def zxw:List zb:=[⟨some 2,none,.mov (.const (.bool false))⟩]
def zAw:List zb:=[⟨some 3,none,.mov (.const (.int .i64 0))⟩]
def zrZ:List zb:=[⟨some 4,none,.mov (.slot 3)⟩,
 ⟨some 5,none,.mov (.slot 0)⟩,
 ⟨some 6,none,.len false (.slot 5)⟩,
 ⟨some 7,none,.bin .lss (.slot 4) (.slot 6)⟩]
def ztl:List zb:=[⟨some 10,none,.mov (.slot 0)⟩,
 ⟨some 11,none,.mov (.slot 3)⟩,
 ⟨some 12,none,.idx 3 (.slot 10) (.slot 11)⟩,
 ⟨some 13,none,.load true 3 (.slot 12)⟩,
 ⟨some 14,none,.call .frz KE [(.slot 13)]⟩,
 ⟨some 15,none,.not (.slot 14)⟩]
def zsB:List zb:=[⟨some 2,none,.mov (.const (.bool false))⟩]
def zrH:List zb:=[⟨some 8,none,.mov (.slot 3)⟩,
 ⟨some 9,none,.bin .add (.slot 8) (.const (.int .i64 1))⟩,
 ⟨some 3,none,.mov (.slot 9)⟩]
def Sm:zt:=(.seq (.seq (.region zrZ false [0,3,7]) (.cond (.slot 7) .skip (.exit 0))) (.seq (.block 1 (.seq (.region ztl false [0,3,15]) (.cond (.slot 15) (.seq (.region zsB false [2]) .ret) .skip))) (.region zrH false [0,3])))
def WV:zt:=.loop [0,3] Sm
def zyx:List zb:=[⟨some 16,none,.mov (.slot 0)⟩,
 ⟨some 17,none,.call .frz Yi [(.slot 16)]⟩,
 ⟨some 18,none,.bin .leq (.slot 17) (.const (.int .i64 64))⟩,
 ⟨some 2,none,.mov (.slot 18)⟩]
def Tq:AFn:=⟨(.seq (.region zxw false [0]) (.seq (.seq (.region zAw false [0,3]) (.block 0 WV)) (.seq (.region zyx false [2]) .ret))),[.slot 2]⟩
def zw1:List zb:=[⟨some 1,none,.box 18 (.slot 0)⟩,
 ⟨some 2,none,.mov (.const (.bool false))⟩]
def zAb:List zb:=[⟨some 3,none,.mov (.const (.int .i64 0))⟩]
def Fp:List zb:=[⟨some 6,none,.mov (.slot 3)⟩,
 ⟨some 7,none,.bin .lss (.slot 6) (.const (.int .i64 9))⟩]
def Fb:List zb:=[⟨some 10,none,.mov (.slot 3)⟩,
 ⟨some 11,none,.idxarr 2 9 (.slot 1) (.slot 10)⟩,
 ⟨some 12,none,.idxarr 1 2 (.slot 11) (.const (.int .i64 0))⟩,
 ⟨some 13,none,.load false 1 (.slot 12)⟩,
 ⟨some 14,none,.bin .eql (.slot 13) (.const (.int .i64 0))⟩,
 ⟨some 15,none,.mov (.slot 14)⟩,
 ⟨some 16,some (15,true),.mov (.slot 3)⟩,
 ⟨some 17,some (15,true),.idxarr 2 9 (.slot 1) (.slot 16)⟩,
 ⟨some 18,some (15,true),.idxarr 1 2 (.slot 17) (.const (.int .i64 1))⟩,
 ⟨some 19,some (15,true),.load false 1 (.slot 18)⟩,
 ⟨some 20,some (15,true),.bin .eql (.slot 19) (.const (.int .i64 0))⟩,
 ⟨some 21,none,.pick (.slot 15) (.slot 20) (.const (.bool false))⟩,
 ⟨some 4,none,.mov (.slot 21)⟩]
def Fg:List zb:=⟨some 22,none,.mov (.slot 3)⟩::
 ⟨some 23,none,.bin .gtr (.slot 22) (.const (.int .i64 0))⟩::
 ⟨some 24,none,.mov (.slot 23)⟩::
 ⟨some 25,some (24,true),.mov (.slot 3)⟩::
 ⟨some 26,some (24,true),.idxarr 2 9 (.slot 1) (.slot 25)⟩::
 ⟨some 27,some (24,true),.idxarr 1 2 (.slot 26) (.const (.int .i64 0))⟩::
 ⟨some 28,some (24,true),.load false 1 (.slot 27)⟩::
 ⟨some 29,some (24,true),.bin .gtr (.slot 28) (.const (.int .i64 0))⟩::
 ⟨some 30,none,.pick (.slot 24) (.slot 29) (.const (.bool false))⟩::
 ⟨some 31,none,.mov (.slot 30)⟩::
 ⟨some 32,some (31,true),.mov (.slot 3)⟩::
 ⟨some 33,some (31,true),.idxarr 2 9 (.slot 1) (.slot 32)⟩::
 ⟨some 34,some (31,true),.idxarr 1 2 (.slot 33) (.const (.int .i64 0))⟩::
 ⟨some 35,some (31,true),.load false 1 (.slot 34)⟩::
 ⟨some 36,some (31,true),.bin .leq (.slot 35) (.const (.int .i64 1000))⟩::
 ⟨some 37,none,.pick (.slot 31) (.slot 36) (.const (.bool false))⟩::
 ⟨some 38,none,.mov (.slot 37)⟩::
 ⟨some 39,some (38,true),.mov (.slot 3)⟩::
 ⟨some 40,some (38,true),.idxarr 2 9 (.slot 1) (.slot 39)⟩::
 ⟨some 41,some (38,true),.idxarr 1 2 (.slot 40) (.const (.int .i64 1))⟩::
 ⟨some 42,some (38,true),.load false 1 (.slot 41)⟩::
 ⟨some 43,some (38,true),.bin .gtr (.slot 42) (.const (.int .i64 0))⟩::
 ⟨some 44,none,.pick (.slot 38) (.slot 43) (.const (.bool false))⟩::
 ⟨some 45,none,.mov (.slot 44)⟩::
 ⟨some 46,some (45,true),.mov (.slot 3)⟩::
 ⟨some 47,some (45,true),.idxarr 2 9 (.slot 1) (.slot 46)⟩::
 ⟨some 48,some (45,true),.idxarr 1 2 (.slot 47) (.const (.int .i64 1))⟩::
 ⟨some 49,some (45,true),.load false 1 (.slot 48)⟩::
 ⟨some 50,some (45,true),.bin .leq (.slot 49) (.const (.int .i64 1000))⟩::
 ⟨some 51,none,.pick (.slot 45) (.slot 50) (.const (.bool false))⟩::
 ⟨some 5,none,.mov (.slot 51)⟩::[]
def Fj:List zb:=[⟨some 52,none,.mov (.slot 4)⟩,
 ⟨some 53,none,.not (.slot 52)⟩,
 ⟨some 54,none,.mov (.slot 53)⟩,
 ⟨some 55,some (54,true),.mov (.slot 5)⟩,
 ⟨some 56,some (54,true),.not (.slot 55)⟩,
 ⟨some 57,none,.pick (.slot 54) (.slot 56) (.const (.bool false))⟩]
def HV:List zb:=[⟨some 2,none,.mov (.const (.bool false))⟩]
def Hg:List zb:=[⟨some 8,none,.mov (.slot 3)⟩,
 ⟨some 9,none,.bin .add (.slot 8) (.const (.int .i64 1))⟩,
 ⟨some 3,none,.mov (.slot 9)⟩]
def yT:zt:=(.seq (.seq (.region Fp false [1,3,7]) (.cond (.slot 7) .skip (.exit 0))) (.seq (.block 1 (.seq (.region Fb false [1,3,4]) (.seq (.region Fg false [1,3,4,5]) (.seq (.region Fj false [1,3,57]) (.cond (.slot 57) (.seq (.region HV false [2]) .ret) .skip))))) (.region Hg false [1,3])))
def WX:zt:=.loop [1,3] yT
def zv5:List zb:=[⟨some 2,none,.mov (.const (.bool true))⟩]
def TA:AFn:=⟨(.seq (.region zw1 false [1]) (.seq (.seq (.region zAb false [1,3]) (.block 0 WX)) (.seq (.region zv5 false [2]) .ret))),[.slot 2]⟩
def zwe:List zb:=[⟨some 4,none,.mov (.const (.int .i64 0))⟩]
def zzP:List zb:=[⟨some 5,none,.mov (.const (.int .i64 0))⟩]
def zmT:List zb:=[⟨some 6,none,.mov (.slot 5)⟩,
 ⟨some 7,none,.mov (.slot 0)⟩,
 ⟨some 8,none,.len false (.slot 7)⟩,
 ⟨some 9,none,.bin .lss (.slot 6) (.slot 8)⟩]
def zmJ:List zb:=[⟨some 12,none,.mov (.slot 0)⟩,
 ⟨some 13,none,.mov (.slot 5)⟩,
 ⟨some 14,none,.idx 2 (.slot 12) (.slot 13)⟩,
 ⟨some 15,none,.faddr 0 (.slot 14)⟩,
 ⟨some 16,none,.load false 1 (.slot 15)⟩,
 ⟨some 17,none,.mov (.slot 1)⟩,
 ⟨some 18,none,.bin .eql (.slot 16) (.slot 17)⟩]
def zob:List zb:=[⟨some 19,none,.mov (.slot 0)⟩,
 ⟨some 20,none,.mov (.slot 5)⟩,
 ⟨some 21,none,.idx 2 (.slot 19) (.slot 20)⟩,
 ⟨some 22,none,.faddr 1 (.slot 21)⟩,
 ⟨some 23,none,.load false 1 (.slot 22)⟩,
 ⟨some 4,none,.mov (.slot 23)⟩]
def znI:List zb:=[⟨some 10,none,.mov (.slot 5)⟩,
 ⟨some 11,none,.bin .add (.slot 10) (.const (.int .i64 1))⟩,
 ⟨some 5,none,.mov (.slot 11)⟩]
def Yp:zt:=(.seq (.seq (.region zmT false [0,1,5,9]) (.cond (.slot 9) .skip (.exit 0))) (.seq (.block 1 (.seq (.region zmJ false [0,1,5,18]) (.cond (.slot 18) (.seq (.region zob false [4]) .ret) .skip))) (.region znI false [0,1,5])))
def oO:zt:=.loop [0,1,5] Yp
def zyj:List zb:=[⟨some 4,none,.mov (.const (.int .i64 0))⟩]
def Uo:AFn:=⟨(.seq (.region zwe false [0,1]) (.seq (.seq (.region zzP false [0,1,5]) (.block 0 oO)) (.seq (.region zyj false [4]) .ret))),[.slot 4]⟩
end Go.Proofs.YthcnhibjddomdaaGreat
