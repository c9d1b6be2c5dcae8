/- Parts of the proof: Cd, Cj, Cx, Ins, Szm, Szx, Ck, Fn, Ros1. Conditions: as each statement says. -/
import Derived.Test.YthcnhibjddomdaaGreatK3
import Derived.Test.YthcnhibjddomdaaGreatK4
import Derived.Test.YthcnhibjddomdaaGreatRows
import Derived.Test.YthcnhibjddomdaaGreatChecked
import Derived.WalkKit
import Derived.WalkSpells
import Derived.WalkLawsBesides
import Derived.Deep.QuietTactic
import Derived.BigQuiet
import Derived.Lib.Hide
import Derived.Test.YthcnhibjddomdaaGreatK2
import Derived.Lib.AppendZerosOnto
import Derived.Shelf.RegionOpenPlain
import Derived.Shelf.Spec.SlicesInsert
import Derived.RangeFuncNested
import Derived.RangeFuncBound
import Derived.RangeFuncCalls
import Derived.RangeFuncLeaves
import Derived.RangeFuncBox
import Derived.Shelf.Abstract
import Derived.Shelf.RegionOpen
import Derived.OwnWalkIn
import Derived.TacticsInMore
import Derived.LoopNIn
import Derived.LoopIn
set_option maxRecDepth 100000
set_option maxHeartbeats 8000000
set_option linter.unusedVariables false
set_option linter.unusedSimpArgs false
set_option linter.unusedSectionVars false
namespace Go.Proofs.YthcnhibjddomdaaGreat
section
open Go
def JC:List zb:=[⟨some 1,none,.box 33 (.slot 0)⟩,
 ⟨some 2,none,.mov (.const (.bool false))⟩]
def KU:List zb:=⟨some 9,none,.faddr 0 (.slot 1)⟩::
 ⟨some 10,none,.load false 1 (.slot 9)⟩::
 ⟨some 11,none,.call .frz Tx [(.slot 10)]⟩::
 ⟨some 12,none,.not (.slot 11)⟩::
 ⟨some 13,none,.mov (.slot 12)⟩::
 ⟨some 14,some (13,false),.faddr 1 (.slot 1)⟩::
 ⟨some 15,some (13,false),.load true 2 (.slot 14)⟩::
 ⟨some 16,some (13,false),.call .frz FR [(.slot 15)]⟩::
 ⟨some 17,some (13,false),.not (.slot 16)⟩::
 ⟨some 18,none,.pick (.slot 13) (.const (.bool true)) (.slot 17)⟩::
 ⟨some 19,none,.mov (.slot 18)⟩::
 ⟨some 20,some (19,false),.faddr 3 (.slot 1)⟩::
 ⟨some 21,some (19,false),.load false 1 (.slot 20)⟩::
 ⟨some 22,some (19,false),.call .frz Dp [(.slot 21)]⟩::
 ⟨some 23,some (19,false),.not (.slot 22)⟩::
 ⟨some 24,none,.pick (.slot 19) (.const (.bool true)) (.slot 23)⟩::
 ⟨some 25,none,.mov (.slot 24)⟩::
 ⟨some 26,some (25,false),.faddr 4 (.slot 1)⟩::
 ⟨some 27,some (25,false),.load true 18 (.slot 26)⟩::
 ⟨some 28,some (25,false),.call .frz Lv [(.slot 27)]⟩::
 ⟨some 29,some (25,false),.not (.slot 28)⟩::
 ⟨some 30,none,.pick (.slot 25) (.const (.bool true)) (.slot 29)⟩::
 ⟨some 31,none,.mov (.slot 30)⟩::
 ⟨some 32,some (31,false),.faddr 22 (.slot 1)⟩::
 ⟨some 33,some (31,false),.load false 1 (.slot 32)⟩::
 ⟨some 34,some (31,false),.bin .lss (.slot 33) (.const (.int .i64 1))⟩::
 ⟨some 35,none,.pick (.slot 31) (.const (.bool true)) (.slot 34)⟩::
 ⟨some 36,none,.mov (.slot 35)⟩::
 ⟨some 37,some (36,false),.faddr 22 (.slot 1)⟩::
 ⟨some 38,some (36,false),.load false 1 (.slot 37)⟩::
 ⟨some 39,some (36,false),.bin .gtr (.slot 38) (.const (.int .i64 24))⟩::
 ⟨some 40,none,.pick (.slot 36) (.const (.bool true)) (.slot 39)⟩::
 ⟨some 41,none,.mov (.slot 40)⟩::
 ⟨some 42,some (41,false),.faddr 23 (.slot 1)⟩::
 ⟨some 43,some (41,false),.load false 1 (.slot 42)⟩::
 ⟨some 44,some (41,false),.bin .lss (.slot 43) (.const (.int .i64 1))⟩::
 ⟨some 45,none,.pick (.slot 41) (.const (.bool true)) (.slot 44)⟩::
 ⟨some 46,none,.mov (.slot 45)⟩::
 ⟨some 47,some (46,false),.faddr 23 (.slot 1)⟩::
 ⟨some 48,some (46,false),.load false 1 (.slot 47)⟩::
 ⟨some 49,some (46,false),.bin .gtr (.slot 48) (.const (.int .i64 40))⟩::
 ⟨some 50,none,.pick (.slot 46) (.const (.bool true)) (.slot 49)⟩::[]
def Jf:List zb:=[⟨some 2,none,.mov (.const (.bool false))⟩]
def JE:List zb:=[⟨some 51,none,.faddr 1 (.slot 1)⟩,
 ⟨some 52,none,.load true 2 (.slot 51)⟩,
 ⟨some 53,none,.call .frz VI [(.slot 52)]⟩,
 ⟨some 3,none,.mov (.slot 53)⟩]
def KS:List zb:=[⟨some 4,none,.mov (.const (.int .i64 0))⟩]
def zsy:List zb:=[⟨some 54,none,.mov (.slot 4)⟩,
 ⟨some 55,none,.mov (.slot 3)⟩,
 ⟨some 56,none,.len false (.slot 55)⟩,
 ⟨some 57,none,.bin .lss (.slot 54) (.slot 56)⟩]
def zrz:List zb:=[⟨some 60,none,.faddr 0 (.slot 1)⟩,
 ⟨some 61,none,.load false 1 (.slot 60)⟩,
 ⟨some 62,none,.mov (.slot 3)⟩,
 ⟨some 63,none,.mov (.slot 4)⟩,
 ⟨some 64,none,.idx 1 (.slot 62) (.slot 63)⟩,
 ⟨some 65,none,.load false 1 (.slot 64)⟩,
 ⟨some 66,none,.call .frz uI [(.slot 61),(.slot 65)]⟩,
 ⟨some 67,none,.bin .neq (.slot 66) (.const (.int .i64 2))⟩]
def zsc:List zb:=[⟨some 2,none,.mov (.const (.bool false))⟩]
def zsF:List zb:=[⟨some 58,none,.mov (.slot 4)⟩,
 ⟨some 59,none,.bin .add (.slot 58) (.const (.int .i64 1))⟩,
 ⟨some 4,none,.mov (.slot 59)⟩]
def TL:zt:=(.seq (.seq (.region zsy false [1,3,4,57]) (.cond (.slot 57) .skip (.exit 0))) (.seq (.block 1 (.seq (.region zrz true [1,3,4,67]) (.cond (.slot 67) (.seq (.region zsc false [2]) .ret) .skip))) (.region zsF false [1,3,4])))
def VA:zt:=.loop [1,3,4] TL
def KM:List zb:=[⟨some 5,none,.mov (.const (.int .i64 0))⟩]
def IP:List zb:=[⟨some 68,none,.mov (.slot 5)⟩,
 ⟨some 69,none,.bin .lss (.slot 68) (.const (.int .i64 9))⟩]
def JX:List zb:=[⟨some 72,none,.faddr 0 (.slot 1)⟩,
 ⟨some 73,none,.load false 1 (.slot 72)⟩,
 ⟨some 74,none,.mov (.slot 5)⟩,
 ⟨some 75,none,.call .frz uI [(.slot 73),(.slot 74)]⟩,
 ⟨some 76,none,.bin .neq (.slot 75) (.const (.int .i64 0))⟩,
 ⟨some 6,none,.mov (.slot 76)⟩]
def Ih:List zb:=⟨some 77,none,.mov (.slot 5)⟩::
 ⟨some 78,none,.faddr 24 (.slot 1)⟩::
 ⟨some 79,none,.idxarr 1 9 (.slot 78) (.slot 77)⟩::
 ⟨some 80,none,.load false 1 (.slot 79)⟩::
 ⟨some 81,none,.bin .lss (.slot 80) (.const (.int .i64 0))⟩::
 ⟨some 82,none,.mov (.slot 81)⟩::
 ⟨some 83,some (82,false),.mov (.slot 5)⟩::
 ⟨some 84,some (82,false),.faddr 24 (.slot 1)⟩::
 ⟨some 85,some (82,false),.idxarr 1 9 (.slot 84) (.slot 83)⟩::
 ⟨some 86,some (82,false),.load false 1 (.slot 85)⟩::
 ⟨some 87,some (82,false),.bin .gtr (.slot 86) (.const (.int .i64 1073741824))⟩::
 ⟨some 88,none,.pick (.slot 82) (.const (.bool true)) (.slot 87)⟩::
 ⟨some 89,none,.mov (.slot 88)⟩::
 ⟨some 90,some (89,false),.mov (.slot 6)⟩::
 ⟨some 91,some (89,false),.not (.slot 90)⟩::
 ⟨some 92,some (89,false),.mov (.slot 91)⟩::
 ⟨some 93,some (92,true),.mov (.slot 5)⟩::
 ⟨some 94,some (92,true),.faddr 24 (.slot 1)⟩::
 ⟨some 95,some (92,true),.idxarr 1 9 (.slot 94) (.slot 93)⟩::
 ⟨some 96,some (92,true),.load false 1 (.slot 95)⟩::
 ⟨some 97,some (92,true),.bin .neq (.slot 96) (.const (.int .i64 0))⟩::
 ⟨some 98,some (92,true),.mov (.slot 97)⟩::
 ⟨some 99,some (98,false),.mov (.slot 5)⟩::
 ⟨some 100,some (98,false),.faddr 4 (.slot 1)⟩::
 ⟨some 101,some (98,false),.idxarr 2 9 (.slot 100) (.slot 99)⟩::
 ⟨some 102,some (98,false),.idxarr 1 2 (.slot 101) (.const (.int .i64 0))⟩::
 ⟨some 103,some (98,false),.load false 1 (.slot 102)⟩::
 ⟨some 104,some (98,false),.bin .neq (.slot 103) (.const (.int .i64 0))⟩::
 ⟨some 105,some (92,true),.pick (.slot 98) (.const (.bool true)) (.slot 104)⟩::
 ⟨some 106,some (92,true),.mov (.slot 105)⟩::
 ⟨some 107,some (106,false),.mov (.slot 5)⟩::
 ⟨some 108,some (106,false),.faddr 4 (.slot 1)⟩::
 ⟨some 109,some (106,false),.idxarr 2 9 (.slot 108) (.slot 107)⟩::
 ⟨some 110,some (106,false),.idxarr 1 2 (.slot 109) (.const (.int .i64 1))⟩::
 ⟨some 111,some (106,false),.load false 1 (.slot 110)⟩::
 ⟨some 112,some (106,false),.bin .neq (.slot 111) (.const (.int .i64 0))⟩::
 ⟨some 113,some (92,true),.pick (.slot 106) (.const (.bool true)) (.slot 112)⟩::
 ⟨some 114,some (89,false),.pick (.slot 92) (.slot 113) (.const (.bool false))⟩::
 ⟨some 115,none,.pick (.slot 89) (.const (.bool true)) (.slot 114)⟩::[]
def Ia:List zb:=[⟨some 2,none,.mov (.const (.bool false))⟩]
def IV:List zb:=[⟨some 70,none,.mov (.slot 5)⟩,
 ⟨some 71,none,.bin .add (.slot 70) (.const (.int .i64 1))⟩,
 ⟨some 5,none,.mov (.slot 71)⟩]
def uK:zt:=(.seq (.seq (.region IP false [1,5,69]) (.cond (.slot 69) .skip (.exit 2))) (.seq (.block 3 (.seq (.region JX false [1,5,6]) (.seq (.region Ih false [1,5,115]) (.cond (.slot 115) (.seq (.region Ia false [2]) .ret) .skip)))) (.region IV false [1,5])))
def Vf:zt:=.loop [1,5] uK
def Rc:List zb:=[⟨some 7,none,.mov (.const (.int .i64 0))⟩]
def zhH:List zb:=[⟨some 116,none,.mov (.slot 7)⟩,
 ⟨some 117,none,.faddr 3 (.slot 1)⟩,
 ⟨some 118,none,.load false 1 (.slot 117)⟩,
 ⟨some 119,none,.len false (.slot 118)⟩,
 ⟨some 120,none,.bin .lss (.slot 116) (.slot 119)⟩]
def zh0:List zb:=[⟨some 123,none,.faddr 3 (.slot 1)⟩,
 ⟨some 124,none,.load false 1 (.slot 123)⟩,
 ⟨some 125,none,.mov (.slot 7)⟩,
 ⟨some 126,none,.idx 3 (.slot 124) (.slot 125)⟩,
 ⟨some 127,none,.load true 3 (.slot 126)⟩,
 ⟨some 8,none,.alloc [.int .i64 0,.int .i64 0,.data false 1 [] true]⟩,
 ⟨none,none,.store true 3 (.slot 8) (.slot 127)⟩]
def zf1:List zb:=[⟨some 128,none,.faddr 0 (.slot 1)⟩,
 ⟨some 129,none,.load false 1 (.slot 128)⟩,
 ⟨some 130,none,.faddr 0 (.slot 8)⟩,
 ⟨some 131,none,.load false 1 (.slot 130)⟩,
 ⟨some 132,none,.call .frz uI [(.slot 129),(.slot 131)]⟩,
 ⟨some 133,none,.bin .eql (.slot 132) (.const (.int .i64 0))⟩,
 ⟨some 134,none,.mov (.slot 133)⟩,
 ⟨some 135,some (134,false),.faddr 1 (.slot 8)⟩,
 ⟨some 136,some (134,false),.load false 1 (.slot 135)⟩,
 ⟨some 137,some (134,false),.faddr 0 (.slot 8)⟩,
 ⟨some 138,some (134,false),.load false 1 (.slot 137)⟩,
 ⟨some 139,some (134,false),.faddr 24 (.slot 1)⟩,
 ⟨some 140,some (134,false),.idxarr 1 9 (.slot 139) (.slot 138)⟩,
 ⟨some 141,some (134,false),.load false 1 (.slot 140)⟩,
 ⟨some 142,some (134,false),.bin .gtr (.slot 136) (.slot 141)⟩,
 ⟨some 143,none,.pick (.slot 134) (.const (.bool true)) (.slot 142)⟩]
def zgJ:List zb:=[⟨some 2,none,.mov (.const (.bool false))⟩]
def zgr:List zb:=[⟨some 121,none,.mov (.slot 7)⟩,
 ⟨some 122,none,.bin .add (.slot 121) (.const (.int .i64 1))⟩,
 ⟨some 7,none,.mov (.slot 122)⟩]
def VF:zt:=(.seq (.seq (.region zhH false [1,7,120]) (.cond (.slot 120) .skip (.exit 4))) (.seq (.block 5 (.seq (.region zh0 false [1,7,8]) (.seq (.region zf1 true [1,7,143]) (.cond (.slot 143) (.seq (.region zgJ false [2]) .ret) .skip)))) (.region zgr false [1,7])))
def WT:zt:=.loop [1,7] VF
def Ra:List zb:=[⟨some 2,none,.mov (.const (.bool true))⟩]
def y9:AFn:=⟨(.seq (.region JC false [1]) (.seq (.seq (.region KU false [1,50]) (.cond (.slot 50) (.seq (.region Jf false [2]) .ret) .skip)) (.seq (.region JE false [1,3]) (.seq (.seq (.region KS false [1,3,4]) (.block 0 VA)) (.seq (.seq (.region KM false [1,5]) (.block 2 Vf)) (.seq (.seq (.region Rc false [1,7]) (.block 4 WT)) (.seq (.region Ra false [2]) .ret))))))),[.slot 2]⟩
def zoa:List zb:=[⟨some 5,none,.box 33 (.slot 0)⟩,
 ⟨some 6,none,.box 33 (.slot 1)⟩,
 ⟨some 8,none,.box 33 (.slot 3)⟩,
 ⟨some 10,none,.mov (.const (.bool false))⟩]
def znC:List zb:=[⟨some 11,none,.load true 33 (.slot 5)⟩,
 ⟨some 12,none,.call .frz TB [(.slot 11)]⟩,
 ⟨some 13,none,.not (.slot 12)⟩]
def zm5:List zb:=[⟨some 14,none,.mov (.slot 2)⟩,
 ⟨some 15,none,.bin .eql (.slot 14) (.const (.int .i64 2))⟩,
 ⟨some 16,none,.mov (.slot 15)⟩,
 ⟨some 17,some (16,true),.load true 33 (.slot 6)⟩,
 ⟨some 18,some (16,true),.build (zL) []⟩,
 ⟨some 19,some (16,true),.call .frz yN [(.slot 17),(.slot 18)]⟩,
 ⟨some 20,none,.pick (.slot 16) (.slot 19) (.const (.bool false))⟩,
 ⟨some 10,none,.mov (.slot 20)⟩]
def znN:List zb:=[⟨some 21,none,.mov (.slot 2)⟩,
 ⟨some 22,none,.mov (.slot 4)⟩,
 ⟨some 23,none,.bin .eql (.slot 21) (.slot 22)⟩,
 ⟨some 24,none,.mov (.slot 23)⟩,
 ⟨some 25,some (24,true),.load true 33 (.slot 6)⟩,
 ⟨some 26,some (24,true),.load true 33 (.slot 8)⟩,
 ⟨some 27,some (24,true),.call .frz yN [(.slot 25),(.slot 26)]⟩,
 ⟨some 28,none,.pick (.slot 24) (.slot 27) (.const (.bool false))⟩,
 ⟨some 10,none,.mov (.slot 28)⟩]
def ZQ:AFn:=⟨(.seq (.region zoa false [2,4,5,6,8]) (.seq (.seq (.region znC false [2,4,6,8,13]) (.cond (.slot 13) (.seq (.region zm5 false [10]) .ret) .skip)) (.seq (.region znN false [10]) .ret))),[.slot 10]⟩
def zDO:List zb:=[⟨some 6,none,.mov (.const (.data false 2 [] true))⟩]
def zEn:List zb:=[⟨some 7,none,.mknil 2⟩]
def zDg:List zb:=[⟨some 8,none,.mov (.const (.int .i64 1))⟩]
def zjS:List zb:=[⟨some 10,none,.mov (.slot 8)⟩,
 ⟨some 11,none,.bin .leq (.slot 10) (.const (.int .i64 8))⟩]
def zj7:List zb:=[⟨some 14,none,.mov (.slot 0)⟩,
 ⟨some 15,none,.mov (.slot 8)⟩,
 ⟨some 16,none,.call .frz uI [(.slot 14),(.slot 15)]⟩,
 ⟨some 9,none,.mov (.slot 16)⟩]
def zja:List zb:=[⟨some 17,none,.mov (.slot 8)⟩,
 ⟨some 18,none,.mov (.slot 1)⟩,
 ⟨some 19,none,.bin .eql (.slot 17) (.slot 18)⟩]
def zjF:List zb:=[⟨some 20,none,.mov (.slot 2)⟩,
 ⟨some 9,none,.mov (.slot 20)⟩]
def zjd:List zb:=[⟨some 21,none,.mov (.slot 9)⟩,
 ⟨some 22,none,.bin .neq (.slot 21) (.const (.int .i64 0))⟩]
def zjq:List zb:=[⟨some 23,none,.mov (.slot 7)⟩,
 ⟨some 24,none,.mov (.slot 8)⟩,
 ⟨some 25,none,.mov (.slot 9)⟩,
 ⟨some 26,none,.build [.int .i64 0,.int .i64 0] [(0,1,(.slot 24)),(1,1,(.slot 25))]⟩,
 ⟨some 27,none,.mkslice 2 1 [.int .i64 0,.int .i64 0] [(0,(.slot 26))]⟩,
 ⟨some 28,none,.append 2 16 (.slot 23) (.slot 27)⟩,
 ⟨some 7,none,.mov (.slot 28)⟩]
def zka:List zb:=[⟨some 12,none,.mov (.slot 8)⟩,
 ⟨some 13,none,.bin .add (.slot 12) (.const (.int .i64 1))⟩,
 ⟨some 8,none,.mov (.slot 13)⟩]
def oV:zt:=(.seq (.seq (.region zjS false [0,1,2,7,8,11]) (.cond (.slot 11) .skip (.exit 0))) (.seq (.block 1 (.seq (.region zj7 false [0,1,2,7,8,9]) (.seq (.seq (.region zja false [0,1,2,7,8,9,19]) (.cond (.slot 19) (.region zjF false [0,1,2,7,8,9]) .skip)) (.seq (.region zjd false [0,1,2,7,8,9,22]) (.cond (.slot 22) (.region zjq false [0,1,2,7,8]) .skip))))) (.region zka false [0,1,2,7,8])))
def YF:zt:=.loop [0,1,2,7,8] oV
def zwD:List zb:=[⟨some 29,none,.mov (.slot 7)⟩,
 ⟨some 6,none,.mov (.slot 29)⟩]
def Sg:AFn:=⟨(.seq (.region zDO false [0,1,2]) (.seq (.region zEn false [0,1,2,7]) (.seq (.seq (.region zDg false [0,1,2,7,8]) (.block 0 YF)) (.seq (.region zwD false [6]) .ret)))),[.slot 6]⟩
def zdK:List zb:=[⟨some 6,none,.mov (.const (.data false 2 [] true))⟩,
 ⟨some 7,none,.mov (.const (.int .i64 0))⟩]
def zdQ:List zb:=[⟨some 8,none,.mov (.slot 0)⟩,
 ⟨some 9,none,.call .frz Tx [(.slot 8)]⟩,
 ⟨some 10,none,.not (.slot 9)⟩,
 ⟨some 11,none,.mov (.slot 10)⟩,
 ⟨some 12,some (11,false),.mov (.slot 1)⟩,
 ⟨some 13,some (11,false),.bin .lss (.slot 12) (.const (.int .i64 1))⟩,
 ⟨some 14,none,.pick (.slot 11) (.const (.bool true)) (.slot 13)⟩,
 ⟨some 15,none,.mov (.slot 14)⟩,
 ⟨some 16,some (15,false),.mov (.slot 1)⟩,
 ⟨some 17,some (15,false),.bin .gtr (.slot 16) (.const (.int .i64 8))⟩,
 ⟨some 18,none,.pick (.slot 15) (.const (.bool true)) (.slot 17)⟩,
 ⟨some 19,none,.mov (.slot 18)⟩,
 ⟨some 20,some (19,false),.mov (.slot 2)⟩,
 ⟨some 21,some (19,false),.bin .lss (.slot 20) (.const (.int .i64 1))⟩,
 ⟨some 22,none,.pick (.slot 19) (.const (.bool true)) (.slot 21)⟩,
 ⟨some 23,none,.mov (.slot 22)⟩,
 ⟨some 24,some (23,false),.mov (.slot 2)⟩,
 ⟨some 25,some (23,false),.bin .gtr (.slot 24) (.const (.int .i64 2))⟩,
 ⟨some 26,none,.pick (.slot 23) (.const (.bool true)) (.slot 25)⟩]
def zdO:List zb:=[⟨some 6,none,.mov (.const (.data false 2 [] true))⟩,
 ⟨some 7,none,.mov (.const (.int .i64 2))⟩]
def zdV:List zb:=[⟨some 27,none,.mov (.slot 0)⟩,
 ⟨some 28,none,.mov (.slot 1)⟩,
 ⟨some 29,none,.call .frz uI [(.slot 27),(.slot 28)]⟩,
 ⟨some 30,none,.bin .neq (.slot 29) (.const (.int .i64 0))⟩]
def zdA:List zb:=[⟨some 6,none,.mov (.const (.data false 2 [] true))⟩,
 ⟨some 7,none,.mov (.const (.int .i64 260))⟩]
def zdN:List zb:=[⟨some 31,none,.mov (.slot 0)⟩,
 ⟨some 32,none,.mov (.slot 1)⟩,
 ⟨some 33,none,.mov (.slot 2)⟩,
 ⟨some 34,none,.call .frz SC [(.slot 31),(.slot 32),(.slot 33)]⟩,
 ⟨some 6,none,.mov (.slot 34)⟩,
 ⟨some 7,none,.mov (.const (.int .i64 0))⟩]
def uH:AFn:=⟨(.seq (.region zdK false [0,1,2]) (.seq (.seq (.region zdQ false [0,1,2,26]) (.cond (.slot 26) (.seq (.region zdO false [6,7]) .ret) .skip)) (.seq (.seq (.region zdV false [0,1,2,30]) (.cond (.slot 30) (.seq (.region zdA false [6,7]) .ret) .skip)) (.seq (.region zdN false [6,7]) .ret)))),[.slot 6,.slot 7]⟩
def ze4:List zb:=[⟨some 2,none,.alloc [.int .i64 0,.data false 1 [] true]⟩]
def zhF:List zb:=[⟨some 3,none,.mov (.slot 0)⟩,
 ⟨some 4,none,.len false (.slot 3)⟩,
 ⟨some 5,none,.bin .eql (.slot 4) (.const (.int .i64 0))⟩]
def zfh:List zb:=[⟨some 6,none,.build [.int .i64 0,.data false 1 [] true] []⟩,
 ⟨none,none,.store true 2 (.slot 2) (.slot 6)⟩]
def zhh:List zb:=[⟨some 7,none,.mov (.slot 0)⟩,
 ⟨some 8,none,.idx 1 (.slot 7) (.const (.int .i64 0))⟩,
 ⟨some 9,none,.load false 1 (.slot 8)⟩,
 ⟨some 10,none,.mov (.slot 0)⟩,
 ⟨some 11,none,.sl 1 (.slot 10) (some (.const (.int .i64 1))) none none⟩,
 ⟨some 12,none,.build [.int .i64 0,.data false 1 [] true] [(0,1,(.slot 9)),(1,1,(.slot 11))]⟩,
 ⟨none,none,.store true 2 (.slot 2) (.slot 12)⟩]
def gJ:AFn:=⟨(.seq (.region ze4 false [0,2]) (.seq (.seq (.region zhF false [0,2,5]) (.cond (.slot 5) (.seq (.region zfh false [2]) .ret) .skip)) (.seq (.region zhh true [2]) .ret))),[.cell 2 true 2]⟩
def zDZ:List zb:=[⟨some 2,none,.box 2 (.slot 0)⟩,
 ⟨some 4,none,.alloc [.int .i64 0,.data false 1 [] true]⟩]
def zDK:List zb:=[⟨some 5,none,.mknil 1⟩]
def zDd:List zb:=[⟨some 8,none,.load true 2 (.slot 2)⟩,
 ⟨some 9,none,.call .frz VI [(.slot 8)]⟩,
 ⟨some 6,none,.mov (.slot 9)⟩]
def zEm:List zb:=[⟨some 7,none,.mov (.const (.int .i64 0))⟩]
def zsi:List zb:=[⟨some 10,none,.mov (.slot 7)⟩,
 ⟨some 11,none,.mov (.slot 6)⟩,
 ⟨some 12,none,.len false (.slot 11)⟩,
 ⟨some 13,none,.bin .lss (.slot 10) (.slot 12)⟩]
def zrg:List zb:=[⟨some 16,none,.mov (.slot 1)⟩,
 ⟨some 17,none,.mov (.slot 6)⟩,
 ⟨some 18,none,.mov (.slot 7)⟩,
 ⟨some 19,none,.idx 1 (.slot 17) (.slot 18)⟩,
 ⟨some 20,none,.load false 1 (.slot 19)⟩,
 ⟨some 21,none,.call .frz Ro [(.slot 16),(.slot 20)]⟩]
def zst:List zb:=[⟨some 22,none,.mov (.slot 5)⟩,
 ⟨some 23,none,.mov (.slot 6)⟩,
 ⟨some 24,none,.mov (.slot 7)⟩,
 ⟨some 25,none,.idx 1 (.slot 23) (.slot 24)⟩,
 ⟨some 26,none,.load false 1 (.slot 25)⟩,
 ⟨some 27,none,.mkslice 1 1 [.int .i64 0] [(0,(.slot 26))]⟩,
 ⟨some 28,none,.append 1 8 (.slot 22) (.slot 27)⟩,
 ⟨some 5,none,.mov (.slot 28)⟩]
def zss:List zb:=[⟨some 14,none,.mov (.slot 7)⟩,
 ⟨some 15,none,.bin .add (.slot 14) (.const (.int .i64 1))⟩,
 ⟨some 7,none,.mov (.slot 15)⟩]
def UZ:zt:=(.seq (.seq (.region zsi false [1,4,5,6,7,13]) (.cond (.slot 13) .skip (.exit 0))) (.seq (.block 1 (.seq (.region zrg false [1,4,5,6,7,21]) (.cond (.slot 21) (.region zst false [1,4,5,6,7]) .skip))) (.region zss false [1,4,5,6,7])))
def o5:zt:=.loop [1,4,5,6,7] UZ
def zD2:List zb:=[⟨some 29,none,.mov (.slot 5)⟩,
 ⟨some 30,none,.call .inl Ij [(.slot 29)]⟩,
 ⟨none,none,.store true 2 (.slot 4) (.slot 30)⟩]
def Sr:AFn:=⟨(.seq (.region zDZ false [1,2,4]) (.seq (.region zDK false [1,2,4,5]) (.seq (.region zDd false [1,4,5,6]) (.seq (.seq (.region zEm false [1,4,5,6,7]) (.block 0 o5)) (.seq (.region zD2 false [4]) .ret))))),[.cell 4 true 2]⟩
def zDf:List zb:=[⟨some 4,none,.mov (.const (.data false 1 [] true))⟩]
def zDb:List zb:=[⟨some 5,none,.mknil 1⟩]
def zD6:List zb:=[⟨some 6,none,.mov (.const (.int .i64 0))⟩]
def zn4:List zb:=[⟨some 7,none,.mov (.slot 6)⟩,
 ⟨some 8,none,.mov (.slot 0)⟩,
 ⟨some 9,none,.len false (.slot 8)⟩,
 ⟨some 10,none,.bin .lss (.slot 7) (.slot 9)⟩]
def zmL:List zb:=[⟨some 13,none,.mov (.slot 1)⟩,
 ⟨some 14,none,.bin .eql (.slot 13) (.const (.int .i64 0))⟩,
 ⟨some 15,none,.mov (.slot 14)⟩,
 ⟨some 16,some (15,false),.mov (.slot 0)⟩,
 ⟨some 17,some (15,false),.mov (.slot 6)⟩,
 ⟨some 18,some (15,false),.idx 2 (.slot 16) (.slot 17)⟩,
 ⟨some 19,some (15,false),.faddr 1 (.slot 18)⟩,
 ⟨some 20,some (15,false),.load false 1 (.slot 19)⟩,
 ⟨some 21,some (15,false),.mov (.slot 1)⟩,
 ⟨some 22,some (15,false),.bin .eql (.slot 20) (.slot 21)⟩,
 ⟨some 23,none,.pick (.slot 15) (.const (.bool true)) (.slot 22)⟩]
def znR:List zb:=[⟨some 24,none,.mov (.slot 5)⟩,
 ⟨some 25,none,.mov (.slot 0)⟩,
 ⟨some 26,none,.mov (.slot 6)⟩,
 ⟨some 27,none,.idx 2 (.slot 25) (.slot 26)⟩,
 ⟨some 28,none,.faddr 0 (.slot 27)⟩,
 ⟨some 29,none,.load false 1 (.slot 28)⟩,
 ⟨some 30,none,.mkslice 1 1 [.int .i64 0] [(0,(.slot 29))]⟩,
 ⟨some 31,none,.append 1 8 (.slot 24) (.slot 30)⟩,
 ⟨some 5,none,.mov (.slot 31)⟩]
def zmS:List zb:=[⟨some 11,none,.mov (.slot 6)⟩,
 ⟨some 12,none,.bin .add (.slot 11) (.const (.int .i64 1))⟩,
 ⟨some 6,none,.mov (.slot 12)⟩]
def Vd:zt:=(.seq (.seq (.region zn4 false [0,1,5,6,10]) (.cond (.slot 10) .skip (.exit 0))) (.seq (.block 1 (.seq (.region zmL false [0,1,5,6,23]) (.cond (.slot 23) (.region znR false [0,1,5,6]) .skip))) (.region zmS false [0,1,5,6])))
def WL:zt:=.loop [0,1,5,6] Vd
def zEu:List zb:=[⟨some 32,none,.mov (.slot 5)⟩,
 ⟨some 4,none,.mov (.slot 32)⟩]
def Rv:AFn:=⟨(.seq (.region zDf false [0,1]) (.seq (.region zDb false [0,1,5]) (.seq (.seq (.region zD6 false [0,1,5,6]) (.block 0 WL)) (.seq (.region zEu false [4]) .ret)))),[.slot 4]⟩
def zEj:List zb:=[⟨some 4,none,.box 18 (.slot 0)⟩,
 ⟨some 8,none,.mov (.const (.int .i64 0))⟩]
def zEg:List zb:=[⟨some 11,none,.mov (.slot 3)⟩,
 ⟨some 9,none,.mov (.slot 11)⟩]
def zEh:List zb:=[⟨some 10,none,.mov (.const (.int .i64 0))⟩]
def zdU:List zb:=[⟨some 12,none,.mov (.slot 10)⟩,
 ⟨some 13,none,.mov (.slot 1)⟩,
 ⟨some 14,none,.len false (.slot 13)⟩,
 ⟨some 15,none,.bin .lss (.slot 12) (.slot 14)⟩]
def zdw:List zb:=⟨some 18,none,.mov (.slot 1)⟩::
 ⟨some 19,none,.mov (.slot 10)⟩::
 ⟨some 20,none,.idx 1 (.slot 18) (.slot 19)⟩::
 ⟨some 21,none,.load false 1 (.slot 20)⟩::
 ⟨some 22,none,.bin .gtr (.slot 21) (.const (.int .i64 0))⟩::
 ⟨some 23,none,.mov (.slot 22)⟩::
 ⟨some 24,some (23,true),.mov (.slot 1)⟩::
 ⟨some 25,some (23,true),.mov (.slot 10)⟩::
 ⟨some 26,some (23,true),.idx 1 (.slot 24) (.slot 25)⟩::
 ⟨some 27,some (23,true),.load false 1 (.slot 26)⟩::
 ⟨some 28,some (23,true),.bin .lss (.slot 27) (.const (.int .i64 9))⟩::
 ⟨some 29,none,.pick (.slot 23) (.slot 28) (.const (.bool false))⟩::
 ⟨some 30,none,.mov (.slot 29)⟩::
 ⟨some 31,some (30,true),.mov (.slot 1)⟩::
 ⟨some 32,some (30,true),.mov (.slot 10)⟩::
 ⟨some 33,some (30,true),.idx 1 (.slot 31) (.slot 32)⟩::
 ⟨some 34,some (30,true),.load false 1 (.slot 33)⟩::
 ⟨some 35,some (30,true),.mov (.slot 2)⟩::
 ⟨some 36,some (30,true),.idxarr 2 9 (.slot 4) (.slot 34)⟩::
 ⟨some 37,some (30,true),.idxarr 1 2 (.slot 36) (.slot 35)⟩::
 ⟨some 38,some (30,true),.load false 1 (.slot 37)⟩::
 ⟨some 39,some (30,true),.bin .gtr (.slot 38) (.const (.int .i64 0))⟩::
 ⟨some 40,none,.pick (.slot 30) (.slot 39) (.const (.bool false))⟩::
 ⟨some 41,none,.mov (.slot 40)⟩::
 ⟨some 42,some (41,true),.mov (.slot 1)⟩::
 ⟨some 43,some (41,true),.mov (.slot 10)⟩::
 ⟨some 44,some (41,true),.idx 1 (.slot 42) (.slot 43)⟩::
 ⟨some 45,some (41,true),.load false 1 (.slot 44)⟩::
 ⟨some 46,some (41,true),.mov (.slot 2)⟩::
 ⟨some 47,some (41,true),.idxarr 2 9 (.slot 4) (.slot 45)⟩::
 ⟨some 48,some (41,true),.idxarr 1 2 (.slot 47) (.slot 46)⟩::
 ⟨some 49,some (41,true),.load false 1 (.slot 48)⟩::
 ⟨some 50,some (41,true),.mov (.slot 9)⟩::
 ⟨some 51,some (41,true),.bin .lss (.slot 49) (.slot 50)⟩::
 ⟨some 52,none,.pick (.slot 41) (.slot 51) (.const (.bool false))⟩::[]
def zdx:List zb:=[⟨some 53,none,.mov (.slot 1)⟩,
 ⟨some 54,none,.mov (.slot 10)⟩,
 ⟨some 55,none,.idx 1 (.slot 53) (.slot 54)⟩,
 ⟨some 56,none,.load false 1 (.slot 55)⟩,
 ⟨some 57,none,.mov (.slot 2)⟩,
 ⟨some 58,none,.idxarr 2 9 (.slot 4) (.slot 56)⟩,
 ⟨some 59,none,.idxarr 1 2 (.slot 58) (.slot 57)⟩,
 ⟨some 60,none,.load false 1 (.slot 59)⟩,
 ⟨some 9,none,.mov (.slot 60)⟩]
def zdR:List zb:=[⟨some 16,none,.mov (.slot 10)⟩,
 ⟨some 17,none,.bin .add (.slot 16) (.const (.int .i64 1))⟩,
 ⟨some 10,none,.mov (.slot 17)⟩]
def uA:zt:=(.seq (.seq (.region zdU false [1,2,4,9,10,15]) (.cond (.slot 15) .skip (.exit 0))) (.seq (.block 1 (.seq (.region zdw false [1,2,4,9,10,52]) (.cond (.slot 52) (.region zdx false [1,2,4,9,10]) .skip))) (.region zdR false [1,2,4,9,10])))
def Um:zt:=.loop [1,2,4,9,10] uA
def zEt:List zb:=[⟨some 61,none,.mov (.slot 9)⟩,
 ⟨some 8,none,.mov (.slot 61)⟩]
def UQ:AFn:=⟨(.seq (.region zEj false [1,2,3,4]) (.seq (.region zEg false [1,2,4,9]) (.seq (.seq (.region zEh false [1,2,4,9,10]) (.block 0 Um)) (.seq (.region zEt false [8]) .ret)))),[.slot 8]⟩
def zzR:List zb:=[⟨some 3,none,.box 18 (.slot 0)⟩,
 ⟨some 5,none,.box 2 (.slot 2)⟩,
 ⟨some 6,none,.alloc [.int .i64 0,.int .i64 0]⟩]
def zzx:List zb:=[⟨some 7,none,.mov (.const (.bool false))⟩]
def zxv:List zb:=[⟨some 8,none,.mov (.const (.int .i64 0))⟩]
def zsG:List zb:=[⟨some 9,none,.mov (.slot 8)⟩,
 ⟨some 10,none,.mov (.slot 1)⟩,
 ⟨some 11,none,.len false (.slot 10)⟩,
 ⟨some 12,none,.bin .lss (.slot 9) (.slot 11)⟩]
def zto:List zb:=[⟨some 15,none,.mov (.slot 1)⟩,
 ⟨some 16,none,.mov (.slot 8)⟩,
 ⟨some 17,none,.idx 1 (.slot 15) (.slot 16)⟩,
 ⟨some 18,none,.load false 1 (.slot 17)⟩,
 ⟨some 19,none,.bin .gtr (.slot 18) (.const (.int .i64 0))⟩,
 ⟨some 20,none,.mov (.slot 19)⟩,
 ⟨some 21,some (20,true),.mov (.slot 1)⟩,
 ⟨some 22,some (20,true),.mov (.slot 8)⟩,
 ⟨some 23,some (20,true),.idx 1 (.slot 21) (.slot 22)⟩,
 ⟨some 24,some (20,true),.load false 1 (.slot 23)⟩,
 ⟨some 25,some (20,true),.bin .lss (.slot 24) (.const (.int .i64 9))⟩,
 ⟨some 26,none,.pick (.slot 20) (.slot 25) (.const (.bool false))⟩,
 ⟨some 27,none,.mov (.slot 26)⟩,
 ⟨some 28,some (27,true),.mov (.slot 1)⟩,
 ⟨some 29,some (27,true),.mov (.slot 8)⟩,
 ⟨some 30,some (27,true),.idx 1 (.slot 28) (.slot 29)⟩,
 ⟨some 31,some (27,true),.load false 1 (.slot 30)⟩,
 ⟨some 32,some (27,true),.idxarr 2 9 (.slot 3) (.slot 31)⟩,
 ⟨some 33,some (27,true),.idxarr 1 2 (.slot 32) (.const (.int .i64 0))⟩,
 ⟨some 34,some (27,true),.load false 1 (.slot 33)⟩,
 ⟨some 35,some (27,true),.bin .gtr (.slot 34) (.const (.int .i64 0))⟩,
 ⟨some 36,none,.pick (.slot 27) (.slot 35) (.const (.bool false))⟩]
def zs7:List zb:=[⟨some 7,none,.mov (.const (.bool true))⟩]
def zsY:List zb:=[⟨some 13,none,.mov (.slot 8)⟩,
 ⟨some 14,none,.bin .add (.slot 13) (.const (.int .i64 1))⟩,
 ⟨some 8,none,.mov (.slot 14)⟩]
def VM:zt:=(.seq (.seq (.region zsG false [1,3,5,6,7,8,12]) (.cond (.slot 12) .skip (.exit 0))) (.seq (.block 1 (.seq (.region zto false [1,3,5,6,7,8,36]) (.cond (.slot 36) (.region zs7 false [1,3,5,6,7,8]) .skip))) (.region zsY false [1,3,5,6,7,8])))
def VS:zt:=.loop [1,3,5,6,7,8] VM
def zyi:List zb:=[⟨some 37,none,.mov (.slot 7)⟩,
 ⟨some 38,none,.not (.slot 37)⟩,
 ⟨some 39,none,.mov (.slot 38)⟩,
 ⟨some 40,some (39,false),.load true 18 (.slot 3)⟩,
 ⟨some 41,some (39,false),.call .frz Lv [(.slot 40)]⟩,
 ⟨some 42,some (39,false),.not (.slot 41)⟩,
 ⟨some 43,none,.pick (.slot 39) (.const (.bool true)) (.slot 42)⟩]
def zwY:List zb:=[⟨some 44,none,.load true 2 (.slot 5)⟩,
 ⟨none,none,.store true 2 (.slot 6) (.slot 44)⟩]
def zx1:List zb:=[⟨some 45,none,.load true 18 (.slot 3)⟩,
 ⟨some 46,none,.mov (.slot 1)⟩,
 ⟨some 47,none,.call .frz Rl [(.slot 45),(.slot 46),(.const (.int .i64 0)),(.const (.int .i64 24))]⟩,
 ⟨some 48,none,.load true 18 (.slot 3)⟩,
 ⟨some 49,none,.mov (.slot 1)⟩,
 ⟨some 50,none,.call .frz Rl [(.slot 48),(.slot 49),(.const (.int .i64 1)),(.const (.int .i64 40))]⟩,
 ⟨some 51,none,.build [.int .i64 0,.int .i64 0] [(0,1,(.slot 47)),(1,1,(.slot 50))]⟩,
 ⟨none,none,.store true 2 (.slot 6) (.slot 51)⟩]
def YS:AFn:=⟨(.seq (.region zzR false [1,3,5,6]) (.seq (.region zzx false [1,3,5,6,7]) (.seq (.seq (.region zxv false [1,3,5,6,7,8]) (.block 0 VS)) (.seq (.seq (.region zyi false [1,3,5,6,43]) (.cond (.slot 43) (.seq (.region zwY false [6]) .ret) .skip)) (.seq (.region zx1 true [6]) .ret))))),[.cell 6 true 2]⟩
def zD4:List zb:=[⟨some 1,none,.box 33 (.slot 0)⟩,
 ⟨some 2,none,.alloc (zL)⟩]
def zEe:List zb:=[⟨some 4,none,.faddr 1 (.slot 1)⟩,
 ⟨some 5,none,.load true 2 (.slot 4)⟩,
 ⟨some 6,none,.faddr 0 (.slot 1)⟩,
 ⟨some 7,none,.load false 1 (.slot 6)⟩,
 ⟨some 8,none,.call .frz Lh [(.slot 7),(.const (.int .i64 2))]⟩,
 ⟨some 9,none,.call .frz JR [(.slot 5),(.slot 8)]⟩,
 ⟨some 10,none,.faddr 1 (.slot 1)⟩,
 ⟨none,none,.store true 2 (.slot 10) (.slot 9)⟩]
def zEl:List zb:=[⟨some 11,none,.faddr 4 (.slot 1)⟩,
 ⟨some 12,none,.load true 18 (.slot 11)⟩,
 ⟨some 13,none,.faddr 0 (.slot 1)⟩,
 ⟨some 14,none,.load false 1 (.slot 13)⟩,
 ⟨some 15,none,.call .frz Lh [(.slot 14),(.const (.int .i64 0))]⟩,
 ⟨some 16,none,.faddr 22 (.slot 1)⟩,
 ⟨some 17,none,.load false 1 (.slot 16)⟩,
 ⟨some 18,none,.faddr 23 (.slot 1)⟩,
 ⟨some 19,none,.load false 1 (.slot 18)⟩,
 ⟨some 20,none,.build [.int .i64 0,.int .i64 0] [(0,1,(.slot 17)),(1,1,(.slot 19))]⟩,
 ⟨some 21,none,.call .frz LW [(.slot 12),(.slot 15),(.slot 20)]⟩,
 ⟨some 3,none,.alloc [.int .i64 0,.int .i64 0]⟩,
 ⟨none,none,.store true 2 (.slot 3) (.slot 21)⟩]
def zDD:List zb:=[⟨some 22,none,.idxarr 1 2 (.slot 3) (.const (.int .i64 0))⟩,
 ⟨some 23,none,.load false 1 (.slot 22)⟩,
 ⟨some 24,none,.faddr 22 (.slot 1)⟩,
 ⟨none,none,.store false 1 (.slot 24) (.slot 23)⟩]
def zDe:List zb:=[⟨some 25,none,.idxarr 1 2 (.slot 3) (.const (.int .i64 1))⟩,
 ⟨some 26,none,.load false 1 (.slot 25)⟩,
 ⟨some 27,none,.faddr 23 (.slot 1)⟩,
 ⟨none,none,.store false 1 (.slot 27) (.slot 26)⟩]
def zEk:List zb:=[⟨some 28,none,.load true 33 (.slot 1)⟩,
 ⟨none,none,.store true 33 (.slot 2) (.slot 28)⟩]
def WN:AFn:=⟨(.seq (.region zD4 false [1,2]) (.seq (.region zEe true [1,2]) (.seq (.region zEl true [1,2,3]) (.seq (.region zDD false [1,2,3]) (.seq (.region zDe false [1,2]) (.seq (.region zEk false [2]) .ret)))))),[.cell 2 true 33]⟩
def zwv:List zb:=[⟨some 3,none,.box 33 (.slot 0)⟩,
 ⟨some 6,none,.alloc (zL)⟩,
 ⟨some 7,none,.mov (.const (.int .i64 0))⟩]
def zzj:List zb:=[⟨some 11,none,.faddr 0 (.slot 3)⟩,
 ⟨some 12,none,.load false 1 (.slot 11)⟩,
 ⟨some 13,none,.mov (.slot 1)⟩,
 ⟨some 14,none,.mov (.slot 2)⟩,
 ⟨some 15,none,.call .frz Ha [(.slot 12),(.slot 13),(.slot 14)]⟩,
 ⟨some 10,none,.mov (.slot 15)⟩,
 ⟨some 16,none,.extract 0 (.slot 10)⟩,
 ⟨some 17,none,.extract 1 (.slot 10)⟩,
 ⟨some 8,none,.mov (.slot 16)⟩,
 ⟨some 9,none,.mov (.slot 17)⟩]
def zz2:List zb:=[⟨some 18,none,.mov (.slot 9)⟩,
 ⟨some 19,none,.bin .neq (.slot 18) (.const (.int .i64 0))⟩]
def zAU:List zb:=[⟨some 20,none,.build (zL) []⟩,
 ⟨some 21,none,.mov (.slot 9)⟩,
 ⟨none,none,.store true 33 (.slot 6) (.slot 20)⟩,
 ⟨some 7,none,.mov (.slot 21)⟩]
def zAr:List zb:=[⟨some 22,none,.mov (.slot 8)⟩,
 ⟨some 23,none,.faddr 0 (.slot 3)⟩,
 ⟨none,none,.store false 1 (.slot 23) (.slot 22)⟩]
def zyd:List zb:=[⟨some 24,none,.load true 33 (.slot 3)⟩,
 ⟨some 25,none,.call .frz gW [(.slot 24)]⟩,
 ⟨none,none,.store true 33 (.slot 6) (.slot 25)⟩,
 ⟨some 7,none,.mov (.const (.int .i64 0))⟩]
def VU:AFn:=⟨(.seq (.region zwv false [1,2,3,6]) (.seq (.region zzj false [3,6,8,9]) (.seq (.seq (.region zz2 false [3,6,8,9,19]) (.cond (.slot 19) (.seq (.region zAU false [6,7]) .ret) .skip)) (.seq (.region zAr false [3,6]) (.seq (.region zyd false [6,7]) .ret))))),[.cell 6 true 33,.slot 7]⟩
def zsE:List zb:=[⟨some 4,none,.mov (.const (.data false 2 [] true))⟩,
 ⟨some 5,none,.mov (.const (.int .i64 0))⟩]
def ztv:List zb:=[⟨some 6,none,.mov (.slot 0)⟩,
 ⟨some 7,none,.call .frz Tx [(.slot 6)]⟩,
 ⟨some 8,none,.not (.slot 7)⟩]
def zro:List zb:=[⟨some 4,none,.mov (.const (.data false 2 [] true))⟩,
 ⟨some 5,none,.mov (.const (.int .i64 2))⟩]
def zte:List zb:=[⟨some 9,none,.mov (.slot 0)⟩,
 ⟨some 10,none,.mov (.slot 1)⟩,
 ⟨some 11,none,.call .frz uI [(.slot 9),(.slot 10)]⟩,
 ⟨some 12,none,.bin .eql (.slot 11) (.const (.int .i64 0))⟩]
def zsQ:List zb:=[⟨some 4,none,.mov (.const (.data false 2 [] true))⟩,
 ⟨some 5,none,.mov (.const (.int .i64 6))⟩]
def zrj:List zb:=[⟨some 13,none,.mov (.slot 0)⟩,
 ⟨some 14,none,.mov (.slot 1)⟩,
 ⟨some 15,none,.call .frz SC [(.slot 13),(.slot 14),(.const (.int .i64 0))]⟩,
 ⟨some 4,none,.mov (.slot 15)⟩,
 ⟨some 5,none,.mov (.const (.int .i64 0))⟩]
def gG:AFn:=⟨(.seq (.region zsE false [0,1]) (.seq (.seq (.region ztv false [0,1,8]) (.cond (.slot 8) (.seq (.region zro false [4,5]) .ret) .skip)) (.seq (.seq (.region zte false [0,1,12]) (.cond (.slot 12) (.seq (.region zsQ false [4,5]) .ret) .skip)) (.seq (.region zrj false [4,5]) .ret)))),[.slot 4,.slot 5]⟩
def zDE:List zb:=[⟨some 4,none,.mov (.const (.data false 3 [] true))⟩]
def zEi:List zb:=[⟨some 5,none,.mknil 3⟩]
def zDk:List zb:=[⟨some 6,none,.mov (.const (.int .i64 0))⟩]
def zrm:List zb:=[⟨some 7,none,.mov (.slot 6)⟩,
 ⟨some 8,none,.mov (.slot 0)⟩,
 ⟨some 9,none,.len false (.slot 8)⟩,
 ⟨some 10,none,.bin .lss (.slot 7) (.slot 9)⟩]
def zrO:List zb:=[⟨some 13,none,.mov (.slot 0)⟩,
 ⟨some 14,none,.mov (.slot 6)⟩,
 ⟨some 15,none,.idx 3 (.slot 13) (.slot 14)⟩,
 ⟨some 16,none,.faddr 0 (.slot 15)⟩,
 ⟨some 17,none,.load false 1 (.slot 16)⟩,
 ⟨some 18,none,.mov (.slot 1)⟩,
 ⟨some 19,none,.bin .neq (.slot 17) (.slot 18)⟩]
def zsa:List zb:=[⟨some 20,none,.mov (.slot 5)⟩,
 ⟨some 21,none,.mov (.slot 0)⟩,
 ⟨some 22,none,.mov (.slot 6)⟩,
 ⟨some 23,none,.idx 3 (.slot 21) (.slot 22)⟩,
 ⟨some 24,none,.load true 3 (.slot 23)⟩,
 ⟨some 25,none,.mkslice 3 1 [.int .i64 0,.int .i64 0,.data false 1 [] true] [(0,(.slot 24))]⟩,
 ⟨some 26,none,.append 3 40 (.slot 20) (.slot 25)⟩,
 ⟨some 5,none,.mov (.slot 26)⟩]
def zti:List zb:=[⟨some 11,none,.mov (.slot 6)⟩,
 ⟨some 12,none,.bin .add (.slot 11) (.const (.int .i64 1))⟩,
 ⟨some 6,none,.mov (.slot 12)⟩]
def UY:zt:=(.seq (.seq (.region zrm false [0,1,5,6,10]) (.cond (.slot 10) .skip (.exit 0))) (.seq (.block 1 (.seq (.region zrO false [0,1,5,6,19]) (.cond (.slot 19) (.region zsa false [0,1,5,6]) .skip))) (.region zti false [0,1,5,6])))
def Yq:zt:=.loop [0,1,5,6] UY
def zD3:List zb:=[⟨some 27,none,.mov (.slot 5)⟩,
 ⟨some 4,none,.mov (.slot 27)⟩]
def SA:AFn:=⟨(.seq (.region zDE false [0,1]) (.seq (.region zEi false [0,1,5]) (.seq (.seq (.region zDk false [0,1,5,6]) (.block 0 Yq)) (.seq (.region zD3 false [4]) .ret)))),[.slot 4]⟩
def zAP:List zb:=[⟨some 2,none,.box 33 (.slot 0)⟩,
 ⟨some 4,none,.alloc (zL)⟩,
 ⟨some 5,none,.mov (.const (.int .i64 0))⟩]
def zzt:List zb:=[⟨some 9,none,.faddr 0 (.slot 2)⟩,
 ⟨some 10,none,.load false 1 (.slot 9)⟩,
 ⟨some 11,none,.mov (.slot 1)⟩,
 ⟨some 12,none,.call .frz LU [(.slot 10),(.slot 11)]⟩,
 ⟨some 8,none,.mov (.slot 12)⟩,
 ⟨some 13,none,.extract 0 (.slot 8)⟩,
 ⟨some 14,none,.extract 1 (.slot 8)⟩,
 ⟨some 6,none,.mov (.slot 13)⟩,
 ⟨some 7,none,.mov (.slot 14)⟩]
def zAX:List zb:=[⟨some 15,none,.mov (.slot 7)⟩,
 ⟨some 16,none,.bin .neq (.slot 15) (.const (.int .i64 0))⟩]
def zxK:List zb:=[⟨some 17,none,.build (zL) []⟩,
 ⟨some 18,none,.mov (.slot 7)⟩,
 ⟨none,none,.store true 33 (.slot 4) (.slot 17)⟩,
 ⟨some 5,none,.mov (.slot 18)⟩]
def zAl:List zb:=[⟨some 19,none,.mov (.slot 6)⟩,
 ⟨some 20,none,.faddr 0 (.slot 2)⟩,
 ⟨none,none,.store false 1 (.slot 20) (.slot 19)⟩]
def zzC:List zb:=[⟨some 21,none,.mov (.slot 1)⟩,
 ⟨some 22,none,.build [.int .i64 0,.int .i64 0] [(0,1,(.const (.int .i64 0))),(1,1,(.const (.int .i64 0)))]⟩,
 ⟨some 23,none,.faddr 4 (.slot 2)⟩,
 ⟨some 24,none,.idxarr 2 9 (.slot 23) (.slot 21)⟩,
 ⟨none,none,.store true 2 (.slot 24) (.slot 22)⟩]
def zAB:List zb:=[⟨some 25,none,.mov (.slot 1)⟩,
 ⟨some 26,none,.faddr 24 (.slot 2)⟩,
 ⟨some 27,none,.idxarr 1 9 (.slot 26) (.slot 25)⟩,
 ⟨none,none,.store false 1 (.slot 27) (.const (.int .i64 0))⟩]
def zw5:List zb:=[⟨some 28,none,.faddr 3 (.slot 2)⟩,
 ⟨some 29,none,.load false 1 (.slot 28)⟩,
 ⟨some 30,none,.mov (.slot 1)⟩,
 ⟨some 31,none,.call .frz Iz [(.slot 29),(.slot 30)]⟩,
 ⟨some 32,none,.faddr 3 (.slot 2)⟩,
 ⟨none,none,.store false 1 (.slot 32) (.slot 31)⟩]
def zzI:List zb:=[⟨some 33,none,.load true 33 (.slot 2)⟩,
 ⟨some 34,none,.call .frz gW [(.slot 33)]⟩,
 ⟨none,none,.store true 33 (.slot 4) (.slot 34)⟩,
 ⟨some 5,none,.mov (.const (.int .i64 0))⟩]
def YV:AFn:=⟨(.seq (.region zAP false [1,2,4]) (.seq (.region zzt false [1,2,4,6,7]) (.seq (.seq (.region zAX false [1,2,4,6,7,16]) (.cond (.slot 16) (.seq (.region zxK false [4,5]) .ret) .skip)) (.seq (.region zAl false [1,2,4]) (.seq (.region zzC false [1,2,4]) (.seq (.region zAB false [1,2,4]) (.seq (.region zw5 false [2,4]) (.seq (.region zzI false [4,5]) .ret)))))))),[.cell 4 true 33,.slot 5]⟩
def zj6:List zb:=[⟨some 6,none,.mov (.const (.data false 2 [] true))⟩,
 ⟨some 7,none,.mov (.const (.int .i64 0))⟩]
def zjJ:List zb:=[⟨some 8,none,.mov (.slot 0)⟩,
 ⟨some 9,none,.call .frz Tx [(.slot 8)]⟩,
 ⟨some 10,none,.not (.slot 9)⟩,
 ⟨some 11,none,.mov (.slot 10)⟩,
 ⟨some 12,some (11,false),.mov (.slot 2)⟩,
 ⟨some 13,some (11,false),.bin .lss (.slot 12) (.const (.int .i64 1))⟩,
 ⟨some 14,none,.pick (.slot 11) (.const (.bool true)) (.slot 13)⟩,
 ⟨some 15,none,.mov (.slot 14)⟩,
 ⟨some 16,some (15,false),.mov (.slot 2)⟩,
 ⟨some 17,some (15,false),.bin .gtr (.slot 16) (.const (.int .i64 2))⟩,
 ⟨some 18,none,.pick (.slot 15) (.const (.bool true)) (.slot 17)⟩]
def zjx:List zb:=[⟨some 6,none,.mov (.const (.data false 2 [] true))⟩,
 ⟨some 7,none,.mov (.const (.int .i64 2))⟩]
def zj3:List zb:=[⟨some 19,none,.mov (.slot 0)⟩,
 ⟨some 20,none,.mov (.slot 1)⟩,
 ⟨some 21,none,.call .frz uI [(.slot 19),(.slot 20)]⟩,
 ⟨some 22,none,.bin .eql (.slot 21) (.const (.int .i64 0))⟩]
def zj9:List zb:=[⟨some 6,none,.mov (.const (.data false 2 [] true))⟩,
 ⟨some 7,none,.mov (.const (.int .i64 6))⟩]
def zjY:List zb:=[⟨some 23,none,.mov (.slot 0)⟩,
 ⟨some 24,none,.mov (.slot 1)⟩,
 ⟨some 25,none,.mov (.slot 2)⟩,
 ⟨some 26,none,.call .frz SC [(.slot 23),(.slot 24),(.slot 25)]⟩,
 ⟨some 6,none,.mov (.slot 26)⟩,
 ⟨some 7,none,.mov (.const (.int .i64 0))⟩]
def uN:AFn:=⟨(.seq (.region zj6 false [0,1,2]) (.seq (.seq (.region zjJ false [0,1,2,18]) (.cond (.slot 18) (.seq (.region zjx false [6,7]) .ret) .skip)) (.seq (.seq (.region zj3 false [0,1,2,22]) (.cond (.slot 22) (.seq (.region zj9 false [6,7]) .ret) .skip)) (.seq (.region zjY false [6,7]) .ret)))),[.slot 6,.slot 7]⟩
def zxT:List zb:=[⟨some 3,none,.box 33 (.slot 0)⟩,
 ⟨some 6,none,.alloc (zL)⟩,
 ⟨some 7,none,.mov (.const (.int .i64 0))⟩]
def zyu:List zb:=[⟨some 11,none,.faddr 0 (.slot 3)⟩,
 ⟨some 12,none,.load false 1 (.slot 11)⟩,
 ⟨some 13,none,.mov (.slot 1)⟩,
 ⟨some 14,none,.mov (.slot 2)⟩,
 ⟨some 15,none,.call .frz NJ [(.slot 12),(.slot 13),(.slot 14)]⟩,
 ⟨some 10,none,.mov (.slot 15)⟩,
 ⟨some 16,none,.extract 0 (.slot 10)⟩,
 ⟨some 17,none,.extract 1 (.slot 10)⟩,
 ⟨some 8,none,.mov (.slot 16)⟩,
 ⟨some 9,none,.mov (.slot 17)⟩]
def zze:List zb:=[⟨some 18,none,.mov (.slot 9)⟩,
 ⟨some 19,none,.bin .neq (.slot 18) (.const (.int .i64 0))⟩]
def zAT:List zb:=[⟨some 20,none,.build (zL) []⟩,
 ⟨some 21,none,.mov (.slot 9)⟩,
 ⟨none,none,.store true 33 (.slot 6) (.slot 20)⟩,
 ⟨some 7,none,.mov (.slot 21)⟩]
def zwm:List zb:=[⟨some 22,none,.mov (.slot 8)⟩,
 ⟨some 23,none,.faddr 0 (.slot 3)⟩,
 ⟨none,none,.store false 1 (.slot 23) (.slot 22)⟩]
def zzQ:List zb:=[⟨some 24,none,.load true 33 (.slot 3)⟩,
 ⟨some 25,none,.call .frz gW [(.slot 24)]⟩,
 ⟨none,none,.store true 33 (.slot 6) (.slot 25)⟩,
 ⟨some 7,none,.mov (.const (.int .i64 0))⟩]
def ZM:AFn:=⟨(.seq (.region zxT false [1,2,3,6]) (.seq (.region zyu false [3,6,8,9]) (.seq (.seq (.region zze false [3,6,8,9,19]) (.cond (.slot 19) (.seq (.region zAT false [6,7]) .ret) .skip)) (.seq (.region zwm false [3,6]) (.seq (.region zzQ false [6,7]) .ret))))),[.cell 6 true 33,.slot 7]⟩
def Dw:List zb:=[⟨some 1,none,.box 4 (.slot 0)⟩,
 ⟨some 2,none,.mov (.const (.bool false))⟩]
def FN:List zb:=[⟨some 3,none,.faddr 0 (.slot 1)⟩,
 ⟨some 4,none,.load false 1 (.slot 3)⟩,
 ⟨some 5,none,.bin .eql (.slot 4) (.const (.int .i64 2))⟩]
def DR:List zb:=[⟨some 6,none,.faddr 2 (.slot 1)⟩,
 ⟨some 7,none,.load false 1 (.slot 6)⟩,
 ⟨some 8,none,.bin .geq (.slot 7) (.const (.int .i64 1))⟩,
 ⟨some 9,none,.mov (.slot 8)⟩,
 ⟨some 10,some (9,true),.faddr 2 (.slot 1)⟩,
 ⟨some 11,some (9,true),.load false 1 (.slot 10)⟩,
 ⟨some 12,some (9,true),.bin .leq (.slot 11) (.const (.int .i64 1000))⟩,
 ⟨some 13,none,.pick (.slot 9) (.slot 12) (.const (.bool false))⟩,
 ⟨some 14,none,.mov (.slot 13)⟩,
 ⟨some 15,some (14,true),.faddr 3 (.slot 1)⟩,
 ⟨some 16,some (14,true),.load false 1 (.slot 15)⟩,
 ⟨some 17,some (14,true),.bin .geq (.slot 16) (.const (.int .i64 1))⟩,
 ⟨some 18,none,.pick (.slot 14) (.slot 17) (.const (.bool false))⟩,
 ⟨some 19,none,.mov (.slot 18)⟩,
 ⟨some 20,some (19,true),.faddr 3 (.slot 1)⟩,
 ⟨some 21,some (19,true),.load false 1 (.slot 20)⟩,
 ⟨some 22,some (19,true),.bin .leq (.slot 21) (.const (.int .i64 1000))⟩,
 ⟨some 23,none,.pick (.slot 19) (.slot 22) (.const (.bool false))⟩,
 ⟨some 24,none,.mov (.slot 23)⟩,
 ⟨some 25,some (24,true),.faddr 1 (.slot 1)⟩,
 ⟨some 26,some (24,true),.load false 1 (.slot 25)⟩,
 ⟨some 27,some (24,true),.len false (.slot 26)⟩,
 ⟨some 28,some (24,true),.bin .eql (.slot 27) (.const (.int .i64 0))⟩,
 ⟨some 29,none,.pick (.slot 24) (.slot 28) (.const (.bool false))⟩,
 ⟨some 2,none,.mov (.slot 29)⟩]
def FC:List zb:=[⟨some 30,none,.faddr 2 (.slot 1)⟩,
 ⟨some 31,none,.load false 1 (.slot 30)⟩,
 ⟨some 32,none,.bin .neq (.slot 31) (.const (.int .i64 0))⟩,
 ⟨some 33,none,.mov (.slot 32)⟩,
 ⟨some 34,some (33,false),.faddr 3 (.slot 1)⟩,
 ⟨some 35,some (33,false),.load false 1 (.slot 34)⟩,
 ⟨some 36,some (33,false),.bin .neq (.slot 35) (.const (.int .i64 0))⟩,
 ⟨some 37,none,.pick (.slot 33) (.const (.bool true)) (.slot 36)⟩]
def Dr:List zb:=[⟨some 2,none,.mov (.const (.bool false))⟩]
def Dx:List zb:=[⟨some 38,none,.faddr 0 (.slot 1)⟩,
 ⟨some 39,none,.load false 1 (.slot 38)⟩,
 ⟨some 40,none,.bin .eql (.slot 39) (.const (.int .i64 1))⟩]
def Dy:List zb:=[⟨some 41,none,.faddr 1 (.slot 1)⟩,
 ⟨some 42,none,.load false 1 (.slot 41)⟩,
 ⟨some 43,none,.len false (.slot 42)⟩,
 ⟨some 44,none,.bin .gtr (.slot 43) (.const (.int .i64 0))⟩,
 ⟨some 45,none,.mov (.slot 44)⟩,
 ⟨some 46,some (45,true),.faddr 1 (.slot 1)⟩,
 ⟨some 47,some (45,true),.load false 1 (.slot 46)⟩,
 ⟨some 48,some (45,true),.len false (.slot 47)⟩,
 ⟨some 49,some (45,true),.bin .leq (.slot 48) (.const (.int .i64 16))⟩,
 ⟨some 50,none,.pick (.slot 45) (.slot 49) (.const (.bool false))⟩,
 ⟨some 2,none,.mov (.slot 50)⟩]
def DK:List zb:=[⟨some 51,none,.faddr 0 (.slot 1)⟩,
 ⟨some 52,none,.load false 1 (.slot 51)⟩,
 ⟨some 53,none,.bin .eql (.slot 52) (.const (.int .i64 3))⟩,
 ⟨some 54,none,.mov (.slot 53)⟩,
 ⟨some 55,some (54,false),.faddr 0 (.slot 1)⟩,
 ⟨some 56,some (54,false),.load false 1 (.slot 55)⟩,
 ⟨some 57,some (54,false),.bin .eql (.slot 56) (.const (.int .i64 4))⟩,
 ⟨some 58,none,.pick (.slot 54) (.const (.bool true)) (.slot 57)⟩,
 ⟨some 59,none,.mov (.slot 58)⟩,
 ⟨some 60,some (59,true),.faddr 1 (.slot 1)⟩,
 ⟨some 61,some (59,true),.load false 1 (.slot 60)⟩,
 ⟨some 62,some (59,true),.len false (.slot 61)⟩,
 ⟨some 63,some (59,true),.bin .eql (.slot 62) (.const (.int .i64 0))⟩,
 ⟨some 64,none,.pick (.slot 59) (.slot 63) (.const (.bool false))⟩,
 ⟨some 2,none,.mov (.slot 64)⟩]
def ve:AFn:=⟨(.seq (.region Dw false [1]) (.seq (.seq (.region FN false [1,5]) (.cond (.slot 5) (.seq (.region DR false [2]) .ret) .skip)) (.seq (.seq (.region FC false [1,37]) (.cond (.slot 37) (.seq (.region Dr false [2]) .ret) .skip)) (.seq (.seq (.region Dx false [1,40]) (.cond (.slot 40) (.seq (.region Dy false [2]) .ret) .skip)) (.seq (.region DK false [2]) .ret))))),[.slot 2]⟩
def zr0:List zb:=[⟨some 2,none,.box 2 (.slot 0)⟩,
 ⟨some 4,none,.alloc [.int .i64 0,.data false 1 [] true]⟩]
def ztD:List zb:=[⟨some 6,none,.load true 2 (.slot 2)⟩,
 ⟨some 7,none,.call .frz VI [(.slot 6)]⟩,
 ⟨some 5,none,.mov (.slot 7)⟩]
def zrK:List zb:=[⟨some 8,none,.mov (.slot 5)⟩,
 ⟨some 9,none,.mov (.slot 1)⟩,
 ⟨some 10,none,.call .frz Ro [(.slot 8),(.slot 9)]⟩]
def zrt:List zb:=[⟨some 11,none,.load true 2 (.slot 2)⟩,
 ⟨none,none,.store true 2 (.slot 4) (.slot 11)⟩]
def zrC:List zb:=[⟨some 12,none,.mkslice 1 0 [.int .i64 0] []⟩,
 ⟨some 13,none,.mov (.slot 5)⟩,
 ⟨some 14,none,.append 1 8 (.slot 12) (.slot 13)⟩,
 ⟨some 15,none,.mov (.slot 1)⟩,
 ⟨some 16,none,.mkslice 1 1 [.int .i64 0] [(0,(.slot 15))]⟩,
 ⟨some 17,none,.append 1 8 (.slot 14) (.slot 16)⟩,
 ⟨some 18,none,.call .inl Ij [(.slot 17)]⟩,
 ⟨none,none,.store true 2 (.slot 4) (.slot 18)⟩]
def VH:AFn:=⟨(.seq (.region zr0 false [1,2,4]) (.seq (.region ztD false [1,2,4,5]) (.seq (.seq (.region zrK false [1,2,4,5,10]) (.cond (.slot 10) (.seq (.region zrt false [4]) .ret) .skip)) (.seq (.region zrC false [4]) .ret)))),[.cell 4 true 2]⟩
def zDV:List zb:=[⟨some 2,none,.box 2 (.slot 0)⟩,
 ⟨some 4,none,.alloc [.int .i64 0,.data false 1 [] true]⟩]
def zD7:List zb:=[⟨some 5,none,.mknil 1⟩]
def zDw:List zb:=[⟨some 8,none,.load true 2 (.slot 2)⟩,
 ⟨some 9,none,.call .frz VI [(.slot 8)]⟩,
 ⟨some 6,none,.mov (.slot 9)⟩]
def zDY:List zb:=[⟨some 7,none,.mov (.const (.int .i64 0))⟩]
def zrN:List zb:=[⟨some 10,none,.mov (.slot 7)⟩,
 ⟨some 11,none,.mov (.slot 6)⟩,
 ⟨some 12,none,.len false (.slot 11)⟩,
 ⟨some 13,none,.bin .lss (.slot 10) (.slot 12)⟩]
def zsf:List zb:=[⟨some 16,none,.mov (.slot 6)⟩,
 ⟨some 17,none,.mov (.slot 7)⟩,
 ⟨some 18,none,.idx 1 (.slot 16) (.slot 17)⟩,
 ⟨some 19,none,.load false 1 (.slot 18)⟩,
 ⟨some 20,none,.mov (.slot 1)⟩,
 ⟨some 21,none,.bin .neq (.slot 19) (.slot 20)⟩]
def zqZ:List zb:=[⟨some 22,none,.mov (.slot 5)⟩,
 ⟨some 23,none,.mov (.slot 6)⟩,
 ⟨some 24,none,.mov (.slot 7)⟩,
 ⟨some 25,none,.idx 1 (.slot 23) (.slot 24)⟩,
 ⟨some 26,none,.load false 1 (.slot 25)⟩,
 ⟨some 27,none,.mkslice 1 1 [.int .i64 0] [(0,(.slot 26))]⟩,
 ⟨some 28,none,.append 1 8 (.slot 22) (.slot 27)⟩,
 ⟨some 5,none,.mov (.slot 28)⟩]
def zrG:List zb:=[⟨some 14,none,.mov (.slot 7)⟩,
 ⟨some 15,none,.bin .add (.slot 14) (.const (.int .i64 1))⟩,
 ⟨some 7,none,.mov (.slot 15)⟩]
def Ta:zt:=(.seq (.seq (.region zrN false [1,4,5,6,7,13]) (.cond (.slot 13) .skip (.exit 0))) (.seq (.block 1 (.seq (.region zsf false [1,4,5,6,7,21]) (.cond (.slot 21) (.region zqZ false [1,4,5,6,7]) .skip))) (.region zrG false [1,4,5,6,7])))
def o6:zt:=.loop [1,4,5,6,7] Ta
def zDA:List zb:=[⟨some 29,none,.mov (.slot 5)⟩,
 ⟨some 30,none,.call .inl Ij [(.slot 29)]⟩,
 ⟨none,none,.store true 2 (.slot 4) (.slot 30)⟩]
def TY:AFn:=⟨(.seq (.region zDV false [1,2,4]) (.seq (.region zD7 false [1,2,4,5]) (.seq (.region zDw false [1,4,5,6]) (.seq (.seq (.region zDY false [1,4,5,6,7]) (.block 0 o6)) (.seq (.region zDA false [4]) .ret))))),[.cell 4 true 2]⟩
def Lx:List zb:=[⟨some 4,none,.box 33 (.slot 0)⟩,
 ⟨some 7,none,.box 4 (.slot 3)⟩,
 ⟨some 8,none,.alloc (zL)⟩,
 ⟨some 9,none,.mov (.const (.int .i64 0))⟩]
def LD:List zb:=[⟨some 11,none,.faddr 0 (.slot 4)⟩,
 ⟨some 12,none,.load false 1 (.slot 11)⟩,
 ⟨some 13,none,.mov (.slot 1)⟩,
 ⟨some 14,none,.call .frz uI [(.slot 12),(.slot 13)]⟩,
 ⟨some 10,none,.mov (.slot 14)⟩]
def Lm:List zb:=[⟨some 15,none,.mov (.slot 10)⟩,
 ⟨some 16,none,.bin .eql (.slot 15) (.const (.int .i64 0))⟩]
def Li:List zb:=[⟨some 17,none,.build (zL) []⟩,
 ⟨none,none,.store true 33 (.slot 8) (.slot 17)⟩,
 ⟨some 9,none,.mov (.const (.int .i64 6))⟩]
def LK:List zb:=[⟨some 18,none,.mov (.slot 2)⟩,
 ⟨some 19,none,.bin .gtr (.slot 18) (.const (.int .i64 1073741824))⟩,
 ⟨some 20,none,.mov (.slot 19)⟩,
 ⟨some 21,some (20,false),.mov (.slot 2)⟩,
 ⟨some 22,some (20,false),.bin .sub (.slot 21) (.const (.int .i64 1))⟩,
 ⟨some 23,some (20,false),.mov (.slot 1)⟩,
 ⟨some 24,some (20,false),.faddr 24 (.slot 4)⟩,
 ⟨some 25,some (20,false),.idxarr 1 9 (.slot 24) (.slot 23)⟩,
 ⟨some 26,some (20,false),.load false 1 (.slot 25)⟩,
 ⟨some 27,some (20,false),.bin .neq (.slot 22) (.slot 26)⟩,
 ⟨some 28,none,.pick (.slot 20) (.const (.bool true)) (.slot 27)⟩,
 ⟨some 29,none,.mov (.slot 28)⟩,
 ⟨some 30,some (29,false),.mov (.slot 2)⟩,
 ⟨some 31,some (29,false),.bin .lss (.slot 30) (.const (.int .i64 1))⟩,
 ⟨some 32,none,.pick (.slot 29) (.const (.bool true)) (.slot 31)⟩]
def LB:List zb:=[⟨some 33,none,.build (zL) []⟩,
 ⟨none,none,.store true 33 (.slot 8) (.slot 33)⟩,
 ⟨some 9,none,.mov (.const (.int .i64 300))⟩]
def Lg:List zb:=[⟨some 34,none,.load true 4 (.slot 7)⟩,
 ⟨some 35,none,.call .frz JQ [(.slot 34)]⟩,
 ⟨some 36,none,.not (.slot 35)⟩]
def LJ:List zb:=[⟨some 37,none,.build (zL) []⟩,
 ⟨none,none,.store true 33 (.slot 8) (.slot 37)⟩,
 ⟨some 9,none,.mov (.const (.int .i64 2))⟩]
def Lj:List zb:=[⟨some 38,none,.mov (.slot 1)⟩,
 ⟨some 39,none,.mov (.slot 2)⟩,
 ⟨some 40,none,.faddr 24 (.slot 4)⟩,
 ⟨some 41,none,.idxarr 1 9 (.slot 40) (.slot 38)⟩,
 ⟨none,none,.store false 1 (.slot 41) (.slot 39)⟩]
def Ll:List zb:=[⟨some 42,none,.faddr 0 (.slot 7)⟩,
 ⟨some 43,none,.load false 1 (.slot 42)⟩]
def TF:List zb:=[⟨some 45,none,.bin .eql (.slot 43) (.const (.int .i64 1))⟩,
 ⟨some 44,none,.mov (.slot 45)⟩]
def Sk:List zb:=[⟨some 46,none,.faddr 1 (.slot 4)⟩,
 ⟨some 47,none,.faddr 0 (.slot 46)⟩,
 ⟨some 48,none,.load false 1 (.slot 47)⟩,
 ⟨some 49,none,.mov (.slot 1)⟩,
 ⟨some 50,none,.bin .eql (.slot 48) (.slot 49)⟩,
 ⟨some 51,none,.mov (.slot 50)⟩,
 ⟨some 52,some (51,true),.faddr 3 (.slot 4)⟩,
 ⟨some 53,some (51,true),.load false 1 (.slot 52)⟩,
 ⟨some 54,some (51,true),.call .frz Yi [(.slot 53)]⟩,
 ⟨some 55,some (51,true),.faddr 1 (.slot 7)⟩,
 ⟨some 56,some (51,true),.load false 1 (.slot 55)⟩,
 ⟨some 57,some (51,true),.len false (.slot 56)⟩,
 ⟨some 58,some (51,true),.bin .add (.slot 54) (.slot 57)⟩,
 ⟨some 59,some (51,true),.bin .leq (.slot 58) (.const (.int .i64 64))⟩,
 ⟨some 60,none,.pick (.slot 51) (.slot 59) (.const (.bool false))⟩]
def TP:List zb:=[⟨some 61,none,.faddr 3 (.slot 4)⟩,
 ⟨some 62,none,.load false 1 (.slot 61)⟩,
 ⟨some 63,none,.call .adp SB [(.slot 62)]⟩,
 ⟨some 64,none,.mov (.slot 1)⟩,
 ⟨some 65,none,.mov (.slot 2)⟩,
 ⟨some 66,none,.mkdata 1 0 [.int .u8 0] []⟩,
 ⟨some 67,none,.faddr 1 (.slot 7)⟩,
 ⟨some 68,none,.load false 1 (.slot 67)⟩,
 ⟨some 69,none,.appendD 1 1 (.slot 66) (.slot 68)⟩,
 ⟨some 70,none,.build [.int .i64 0,.int .i64 0,.data false 1 [] true] [(0,1,(.slot 64)),(1,1,(.slot 65)),(2,1,(.slot 69))]⟩,
 ⟨some 71,none,.mkslice 3 1 [.int .i64 0,.int .i64 0,.data false 1 [] true] [(0,(.slot 70))]⟩,
 ⟨some 72,none,.append 3 40 (.slot 63) (.slot 71)⟩,
 ⟨some 73,none,.faddr 3 (.slot 4)⟩,
 ⟨none,none,.store false 1 (.slot 73) (.slot 72)⟩]
def TU:List zb:=[⟨some 75,none,.bin .eql (.slot 43) (.const (.int .i64 2))⟩,
 ⟨some 74,none,.mov (.slot 75)⟩]
def Sn:List zb:=[⟨some 76,none,.mov (.slot 1)⟩,
 ⟨some 77,none,.faddr 2 (.slot 7)⟩,
 ⟨some 78,none,.load false 1 (.slot 77)⟩,
 ⟨some 79,none,.faddr 3 (.slot 7)⟩,
 ⟨some 80,none,.load false 1 (.slot 79)⟩,
 ⟨some 81,none,.build [.int .i64 0,.int .i64 0] [(0,1,(.slot 78)),(1,1,(.slot 80))]⟩,
 ⟨some 82,none,.faddr 4 (.slot 4)⟩,
 ⟨some 83,none,.idxarr 2 9 (.slot 82) (.slot 76)⟩,
 ⟨none,none,.store true 2 (.slot 83) (.slot 81)⟩]
def SE:List zb:=[⟨some 84,none,.load true 33 (.slot 4)⟩,
 ⟨some 85,none,.call .frz gW [(.slot 84)]⟩,
 ⟨none,none,.store true 33 (.slot 4) (.slot 85)⟩]
def TJ:List zb:=[⟨some 87,none,.bin .eql (.slot 43) (.const (.int .i64 3))⟩,
 ⟨some 86,none,.mov (.slot 87)⟩]
def TS:List zb:=[⟨some 88,none,.mov (.slot 10)⟩,
 ⟨some 89,none,.bin .eql (.slot 88) (.const (.int .i64 2))⟩]
def TK:List zb:=[⟨some 90,none,.faddr 1 (.slot 4)⟩,
 ⟨some 91,none,.load true 2 (.slot 90)⟩,
 ⟨some 92,none,.mov (.slot 1)⟩,
 ⟨some 93,none,.call .frz Di [(.slot 91),(.slot 92)]⟩,
 ⟨some 94,none,.faddr 1 (.slot 4)⟩,
 ⟨none,none,.store true 2 (.slot 94) (.slot 93)⟩]
def Su:List zb:=[⟨some 96,none,.bin .eql (.slot 43) (.const (.int .i64 4))⟩,
 ⟨some 95,none,.mov (.slot 96)⟩]
def TH:List zb:=[⟨some 97,none,.faddr 1 (.slot 4)⟩,
 ⟨some 98,none,.load true 2 (.slot 97)⟩,
 ⟨some 99,none,.mov (.slot 1)⟩,
 ⟨some 100,none,.call .frz IA [(.slot 98),(.slot 99)]⟩,
 ⟨some 101,none,.faddr 1 (.slot 4)⟩,
 ⟨none,none,.store true 2 (.slot 101) (.slot 100)⟩]
def SF:List zb:=[⟨some 102,none,.load true 33 (.slot 4)⟩,
 ⟨none,none,.store true 33 (.slot 8) (.slot 102)⟩,
 ⟨some 9,none,.mov (.const (.int .i64 0))⟩]
def yx:AFn:=⟨(.seq (.region Lx false [1,2,4,7,8]) (.seq (.region LD false [1,2,4,7,8,10]) (.seq (.seq (.region Lm false [1,2,4,7,8,10,16]) (.cond (.slot 16) (.seq (.region Li false [8,9]) .ret) .skip)) (.seq (.seq (.region LK false [1,2,4,7,8,10,32]) (.cond (.slot 32) (.seq (.region LB false [8,9]) .ret) .skip)) (.seq (.seq (.region Lg false [1,2,4,7,8,10,36]) (.cond (.slot 36) (.seq (.region LJ false [8,9]) .ret) .skip)) (.seq (.region Lj false [1,2,4,7,8,10]) (.seq (.seq (.region Ll false [1,2,4,7,8,10,43]) (.block 0 (.seq (.region TF false [1,2,4,7,8,10,43,44]) (.cond (.slot 44) (.seq (.region Sk true [1,2,4,7,8,60]) (.cond (.slot 60) (.region TP true [4,8]) .skip)) (.seq (.region TU false [1,4,7,8,10,43,74]) (.cond (.slot 74) (.seq (.region Sn false [4,8]) (.region SE false [4,8])) (.seq (.region TJ false [1,4,8,10,43,86]) (.cond (.slot 86) (.seq (.region TS false [1,4,8,89]) (.cond (.slot 89) (.region TK false [4,8]) .skip)) (.seq (.region Su false [1,4,8,95]) (.cond (.slot 95) (.region TH false [4,8]) .skip)))))))))) (.seq (.region SF false [8,9]) .ret)))))))),[.cell 8 true 33,.slot 9]⟩
def zxU:List zb:=[⟨some 4,none,.mov (.const (.int .i64 0))⟩]
def zAF:List zb:=[⟨some 6,none,.mov (.slot 0)⟩,
 ⟨some 7,none,.len false (.slot 6)⟩,
 ⟨some 5,none,.mov (.slot 7)⟩]
def znP:List zb:=[⟨some 8,none,.mov (.slot 5)⟩,
 ⟨some 9,none,.bin .gtr (.slot 8) (.const (.int .i64 0))⟩]
def znJ:List zb:=[⟨some 12,none,.mov (.slot 0)⟩,
 ⟨some 13,none,.mov (.slot 5)⟩,
 ⟨some 14,none,.sl 3 (.slot 12) none (some (.slot 13)) none⟩,
 ⟨some 15,none,.call .frz Yi [(.slot 14)]⟩,
 ⟨some 16,none,.mov (.slot 1)⟩,
 ⟨some 17,none,.bin .leq (.slot 15) (.slot 16)⟩]
def zmZ:List zb:=[⟨some 18,none,.mov (.slot 5)⟩,
 ⟨some 4,none,.mov (.slot 18)⟩]
def zm1:List zb:=[⟨some 10,none,.mov (.slot 5)⟩,
 ⟨some 11,none,.bin .sub (.slot 10) (.const (.int .i64 1))⟩,
 ⟨some 5,none,.mov (.slot 11)⟩]
def gX:zt:=(.seq (.seq (.region znP false [0,1,5,9]) (.cond (.slot 9) .skip (.exit 0))) (.seq (.block 1 (.seq (.region znJ false [0,1,5,17]) (.cond (.slot 17) (.seq (.region zmZ false [4]) .ret) .skip))) (.region zm1 false [0,1,5])))
def uu:zt:=.loop [0,1,5] gX
def zy6:List zb:=[⟨some 4,none,.mov (.const (.int .i64 0))⟩]
def YO:AFn:=⟨(.seq (.region zxU false [0,1]) (.seq (.seq (.region zAF false [0,1,5]) (.block 0 uu)) (.seq (.region zy6 false [4]) .ret))),[.slot 4]⟩
def zEs:List zb:=[⟨some 2,none,.box 33 (.slot 0)⟩,
 ⟨some 4,none,.alloc (zL)⟩,
 ⟨some 5,none,.mov (.const (.data false 3 [] true))⟩]
def zD0:List zb:=[⟨some 8,none,.faddr 3 (.slot 2)⟩,
 ⟨some 9,none,.load false 1 (.slot 8)⟩,
 ⟨some 10,none,.mov (.slot 1)⟩,
 ⟨some 11,none,.call .frz KC [(.slot 9),(.slot 10)]⟩,
 ⟨some 6,none,.mov (.slot 11)⟩]
def zEv:List zb:=[⟨some 12,none,.faddr 3 (.slot 2)⟩,
 ⟨some 13,none,.load false 1 (.slot 12)⟩,
 ⟨some 14,none,.mov (.slot 6)⟩,
 ⟨some 15,none,.sl 3 (.slot 13) none (some (.slot 14)) none⟩,
 ⟨some 7,none,.mov (.slot 15)⟩]
def zDI:List zb:=[⟨some 16,none,.faddr 3 (.slot 2)⟩,
 ⟨some 17,none,.load false 1 (.slot 16)⟩,
 ⟨some 18,none,.mov (.slot 6)⟩,
 ⟨some 19,none,.sl 3 (.slot 17) (some (.slot 18)) none none⟩,
 ⟨some 20,none,.faddr 3 (.slot 2)⟩,
 ⟨none,none,.store false 1 (.slot 20) (.slot 19)⟩]
def zC8:List zb:=[⟨some 21,none,.load true 33 (.slot 2)⟩,
 ⟨some 22,none,.mov (.slot 7)⟩,
 ⟨none,none,.store true 33 (.slot 4) (.slot 21)⟩,
 ⟨some 5,none,.mov (.slot 22)⟩]
def UO:AFn:=⟨(.seq (.region zEs false [1,2,4]) (.seq (.region zD0 false [2,4,6]) (.seq (.region zEv false [2,4,6,7]) (.seq (.region zDI false [2,4,7]) (.seq (.region zC8 false [4,5]) .ret))))),[.cell 4 true 33,.slot 5]⟩
def zEY:List zb:=[⟨some 6,none,.box 33 (.slot 0)⟩,
 ⟨some 10,none,.box 4 (.slot 4)⟩,
 ⟨some 12,none,.mov (.const (.bool false))⟩]
def zGf:List zb:=[⟨some 37,none,.call .frz zaF []⟩,
 ⟨some 38,none,.not (.slot 37)⟩]
def zFW:List zb:=[⟨some 12,none,.mov (.const (.bool false))⟩]
def zxB:List zb:=[⟨some 39,none,.load true 33 (.slot 6)⟩,
 ⟨some 40,none,.call .frz Kt [(.slot 39)]⟩,
 ⟨some 41,none,.mov (.slot 40)⟩,
 ⟨some 42,some (41,false),.faddr 1 (.slot 10)⟩,
 ⟨some 43,some (41,false),.load false 1 (.slot 42)⟩,
 ⟨some 44,some (41,false),.len false (.slot 43)⟩,
 ⟨some 45,some (41,false),.bin .gtr (.slot 44) (.const (.int .i64 100))⟩,
 ⟨some 46,none,.pick (.slot 41) (.const (.bool true)) (.slot 45)⟩]
def zxh:List zb:=[⟨some 12,none,.mov (.const (.bool true))⟩]
def zF4:List zb:=[⟨some 47,none,.load true 33 (.slot 6)⟩,
 ⟨some 48,none,.call .frz Pf [(.slot 47)]⟩,
 ⟨some 13,none,.alloc (zL)⟩,
 ⟨none,none,.store true 33 (.slot 13) (.slot 48)⟩]
def zFy:List zb:=[⟨some 50,none,.load true 33 (.slot 13)⟩,
 ⟨some 51,none,.mov (.slot 1)⟩,
 ⟨some 52,none,.mov (.slot 2)⟩,
 ⟨some 53,none,.call .frz ZG [(.slot 50),(.slot 51),(.slot 52)]⟩,
 ⟨some 49,none,.mov (.slot 53)⟩,
 ⟨some 54,none,.extract 0 (.slot 49)⟩,
 ⟨some 55,none,.extract 1 (.slot 49)⟩,
 ⟨some 14,none,.alloc (zL)⟩,
 ⟨none,none,.store true 33 (.slot 14) (.slot 54)⟩,
 ⟨some 15,none,.mov (.slot 55)⟩]
def zEH:List zb:=[⟨some 57,none,.load true 33 (.slot 13)⟩,
 ⟨some 58,none,.mov (.slot 1)⟩,
 ⟨some 59,none,.call .frz YD [(.slot 57),(.slot 58)]⟩,
 ⟨some 56,none,.mov (.slot 59)⟩,
 ⟨some 60,none,.extract 0 (.slot 56)⟩,
 ⟨some 61,none,.extract 1 (.slot 56)⟩,
 ⟨some 16,none,.alloc (zL)⟩,
 ⟨none,none,.store true 33 (.slot 16) (.slot 60)⟩,
 ⟨some 17,none,.mov (.slot 61)⟩]
def zE1:List zb:=[⟨some 63,none,.load true 33 (.slot 13)⟩,
 ⟨some 64,none,.mov (.slot 1)⟩,
 ⟨some 65,none,.mov (.slot 2)⟩,
 ⟨some 66,none,.call .frz ZH [(.slot 63),(.slot 64),(.slot 65)]⟩,
 ⟨some 62,none,.mov (.slot 66)⟩,
 ⟨some 67,none,.extract 0 (.slot 62)⟩,
 ⟨some 68,none,.extract 1 (.slot 62)⟩,
 ⟨some 18,none,.alloc (zL)⟩,
 ⟨none,none,.store true 33 (.slot 18) (.slot 67)⟩,
 ⟨some 19,none,.mov (.slot 68)⟩]
def zFv:List zb:=[⟨some 70,none,.load true 33 (.slot 13)⟩,
 ⟨some 71,none,.mov (.slot 1)⟩,
 ⟨some 72,none,.mov (.slot 3)⟩,
 ⟨some 73,none,.load true 4 (.slot 10)⟩,
 ⟨some 74,none,.call .frz vI [(.slot 70),(.slot 71),(.slot 72),(.slot 73)]⟩,
 ⟨some 69,none,.mov (.slot 74)⟩,
 ⟨some 75,none,.extract 0 (.slot 69)⟩,
 ⟨some 76,none,.extract 1 (.slot 69)⟩,
 ⟨some 20,none,.alloc (zL)⟩,
 ⟨none,none,.store true 33 (.slot 20) (.slot 75)⟩,
 ⟨some 21,none,.mov (.slot 76)⟩]
def zwa:List zb:=[⟨some 78,none,.load true 33 (.slot 13)⟩,
 ⟨some 79,none,.mov (.slot 5)⟩,
 ⟨some 80,none,.call .frz YI [(.slot 78),(.slot 79)]⟩,
 ⟨some 77,none,.mov (.slot 80)⟩,
 ⟨some 81,none,.extract 0 (.slot 77)⟩,
 ⟨some 82,none,.extract 1 (.slot 77)⟩,
 ⟨some 22,none,.alloc (zL)⟩,
 ⟨none,none,.store true 33 (.slot 22) (.slot 81)⟩,
 ⟨some 23,none,.mov (.slot 82)⟩]
def zyq:List zb:=[⟨some 83,none,.load true 33 (.slot 13)⟩,
 ⟨some 84,none,.load true 33 (.slot 6)⟩,
 ⟨some 85,none,.call .frz yN [(.slot 83),(.slot 84)]⟩,
 ⟨some 86,none,.not (.slot 85)⟩]
def zA9:List zb:=[⟨some 12,none,.mov (.const (.bool false))⟩]
def zsg:List zb:=[⟨some 87,none,.load true 33 (.slot 6)⟩,
 ⟨some 88,none,.call .frz TB [(.slot 87)]⟩,
 ⟨some 89,none,.not (.slot 88)⟩]
def zsm:List zb:=[⟨some 90,none,.build (zL) []⟩,
 ⟨some 24,none,.alloc (zL)⟩,
 ⟨none,none,.store true 33 (.slot 24) (.slot 90)⟩]
def ztG:List zb:=⟨some 91,none,.load true 33 (.slot 6)⟩::
 ⟨some 92,none,.load true 33 (.slot 14)⟩::
 ⟨some 93,none,.mov (.slot 15)⟩::
 ⟨some 94,none,.load true 33 (.slot 24)⟩::
 ⟨some 95,none,.call .frz yl [(.slot 91),(.slot 92),(.slot 93),(.slot 94),(.const (.int .i64 0))]⟩::
 ⟨some 96,none,.mov (.slot 95)⟩::
 ⟨some 97,some (96,true),.load true 33 (.slot 6)⟩::
 ⟨some 98,some (96,true),.load true 33 (.slot 16)⟩::
 ⟨some 99,some (96,true),.mov (.slot 17)⟩::
 ⟨some 100,some (96,true),.load true 33 (.slot 24)⟩::
 ⟨some 101,some (96,true),.call .frz yl [(.slot 97),(.slot 98),(.slot 99),(.slot 100),(.const (.int .i64 0))]⟩::
 ⟨some 102,none,.pick (.slot 96) (.slot 101) (.const (.bool false))⟩::
 ⟨some 103,none,.mov (.slot 102)⟩::
 ⟨some 104,some (103,true),.load true 33 (.slot 6)⟩::
 ⟨some 105,some (103,true),.load true 33 (.slot 18)⟩::
 ⟨some 106,some (103,true),.mov (.slot 19)⟩::
 ⟨some 107,some (103,true),.load true 33 (.slot 24)⟩::
 ⟨some 108,some (103,true),.call .frz yl [(.slot 104),(.slot 105),(.slot 106),(.slot 107),(.const (.int .i64 0))]⟩::
 ⟨some 109,none,.pick (.slot 103) (.slot 108) (.const (.bool false))⟩::
 ⟨some 110,none,.mov (.slot 109)⟩::
 ⟨some 111,some (110,true),.load true 33 (.slot 6)⟩::
 ⟨some 112,some (110,true),.load true 33 (.slot 20)⟩::
 ⟨some 113,some (110,true),.mov (.slot 21)⟩::
 ⟨some 114,some (110,true),.load true 33 (.slot 24)⟩::
 ⟨some 115,some (110,true),.call .frz yl [(.slot 111),(.slot 112),(.slot 113),(.slot 114),(.const (.int .i64 0))]⟩::
 ⟨some 116,none,.pick (.slot 110) (.slot 115) (.const (.bool false))⟩::
 ⟨some 117,none,.mov (.slot 116)⟩::
 ⟨some 118,some (117,true),.load true 33 (.slot 22)⟩::
 ⟨some 119,some (117,true),.load true 33 (.slot 24)⟩::
 ⟨some 120,some (117,true),.call .frz yN [(.slot 118),(.slot 119)]⟩::
 ⟨some 121,none,.pick (.slot 117) (.slot 120) (.const (.bool false))⟩::
 ⟨some 122,none,.mov (.slot 121)⟩::
 ⟨some 123,some (122,true),.mov (.slot 23)⟩::
 ⟨some 124,some (122,true),.len false (.slot 123)⟩::
 ⟨some 125,some (122,true),.bin .eql (.slot 124) (.const (.int .i64 0))⟩::
 ⟨some 126,none,.pick (.slot 122) (.slot 125) (.const (.bool false))⟩::
 ⟨some 12,none,.mov (.slot 126)⟩::[]
def zyS:List zb:=[⟨some 128,none,.load true 33 (.slot 6)⟩,
 ⟨some 129,none,.mov (.slot 1)⟩,
 ⟨some 130,none,.mov (.slot 2)⟩,
 ⟨some 131,none,.call .frz Pj [(.slot 128),(.slot 129),(.slot 130)]⟩,
 ⟨some 127,none,.mov (.slot 131)⟩,
 ⟨some 132,none,.extract 0 (.slot 127)⟩,
 ⟨some 133,none,.extract 1 (.slot 127)⟩,
 ⟨some 25,none,.alloc (zL)⟩,
 ⟨none,none,.store true 33 (.slot 25) (.slot 132)⟩,
 ⟨some 26,none,.mov (.slot 133)⟩]
def zwN:List zb:=[⟨some 135,none,.load true 33 (.slot 6)⟩,
 ⟨some 136,none,.mov (.slot 1)⟩,
 ⟨some 137,none,.call .frz Rh [(.slot 135),(.slot 136)]⟩,
 ⟨some 134,none,.mov (.slot 137)⟩,
 ⟨some 138,none,.extract 0 (.slot 134)⟩,
 ⟨some 139,none,.extract 1 (.slot 134)⟩,
 ⟨some 27,none,.alloc (zL)⟩,
 ⟨none,none,.store true 33 (.slot 27) (.slot 138)⟩,
 ⟨some 28,none,.mov (.slot 139)⟩]
def zwS:List zb:=[⟨some 141,none,.load true 33 (.slot 6)⟩,
 ⟨some 142,none,.mov (.slot 1)⟩,
 ⟨some 143,none,.mov (.slot 2)⟩,
 ⟨some 144,none,.call .frz TR [(.slot 141),(.slot 142),(.slot 143)]⟩,
 ⟨some 140,none,.mov (.slot 144)⟩,
 ⟨some 145,none,.extract 0 (.slot 140)⟩,
 ⟨some 146,none,.extract 1 (.slot 140)⟩,
 ⟨some 29,none,.alloc (zL)⟩,
 ⟨none,none,.store true 33 (.slot 29) (.slot 145)⟩,
 ⟨some 30,none,.mov (.slot 146)⟩]
def zAp:List zb:=[⟨some 148,none,.load true 33 (.slot 6)⟩,
 ⟨some 149,none,.mov (.slot 1)⟩,
 ⟨some 150,none,.mov (.slot 3)⟩,
 ⟨some 151,none,.load true 4 (.slot 10)⟩,
 ⟨some 152,none,.call .frz Pk [(.slot 148),(.slot 149),(.slot 150),(.slot 151)]⟩,
 ⟨some 147,none,.mov (.slot 152)⟩,
 ⟨some 153,none,.extract 0 (.slot 147)⟩,
 ⟨some 154,none,.extract 1 (.slot 147)⟩,
 ⟨some 31,none,.alloc (zL)⟩,
 ⟨none,none,.store true 33 (.slot 31) (.slot 153)⟩,
 ⟨some 32,none,.mov (.slot 154)⟩]
def zvV:List zb:=[⟨some 156,none,.load true 33 (.slot 6)⟩,
 ⟨some 157,none,.mov (.slot 5)⟩,
 ⟨some 158,none,.call .frz Rj [(.slot 156),(.slot 157)]⟩,
 ⟨some 155,none,.mov (.slot 158)⟩,
 ⟨some 159,none,.extract 0 (.slot 155)⟩,
 ⟨some 160,none,.extract 1 (.slot 155)⟩,
 ⟨some 33,none,.alloc (zL)⟩,
 ⟨none,none,.store true 33 (.slot 33) (.slot 159)⟩,
 ⟨some 34,none,.mov (.slot 160)⟩]
def zwb:List zb:=⟨some 161,none,.load true 33 (.slot 6)⟩::
 ⟨some 162,none,.load true 33 (.slot 14)⟩::
 ⟨some 163,none,.mov (.slot 15)⟩::
 ⟨some 164,none,.load true 33 (.slot 25)⟩::
 ⟨some 165,none,.mov (.slot 26)⟩::
 ⟨some 166,none,.call .frz yl [(.slot 161),(.slot 162),(.slot 163),(.slot 164),(.slot 165)]⟩::
 ⟨some 167,none,.not (.slot 166)⟩::
 ⟨some 168,none,.mov (.slot 167)⟩::
 ⟨some 169,some (168,false),.load true 33 (.slot 6)⟩::
 ⟨some 170,some (168,false),.load true 33 (.slot 16)⟩::
 ⟨some 171,some (168,false),.mov (.slot 17)⟩::
 ⟨some 172,some (168,false),.load true 33 (.slot 27)⟩::
 ⟨some 173,some (168,false),.mov (.slot 28)⟩::
 ⟨some 174,some (168,false),.call .frz yl [(.slot 169),(.slot 170),(.slot 171),(.slot 172),(.slot 173)]⟩::
 ⟨some 175,some (168,false),.not (.slot 174)⟩::
 ⟨some 176,none,.pick (.slot 168) (.const (.bool true)) (.slot 175)⟩::
 ⟨some 177,none,.mov (.slot 176)⟩::
 ⟨some 178,some (177,false),.load true 33 (.slot 6)⟩::
 ⟨some 179,some (177,false),.load true 33 (.slot 18)⟩::
 ⟨some 180,some (177,false),.mov (.slot 19)⟩::
 ⟨some 181,some (177,false),.load true 33 (.slot 29)⟩::
 ⟨some 182,some (177,false),.mov (.slot 30)⟩::
 ⟨some 183,some (177,false),.call .frz yl [(.slot 178),(.slot 179),(.slot 180),(.slot 181),(.slot 182)]⟩::
 ⟨some 184,some (177,false),.not (.slot 183)⟩::
 ⟨some 185,none,.pick (.slot 177) (.const (.bool true)) (.slot 184)⟩::
 ⟨some 186,none,.mov (.slot 185)⟩::
 ⟨some 187,some (186,false),.load true 33 (.slot 6)⟩::
 ⟨some 188,some (186,false),.load true 33 (.slot 20)⟩::
 ⟨some 189,some (186,false),.mov (.slot 21)⟩::
 ⟨some 190,some (186,false),.load true 33 (.slot 31)⟩::
 ⟨some 191,some (186,false),.mov (.slot 32)⟩::
 ⟨some 192,some (186,false),.call .frz yl [(.slot 187),(.slot 188),(.slot 189),(.slot 190),(.slot 191)]⟩::
 ⟨some 193,some (186,false),.not (.slot 192)⟩::
 ⟨some 194,none,.pick (.slot 186) (.const (.bool true)) (.slot 193)⟩::
 ⟨some 195,none,.mov (.slot 194)⟩::
 ⟨some 196,some (195,false),.load true 33 (.slot 22)⟩::
 ⟨some 197,some (195,false),.load true 33 (.slot 33)⟩::
 ⟨some 198,some (195,false),.call .frz yN [(.slot 196),(.slot 197)]⟩::
 ⟨some 199,some (195,false),.not (.slot 198)⟩::
 ⟨some 200,none,.pick (.slot 195) (.const (.bool true)) (.slot 199)⟩::
 ⟨some 201,none,.mov (.slot 200)⟩::
 ⟨some 202,some (201,false),.mov (.slot 23)⟩::
 ⟨some 203,some (201,false),.mov (.slot 34)⟩::
 ⟨some 204,some (201,false),.call .frz VN [(.slot 202),(.slot 203)]⟩::
 ⟨some 205,some (201,false),.not (.slot 204)⟩::
 ⟨some 206,none,.pick (.slot 201) (.const (.bool true)) (.slot 205)⟩::[]
def zz6:List zb:=[⟨some 12,none,.mov (.const (.bool false))⟩]
def zHv:List zb:=[⟨some 35,none,.mov (.const (.int .i64 0))⟩]
def zGl:List zb:=[⟨some 207,none,.mov (.slot 35)⟩,
 ⟨some 208,none,.faddr 3 (.slot 20)⟩,
 ⟨some 209,none,.load false 1 (.slot 208)⟩,
 ⟨some 210,none,.len false (.slot 209)⟩,
 ⟨some 211,none,.bin .lss (.slot 207) (.slot 210)⟩]
def zGU:List zb:=[⟨some 214,none,.faddr 3 (.slot 20)⟩,
 ⟨some 215,none,.load false 1 (.slot 214)⟩,
 ⟨some 216,none,.mov (.slot 35)⟩,
 ⟨some 217,none,.idx 3 (.slot 215) (.slot 216)⟩,
 ⟨some 218,none,.faddr 2 (.slot 217)⟩,
 ⟨some 219,none,.load false 1 (.slot 218)⟩,
 ⟨some 220,none,.idx 1 (.slot 219) (.const (.int .i64 0))⟩,
 ⟨some 221,none,.load false 1 (.slot 220)⟩,
 ⟨some 222,none,.bin .add (.slot 221) (.const (.int .u8 1))⟩,
 ⟨some 223,none,.idx 1 (.slot 219) (.const (.int .i64 0))⟩,
 ⟨none,none,.store false 1 (.slot 223) (.slot 222)⟩]
def zGs:List zb:=[⟨some 212,none,.mov (.slot 35)⟩,
 ⟨some 213,none,.bin .add (.slot 212) (.const (.int .i64 1))⟩,
 ⟨some 35,none,.mov (.slot 213)⟩]
def Jz:zt:=(.seq (.seq (.region zGl false [6,13,20,35,211]) (.cond (.slot 211) .skip (.exit 0))) (.seq (.block 1 (.region zGU false [6,13,20,35])) (.region zGs false [6,13,20,35])))
def JG:zt:=.loop [6,13,20,35] Jz
def zGJ:List zb:=[⟨some 36,none,.mov (.const (.int .i64 0))⟩]
def zHx:List zb:=[⟨some 224,none,.mov (.slot 36)⟩,
 ⟨some 225,none,.faddr 0 (.slot 20)⟩,
 ⟨some 226,none,.load false 1 (.slot 225)⟩,
 ⟨some 227,none,.len false (.slot 226)⟩,
 ⟨some 228,none,.bin .lss (.slot 224) (.slot 227)⟩]
def zHl:List zb:=[⟨some 231,none,.faddr 0 (.slot 20)⟩,
 ⟨some 232,none,.load false 1 (.slot 231)⟩,
 ⟨some 233,none,.mov (.slot 36)⟩,
 ⟨some 234,none,.idx 2 (.slot 232) (.slot 233)⟩,
 ⟨some 235,none,.faddr 0 (.slot 234)⟩,
 ⟨none,none,.store false 1 (.slot 235) (.const (.int .i64 77))⟩]
def zG9:List zb:=[⟨some 229,none,.mov (.slot 36)⟩,
 ⟨some 230,none,.bin .add (.slot 229) (.const (.int .i64 1))⟩,
 ⟨some 36,none,.mov (.slot 230)⟩]
def KO:zt:=(.seq (.seq (.region zHx false [6,13,20,36,228]) (.cond (.slot 228) .skip (.exit 2))) (.seq (.block 3 (.region zHl false [6,13,20,36])) (.region zG9 false [6,13,20,36])))
def KQ:zt:=.loop [6,13,20,36] KO
def zAo:List zb:=[⟨some 236,none,.load true 33 (.slot 13)⟩,
 ⟨some 237,none,.load true 33 (.slot 6)⟩,
 ⟨some 238,none,.call .frz yN [(.slot 236),(.slot 237)]⟩,
 ⟨some 12,none,.mov (.slot 238)⟩]
def Ry:AFn:=⟨(.seq (.region zEY false [1,2,3,5,6,10]) (.seq (.seq (.region zGf false [1,2,3,5,6,10,38]) (.cond (.slot 38) (.seq (.region zFW false [12]) .ret) .skip)) (.seq (.seq (.region zxB false [1,2,3,5,6,10,46]) (.cond (.slot 46) (.seq (.region zxh false [12]) .ret) .skip)) (.seq (.region zF4 false [1,2,3,5,6,10,13]) (.seq (.region zFy false [1,2,3,5,6,10,13,14,15]) (.seq (.region zEH false [1,2,3,5,6,10,13,14,15,16,17]) (.seq (.region zE1 false [1,2,3,5,6,10,13,14,15,16,17,18,19]) (.seq (.region zFv false [1,2,3,5,6,10,13,14,15,16,17,18,19,20,21]) (.seq (.region zwa false [1,2,3,5,6,10,13,14,15,16,17,18,19,20,21,22,23]) (.seq (.seq (.region zyq false [1,2,3,5,6,10,13,14,15,16,17,18,19,20,21,22,23,86]) (.cond (.slot 86) (.seq (.region zA9 false [12]) .ret) .skip)) (.seq (.seq (.region zsg false [1,2,3,5,6,10,13,14,15,16,17,18,19,20,21,22,23,89]) (.cond (.slot 89) (.seq (.region zsm false [6,14,15,16,17,18,19,20,21,22,23,24]) (.seq (.region ztG false [12]) .ret)) .skip)) (.seq (.region zyS false [1,2,3,5,6,10,13,14,15,16,17,18,19,20,21,22,23,25,26]) (.seq (.region zwN false [1,2,3,5,6,10,13,14,15,16,17,18,19,20,21,22,23,25,26,27,28]) (.seq (.region zwS false [1,3,5,6,10,13,14,15,16,17,18,19,20,21,22,23,25,26,27,28,29,30]) (.seq (.region zAp false [5,6,13,14,15,16,17,18,19,20,21,22,23,25,26,27,28,29,30,31,32]) (.seq (.region zvV false [6,13,14,15,16,17,18,19,20,21,22,23,25,26,27,28,29,30,31,32,33,34]) (.seq (.seq (.region zwb false [6,13,20,206]) (.cond (.slot 206) (.seq (.region zz6 false [12]) .ret) .skip)) (.seq (.seq (.region zHv false [6,13,20,35]) (.block 0 JG)) (.seq (.seq (.region zGJ false [6,13,20,36]) (.block 2 KQ)) (.seq (.region zAo false [12]) .ret)))))))))))))))))))),[.slot 12]⟩
def FT:Nat→Option Dj
 | 109=>some (.fn yI)
 | 93=>some (.fn yP)
 | 66=>some (.fn YT)
 | 94=>some (.fn jW)
 | 52=>some (.fn Un)
 | 100=>some (.fn zM)
 | 101=>some (.fn ZB)
 | 67=>some (.fn oo)
 | 30=>some (.fn jh)
 | 95=>some (.fn gV)
 | 53=>some (.fn WF)
 | 96=>some (.fn y7)
 | 54=>some (.fn Tp)
 | 115=>some (.fn Tj)
 | 97=>some (.fn jN)
 | 55=>some (.fn SX)
 | 56=>some (.fn yZ)
 | 98=>some (.fn vM)
 | 57=>some (.fn vO)
 | 58=>some (.fn oP)
 | 99=>some (.fn y8)
 | 59=>some (.fn vo)
 | 60=>some (.fn vJ)
 | 22=>some (.fn zA)
 | 68=>some (.ext (KV 2))
 | 69=>some (.ext (jm 2))
 | 26=>some (.fn uF)
 | 121=>some (.ext (jm 1))
 | 84=>some (.fn ZN)
 | 33=>some (.fn Tk)
 | 83=>some (.ext (jm 1))
 | 32=>some (.fn jR)
 | 104=>some (.fn yH)
 | 105=>some (.fn ZF)
 | 70=>some (.fn VR)
 | 132=>some (.fn yL)
 | 117=>some (.fn yX)
 | 131=>some (.fn jb)
 | 125=>some (.fn uV)
 | 124=>some (.fn WQ)
 | 127=>some (.fn vD)
 | 126=>some (.fn VD)
 | 106=>some (.fn Uk)
 | 107=>some (.fn jV)
 | 114=>some (.fn YU)
 | 108=>some (.fn ZR)
 | 71=>some (.fn o8)
 | 27=>some (.fn gN)
 | 8=>some (.fn oG)
 | 72=>some (.fn yC)
 | 73=>some (.fn gP)
 | 28=>some (.fn j5)
 | 9=>some (.fn jE)
 | 29=>some (.fn uS)
 | 10=>some (.fn uY)
 | 128=>some (.fn vz)
 | 110=>some (.fn yD)
 | 129=>some (.fn YP)
 | 112=>some (.fn vS)
 | 111=>some (.fn YR)
 | 74=>some (.fn Tv)
 | 113=>some (.ext (zbL))
 | 76=>some (.fn gq)
 | 75=>some (.fn jT)
 | 78=>some (.fn NA)
 | 77=>some (.fn ZI)
 | 116=>some (.fn jg)
 | 118=>some (.fn gK)
 | 80=>some (.fn gy)
 | 79=>some (.fn jS)
 | 120=>some (.fn jJ)
 | 119=>some (.fn jq)
 | 82=>some (.fn jf)
 | 81=>some (.fn ZA)
 | 31=>some (.fn uG)
 | 11=>some (.fn uf)
 | 12=>some (.fn o7)
 | 24=>some (.fn Hm)
 | 5=>some (.fn zay)
 | 6=>some (.fn ji)
 | 25=>some (.fn Ui)
 | 7=>some (.fn TW)
 | 21=>some (.fn ZY)
 | 34=>some (.fn Yl)
 | 35=>some (.fn o9)
 | 13=>some (.fn uO)
 | 85=>some (.fn VV)
 | 36=>some (.fn RB)
 | 40=>some (.fn Tw)
 | 86=>some (.fn Tu)
 | 37=>some (.fn WE)
 | 48=>some (.fn TM)
 | 87=>some (.fn ui)
 | 38=>some (.fn Tq)
 | 39=>some (.fn TA)
 | 41=>some (.fn Uo)
 | 14=>some (.fn y9)
 | 15=>some (.fn ZQ)
 | 88=>some (.fn Sg)
 | 42=>some (.fn uH)
 | 92=>some (.fn gJ)
 | 89=>some (.fn Sr)
 | 90=>some (.fn Rv)
 | 122=>some (.fn UQ)
 | 91=>some (.fn YS)
 | 43=>some (.fn WN)
 | 16=>some (.fn VU)
 | 44=>some (.fn gG)
 | 45=>some (.fn SA)
 | 17=>some (.fn YV)
 | 46=>some (.fn uN)
 | 18=>some (.fn ZM)
 | 47=>some (.fn ve)
 | 49=>some (.fn VH)
 | 50=>some (.fn TY)
 | 19=>some (.fn yx)
 | 51=>some (.fn YO)
 | 20=>some (.fn UO)
 | 3=>some (.fn Ry)
 | _=>none
variable (G:Nat→Option (List AV)) (args:List AV) (h:List zf)
theorem Ws:aR G FT yJ args h=(aE G FT h.length yI.body ⟨zl args,h⟩).bind (zh yI.res):=zX G FT rfl args h
theorem Re:aR G FT yR args h=(aE G FT h.length yP.body ⟨zl args,h⟩).bind (zh yP.res):=zX G FT rfl args h
theorem zei:aR G FT UR args h=(aE G FT h.length YT.body ⟨zl args,h⟩).bind (zh YT.res):=zX G FT rfl args h
theorem zcK:aR G FT jv args h=(aE G FT h.length jW.body ⟨zl args,h⟩).bind (zh jW.res):=zX G FT rfl args h
theorem zgT:aR G FT gm args h=(aE G FT h.length Un.body ⟨zl args,h⟩).bind (zh Un.res):=zX G FT rfl args h
theorem vF:aR G FT jH args h=(aE G FT h.length zM.body ⟨zl args,h⟩).bind (zh zM.res):=zX G FT rfl args h
theorem zaM:aR G FT jd args h=(aE G FT h.length ZB.body ⟨zl args,h⟩).bind (zh ZB.res):=zX G FT rfl args h
theorem zcL:aR G FT VL args h=(aE G FT h.length oo.body ⟨zl args,h⟩).bind (zh oo.res):=zX G FT rfl args h
theorem zd0:aR G FT jk args h=(aE G FT h.length jh.body ⟨zl args,h⟩).bind (zh jh.res):=zX G FT rfl args h
theorem zcI:aR G FT ZJ args h=(aE G FT h.length gV.body ⟨zl args,h⟩).bind (zh gV.res):=zX G FT rfl args h
theorem ziD:aR G FT Vg args h=(aE G FT h.length WF.body ⟨zl args,h⟩).bind (zh WF.res):=zX G FT rfl args h
theorem zh3:aR G FT Tm args h=(aE G FT h.length Tj.body ⟨zl args,h⟩).bind (zh Tj.res):=zX G FT rfl args h
theorem zd6:aR G FT Kz args h=(aE G FT h.length jN.body ⟨zl args,h⟩).bind (zh jN.res):=zX G FT rfl args h
theorem zlN:aR G FT PP args h=(aE G FT h.length SX.body ⟨zl args,h⟩).bind (zh SX.res):=zX G FT rfl args h
theorem PZ:aR G FT jQ args h=(aE G FT h.length yZ.body ⟨zl args,h⟩).bind (zh yZ.res):=zX G FT rfl args h
theorem UT:aR G FT vL args h=(aE G FT h.length vM.body ⟨zl args,h⟩).bind (zh vM.res):=zX G FT rfl args h
theorem Pq:aR G FT uU args h=(aE G FT h.length vO.body ⟨zl args,h⟩).bind (zh vO.res):=zX G FT rfl args h
theorem Lb:aR G FT oU args h=(aE G FT h.length oP.body ⟨zl args,h⟩).bind (zh oP.res):=zX G FT rfl args h
theorem WU:aR G FT yY args h=(aE G FT h.length y8.body ⟨zl args,h⟩).bind (zh y8.res):=zX G FT rfl args h
theorem Rz:aR G FT vk args h=(aE G FT h.length vo.body ⟨zl args,h⟩).bind (zh vo.res):=zX G FT rfl args h
theorem NZ:aR G FT oZ args h=(aE G FT h.length vJ.body ⟨zl args,h⟩).bind (zh vJ.res):=zX G FT rfl args h
theorem Ff:aR G FT jM args h=(aE G FT h.length zA.body ⟨zl args,h⟩).bind (zh zA.res):=zX G FT rfl args h
theorem zeA:aR G FT Kc args h=(aE G FT h.length uF.body ⟨zl args,h⟩).bind (zh uF.res):=zX G FT rfl args h
theorem KP:aR G FT uL args h=(aE G FT h.length ZN.body ⟨zl args,h⟩).bind (zh ZN.res):=zX G FT rfl args h
theorem zii:aR G FT Lr args h=(aE G FT h.length Tk.body ⟨zl args,h⟩).bind (zh Tk.res):=zX G FT rfl args h
theorem PR:aR G FT jP args h=(aE G FT h.length jR.body ⟨zl args,h⟩).bind (zh jR.res):=zX G FT rfl args h
theorem Pp:aR G FT oM args h=(aE G FT h.length yH.body ⟨zl args,h⟩).bind (zh yH.res):=zX G FT rfl args h
theorem zdb:aR G FT TE args h=(aE G FT h.length ZF.body ⟨zl args,h⟩).bind (zh ZF.res):=zX G FT rfl args h
theorem zfF:aR G FT Ir args h=(aE G FT h.length VR.body ⟨zl args,h⟩).bind (zh VR.res):=zX G FT rfl args h
theorem jl:aR G FT NM args h=(aE G FT h.length yL.body ⟨zl args,h⟩).bind (zh yL.res):=zX G FT rfl args h
theorem yf:aR G FT Sj args h=(aE G FT h.length yX.body ⟨zl args,h⟩).bind (zh yX.res):=zX G FT rfl args h
theorem FK:aR G FT Ym args h=(aE G FT h.length jb.body ⟨zl args,h⟩).bind (zh jb.res):=zX G FT rfl args h
theorem JJ:aR G FT YY args h=(aE G FT h.length uV.body ⟨zl args,h⟩).bind (zh uV.res):=zX G FT rfl args h
theorem zda:aR G FT Vh args h=(aE G FT h.length WQ.body ⟨zl args,h⟩).bind (zh WQ.res):=zX G FT rfl args h
theorem NS:aR G FT gT args h=(aE G FT h.length vD.body ⟨zl args,h⟩).bind (zh vD.res):=zX G FT rfl args h
theorem gZ:aR G FT Dh args h=(aE G FT h.length VD.body ⟨zl args,h⟩).bind (zh VD.res):=zX G FT rfl args h
theorem zhp:aR G FT IC args h=(aE G FT h.length Uk.body ⟨zl args,h⟩).bind (zh Uk.res):=zX G FT rfl args h
theorem zbm:aR G FT SL args h=(aE G FT h.length jV.body ⟨zl args,h⟩).bind (zh jV.res):=zX G FT rfl args h
theorem zep:aR G FT Rm args h=(aE G FT h.length YU.body ⟨zl args,h⟩).bind (zh YU.res):=zX G FT rfl args h
theorem zhv:aR G FT JN args h=(aE G FT h.length ZR.body ⟨zl args,h⟩).bind (zh ZR.res):=zX G FT rfl args h
theorem zar:aR G FT Wu args h=(aE G FT h.length o8.body ⟨zl args,h⟩).bind (zh o8.res):=zX G FT rfl args h
theorem JF:aR G FT ZL args h=(aE G FT h.length gN.body ⟨zl args,h⟩).bind (zh gN.res):=zX G FT rfl args h
theorem zcN:aR G FT ZG args h=(aE G FT h.length oG.body ⟨zl args,h⟩).bind (zh oG.res):=zX G FT rfl args h
theorem RI:aR G FT ou args h=(aE G FT h.length yC.body ⟨zl args,h⟩).bind (zh yC.res):=zX G FT rfl args h
theorem zbh:aR G FT Uz args h=(aE G FT h.length gP.body ⟨zl args,h⟩).bind (zh gP.res):=zX G FT rfl args h
theorem zcn:aR G FT NG args h=(aE G FT h.length j5.body ⟨zl args,h⟩).bind (zh j5.res):=zX G FT rfl args h
theorem zcf:aR G FT YD args h=(aE G FT h.length jE.body ⟨zl args,h⟩).bind (zh jE.res):=zX G FT rfl args h
theorem zbP:aR G FT RH args h=(aE G FT h.length uS.body ⟨zl args,h⟩).bind (zh uS.res):=zX G FT rfl args h
theorem za0:aR G FT ZH args h=(aE G FT h.length uY.body ⟨zl args,h⟩).bind (zh uY.res):=zX G FT rfl args h
theorem UD:aR G FT TC args h=(aE G FT h.length vz.body ⟨zl args,h⟩).bind (zh vz.res):=zX G FT rfl args h
theorem YG:aR G FT VB args h=(aE G FT h.length yD.body ⟨zl args,h⟩).bind (zh yD.res):=zX G FT rfl args h
theorem zej:aR G FT Kg args h=(aE G FT h.length YP.body ⟨zl args,h⟩).bind (zh YP.res):=zX G FT rfl args h
theorem ziG:aR G FT DJ args h=(aE G FT h.length vS.body ⟨zl args,h⟩).bind (zh vS.res):=zX G FT rfl args h
theorem Fq:aR G FT zaB args h=(aE G FT h.length YR.body ⟨zl args,h⟩).bind (zh YR.res):=zX G FT rfl args h
theorem zaz:aR G FT Ld args h=(aE G FT h.length Tv.body ⟨zl args,h⟩).bind (zh Tv.res):=zX G FT rfl args h
theorem zfg:aR G FT JZ args h=(aE G FT h.length gq.body ⟨zl args,h⟩).bind (zh gq.res):=zX G FT rfl args h
theorem za5:aR G FT VZ args h=(aE G FT h.length jT.body ⟨zl args,h⟩).bind (zh jT.res):=zX G FT rfl args h
theorem zko:aR G FT zaX args h=(aE G FT h.length NA.body ⟨zl args,h⟩).bind (zh NA.res):=zX G FT rfl args h
theorem zaN:aR G FT VQ args h=(aE G FT h.length ZI.body ⟨zl args,h⟩).bind (zh ZI.res):=zX G FT rfl args h
theorem zeD:aR G FT Rk args h=(aE G FT h.length jg.body ⟨zl args,h⟩).bind (zh jg.res):=zX G FT rfl args h
theorem RP:aR G FT zaE args h=(aE G FT h.length gK.body ⟨zl args,h⟩).bind (zh gK.res):=zX G FT rfl args h
theorem zik:aR G FT DF args h=(aE G FT h.length gy.body ⟨zl args,h⟩).bind (zh gy.res):=zX G FT rfl args h
theorem zbg:aR G FT UB args h=(aE G FT h.length jS.body ⟨zl args,h⟩).bind (zh jS.res):=zX G FT rfl args h
theorem Fv:aR G FT UI args h=(aE G FT h.length jJ.body ⟨zl args,h⟩).bind (zh jJ.res):=zX G FT rfl args h
theorem gQ:aR G FT DN args h=(aE G FT h.length jq.body ⟨zl args,h⟩).bind (zh jq.res):=zX G FT rfl args h
theorem ze0:aR G FT JP args h=(aE G FT h.length jf.body ⟨zl args,h⟩).bind (zh jf.res):=zX G FT rfl args h
theorem zaZ:aR G FT UA args h=(aE G FT h.length ZA.body ⟨zl args,h⟩).bind (zh ZA.res):=zX G FT rfl args h
theorem KJ:aR G FT TD args h=(aE G FT h.length uG.body ⟨zl args,h⟩).bind (zh uG.res):=zX G FT rfl args h
theorem zdd:aR G FT vI args h=(aE G FT h.length uf.body ⟨zl args,h⟩).bind (zh uf.res):=zX G FT rfl args h
theorem zbB:aR G FT YI args h=(aE G FT h.length o7.body ⟨zl args,h⟩).bind (zh o7.res):=zX G FT rfl args h
theorem zd3:aR G FT Kt args h=(aE G FT h.length ji.body ⟨zl args,h⟩).bind (zh ji.res):=zX G FT rfl args h
theorem De:aR G FT SB args h=(aE G FT h.length Ui.body ⟨zl args,h⟩).bind (zh Ui.res):=zX G FT rfl args h
theorem zhr:aR G FT Pf args h=(aE G FT h.length TW.body ⟨zl args,h⟩).bind (zh TW.res):=zX G FT rfl args h
theorem zeZ:aR G FT VN args h=(aE G FT h.length ZY.body ⟨zl args,h⟩).bind (zh ZY.res):=zX G FT rfl args h
theorem zgc:aR G FT JW args h=(aE G FT h.length Yl.body ⟨zl args,h⟩).bind (zh Yl.res):=zX G FT rfl args h
theorem zfv:aR G FT IJ args h=(aE G FT h.length o9.body ⟨zl args,h⟩).bind (zh o9.res):=zX G FT rfl args h
theorem zf8:aR G FT yN args h=(aE G FT h.length uO.body ⟨zl args,h⟩).bind (zh uO.res):=zX G FT rfl args h
theorem zhL:aR G FT Hd args h=(aE G FT h.length VV.body ⟨zl args,h⟩).bind (zh VV.res):=zX G FT rfl args h
theorem zif:aR G FT Tx args h=(aE G FT h.length RB.body ⟨zl args,h⟩).bind (zh RB.res):=zX G FT rfl args h
theorem zh5:aR G FT VI args h=(aE G FT h.length Tw.body ⟨zl args,h⟩).bind (zh Tw.res):=zX G FT rfl args h
theorem ziK:aR G FT Ro args h=(aE G FT h.length Tu.body ⟨zl args,h⟩).bind (zh Tu.res):=zX G FT rfl args h
theorem zin:aR G FT FR args h=(aE G FT h.length WE.body ⟨zl args,h⟩).bind (zh WE.res):=zX G FT rfl args h
theorem zfa:aR G FT Yi args h=(aE G FT h.length TM.body ⟨zl args,h⟩).bind (zh TM.res):=zX G FT rfl args h
theorem zd5:aR G FT KE args h=(aE G FT h.length ui.body ⟨zl args,h⟩).bind (zh ui.res):=zX G FT rfl args h
theorem ziF:aR G FT Dp args h=(aE G FT h.length Tq.body ⟨zl args,h⟩).bind (zh Tq.res):=zX G FT rfl args h
theorem ziy:aR G FT Lv args h=(aE G FT h.length TA.body ⟨zl args,h⟩).bind (zh TA.res):=zX G FT rfl args h
theorem zhP:aR G FT uI args h=(aE G FT h.length Uo.body ⟨zl args,h⟩).bind (zh Uo.res):=zX G FT rfl args h
theorem zim:aR G FT TB args h=(aE G FT h.length y9.body ⟨zl args,h⟩).bind (zh y9.res):=zX G FT rfl args h
theorem ziL:aR G FT yl args h=(aE G FT h.length ZQ.body ⟨zl args,h⟩).bind (zh ZQ.res):=zX G FT rfl args h
theorem zg1:aR G FT SC args h=(aE G FT h.length Sg.body ⟨zl args,h⟩).bind (zh Sg.res):=zX G FT rfl args h
theorem zf0:aR G FT Ha args h=(aE G FT h.length uH.body ⟨zl args,h⟩).bind (zh uH.res):=zX G FT rfl args h
theorem VO:aR G FT Ij args h=(aE G FT h.length gJ.body ⟨zl args,h⟩).bind (zh gJ.res):=zX G FT rfl args h
theorem zfc:aR G FT JR args h=(aE G FT h.length Sr.body ⟨zl args,h⟩).bind (zh Sr.res):=zX G FT rfl args h
theorem zid:aR G FT Lh args h=(aE G FT h.length Rv.body ⟨zl args,h⟩).bind (zh Rv.res):=zX G FT rfl args h
theorem zd9:aR G FT Rl args h=(aE G FT h.length UQ.body ⟨zl args,h⟩).bind (zh UQ.res):=zX G FT rfl args h
theorem zen:aR G FT LW args h=(aE G FT h.length YS.body ⟨zl args,h⟩).bind (zh YS.res):=zX G FT rfl args h
theorem zc6:aR G FT gW args h=(aE G FT h.length WN.body ⟨zl args,h⟩).bind (zh WN.res):=zX G FT rfl args h
theorem zfj:aR G FT Pj args h=(aE G FT h.length VU.body ⟨zl args,h⟩).bind (zh VU.res):=zX G FT rfl args h
theorem zeG:aR G FT LU args h=(aE G FT h.length gG.body ⟨zl args,h⟩).bind (zh gG.res):=zX G FT rfl args h
theorem zhz:aR G FT Iz args h=(aE G FT h.length SA.body ⟨zl args,h⟩).bind (zh SA.res):=zX G FT rfl args h
theorem zd2:aR G FT Rh args h=(aE G FT h.length YV.body ⟨zl args,h⟩).bind (zh YV.res):=zX G FT rfl args h
theorem zcF:aR G FT NJ args h=(aE G FT h.length uN.body ⟨zl args,h⟩).bind (zh uN.res):=zX G FT rfl args h
theorem zcY:aR G FT TR args h=(aE G FT h.length ZM.body ⟨zl args,h⟩).bind (zh ZM.res):=zX G FT rfl args h
theorem zgB:aR G FT JQ args h=(aE G FT h.length ve.body ⟨zl args,h⟩).bind (zh ve.res):=zX G FT rfl args h
theorem zio:aR G FT Di args h=(aE G FT h.length VH.body ⟨zl args,h⟩).bind (zh VH.res):=zX G FT rfl args h
theorem zfA:aR G FT IA args h=(aE G FT h.length TY.body ⟨zl args,h⟩).bind (zh TY.res):=zX G FT rfl args h
theorem zfL:aR G FT Pk args h=(aE G FT h.length yx.body ⟨zl args,h⟩).bind (zh yx.res):=zX G FT rfl args h
theorem zd7:aR G FT KC args h=(aE G FT h.length YO.body ⟨zl args,h⟩).bind (zh YO.res):=zX G FT rfl args h
theorem zey:aR G FT Rj args h=(aE G FT h.length UO.body ⟨zl args,h⟩).bind (zh UO.res):=zX G FT rfl args h
end
end Go.Proofs.YthcnhibjddomdaaGreat
namespace Go.Proofs.YthcnhibjddomdaaGreat
section
open Go
theorem Pn:zC Tryz.prog 109 yI=true:=by kernel_rfl
theorem SY:zC Tryz.prog 93 yP=true:=by kernel_rfl
theorem zel:zC Tryz.prog 66 YT=true:=by kernel_rfl
theorem zdr:zC Tryz.prog 94 jW=true:=by kernel_rfl
theorem zhN:zC Tryz.prog 52 Un=true:=by kernel_rfl
theorem VK:zC Tryz.prog 100 zM=true:=by kernel_rfl
theorem zbn:zC Tryz.prog 101 ZB=true:=by kernel_rfl
theorem zcE:zC Tryz.prog 67 oo=true:=by kernel_rfl
theorem zeh:zC Tryz.prog 30 jh=true:=by kernel_rfl
theorem zc2:zC Tryz.prog 95 gV=true:=by kernel_rfl
theorem zit:zC Tryz.prog 53 WF=true:=by kernel_rfl
theorem Fa:zC Tryz.prog 96 y7=true:=by kernel_rfl
theorem zaD:zC Tryz.prog 54 Tp=true:=by kernel_rfl
theorem ziE:zC Tryz.prog 115 Tj=true:=by kernel_rfl
theorem zeb:zC Tryz.prog 97 jN=true:=by kernel_rfl
theorem zlL:zC Tryz.prog 55 SX=true:=by kernel_rfl
theorem zbf:zC Tryz.prog 56 yZ=true:=by kernel_rfl
theorem Ki:zC Tryz.prog 98 vM=true:=by kernel_rfl
theorem Py:zC Tryz.prog 57 vO=true:=by kernel_rfl
theorem zbt:zC Tryz.prog 58 oP=true:=by kernel_rfl
theorem NH:zC Tryz.prog 99 y8=true:=by kernel_rfl
theorem RD:zC Tryz.prog 59 vo=true:=by kernel_rfl
theorem zcb:zC Tryz.prog 60 vJ=true:=by kernel_rfl
theorem zef:zC Tryz.prog 22 zA=true:=by kernel_rfl
theorem LX:zC Tryz.prog 68 uM=true:=by kernel_rfl
theorem JD:zC Tryz.prog 69 vZ=true:=by kernel_rfl
theorem zd4:zC Tryz.prog 26 uF=true:=by kernel_rfl
theorem zec:zC Tryz.prog 121 YQ=true:=by kernel_rfl
theorem zdk:zC Tryz.prog 84 ZN=true:=by kernel_rfl
theorem ziz:zC Tryz.prog 33 Tk=true:=by kernel_rfl
theorem DL:zC Tryz.prog 83 uX=true:=by kernel_rfl
theorem zbo:zC Tryz.prog 32 jR=true:=by kernel_rfl
theorem Pw:zC Tryz.prog 104 yH=true:=by kernel_rfl
theorem zck:zC Tryz.prog 105 ZF=true:=by kernel_rfl
theorem zfr:zC Tryz.prog 70 VR=true:=by kernel_rfl
theorem Dq:zC Tryz.prog 132 yL=true:=by kernel_rfl
theorem zc7:zC Tryz.prog 117 yX=true:=by kernel_rfl
theorem Dc:zC Tryz.prog 131 jb=true:=by kernel_rfl
theorem Je:zC Tryz.prog 125 uV=true:=by kernel_rfl
theorem zdt:zC Tryz.prog 124 WQ=true:=by kernel_rfl
theorem NW:zC Tryz.prog 127 vD=true:=by kernel_rfl
theorem zcX:zC Tryz.prog 126 VD=true:=by kernel_rfl
theorem zeY:zC Tryz.prog 106 Uk=true:=by kernel_rfl
theorem zbj:zC Tryz.prog 107 jV=true:=by kernel_rfl
theorem zd1:zC Tryz.prog 114 YU=true:=by kernel_rfl
theorem zhm:zC Tryz.prog 108 ZR=true:=by kernel_rfl
theorem zam:zC Tryz.prog 71 o8=true:=by kernel_rfl
theorem zc1:zC Tryz.prog 27 gN=true:=by kernel_rfl
theorem zcU:zC Tryz.prog 8 oG=true:=by kernel_rfl
theorem RO:zC Tryz.prog 72 yC=true:=by kernel_rfl
theorem zaO:zC Tryz.prog 73 gP=true:=by kernel_rfl
theorem zdo:zC Tryz.prog 28 j5=true:=by kernel_rfl
theorem zbT:zC Tryz.prog 9 jE=true:=by kernel_rfl
theorem zbJ:zC Tryz.prog 29 uS=true:=by kernel_rfl
theorem zaP:zC Tryz.prog 10 uY=true:=by kernel_rfl
theorem NT:zC Tryz.prog 128 vz=true:=by kernel_rfl
theorem RZ:zC Tryz.prog 110 yD=true:=by kernel_rfl
theorem zeF:zC Tryz.prog 129 YP=true:=by kernel_rfl
theorem zis:zC Tryz.prog 112 vS=true:=by kernel_rfl
theorem zeg:zC Tryz.prog 111 YR=true:=by kernel_rfl
theorem ziu:zC Tryz.prog 74 Tv=true:=by kernel_rfl
theorem zgX:zC Tryz.prog 76 gq=true:=by kernel_rfl
theorem zaI:zC Tryz.prog 75 jT=true:=by kernel_rfl
theorem zkA:zC Tryz.prog 78 NA=true:=by kernel_rfl
theorem za1:zC Tryz.prog 77 ZI=true:=by kernel_rfl
theorem zew:zC Tryz.prog 116 jg=true:=by kernel_rfl
theorem zex:zC Tryz.prog 118 gK=true:=by kernel_rfl
theorem zh4:zC Tryz.prog 80 gy=true:=by kernel_rfl
theorem zbd:zC Tryz.prog 79 jS=true:=by kernel_rfl
theorem Fz:zC Tryz.prog 120 jJ=true:=by kernel_rfl
theorem zct:zC Tryz.prog 119 jq=true:=by kernel_rfl
theorem zfX:zC Tryz.prog 82 jf=true:=by kernel_rfl
theorem zbb:zC Tryz.prog 81 ZA=true:=by kernel_rfl
theorem zc5:zC Tryz.prog 31 uG=true:=by kernel_rfl
theorem zcS:zC Tryz.prog 11 uf=true:=by kernel_rfl
theorem zbO:zC Tryz.prog 12 o7=true:=by kernel_rfl
theorem zbU:zC Tryz.prog 24 Hm=true:=by kernel_rfl
theorem zes:zC Tryz.prog 5 zay=true:=by kernel_rfl
theorem zeq:zC Tryz.prog 6 ji=true:=by kernel_rfl
theorem zho:zC Tryz.prog 25 Ui=true:=by kernel_rfl
theorem zeW:zC Tryz.prog 7 TW=true:=by kernel_rfl
theorem zfw:zC Tryz.prog 21 ZY=true:=by kernel_rfl
theorem zgb:zC Tryz.prog 34 Yl=true:=by kernel_rfl
theorem zhO:zC Tryz.prog 35 o9=true:=by kernel_rfl
theorem zhl:zC Tryz.prog 13 uO=true:=by kernel_rfl
theorem zhb:zC Tryz.prog 85 VV=true:=by kernel_rfl
theorem ziC:zC Tryz.prog 36 RB=true:=by kernel_rfl
theorem zij:zC Tryz.prog 40 Tw=true:=by kernel_rfl
theorem zh7:zC Tryz.prog 86 Tu=true:=by kernel_rfl
theorem zil:zC Tryz.prog 37 WE=true:=by kernel_rfl
theorem zhX:zC Tryz.prog 48 TM=true:=by kernel_rfl
theorem zem:zC Tryz.prog 87 ui=true:=by kernel_rfl
theorem zir:zC Tryz.prog 38 Tq=true:=by kernel_rfl
theorem ziw:zC Tryz.prog 39 TA=true:=by kernel_rfl
theorem zfO:zC Tryz.prog 41 Uo=true:=by kernel_rfl
theorem zix:zC Tryz.prog 14 y9=true:=by kernel_rfl
theorem zib:zC Tryz.prog 15 ZQ=true:=by kernel_rfl
theorem zhW:zC Tryz.prog 88 Sg=true:=by kernel_rfl
theorem zgd:zC Tryz.prog 42 uH=true:=by kernel_rfl
theorem zkX:zC Tryz.prog 92 gJ=true:=by kernel_rfl
theorem zgg:zC Tryz.prog 89 Sr=true:=by kernel_rfl
theorem ziB:zC Tryz.prog 90 Rv=true:=by kernel_rfl
theorem zeE:zC Tryz.prog 122 UQ=true:=by kernel_rfl
theorem zed:zC Tryz.prog 91 YS=true:=by kernel_rfl
theorem zcD:zC Tryz.prog 43 WN=true:=by kernel_rfl
theorem zfW:zC Tryz.prog 16 VU=true:=by kernel_rfl
theorem zd8:zC Tryz.prog 44 gG=true:=by kernel_rfl
theorem zgW:zC Tryz.prog 45 SA=true:=by kernel_rfl
theorem zdZ:zC Tryz.prog 17 YV=true:=by kernel_rfl
theorem zcZ:zC Tryz.prog 46 uN=true:=by kernel_rfl
theorem zdm:zC Tryz.prog 18 ZM=true:=by kernel_rfl
theorem zfn:zC Tryz.prog 47 ve=true:=by kernel_rfl
theorem zh6:zC Tryz.prog 49 VH=true:=by kernel_rfl
theorem zge:zC Tryz.prog 50 TY=true:=by kernel_rfl
theorem zfP:zC Tryz.prog 19 yx=true:=by kernel_rfl
theorem zeu:zC Tryz.prog 51 YO=true:=by kernel_rfl
theorem zee:zC Tryz.prog 20 UO=true:=by kernel_rfl
theorem JS:zC Tryz.prog 3 Ry=true:=by kernel_rfl
theorem ZP:(Tryz.prog).follows .mixedOrders=true:=by kernel_rfl
end
end Go.Proofs.YthcnhibjddomdaaGreat
namespace Go.Proofs.YthcnhibjddomdaaGreat
section
open Go Go.RowKit
variable [FrB]
theorem zCe {P:Program} (d:Nat) {t e:TypeId} (hu:P.underlying t=some (.slice e)) (c c':Nat) (w:World):(Op.equalIn (d+1) t (.slice none 0 c) (.slice none 0 c')).run P w=.ok true w:=by simp [Op.equalIn,run_underlying hu]
theorem nil_eq {P:Program} {t e:TypeId} (hu:P.underlying t=some (.slice e)) (c c':Nat) (w:World):(binOp .eql t (.slice none 0 c) (.slice none 0 c')).run P w=.ok (.bool true) w:=by
 have:(Op.equal t (.slice none 0 c) (.slice none 0 c')).run P w=.ok true w:=zCe 9999 hu c c' w
 rw [binOp_eql (.inr (.inr (.inr ⟨_,_,_,rfl⟩))),Sem.run_bind,this]
 simp
theorem zp5 {P:Program} {t e:TypeId} (hu:P.underlying t=some (.slice e)) (ad:Addr) (l c c':Nat) (w:World):(binOp .eql t (.slice (some ad) l c) (.slice none 0 c')).run P w=.ok (.bool false) w:=by
 have:(Op.equal t (.slice (some ad) l c) (.slice none 0 c')).run P w=.ok false w:=zGP 9999 w hu _ _ _ _ _
 rw [binOp_eql (.inr (.inr (.inr ⟨_,_,_,rfl⟩))),Sem.run_bind,this]
 simp
theorem zeH {P:Program} (G:Nat→Option (List AV)) {n:Nat} {a:AFn} (hc:zC P n a=true):zax P G (ziA n a):=by
 intro f ent hf
 unfold ziA at hf
 split at hf
 ·rename_i e;cases hf;subst e;exact hc
 ·cases hf
theorem PG {P:Program} {f k:Nat} {xs:Array Value} {w:World} {ρ:Rho} {S O:Nat→Prop} (H:Heap ρ w S O []) {v:Value} {w1:World} (hc:Calls P f xs w fun e w'=>e=.returned v∧w'=w1)
  (hw:w1=w∨∃ arr ty,w1=w.alloc (.cells arr ty)) (hv:∃ a,v=.slice a 0 0):Calls P f xs w fun e w'=>∃ x,e=.returned x∧Fw ρ w S O [] (.own 0 1 0 0 0) [⟨k,1,true,[]⟩] x w':=by
 obtain ⟨a,rfl⟩:=hv
 refine Calls.mono hc fun e w' h=> ?_
 obtain ⟨rfl,rfl⟩:=h
 have hA:uB w O w' O:=by
  rcases hw with rfl | ⟨arr,ty,rfl⟩
  ·exact .refl _ O
  ·exact .alloc' w O _
 have H2:Heap ρ w' S O []:=⟨fun id g pl hid=>by obtain ⟨r,hr,_⟩:=H.row id g pl hid;simp at hr,H.inj,fun b hb=>Nat.lt_of_lt_of_le (H.bd b hb) hA.size,H.dis⟩
 exact ⟨_,rfl,upd ρ 0 (1,none),O,hA.x,zeN ρ _ (H.none_ge (Nat.le_refl _)),H2.virtual ⟨k,1,true,[]⟩ rfl,.own _ 1 1 none 0 0 0 a 0 (upd_same ρ _ _) (Nat.le_refl _) (Nat.le_refl _) (Nat.le_refl _) (fun h=>by omega) (fun _=>.inl rfl),fun id h=>by simp at h⟩
theorem FZ (cap:Nat) (w:World):
  Calls Tryz.prog 83 #[.slice none 0 cap] w fun e w'=>e=.returned (.slice none 0 0)∧w'=w:=by
 have h1:=nil_eq (P:=Tryz.prog) (t:=23) (e:=3) (by kernel_rfl) cap 0
 go_enter Tryz.func83,Tryz.ntmps83
 go_wp2
 all_goals (go_ret;exact ⟨rfl,rfl⟩)
theorem FP (ad:Addr) (cap:Nat) (w:World):
  Calls Tryz.prog 83 #[.slice (some ad) 0 cap] w fun e w'=>e=.returned (.slice (some ⟨w.heap.size,0,none⟩) 0 0)∧w'=w.alloc (.cells #[] 3):=by
 have h1:=zp5 (P:=Tryz.prog) (t:=23) (e:=3) (by kernel_rfl) ad 0 cap 0
 go_enter Tryz.func83,Tryz.ntmps83
 go_wp2
 all_goals (go_ret;exact ⟨rfl,rfl⟩)
theorem SG (G:Nat→Option (List AV)) (l:List (List AV)) (b f:Bool) (hl:l.length≤1000000) (hne:l≠[]) (hp:(!b||uC l)=true):aR G (ziA 83 uX) 83 [.data b 1 l f] []=some (.own 0 1 0 l.length l.length,[⟨1,1,true,l⟩]):=by
 cases l with
 | nil=>exact absurd rfl hne
 | cons x l=>
  have hb:(l.length+1) * 8≤140737488355328:=by simp at hl;omega
  rw [zX G (ziA 83 uX) (fn:=uX) rfl]
  cases b with
  | false=>(sym=>simp [Qb,Qc,Qd,Qe,Qi,Qj,Qr,Qt,Qz,Q2,Xc,X0,Y1,Y3,Y5,Y7,Y9,Za,Zb,Zc,Ze,Zg,Zh,Zi,Zj,Zk,Zl,Zm,Zn,Zr,Zs,Zt,Zu,Zv,Zw,Z3,Jh,Jj,Jk,Jr,Jv,Jx,Ku,Kv,Kx,Ua,Uc,Hh,Hk,Hq,Ht,Hv,H2,H8,Nl,No,Nt,Nx,Nz,N2,Be,Bg,Mn,zxy.eq_1,zwi.eq_1,zAV.eq_1,zxk.eq_1,uX.eq_1,hb])
  | true=>
   have hq:za8 x=true∧uC l=true:=by simpa [Pz] using hp
   have hq1:=hq.1
   have hq2:=hq.2
   (sym=>simp [Qb,Qc,Qd,Qe,Qi,Qj,Qr,Qt,Qz,Q2,Xc,X0,Y1,Y3,Y5,Y7,Y9,Za,Zb,Zc,Ze,Zg,Zh,Zi,Zj,Zk,Zl,Zm,Zn,Zr,Zs,Zt,Zu,Zv,Zw,Z3,Jh,Jj,Jk,Jr,Jv,Jx,Ku,Kv,Kx,Ua,Uc,Hh,Hk,Hq,Ht,Hv,H2,H8,Nl,No,Ns,Nw,Nz,N2,Be,Bg,Mn,zxy.eq_1,zwi.eq_1,zAV.eq_1,zxk.eq_1,uX.eq_1,hb,hq1,hq2])
theorem FD (G:Nat→Option (List AV)):∀ args h v h',jm 1 args h=some (v,h')→yg h h'∧(∃ fn,(Tryz.prog).funcs[83]? =some fn∧fn.name≠ "runtime.NumGoroutine" ∧fn.body.isSome=true)∧
  ∀ (ρ:Rho) (w:World) (S O:Nat→Prop) (xs:List Value),Heap ρ w S O h→(∀ g cs,G g=some cs→zB ρ w S O (.dptr cs) (.pointer (some ⟨g,0,none⟩)))→WO (zB ρ w S O) args xs→
   Calls Tryz.prog 83 xs.toArray w fun e w'=>∃ x,e=.returned x∧Fw ρ w S O h v h' x w':=by
 intro args h v h' he
 have K:=znZ ZP (zeH G DL)
 have any:=K 83 [.data true 1 [[]] false] [] _ _ (SG G _ _ _ (by simp) (by simp) rfl)
 unfold jm at he
 split at he
 case h_2=>cases he
 rename_i b k' es f
 refine ⟨fun id x hx=>by simp at hx,any.1,fun ρ w S O xs H hG hargs=> ?_⟩
 split at he
 case isFalse=>cases he
 rename_i hc
 cases he
 obtain ⟨rfl,hl,hp⟩:=hc
 cases xs with
 | nil=>have:=hargs.1;simp at this
 | cons x xs=>
  obtain ⟨hx,hr⟩:=hargs.uncons
  have:xs=[]:=List.eq_nil_of_length_eq_zero (by have:=hr.1;simpa using this.symm)
  subst this
  cases es with
  | nil=>
   obtain ⟨a,cap,rfl,_⟩:=oK hx
   cases a with
   | none=>exact PG H (FZ cap w) (.inl rfl) ⟨_,rfl⟩
   | some ad=>exact PG H (FP ad cap w) (.inr ⟨_,_,rfl⟩) ⟨_,rfl⟩
  | cons e es=>exact (K 83 _ [] _ _ (SG G (e::es) b f hl (by simp) hp)).2 ρ w S O [x] H hG hargs
theorem Jy (cap:Nat) (w:World):
  Calls Tryz.prog 69 #[.slice none 0 cap] w fun e w'=>e=.returned (.slice none 0 0)∧w'=w:=by
 have h1:=nil_eq (P:=Tryz.prog) (t:=22) (e:=54) (by kernel_rfl) cap 0
 go_enter Tryz.func69,Tryz.ntmps69
 go_wp2
 all_goals (go_ret;exact ⟨rfl,rfl⟩)
theorem JA (ad:Addr) (cap:Nat) (w:World):
  Calls Tryz.prog 69 #[.slice (some ad) 0 cap] w fun e w'=>e=.returned (.slice (some ⟨w.heap.size,0,none⟩) 0 0)∧w'=w.alloc (.cells #[] 54):=by
 have h1:=zp5 (P:=Tryz.prog) (t:=22) (e:=54) (by kernel_rfl) ad 0 cap 0
 go_enter Tryz.func69,Tryz.ntmps69
 go_wp2
 all_goals (go_ret;exact ⟨rfl,rfl⟩)
theorem UM (G:Nat→Option (List AV)) (l:List (List AV)) (b f:Bool) (hl:l.length≤1000000) (hne:l≠[]) (hp:(!b||uC l)=true):aR G (ziA 69 vZ) 69 [.data b 2 l f] []=some (.own 0 1 0 l.length l.length,[⟨2,1,true,l⟩]):=by
 cases l with
 | nil=>exact absurd rfl hne
 | cons x l=>
  have hb:(l.length+1) * 16≤140737488355328:=by simp at hl;omega
  rw [zX G (ziA 69 vZ) (fn:=vZ) rfl]
  cases b with
  | false=>(sym=>simp [Qb,Qc,Qd,Qe,Qi,Qj,Qr,Qt,Qz,Q2,Xc,X0,Y1,Y3,Y5,Y7,Y9,Za,Zb,Zc,Ze,Zg,Zh,Zi,Zj,Zk,Zl,Zm,Zn,Zr,Zs,Zt,Zu,Zv,Zw,Z3,Jh,Jj,Jk,Jr,Jv,Jx,Ku,Kv,Kx,Ua,Uc,Hh,Hk,Hq,Ht,Hv,H2,H8,Nl,No,Nt,Nx,Nz,N2,Be,Bg,Mn,zxL.eq_1,zwC.eq_1,zxn.eq_1,zxI.eq_1,vZ.eq_1,hb])
  | true=>
   have hq:za8 x=true∧uC l=true:=by simpa [Pz] using hp
   have hq1:=hq.1
   have hq2:=hq.2
   (sym=>simp [Qb,Qc,Qd,Qe,Qi,Qj,Qr,Qt,Qz,Q2,Xc,X0,Y1,Y3,Y5,Y7,Y9,Za,Zb,Zc,Ze,Zg,Zh,Zi,Zj,Zk,Zl,Zm,Zn,Zr,Zs,Zt,Zu,Zv,Zw,Z3,Jh,Jj,Jk,Jr,Jv,Jx,Ku,Kv,Kx,Ua,Uc,Hh,Hk,Hq,Ht,Hv,H2,H8,Nl,No,Ns,Nw,Nz,N2,Be,Bg,Mn,zxL.eq_1,zwC.eq_1,zxn.eq_1,zxI.eq_1,vZ.eq_1,hb,hq1,hq2])
theorem KR (G:Nat→Option (List AV)):∀ args h v h',jm 2 args h=some (v,h')→yg h h'∧(∃ fn,(Tryz.prog).funcs[69]? =some fn∧fn.name≠ "runtime.NumGoroutine" ∧fn.body.isSome=true)∧
  ∀ (ρ:Rho) (w:World) (S O:Nat→Prop) (xs:List Value),Heap ρ w S O h→(∀ g cs,G g=some cs→zB ρ w S O (.dptr cs) (.pointer (some ⟨g,0,none⟩)))→WO (zB ρ w S O) args xs→
   Calls Tryz.prog 69 xs.toArray w fun e w'=>∃ x,e=.returned x∧Fw ρ w S O h v h' x w':=by
 intro args h v h' he
 have K:=znZ ZP (zeH G JD)
 have any:=K 69 [.data true 2 [[]] false] [] _ _ (UM G _ _ _ (by simp) (by simp) rfl)
 unfold jm at he
 split at he
 case h_2=>cases he
 rename_i b k' es f
 refine ⟨fun id x hx=>by simp at hx,any.1,fun ρ w S O xs H hG hargs=> ?_⟩
 split at he
 case isFalse=>cases he
 rename_i hc
 cases he
 obtain ⟨rfl,hl,hp⟩:=hc
 cases xs with
 | nil=>have:=hargs.1;simp at this
 | cons x xs=>
  obtain ⟨hx,hr⟩:=hargs.uncons
  have:xs=[]:=List.eq_nil_of_length_eq_zero (by have:=hr.1;simpa using this.symm)
  subst this
  cases es with
  | nil=>
   obtain ⟨a,cap,rfl,_⟩:=oK hx
   cases a with
   | none=>exact PG H (Jy cap w) (.inl rfl) ⟨_,rfl⟩
   | some ad=>exact PG H (JA ad cap w) (.inr ⟨_,_,rfl⟩) ⟨_,rfl⟩
  | cons e es=>exact (K 69 _ [] _ _ (UM G (e::es) b f hl (by simp) hp)).2 ρ w S O [x] H hG hargs
theorem zea (cap:Nat) (w:World):
  Calls Tryz.prog 121 #[.slice none 0 cap] w fun e w'=>e=.returned (.slice none 0 0)∧w'=w:=by
 have h1:=nil_eq (P:=Tryz.prog) (t:=35) (e:=5) (by kernel_rfl) cap 0
 go_enter Tryz.func121,Tryz.ntmps121
 go_wp2
 all_goals (go_ret;exact ⟨rfl,rfl⟩)
theorem zeo (ad:Addr) (cap:Nat) (w:World):
  Calls Tryz.prog 121 #[.slice (some ad) 0 cap] w fun e w'=>e=.returned (.slice (some ⟨w.heap.size,0,none⟩) 0 0)∧w'=w.alloc (.cells #[] 5):=by
 have h1:=zp5 (P:=Tryz.prog) (t:=35) (e:=5) (by kernel_rfl) ad 0 cap 0
 go_enter Tryz.func121,Tryz.ntmps121
 go_wp2
 all_goals (go_ret;exact ⟨rfl,rfl⟩)
theorem KT (G:Nat→Option (List AV)) (l:List (List AV)) (b f:Bool) (hl:l.length≤1000000) (hne:l≠[]) (hp:(!b||uC l)=true):aR G (ziA 121 YQ) 121 [.data b 1 l f] []=some (.own 0 1 0 l.length l.length,[⟨1,1,true,l⟩]):=by
 cases l with
 | nil=>exact absurd rfl hne
 | cons x l=>
  have hb:l.length+1≤140737488355328:=by simp at hl;omega
  rw [zX G (ziA 121 YQ) (fn:=YQ) rfl]
  cases b with
  | false=>(sym=>simp [Qb,Qc,Qd,Qe,Qi,Qj,Qr,Qt,Qz,Q2,Xc,X0,Y1,Y3,Y5,Y7,Y9,Za,Zb,Zc,Ze,Zg,Zh,Zi,Zj,Zk,Zl,Zm,Zn,Zr,Zs,Zt,Zu,Zv,Zw,Z3,Jh,Jj,Jk,Jr,Jv,Jx,Ku,Kv,Kx,Ua,Uc,Hh,Hk,Hq,Ht,Hv,H2,H8,Nc,Nl,No,Nt,Nx,Nz,N2,Be,Bg,Mn,zF6.eq_1,zEz.eq_1,zEJ.eq_1,zE2.eq_1,YQ.eq_1,hb])
  | true=>
   have hq:za8 x=true∧uC l=true:=by simpa [Pz] using hp
   have hq1:=hq.1
   have hq2:=hq.2
   (sym=>simp [Qb,Qc,Qd,Qe,Qi,Qj,Qr,Qt,Qz,Q2,Xc,X0,Y1,Y3,Y5,Y7,Y9,Za,Zb,Zc,Ze,Zg,Zh,Zi,Zj,Zk,Zl,Zm,Zn,Zr,Zs,Zt,Zu,Zv,Zw,Z3,Jh,Jj,Jk,Jr,Jv,Jx,Ku,Kv,Kx,Ua,Uc,Hh,Hk,Hq,Ht,Hv,H2,H8,Nc,Nl,No,Ns,Nw,Nz,N2,Be,Bg,Mn,zF6.eq_1,zEz.eq_1,zEJ.eq_1,zE2.eq_1,YQ.eq_1,hb,hq1,hq2])
theorem zek (G:Nat→Option (List AV)):∀ args h v h',jm 1 args h=some (v,h')→yg h h'∧(∃ fn,(Tryz.prog).funcs[121]? =some fn∧fn.name≠ "runtime.NumGoroutine" ∧fn.body.isSome=true)∧
  ∀ (ρ:Rho) (w:World) (S O:Nat→Prop) (xs:List Value),Heap ρ w S O h→(∀ g cs,G g=some cs→zB ρ w S O (.dptr cs) (.pointer (some ⟨g,0,none⟩)))→WO (zB ρ w S O) args xs→
   Calls Tryz.prog 121 xs.toArray w fun e w'=>∃ x,e=.returned x∧Fw ρ w S O h v h' x w':=by
 intro args h v h' he
 have K:=znZ ZP (zeH G zec)
 have any:=K 121 [.data true 1 [[]] false] [] _ _ (KT G _ _ _ (by simp) (by simp) rfl)
 unfold jm at he
 split at he
 case h_2=>cases he
 rename_i b k' es f
 refine ⟨fun id x hx=>by simp at hx,any.1,fun ρ w S O xs H hG hargs=> ?_⟩
 split at he
 case isFalse=>cases he
 rename_i hc
 cases he
 obtain ⟨rfl,hl,hp⟩:=hc
 cases xs with
 | nil=>have:=hargs.1;simp at this
 | cons x xs=>
  obtain ⟨hx,hr⟩:=hargs.uncons
  have:xs=[]:=List.eq_nil_of_length_eq_zero (by have:=hr.1;simpa using this.symm)
  subst this
  cases es with
  | nil=>
   obtain ⟨a,cap,rfl,_⟩:=oK hx
   cases a with
   | none=>exact PG H (zea cap w) (.inl rfl) ⟨_,rfl⟩
   | some ad=>exact PG H (zeo ad cap w) (.inr ⟨_,_,rfl⟩) ⟨_,rfl⟩
  | cons e es=>exact (K 121 _ [] _ _ (KT G (e::es) b f hl (by simp) hp)).2 ρ w S O [x] H hG hargs
end
end Go.Proofs.YthcnhibjddomdaaGreat
namespace Go.Proofs.YthcnhibjddomdaaGreat
section
open Go Go.RowKit Go.Shelf Go.Lib
variable [FrB]
theorem zvl (b off n c i vb voff vc:Nat) (cs vs:List Value) (w:World) (hi:i<n) (hn:n≤1000000) (hroom:n+1≤c) (hvb:vb≠b) (hcl:cs.length=n * 2) (hvl:vs.length=2)
  (hcs:∀ j v,cs[j]? =some v→w.cell? ⟨b,off+j,none⟩=some v) (hth:w.there b off ((n+1) * 2)) (hvs:∀ j v,vs[j]? =some v→w.cell? ⟨vb,voff+j,none⟩=some v) (h1c:∀ v ∈ cs,v.oneCell'=true) (h1v:∀ v ∈ vs,v.oneCell'=true)
  (tA tB:TypeId) (kA kB:Nat) (hsa:w.shape? vb=some (tA,kA)) (hsb:w.shape? b=some (tB,kB)) (hkB:kB≠0) (hfa:w.frozen? ⟨vb,voff,none⟩=false) (hfe:w.frozen? ⟨vb,kA,none⟩=false):
  Calls Tryz.prog 68 #[.slice (some ⟨b,off,none⟩) n c,.int .i64 i,.slice (some ⟨vb,voff,none⟩) 1 vc] w fun e w'=>
   e=.returned (.slice (some ⟨b,off,none⟩) (n+1) c)∧w'=(w.drew.setCells b (off+(i+1) * 2) (cs.drop (i * 2))).setCells b (off+i * 2) vs:=by
 have hz1:¬ ((1:Int)=0):=by omega
 have hz2:¬ ((i:Int)=(n:Int)):=by omega
 have hs2:vP Tryz.prog 54 2=true:=by kernel_rfl
 have hov:∀ lb cb,(callFunc 102 #[.slice (some ⟨vb,voff,none⟩) 1 vc,.slice (some ⟨b,off+(i+1) * 2,none⟩) lb cb]).run Tryz.prog w=.ok (.value (.bool false)) w:=fun lb cb=>by
  rw [run_callFunc_extern (P:=Tryz.prog) (f:=102) rfl (by kernel_rfl) (by kernel_rfl) (by kernel_rfl) (e:=Extern.SlicesOverlaps.overlaps #[22,22] #[4]) (by kernel_rfl),
   Lib.run_overlaps_apart w 22 4 54 (by kernel_rfl) 2 (fun w=>uQ (P:=Tryz.prog) hs2 w) ⟨vb,voff,none⟩ ⟨b,off+(i+1) * 2,none⟩ 1 vc lb cb hvb tA tB kA kB hsa hsb hkB hfa hfe]
  rfl
 have hdl:(cs.drop (i * 2)).length=(n - i) * 2:=by rw [List.length_drop,hcl,← Nat.sub_mul]
 have hw1:IntKind.i64.wrap ((i:Int)+1)=(i:Int)+1:=by rw [IntKind.wrap_i64];omega
 have hw2:IntKind.i64.wrap ((n:Int)+1)=(n:Int)+1:=by rw [IntKind.wrap_i64];omega
 have hu:(Tryz.prog).underlying 22=some (.slice 54):=by kernel_rfl
 have hcp1:∀ ty dc sc,(Builtin.copy_ #[22,22] ty #[.slice (some ⟨b,off+(i+1) * 2,none⟩) (n - i) dc,.slice (some ⟨b,off+i * 2,none⟩) (n+1 - i) sc]).run Tryz.prog w.drew=.ok (goInt (n - i:Nat)) (w.drew.setCells b (off+(i+1) * 2) (cs.drop (i * 2))):=fun ty dc sc=>by
  have h:=Ic (P:=Tryz.prog) (w:=w.drew) (k:=2) (ts:= #[22,22]) (ty:=ty) (t:=22) (e:=54) rfl hu hs2 (b:=b) (off:=off+(i+1) * 2) (l:=n - i) (cap:=dc) (b2:=b) (off2:=off+i * 2) (n2:=n+1 - i) (cap2:=sc) (us:=cs.drop (i * 2))
   (by rw [hdl];congr 1;omega) (fun j v hj=>by rw [Nat.add_assoc];exact hcs _ v (by rwa [List.getElem?_drop] at hj)) (fun j hj=>by
    rw [hdl] at hj
    rw [Nat.add_assoc]
    exact hth _ (by omega)) (fun v hv=>h1c v (List.mem_of_mem_drop hv))
  rw [show min (n+1 - i) (n - i)=n - i by omega] at h
  exact h
 obtain ⟨W1,hW1⟩:∃ W1,W1=w.drew.setCells b (off+(i+1) * 2) (cs.drop (i * 2)):=⟨_,rfl⟩
 have hcp2:∀ (W:World),(∀ x,W.cell? x=W1.cell? x)→(∀ x,W.frozen? x=W1.frozen? x)→∀ ty dc,(Builtin.copy_ #[22,22] ty #[.slice (some ⟨b,off+i * 2,none⟩) (n+1 - i) dc,.slice (some ⟨vb,voff,none⟩) 1 vc]).run Tryz.prog W=.ok (goInt (1:Nat)) (W.setCells b (off+i * 2) vs):=fun W hWc hWf ty dc=>by
  have h:=Ic (P:=Tryz.prog) (w:=W) (k:=2) (ts:= #[22,22]) (ty:=ty) (t:=22) (e:=54) rfl hu hs2 (b:=b) (off:=off+i * 2) (l:=n+1 - i) (cap:=dc) (b2:=vb) (off2:=voff) (n2:=1) (cap2:=vc) (us:=vs)
   (by rw [hvl];omega) (fun j v hj=>by
    rw [hWc,hW1,World.cell?_setCells_out b _ _ _ _ (fun h _=>absurd h hvb)]
    exact hvs j v hj) (fun j hj=>by
    rw [hvl] at hj
    refine ⟨?_, ?_⟩
    ·rw [hWc,hW1,Nat.add_assoc]
     exact isSome_setCells b _ _ _ (fun t ht=>by rw [hdl] at ht;rw [Nat.add_assoc];exact (hth _ (by omega)).1) _ (hth _ (by omega)).1
    ·rw [hWf,hW1,World.frozen?_setCells,Nat.add_assoc]
     exact (hth _ (by omega)).2) h1v
  rw [show min 1 (n+1 - i)=1 by omega] at h
  exact h
 rw [← hW1] at hcp1
 have mixed:(Tryz.prog).follows .mixedOrders=true:=by kernel_rfl
 have hb1:(0:Int)≤(i:Int)+1:=by omega
 have hin:i≤n:=by omega
 have htn:((i:Int)+1).toNat=i+1:=by omega
 have htn2:((n:Int)+1).toNat=n+1:=by omega
 have hb2:¬ (c=i+1):=by omega
 have hb3:(i:Int)≤(n:Int)+1:=by omega
 have hb4:¬ (c=i):=by omega
 go_enter Tryz.func68,Tryz.ntmps68
 go_wp2_with (simp only [hov])
 go_region_law_o (refine step_copy_runI rfl _ _ 22 22 rfl _ _ (by simp [Act.eval,Act.put]) (by simp [Act.eval,Act.put]) (hcp1 _ _ _) ?_)
 go_wp2_with (at_builtin;refine wpList_copy_runI _ rfl _ _ 22 22 rfl _ _ rfl rfl (hcp2 _ (fun _=>rfl) (fun _=>rfl) _ _) ?_)
 go_ret
 first | exact ⟨rfl,rfl⟩ | exact ⟨rfl,by rw [hW1]⟩
theorem zAx (b off n c i vb voff vc:Nat) (cs vs:List Value) (w:World) (hi:i<n) (hnc:n≤c) (hroom:c<n+1) (hbig:n≤1000000) (hcl:cs.length=n * 2) (hvl:vs.length=2) (hbw:b<w.heap.size) (hvw:vb<w.heap.size)
  (hcs:∀ j v,cs[j]? =some v→w.cell? ⟨b,off+j,none⟩=some v) (hvs:∀ j v,vs[j]? =some v→w.cell? ⟨vb,voff+j,none⟩=some v) (h1c:∀ v ∈ cs,v.oneCell'=true) (h1v:∀ v ∈ vs,v.oneCell'=true):
  ∃ (G:Nat) (ROW:Array Value),n+1≤G∧ROW.size=G * 2∧(∀ j,j<i * 2→ROW[j]? =cs[j]?)∧Calls Tryz.prog 68 #[.slice (some ⟨b,off,none⟩) n c,.int .i64 i,.slice (some ⟨vb,voff,none⟩) 1 vc] w fun e w'=>
   e=.returned (.slice (some ⟨w.heap.size,0,none⟩) (n+1) G)∧w'=(((w.alloc (.cells ROW 54)).drew.setCells w.heap.size (i * 2) vs).drew).setCells w.heap.size ((i+1) * 2) (cs.drop (i * 2)):=by
 obtain ⟨i0,hi0,hz0,hzs,hzb⟩:∃ i0,(Tryz.prog).info? 54=some i0∧i0.zero=some (.agg #[.int .i64 0,.int .i64 0])∧i0.size=2∧i0.bytes=16:=⟨_,rfl,by kernel_rfl,by kernel_rfl,by kernel_rfl⟩
 have hu:(Tryz.prog).underlying 22=some (.slice 54):=by kernel_rfl
 have hu3:(Tryz.prog).underlying 3=some (.int .i64):=by kernel_rfl
 have hs2:vP Tryz.prog 54 2=true:=by kernel_rfl
 have hz1:¬ ((1:Int)=0):=by omega
 have hz2:¬ ((i:Int)=(n:Int)):=by omega
 have hz3:(c:Int)<(n:Int)+1:=by omega
 have hkk:(n:Int)+1 - (i:Int)=((n+1 - i:Nat):Int):=by omega
 have hik:i+(n+1 - i)=n+1:=by omega
 have hctl:(cs.take (i * 2)).length=i * 2:=by rw [List.length_take,hcl];exact Nat.min_eq_left (by omega)
 have hold:(Builtin.firstCells i0.size i (.slice (some ⟨b,off,none⟩) i c)).run Tryz.prog w.drew=.ok (cs.take (i * 2)).toArray w.drew:=by
  rw [hzs]
  exact vG (P:=Tryz.prog) (w:=w.drew) (k:=2) hctl (.inr ⟨b,off,rfl,fun j v hj=>by
   rw [List.getElem?_take] at hj
   split at hj
   ·exact hcs j v hj
   ·cases hj⟩)
 have hrz:∀ ty,(Builtin.append_ #[22,3] ty #[.slice (some ⟨b,off,none⟩) i c,.int .i64 ((n:Int)+1 - (i:Int))]).run Tryz.prog w=
   .ok (.slice (some ⟨w.heap.size,0,none⟩) (n+1) (grownCap w (n+1) c 54)) (w.drew.alloc (.cells ((cs.take (i * 2)).toArray++Builtin.zeroCells (Value.agg #[.int .i64 0,.int .i64 0]).cells (n+1 - i)++Builtin.zeroCells (Value.agg #[.int .i64 0,.int .i64 0]).cells (grownCap w (n+1) c 54 - (n+1))) 54)):=fun ty=>by
  have h:=Lib.run_append_grow_zeros w 22 3 ty 54 i0 _ .i64 .i64 hu hu3 hi0 hz0 (some ⟨b,off,none⟩) i c (cs.take (i * 2)) hold (n+1 - i) (by omega) (by omega) (by omega) (by omega) (by rw [hzb];omega) (by rw [hzb,hik];exact growslice_fits hroom (by omega))
  rw [hik] at h
  rw [hkk]
  exact h
 obtain ⟨G,hG⟩:∃ G,G=grownCap w (n+1) c 54:=⟨_,rfl⟩
 obtain ⟨ROW,hROW⟩:∃ ROW:Array Value,ROW=(cs.take (i * 2)).toArray++Builtin.zeroCells (Value.agg #[.int .i64 0,.int .i64 0]).cells (n+1 - i)++Builtin.zeroCells (Value.agg #[.int .i64 0,.int .i64 0]).cells (G - (n+1)):=⟨_,rfl⟩
 have hGn:n+1≤G:=by rw [hG];exact grownCap_ge w _ _ _
 rw [← hG] at hrz
 rw [← hROW] at hrz
 have hRs:ROW.size=G * 2:=by
  rw [hROW,Array.size_append,Array.size_append,size_zeroCells,size_zeroCells,List.size_toArray,hctl]
  show i * 2+(n+1 - i) * 2+(G - (n+1)) * 2=G * 2
  omega
 have hRi:∀ j,j<i * 2→ROW[j]? =cs[j]? :=fun j hj=>by
  rw [hROW,Array.append_assoc,Array.getElem?_append_left (by simp [hctl];omega),List.getElem?_toArray,List.getElem?_take,if_pos hj]
 refine ⟨G,ROW,hGn,hRs,hRi, ?_⟩
 obtain ⟨W1,hW1⟩:∃ W1,W1=w.drew.alloc (.cells ROW 54):=⟨_,rfl⟩
 rw [← hW1] at hrz
 have hN:∀ j,j<(n+1) * 2→(W1.cell? ⟨w.heap.size,j,none⟩).isSome=true:=fun j hj=>by
  rw [hW1,World.cell?_alloc_at (w:=w.drew) ROW _ w.heap.size j rfl,Array.getElem?_eq_getElem (by omega)];rfl
 have hNf:∀ j,W1.frozen? ⟨w.heap.size,j,none⟩=false:=fun j=>by rw [hW1];exact World.frozen?_alloc_at (w:=w.drew) ROW _ w.heap.size j rfl
 have hOb:∀ j v,w.cell? ⟨b,j,none⟩=some v→W1.cell? ⟨b,j,none⟩=some v:=fun j v h=>by rw [hW1,World.cell?_alloc_past (w:=w.drew) _ b j hbw];exact h
 have hOv:∀ j v,w.cell? ⟨vb,j,none⟩=some v→W1.cell? ⟨vb,j,none⟩=some v:=fun j v h=>by rw [hW1,World.cell?_alloc_past (w:=w.drew) _ vb j hvw];exact h
 have hbN:b≠w.heap.size:=by omega
 have hdl:(cs.drop (i * 2)).length=(n - i) * 2:=by rw [List.length_drop,hcl,← Nat.sub_mul]
 have hcpA:∀ (W:World),(∀ x,W.cell? x=W1.cell? x)→(∀ x,W.frozen? x=W1.frozen? x)→∀ ty dc,(Builtin.copy_ #[22,22] ty #[.slice (some ⟨w.heap.size,i * 2,none⟩) (n+1 - i) dc,.slice (some ⟨vb,voff,none⟩) 1 vc]).run Tryz.prog W=.ok (goInt (1:Nat)) (W.setCells w.heap.size (i * 2) vs):=fun W hWc hWf ty dc=>by
  have h:=Ic (P:=Tryz.prog) (w:=W) (k:=2) (ts:= #[22,22]) (ty:=ty) (t:=22) (e:=54) rfl hu hs2 (b:=w.heap.size) (off:=i * 2) (l:=n+1 - i) (cap:=dc) (b2:=vb) (off2:=voff) (n2:=1) (cap2:=vc) (us:=vs)
   (by rw [hvl];omega) (fun j v hj=>by rw [hWc];exact hOv _ v (hvs j v hj)) (fun j hj=>by
    rw [hvl] at hj
    exact ⟨by rw [hWc];exact hN _ (by omega),by rw [hWf];exact hNf _⟩) h1v
  rw [show min 1 (n+1 - i)=1 by omega] at h
  exact h
 have hcpB:∀ (W:World),(∀ x,W.cell? x=(W1.setCells w.heap.size (i * 2) vs).cell? x)→(∀ x,W.frozen? x=(W1.setCells w.heap.size (i * 2) vs).frozen? x)→∀ ty dc sc,(Builtin.copy_ #[22,22] ty #[.slice (some ⟨w.heap.size,(i+1) * 2,none⟩) (n - i) dc,.slice (some ⟨b,off+i * 2,none⟩) (n - i) sc]).run Tryz.prog W=.ok (goInt (n - i:Nat)) (W.setCells w.heap.size ((i+1) * 2) (cs.drop (i * 2))):=fun W hWc hWf ty dc sc=>by
  have h:=Ic (P:=Tryz.prog) (w:=W) (k:=2) (ts:= #[22,22]) (ty:=ty) (t:=22) (e:=54) rfl hu hs2 (b:=w.heap.size) (off:=(i+1) * 2) (l:=n - i) (cap:=dc) (b2:=b) (off2:=off+i * 2) (n2:=n - i) (cap2:=sc) (us:=cs.drop (i * 2))
   (by rw [hdl,Nat.min_self]) (fun j v hj=>by
    rw [hWc,World.cell?_setCells_out _ _ _ _ _ (fun h _=>absurd h hbN),Nat.add_assoc]
    exact hOb _ v (hcs _ v (by rwa [List.getElem?_drop] at hj))) (fun j hj=>by
    rw [hdl] at hj
    exact ⟨by rw [hWc];exact isSome_setCells _ _ _ _ (fun t ht=>hN _ (by rw [hvl] at ht;omega)) _ (hN _ (by omega)),by rw [hWf,World.frozen?_setCells];exact hNf _⟩) (fun v hv=>h1c v (List.mem_of_mem_drop hv))
  rw [Nat.min_self] at h
  exact h
 have hG63:G≤9223372036854775807:=by
  have:=grownCap_le_maxLen w (n+1) c 54 (by unfold maxLen;omega)
  rw [← hG] at this
  unfold maxLen at this
  omega
 have hGi:¬ (G=i):=by omega
 have hGim:¬ (G=i+1):=by omega
 have hci:¬ (c=i):=by omega
 subst hW1
 have hE1:∀ x,((w.alloc (.cells ROW 54)).drew).cell? x=(w.drew.alloc (.cells ROW 54)).cell? x:=fun x=>rfl
 have hE2:∀ x,((w.alloc (.cells ROW 54)).drew).frozen? x=(w.drew.alloc (.cells ROW 54)).frozen? x:=fun x=>rfl
 have hF1:∀ x,(((w.alloc (.cells ROW 54)).drew.setCells w.heap.size (i * 2) vs).drew).cell? x=((w.drew.alloc (.cells ROW 54)).setCells w.heap.size (i * 2) vs).cell? x:=fun x=>rfl
 have hF2:∀ x,(((w.alloc (.cells ROW 54)).drew.setCells w.heap.size (i * 2) vs).drew).frozen? x=((w.drew.alloc (.cells ROW 54)).setCells w.heap.size (i * 2) vs).frozen? x:=fun x=>rfl
 have mixed:(Tryz.prog).follows .mixedOrders=true:=by kernel_rfl
 have hw1:IntKind.i64.wrap ((i:Int)+1)=(i:Int)+1:=by rw [IntKind.wrap_i64];omega
 have hw2:IntKind.i64.wrap ((n:Int)+1)=(n:Int)+1:=by rw [IntKind.wrap_i64];omega
 have hb1:(0:Int)≤(i:Int)+1:=by omega
 have hin:i≤n:=by omega
 have htn:((i:Int)+1).toNat=i+1:=by omega
 have hb3:(i:Int)≤(n:Int):=by omega
 clear hkk hik hold hROW hG hRi hRs
 go_enter Tryz.func68,Tryz.ntmps68
 go_wp2_with (first
  | (at_builtin;refine Lib.wpList_append_run _ rfl _ _ _ _ rfl _ _ rfl rfl _ _ (hrz _) ?_)
  | (at_builtin;refine wpList_copy_runI _ rfl _ _ 22 22 rfl _ _ rfl rfl (hcpA _ hE1 hE2 _ _) ?_)
  | (at_builtin;refine wpList_copy_runI _ rfl _ _ 22 22 rfl _ _ rfl rfl (hcpB _ (fun _=>rfl) (fun _=>rfl) _ _ _) ?_))
 go_region_law_o (refine step_copy_runI rfl _ _ 22 22 rfl (.slice (some ⟨w.heap.size,(i+1) * 2,none⟩) (n - i) (G - (i+1))) (.slice (some ⟨b,off+i * 2,none⟩) (n - i) (c - i)) (by simp [Act.eval,Act.put]) (by simp [Act.eval,Act.put]) (hcpB _ hF1 hF2 3 (G - (i+1)) (c - i)) ?_)
 go_wp2
 go_ret
 exact ⟨rfl,rfl⟩
theorem zsn (G:Nat→Option (List AV)) (h:List zf) (id id2 g g2 n c2:Nat) (fl fl2:Bool) (es es2:List (List AV)) (x:List AV) (h1:h[id]? =some ⟨2,g,fl,es⟩) (hl:es.length=n) (h2:h[id2]? =some ⟨2,g2,fl2,x::es2⟩) (hn:n≤1000000):
  aR G (ziA 68 uM) 68 [.own id g 0 n n,.int .i64 n,.own id2 g2 0 1 c2] h=some (.own id (g+1) 0 (n+1) (n+1),h.set id ⟨2,g+1,fl&&fl2,es++[x]⟩):=by
 have b1:(n+1) * 16≤140737488355328:=by omega
 have n1:n+1≤n↔False:=by simp
 have tk:List.take n es=es:=List.take_of_length_le (by omega)
 have n2:1≤es2.length+1:=by omega
 rw [zX G (ziA 68 uM) (fn:=uM) rfl]
 (sym=>simp [Qb,Qc,Qd,Qe,Qi,Qj,Qr,Qt,Xa,Xl,Xm,Xn,Xy,X0,X8,Yg,Y1,Y2,Y5,Y7,Y9,Za,Zb,Zc,Ze,Zg,Zh,Zi,Zj,Zk,Zl,Zm,Zn,Zr,Zs,Zt,Zu,Zv,Zw,Zx,Zy,Zz,Z0,Z3,Jj,Jk,Jl,Jr,Jv,Jx,Kv,Kx,K0,K1,K2,Ho,Hp,Hs,H8,Nb,Ng,Nh,Ni,Nk,Nl,Nm,Nz,N2,Be,Bg,Bh,zv3.eq_1,zxf.eq_1,zwF.eq_1,zz3.eq_1,zwJ.eq_1,zAL.eq_1,zw3.eq_1,zAe.eq_1,zrl.eq_1,zrf.eq_1,zs4.eq_1,zru.eq_1,ztm.eq_1,zsX.eq_1,zs1.eq_1,ztb.eq_1,ztd.eq_1,zrk.eq_1,zrJ.eq_1,uM.eq_1,h1,h2,hl,b1,n1,n2,tk])
theorem KA (G:Nat→Option (List AV)):∀ args h v h',KV 2 args h=some (v,h')→yg h h'∧(∃ fn,(Tryz.prog).funcs[68]? =some fn∧fn.name≠ "runtime.NumGoroutine" ∧fn.body.isSome=true)∧
  ∀ (ρ:Rho) (w:World) (S O:Nat→Prop) (xs:List Value),Heap ρ w S O h→(∀ g cs,G g=some cs→zB ρ w S O (.dptr cs) (.pointer (some ⟨g,0,none⟩)))→WO (zB ρ w S O) args xs→
   Calls Tryz.prog 68 xs.toArray w fun e w'=>∃ x,e=.returned x∧Fw ρ w S O h v h' x w':=by
 intro args h v h' he
 have K:=znZ ZP (zeH G LX)
 have any:=K 68 [.own 0 0 0 0 0,.int .i64 0,.own 1 0 0 1 1] [⟨2,0,true,[]⟩,⟨2,0,true,[[]]⟩] _ _ (zsn G [⟨2,0,true,[]⟩,⟨2,0,true,[[]]⟩] 0 1 0 0 0 1 true true [] [] [] rfl rfl rfl (by omega))
 unfold KV at he
 split at he
 case h_2=>cases he
 rename_i id g s n c i id2 g2 s2 m c2
 obtain ⟨r,hr,he⟩:=za.1 he
 obtain ⟨r2,hr2,he⟩:=za.1 he
 split at he
 case h_2=>cases he
 rename_i x es2 hes2
 split at he
 case isFalse=>cases he
 rename_i hc
 cases he
 obtain ⟨rfl,rfl,rfl,rfl,hne,hg,hk,hl,hg2,hk2,hi0,hin,hn⟩:=hc
 obtain ⟨k,gr,fl,es⟩:=r
 obtain ⟨k2,gr2,fl2,es2'⟩:=r2
 simp only at hg hk hl hg2 hk2 hes2
 subst hg hk hg2 hk2 hes2
 obtain ⟨i,rfl⟩:∃ j:Nat,i=j:=⟨i.toNat,by omega⟩
 simp only [Int.toNat_natCast]
 refine ⟨yg.set hr rfl,any.1,fun ρ w S O xs H hG hargs=> ?_⟩
 by_cases hie:i=n
 ·subst hie
  have:=(K 68 _ h _ _ (zsn G h id id2 gr gr2 i c2 fl fl2 es es2 x hr hl hr2 hn)).2 ρ w S O xs H hG hargs
  rw [List.take_of_length_le (by omega),List.drop_of_length_le (by omega),List.append_nil]
  exact this
 have hi:i<n:=by omega
 cases xs with
 | nil=>have:=hargs.1;simp at this
 | cons x0 xs=>
 obtain ⟨hx0,hr0⟩:=hargs.uncons
 cases xs with
 | nil=>have:=hr0.1;simp at this
 | cons x1 xs=>
 obtain ⟨hx1,hr1⟩:=hr0.uncons
 cases xs with
 | nil=>have:=hr1.1;simp at this
 | cons x2 xs=>
 obtain ⟨hx2,hr3⟩:=hr1.uncons
 have:xs=[]:=List.eq_nil_of_length_eq_zero (by have:=hr3.1;simpa using this.symm)
 subst this
 have e1:x1=.int .i64 i:=jc hx1
 subst e1
 obtain ⟨g',pl,ad,cap,hz,hρ,hle,hlc,_,has,hpl⟩:=Te hx0
 obtain ⟨hg',his⟩:=H.at hρ hr
 have hgg:gr=g':=hg'
 subst hgg
 rcases hpl rfl with hc0 | ⟨p,rfl,had,hlim⟩
 ·omega
 obtain ⟨g2',pl2,ad2,cap2,hz2,hρ2,hle2,hlc2,_,has2,hpl2⟩:=Te hx2
 obtain ⟨hg2',his2⟩:=H.at hρ2 hr2
 have hgg2:gr2=g2':=hg2'
 subst hgg2
 rcases hpl2 rfl with hc02 | ⟨p2,rfl,had2,hlim2⟩
 ·omega
 have R1:zm ρ w S O ⟨2,gr,fl,es⟩ p:=his
 have R2:zm ρ w S O ⟨2,gr2,fl2,x::es2⟩ p2:=his2
 have hpk:p.k=2:=R1.k
 have hpk2:p2.k=2:=R2.k
 obtain ⟨adx,capx,us,hzx,_,hkl,hq,hcx⟩:=gu H hx0 (k:=2) (es:=es) (fl:=fl) (by simp [oJ,hr,hl,List.take_of_length_le (show es.length≤n by omega)])
 obtain ⟨ady,capy,us2,hzy,_,hkl2,hq2,hcy⟩:=gu H hx2 (k:=2) (es:=[x]) (fl:=fl2) (by simp [oJ,hr2])
 have hul:us.length=n * 2:=by rw [← hq.1,yz hkl,hl]
 have hul2:us2.length=2:=by rw [← hq2.1,yz hkl2];rfl
 have hxl:x.length=2:=hkl2 x (by simp)
 rw [List.flatten_cons,List.flatten_nil,List.append_nil] at hq2
 rcases hcx with h0 | ⟨b,off,hadx,hcells⟩
 ·rw [h0] at hul;simp at hul;omega
 rcases hcy with h0 | ⟨vb,voff,hady,hcells2⟩
 ·rw [h0] at hul2;simp at hul2
 rw [hl] at hzx
 rw [hz] at hzx
 obtain ⟨rfl,rfl⟩:ad=adx∧cap=capx:=by cases hzx;exact ⟨rfl,rfl⟩
 rw [show ([x]:List (List AV)).length=1 from rfl,hz2] at hzy
 obtain ⟨rfl,rfl⟩:ad2=ady∧cap2=capy:=by cases hzy;exact ⟨rfl,rfl⟩
 rw [hadx] at had
 rw [hady] at had2
 simp only [Nat.zero_mul,Nat.add_zero,Option.some.injEq,Addr.mk.injEq,and_true] at had had2
 obtain ⟨rfl,rfl⟩:=had
 obtain ⟨rfl,rfl⟩:=had2
 subst hadx hady
 have hvb:p2.b≠p.b:=fun e=>hne (H.inj id id2 _ _ p p2 hρ hρ2 e.symm)
 have hlt1:=R1.lt
 have hlt2:=R2.lt
 obtain ⟨arr,ty,lo,hi',hb,hbs,hfz,_⟩:=R1.block
 obtain ⟨arr2,ty2,lo2,hi2,hb2,hbs2,hfz2,_⟩:=R2.block
 have hlo2:lo2=hi2:=hfz2.2.2 (by show (2:Nat)≠1;decide)
 have h1c:=hq.one
 have h1v:=hq2.one
 subst hz hz2
 rw [hpk] at hbs
 have hcapl:cap * 2≤p.lim * 2:=Nat.mul_le_mul_right _ (by omega)
 have finE:(es.take i++[x]++es.drop i).length=n+1:=zpw (k:=2) hl (by omega)
 have finK:=zyX (i:=i) hkl hxl
 have finC:=zlb hkl i hq hq2
 have other:∀ (id' g':Nat) q,id'≠id→ρ id'=some (g',some q)→q.b≠p.b∧q.b<w.heap.size:=fun id' g' q hid' hq'=>by
  obtain ⟨r',_,_,hR'⟩:=H.row id' g' _ hq'
  exact ⟨fun e=>hid' (H.inj id' id _ _ q p hq' hρ e),zm.lt (show zm ρ w S O r' q from hR')⟩
 by_cases hroom:n+1≤cap
 ·
  have hth:w.there p.b p.base ((n+1) * 2):=zuX R1 (by omega)
  refine Calls.mono (zvl p.b p.base n cap i p2.b p2.base cap2 us us2 w hi hn hroom hvb hul hul2 hcells hth hcells2 h1c h1v ty2 ty arr2.size arr.size (by simp [World.shape?,hb2]) (by simp [World.shape?,hb]) (by omega)
   (by simp [World.frozen?,hb2,hlo2]) (by simp [World.frozen?,hb2,hlo2])) fun e w' ⟨e1,e2⟩=> ?_
  subst e1 e2
  have hA:uB w O ((w.drew.setCells p.b (p.base+(i+1) * 2) (us.drop (i * 2))).setCells p.b (p.base+i * 2) us2) O:=((uB.drew w O).trans (uB.setCells _ R1.own _ _)).trans (uB.setCells _ R1.own _ _)
  have hdl:(us.drop (i * 2)).length=n * 2 - i * 2:=by rw [List.length_drop,hul]
  have blk:=oz us2 p.b (p.base+i * 2) _ _ ty (lo,hi') (oz (us.drop (i * 2)) p.b (p.base+(i+1) * 2) w.drew arr ty (lo,hi') hb (by rw [hdl];omega)) (by rw [hul2,List.size_toArray,yA (by rw [hdl,Array.length_toList];omega),Array.length_toList];omega)
  have hL:(jD (p.base+i * 2) us2 (jD (p.base+(i+1) * 2) (us.drop (i * 2)) arr.toList)).length=arr.size:=by
   rw [yA (by rw [hul2,yA (by rw [hdl,Array.length_toList];omega),Array.length_toList];omega),yA (by rw [hdl,Array.length_toList];omega),Array.length_toList]
  obtain ⟨H2,E2⟩:=H.place (r':=⟨2,gr+1,fl&&fl2,es.take i++[x]++es.drop i⟩) (p':=⟨p.b,p.base,2,cap⟩) hρ rfl hA (fun b hb=>by rw [setCells_size,setCells_size];exact H.bd b (.inr hb))
   (fun id' g' q hid' hq'=>⟨by rw [jr _ _ _ _ _ (other id' g' q hid' hq').1,jr _ _ _ _ _ (other id' g' q hid' hq').1];rfl,(other id' g' q hid' hq').1⟩)
   (zm.ofFlat (vs:=us.take (i * 2)++us2++us.drop (i * 2)) rfl (by simp only;rw [finE];exact hroom) R1.own finK blk (by simp only [List.size_toArray];rw [List.size_toArray] at *;rw [hL];omega)
    ⟨hfz.1,fun j hj=>hfz.2.1 j (by simpa [hL] using hj),fun _=>hfz.2.2 (by show (2:Nat)≠1;decide)⟩ (fun j hj=>by
     rw [List.getElem?_toArray]
     refine zh8 (n:=n) hul hul2 (by omega) (by rw [Array.length_toList];omega) (fun j hj=> ?_) j hj
     have hjn:j<us.length:=by omega
     have:=hcells j _ (List.getElem?_eq_getElem hjn)
     simp only [World.cell?,hb] at this
     rw [Array.getElem?_toList,List.getElem?_eq_getElem hjn]
     exact this) (finC.adv (by
      intro i0 g0 pl0 h0
      by_cases e:i0=id
      ·subst e;rw [hρ] at h0;cases h0;exact ⟨_,_,upd_same ρ _ _,Nat.le_succ _,fun e=>by omega⟩
      ·exact ⟨g0,pl0,by rw [upd_ne ρ _ e];exact h0,Nat.le_refl _,fun _=>rfl⟩) hA))
  refine ⟨_,rfl,_,O,hA.x,E2,H2, ?_,fun j hj hn=>by rw [upd_ne ρ _ (fun e=>by rw [e,hρ] at hn;cases hn)];exact hn⟩
  exact .own _ _ _ _ 0 _ _ _ cap (upd_same ρ _ _) (Nat.le_refl _) hroom hroom (fun _=>rfl) (fun _=>.inr ⟨_,rfl,by simp,by simp⟩)
 ·
  obtain ⟨G0,ROW,hG1,hRs,hRi,hcall⟩:=zAx p.b p.base n cap i p2.b p2.base cap2 us us2 w hi hlc (by omega) hn hul hul2 hlt1 hlt2 hcells hcells2 h1c h1v
  refine Calls.mono hcall fun e w' ⟨e1,e2⟩=> ?_
  subst e1 e2
  have hA:uB w O (((w.alloc (.cells ROW 54)).drew.setCells w.heap.size (i * 2) us2).drew.setCells w.heap.size ((i+1) * 2) (us.drop (i * 2))) (fun b=>O b∨b=w.heap.size):=
   ((((uB.alloc w O _).trans (uB.drew _ _)).trans (uB.setCells _ (.inr rfl) _ _)).trans (uB.drew _ _)).trans (uB.setCells _ (.inr rfl) _ _)
  have hdl:(us.drop (i * 2)).length=n * 2 - i * 2:=by rw [List.length_drop,hul]
  have hb0:((w.alloc (.cells ROW 54)).drew).heap[w.heap.size]? =some (.cells ROW 54 (0,0)):=heap_alloc_new _ _
  have hRt:ROW.toList.length=G0 * 2:=by rw [Array.length_toList,hRs]
  have blk:=oz (us.drop (i * 2)) w.heap.size ((i+1) * 2) (((w.alloc (.cells ROW 54)).drew.setCells w.heap.size (i * 2) us2).drew) _ 54 (0,0) (oz us2 w.heap.size (i * 2) ((w.alloc (.cells ROW 54)).drew) ROW 54 (0,0) hb0 (by rw [hul2,hRs];omega)) (by rw [hdl,List.size_toArray,yA (by rw [hul2,hRt];omega),hRt];omega)
  have hL:(jD ((i+1) * 2) (us.drop (i * 2)) (jD (i * 2) us2 ROW.toList)).length=G0 * 2:=by
   rw [yA (by rw [hdl,yA (by rw [hul2,hRt];omega),hRt];omega),yA (by rw [hul2,hRt];omega),hRt]
  obtain ⟨H2,E2⟩:=H.place (r':=⟨2,gr+1,fl&&fl2,es.take i++[x]++es.drop i⟩) (p':=⟨w.heap.size,0,2,G0⟩) hρ rfl hA (fun b hb=>by
    have:(((w.alloc (.cells ROW 54)).drew.setCells w.heap.size (i * 2) us2).drew.setCells w.heap.size ((i+1) * 2) (us.drop (i * 2))).heap.size=w.heap.size+1:=by
     rw [setCells_size];show ((w.alloc (.cells ROW 54)).drew.setCells w.heap.size (i * 2) us2).heap.size=_;rw [setCells_size];show (w.alloc (.cells ROW 54)).heap.size=_;simp
    rw [this]
    rcases hb with hb | rfl
    ·have:=H.bd b (.inr hb);omega
    ·omega)
   (fun id' g' q hid' hq'=>by
    have hlt:=(other id' g' q hid' hq').2
    refine ⟨?_,by show q.b≠w.heap.size;omega⟩
    rw [jr _ _ _ _ _ (by omega)]
    show ((w.alloc (.cells ROW 54)).drew.setCells w.heap.size (i * 2) us2).heap[q.b]? =_
    rw [jr _ _ _ _ _ (by omega)]
    exact Below.heap_alloc w _ q.b hlt)
   (zm.ofFlat (vs:=us.take (i * 2)++us2++us.drop (i * 2)) rfl (by simp only;rw [finE];exact hG1) (.inr rfl) finK blk (by simp only [List.size_toArray];rw [hL];omega)
    ⟨Nat.le_refl _,fun j _=>by omega,fun _=>rfl⟩ (fun j hj=>by
     rw [List.getElem?_toArray]
     have hp:=zie (base:=0) (n:=n) (k:=2) hul hul2 (by omega) (by rw [hRt];omega) (fun j hj=>(by
      rw [Nat.zero_add,Array.getElem?_toList];exact hRi j hj)) j hj
     simpa only [Nat.zero_add] using hp) (finC.adv (by
      intro i0 g0 pl0 h0
      by_cases e:i0=id
      ·subst e;rw [hρ] at h0;cases h0;exact ⟨_,_,upd_same ρ _ _,Nat.le_succ _,fun e=>by omega⟩
      ·exact ⟨g0,pl0,by rw [upd_ne ρ _ e];exact h0,Nat.le_refl _,fun _=>rfl⟩) hA))
  refine ⟨_,rfl,_,_,hA.x,E2,H2, ?_,fun j hj hn=>by rw [upd_ne ρ _ (fun e=>by rw [e,hρ] at hn;cases hn)];exact hn⟩
  exact .own _ _ _ _ 0 _ _ _ G0 (upd_same ρ _ _) (Nat.le_refl _) hG1 hG1 (fun _=>rfl) (fun _=>.inr ⟨_,rfl,by simp,by simp⟩)
end
end Go.Proofs.YthcnhibjddomdaaGreat
namespace Go.Proofs.YthcnhibjddomdaaGreat
section
open Go
variable (G:Nat→Option (List AV)) (F:Nat→Option Dj)
theorem yB (q:List Pc):(pcs q).length=q.length:=by simp [pcs]
theorem YZ {q:List Pc} {i:Nat} (h:i<q.length):(pcs q)[i]? =some [.int .i64 q[i].1,.int .i64 q[i].2.1,.data false 1 (byt q[i].2.2.1) q[i].2.2.2]:=by simp [pcs,h,UK]
theorem oI (l:List Int):(byt l).length=l.length:=by simp [byt]
theorem zj4 (hF:F gF=some (.fn y7)) (m a:Int) (t:List (List AV)) (b f:Bool):aP G F gF [.agg [.int .i64 m,.int .i64 a,.data b 1 t f]]=some (.bool (VG m a t.length)):=by
 unfold aP VG
 rw [zX G F hF]
 by_cases h1:1≤m
 ·by_cases h2:m≤8
  ·by_cases h3:1≤a
   ·by_cases h4:a≤1073741824
    ·by_cases h5:(1:Int)≤t.length
     ·by_cases h6:(t.length:Int)≤16
      ·cases b<;>(sym=>simp [Qb,Qd,Qe,Qf,Qg,Qi,Qj,Qr,Qt,Qu,Qw,Q4,Xa,Xp,Xy,Yb,Yd,Yh,Yj,Yr,Yt,Yv,Y1,Y5,Y7,Y9,Za,Zb,Zc,Ze,Zg,Zh,Zi,Zj,Zk,Zl,Zm,Zn,Zr,Zs,Zt,Zu,Zv,Zw,Zy,Z0,Ja,Jj,Jk,Jv,Jx,Ue,Uf,Ug,Ul,Wk,Hh,Hi,Hv,Nl,No,Nq,Nw,Nx,Be,zdC.eq_1,zdL.eq_1,y7.eq_1,h1,h2,h3,h4,h5,h6])
      ·cases b<;>(sym=>simp [Qb,Qd,Qe,Qf,Qg,Qi,Qj,Qr,Qt,Qu,Qw,Q4,Xa,Xp,Xy,Yb,Yd,Yh,Yj,Yr,Yt,Yv,Y1,Y5,Y7,Y9,Za,Zb,Zc,Ze,Zg,Zh,Zi,Zj,Zk,Zl,Zm,Zn,Zr,Zs,Zt,Zu,Zv,Zw,Zy,Z0,Ja,Jj,Jk,Jv,Jx,Ue,Uf,Ug,Ul,Wk,Hh,Hi,Hv,Nl,Nm,No,Nq,Nw,Nx,Be,zdC.eq_1,zdL.eq_1,y7.eq_1,h1,h2,h3,h4,h5,h6])
     ·cases b<;>(sym=>simp [Qb,Qd,Qe,Qf,Qg,Qi,Qj,Qr,Qt,Qu,Qw,Q4,Xa,Xp,Xy,Yb,Yd,Yh,Yj,Yr,Yt,Yv,Y1,Y5,Y7,Y9,Za,Zb,Zc,Ze,Zg,Zh,Zi,Zj,Zk,Zl,Zm,Zn,Zr,Zs,Zt,Zu,Zv,Zw,Zy,Z0,Z3,Ja,Jj,Jk,Jv,Jx,Ue,Uf,Ug,Ul,Wk,Hh,Hi,Hv,Nl,Nm,No,Nq,Nr,Nw,Nx,Be,zdC.eq_1,zdL.eq_1,y7.eq_1,h1,h2,h3,h4,h5])
    ·cases b<;>(sym=>simp [Qb,Qd,Qe,Qf,Qg,Qi,Qj,Qr,Qt,Qu,Qw,Q4,Xa,Xp,Yb,Yd,Yj,Yr,Yt,Yv,Y1,Y5,Y7,Y9,Za,Zb,Zc,Ze,Zg,Zh,Zi,Zj,Zk,Zl,Zm,Zn,Zr,Zs,Zt,Zu,Zv,Zw,Zy,Z0,Z3,Ja,Jj,Jk,Jv,Jx,Ue,Uf,Ug,Ul,Wk,Hh,Hi,Hv,Nl,Nm,No,Nq,Nr,Nw,Nx,Be,zdC.eq_1,zdL.eq_1,y7.eq_1,h1,h2,h3,h4])
   ·cases b<;>(sym=>simp [Qb,Qd,Qe,Qf,Qg,Qi,Qj,Qr,Qt,Qu,Qw,Q4,Xa,Xp,Yb,Yd,Yj,Yr,Yt,Yv,Y1,Y5,Y7,Y9,Za,Zb,Zc,Ze,Zg,Zh,Zi,Zj,Zk,Zl,Zm,Zn,Zr,Zs,Zt,Zu,Zv,Zw,Zy,Z0,Z3,Ja,Jj,Jk,Jv,Jx,Ue,Uf,Ug,Ul,Wk,Hh,Hi,Hv,Nl,Nm,No,Nq,Nr,Nw,Nx,Be,zdC.eq_1,zdL.eq_1,y7.eq_1,h1,h2,h3])
  ·cases b<;>(sym=>simp [Qb,Qd,Qe,Qf,Qg,Qi,Qj,Qr,Qt,Qu,Qw,Q4,Xa,Xp,Yb,Yd,Yj,Yr,Yt,Yv,Y1,Y5,Y7,Y9,Za,Zb,Zc,Ze,Zg,Zh,Zi,Zj,Zk,Zl,Zm,Zn,Zr,Zs,Zt,Zu,Zv,Zw,Zy,Z0,Z3,Ja,Jj,Jk,Jv,Jx,Ue,Uf,Ug,Ul,Wk,Hh,Hv,Nl,Nm,No,Nq,Nr,Nw,Nx,Be,zdC.eq_1,zdL.eq_1,y7.eq_1,h1,h2])
 ·cases b<;>(sym=>simp [Qb,Qd,Qe,Qf,Qg,Qi,Qj,Qr,Qt,Qu,Qw,Q4,Xa,Xp,Yd,Yj,Yr,Yt,Yv,Y1,Y5,Y7,Y9,Za,Zb,Zc,Ze,Zg,Zh,Zi,Zj,Zk,Zl,Zm,Zn,Zr,Zs,Zt,Zu,Zv,Zw,Zy,Z0,Z3,Ja,Jj,Jk,Jv,Jx,Ue,Uf,Ug,Ul,Wk,Hh,Hv,Nm,No,Nq,Nr,Nw,Nx,Be,zdC.eq_1,zdL.eq_1,y7.eq_1,h1])
theorem zuL (hF:F gF=some (.fn y7)) (q:List Pc) (b f:Bool) (hl:q.length<1000001) (hb:∀ x ∈ q,x.2.2.1.length<1000001):∀ (m i:Nat) (n:Int),i+m=q.length→0≤n→n≤64→∃ R,
  (∀ st,agc 0 [3,6,7,8] st=some ⟨[(3,.int .i64 n),(6,.data b 3 (pcs q) f),(7,.int .i64 q.length),(8,.int .i64 i)],[]⟩→aE G F 0 Sl st=some R)∧
  ((jG n (q.drop i)=true∧∃ n',R=(.exit 0,⟨[(3,.int .i64 n'),(6,.data b 3 (pcs q) f),(7,.int .i64 q.length),(8,.int .i64 q.length),(9,.bool false)],[]⟩))∨
   (jG n (q.drop i)=false∧∃ h',R=(.ret,⟨[(2,.bool false)],h'⟩))):=by
 intro m
 induction m with
 | zero=>
  intro i n hi h0 h64
  have e:q.drop i=[]:=List.drop_eq_nil_of_le (by omega)
  have ei:i=q.length:=by omega
  subst ei
  have e0:decide ((q.length:Int)<q.length)=false:=by simp
  refine ⟨_,fun st hst=> ?_,.inl ⟨by rw [e];rfl,n,rfl⟩⟩
  rw [Sl,zn,hst]
  (sym=>simp [Qa,Qd,Qe,Qi,Qt,Xa,Ya,Y9,Za,Zb,Zc,Ze,Zg,Zh,Zt,Zv,Zw,Z3,Jj,Jk,Jm,Jr,Ju,Jv,Be,znH.eq_1,zoq.eq_1,zmc.eq_1,zni.eq_1,zmX.eq_1,znu.eq_1,VE.eq_1,e0])
 | succ m ih=>
  intro i n hi h0 h64
  have hlt:i<q.length:=by omega
  have hlt':(i:Int)<q.length:=by omega
  have e:q.drop i=q[i]::q.drop (i+1):=List.drop_eq_getElem_cons hlt
  have hw:=zH (n:=i) (by omega)
  have hg:=YZ hlt
  have hbi:=hb q[i] (List.getElem_mem _)
  rw [Sl] at ih ⊢
  rw [e]
  obtain ⟨x,hx⟩:∃ x,q[i]=x:=⟨_,rfl⟩
  rw [hx] at hg hbi ⊢
  obtain ⟨ma,aa,t,tf⟩:=x
  simp only at hg hbi
  have hP:=fun f=>zj4 G F hF ma aa (byt t) b f
  have hbl:=oI t
  rw [hbl] at hP
  have hwn:IntKind.i64.wrap (n+t.length)=n+t.length:=by rw [ZV _ (by omega) (by omega)]
  rw [jG]
  cases hp:VG ma aa t.length with
  | false=>
   rw [hp] at hP
   refine ⟨(.ret,⟨[(2,.bool false)],[⟨3,0, !b,[[.int .i64 ma,.int .i64 aa,.data b 1 (byt t) tf]]⟩]⟩),fun st hst=> ?_,.inr ⟨by simp,_,rfl⟩⟩
   rw [zn,hst]
   (sym=>simp [Qb,Qc,Qd,Qe,Qf,Qg,Qi,Qj,Qm,Qn,Qo,Qr,Qt,Qu,Qv,Q4,Q5,Xa,Xd,Xp,Xs,Xy,X5,Ya,Yh,Yr,Ys,Yt,Yu,Yv,Yy,Y9,Za,Zb,Zc,Zd,Ze,Zg,Zh,Zm,Zn,Zo,Zt,Zv,Zw,Zy,Z0,Z1,Z3,Jb,Jj,Jk,Jl,Jn,Jp,Jr,Jt,Jv,J1,J2,Ue,Uf,Ug,Ul,V3,V6,V9,Wd,We,Hh,Hi,Hk,Ho,Hp,Hq,Hr,Hs,Ht,Hv,Hw,Ni,Nk,Nl,No,Np,Nw,Nx,N0,Be,Ma,Mb,Md,Me,Mf,znH.eq_1,zoq.eq_1,zmc.eq_1,zni.eq_1,zmX.eq_1,znu.eq_1,VE.eq_1,hlt',hg,hbl,hP,hwn])
  | true=>
   rw [hp] at hP
   by_cases h6:n+t.length≤64
   ·obtain ⟨R,ih1,ih2⟩:=ih (i+1) (n+t.length) (by omega) (by omega) h6
    have hn6:¬ (64:Int)<n+t.length:=by omega
    refine ⟨R,fun st hst=> ?_,by simpa [hp,h6] using ih2⟩
    rw [zn,hst]
    clear ih2
    generalize some R=R2 at ih1 ⊢
    (sym=>simp [Qc,Qd,Qe,Qf,Qg,Qi,Qj,Qm,Qn,Qo,Qr,Qt,Qu,Qv,Q4,Q5,Xa,Xd,Xp,Xs,Xy,X5,Ya,Yc,Yh,Yr,Ys,Yt,Yu,Yv,Yy,Y9,Za,Zb,Zc,Zd,Ze,Zg,Zh,Zm,Zn,Zo,Zt,Zv,Zw,Zy,Z0,Z1,Z3,Jb,Jj,Jk,Jn,Jo,Jr,Js,Jv,J1,J2,Ue,Uf,Ug,Ul,V3,V6,V9,Wd,We,Hh,Hi,Hk,Ho,Hp,Hq,Hr,Hs,Ht,Hv,Hw,Ni,Nk,Nl,Nm,No,Np,Nw,Nx,N0,Be,Ma,Mb,Md,Me,Mf,znH.eq_1,zoq.eq_1,zmc.eq_1,zni.eq_1,zmX.eq_1,znu.eq_1,VE.eq_1,hlt',hg,hbl,hP,hwn,hn6,hw];tactic=>(
     refine ih1 _ ?_
     (sym=>simp [Y9,Za,Zb,Ze,Zk,Zl,Zv,Zw,Ux,U0,U4,U5,Vb,Ve,Vo,Vq,Vr,Vt,Vv,Vw,Vy,Vz,V0,Hp,Hw,H1,No])))
   ·have hn6:(64:Int)<n+t.length:=by omega
    refine ⟨(.ret,⟨[(2,.bool false)],[⟨3,0, !b,[[.int .i64 ma,.int .i64 aa,.data b 1 (byt t) tf]]⟩]⟩),fun st hst=> ?_,.inr ⟨by simp [h6],_,rfl⟩⟩
    rw [zn,hst]
    (sym=>simp [Qb,Qc,Qd,Qe,Qf,Qg,Qi,Qj,Qm,Qn,Qo,Qr,Qt,Qu,Qv,Q4,Q5,Xa,Xd,Xp,Xs,Xy,X5,Ya,Yc,Yh,Yr,Ys,Yt,Yu,Yv,Yy,Y9,Za,Zb,Zc,Zd,Ze,Zg,Zh,Zm,Zn,Zo,Zt,Zv,Zw,Zy,Z0,Z1,Z3,Jb,Jj,Jk,Jl,Jn,Jp,Jr,Jt,Jv,J1,J2,Ue,Uf,Ug,Ul,V3,V6,V9,Wd,We,Hh,Hi,Hk,Ho,Hp,Hq,Hr,Hs,Ht,Hv,Hw,Ni,Nk,Nl,No,Np,Nw,Nx,N0,Be,Ma,Mb,Md,Me,Mf,znH.eq_1,zoq.eq_1,zmc.eq_1,zni.eq_1,zmX.eq_1,znu.eq_1,VE.eq_1,hlt',hg,hbl,hP,hwn,hn6])
theorem zs6 (hF:F gF=some (.fn y7)) (hM:F gp=some (.fn Tp)) (q:List Pc) (b f:Bool) (hl:q.length<1000001) (hb:∀ x ∈ q,x.2.2.1.length<1000001):aP G F gp [.data b 3 (pcs q) f]=some (.bool (jG 0 q)):=by
 obtain ⟨R,k1,k2⟩:=zuL G F hF q b f hl hb q.length 0 0 (by omega) (by omega) (by omega)
 have hln:=yB q
 simp only [List.drop_zero,Int.natCast_zero] at k1 k2
 have k1:=k1 ⟨[(3,.int .i64 0),(6,.data b 3 (pcs q) f),(7,.int .i64 q.length),(8,.int .i64 0)],[]⟩ (by (sym=>simp [Y9,Za,Zb,Ze,Zk,Zl,Zv,Zw,Ux,U0,U4,U5,Vb,Ve,Vo,Vq,Vr,Vt,Vv,Vw,Vy,Vz,V0,Hq,Hw,H1,No]))
 unfold aP
 rw [zX G F hM]
 rcases k2 with ⟨hm,n',rfl⟩ | ⟨hm,h',rfl⟩
 ·rw [hm];(sym=>simp [Qb,Qd,Qe,Qi,Qj,Qr,Xy,Yh,Y1,Y5,Y7,Y9,Za,Zb,Zc,Ze,Zg,Zh,Zi,Zj,Zk,Zl,Zm,Zr,Zs,Zt,Zu,Zv,Zw,Jj,Jk,Jn,Jq,Jv,Jx,Wk,Be,zxO.eq_1,zz8.eq_1,zBf.eq_1,zwL.eq_1,Tp.eq_1,k1,hln])
 ·rw [hm];(sym=>simp [Qd,Qe,Qi,Qj,Qr,Xy,Yh,Y1,Y5,Y7,Y9,Za,Zb,Zc,Ze,Zg,Zh,Zi,Zj,Zk,Zl,Zm,Zr,Zs,Zt,Zu,Zv,Zw,Jj,Jk,Jl,Jn,Jp,Jv,Jx,Wk,Be,zxO.eq_1,zz8.eq_1,zBf.eq_1,zwL.eq_1,Tp.eq_1,k1,hln])
theorem zBe:∀ l,zgM (byt l)=some l
 | []=>rfl
 | x::l=>by
  have ih:=zBe l
  unfold zgM byt at *
  rw [List.map_cons,List.mapM_cons,ih];rfl
theorem zHk (x:Pc):zt1 (UK x)=some x:=by
 obtain ⟨m,a,l,f⟩:=x
 show (zgM (byt l)).map (fun l=>(m,a,l,f))=_
 rw [zBe];rfl
theorem zdY:∀ q,(pcs q).mapM zt1=some q
 | []=>rfl
 | x::q=>by
  have ih:=zdY q
  unfold pcs at *
  rw [List.map_cons,List.mapM_cons,ih,zHk];rfl
end
end Go.Proofs.YthcnhibjddomdaaGreat
namespace Go.Proofs.YthcnhibjddomdaaGreat
section
open Go Go.RowKit Go.Shelf
variable [FrB]
attribute [local go_sem] Oper.semAt_some
structure Wv (B:Nat) (W W':World):Prop where
 os:W'.os=W.os
 tape:W'.tape=W.tape
 output:W'.output=W.output
 size:W.heap.size≤W'.heap.size
 same:∀ (k:Nat) (o:Obj),k≠B→W.heap[k]? =some o→o.isCells=true→W'.heap[k]? =some o
theorem Wv.refl (B:Nat) (W:World):Wv B W W:=⟨rfl,rfl,rfl,Nat.le_refl _,fun _ _ _ h _=>h⟩
theorem Wv.trans {B:Nat} {X Y Z:World} (h:Wv B X Y) (k:Wv B Y Z):Wv B X Z:=
 ⟨k.os.trans h.os,k.tape.trans h.tape,k.output.trans h.output,Nat.le_trans h.size k.size,fun i o hi ho hc=>k.same i o hi (h.same i o hi ho hc) hc⟩
theorem Wv.below {B:Nat} {X Y:World} (h:Below X.heap.size X Y):Wv B X Y:=
 ⟨h.os,h.tape,h.output,h.size,fun k o _ ho _=>(h.block k (Array.getElem?_eq_some_iff.1 ho).1).trans ho⟩
theorem Wv.cell {B:Nat} {X Y:World} (h:Wv B X Y) {p:Addr} {v:Value} (hp:p.block≠B) (hc:X.cell? p=some v):Y.cell? p=some v:=by
 obtain ⟨o,ho,hk⟩:=cells_of_cell hc
 exact (World.cell?_of_block ((h.same _ o hp ho hk).trans ho.symm)).trans hc
theorem Wv.putObj (B:Nat) (W:World) (l:Nat) (o o':Obj) (hl:W.heap[l]? =some o) (hc:o.isCells=false):Wv B W (W.putObj l o'):=
 have g:=grownBy_putObj' W l o'
 ⟨g.os,g.tape,g.output,g.size,fun k q _ hq hqc=>by
  have hkl:k≠l:=fun e=>by subst e;rw [hl] at hq;cases hq;rw [hc] at hqc;cases hqc
  exact (g.block k (Array.getElem?_eq_some_iff.1 hq).1 (fun e=>hkl (by cases e;rfl))).trans hq⟩
theorem Wv.setCell (B:Nat) (W:World) (o:Nat) (v:Value):Wv B W (W.setCell ⟨B,o,none⟩ v):=
 ⟨rfl,rfl,rfl,by simp [World.setCell],fun k q hk hq _=>(Below.heap_setCell W ⟨B,o,none⟩ v k hk).trans hq⟩
structure zEc (w:World) (b off:Nat) (ms at0:Nat→Int) (tx:Nat→Option Addr) (tc:Nat→Nat) (bs:Nat→List Int) (n:Nat):Prop where
 mem:∀ e,e<n→w.cell? ⟨b,off+e * 3,none⟩=some (.int .i64 (ms e))
 at_:∀ e,e<n→w.cell? ⟨b,off+e * 3+1,none⟩=some (.int .i64 (at0 e))
 txt:∀ e,e<n→w.cell? ⟨b,off+e * 3+2,none⟩=some (.slice (tx e) (bs e).length (tc e))
 byt:∀ e,e<n→∀ j,j<(bs e).length→∃ tb toff,tx e=some ⟨tb,toff,none⟩∧w.cell? ⟨tb,toff+j,none⟩=some (.int .u8 ((bs e).getD j 0))∧tb<w.heap.size
def Fy (ms:Nat→Int) (bs:Nat→List Int):Nat→List (Int×Int)
 | 0=>[]
 | k+1=>Fy ms bs k++(bs k).map fun x=>(ms k,x)
theorem zg9 (ms:Nat→Int) (bs:Nat→List Int) (k:Nat):(Fy ms bs (k+1)).length=(Fy ms bs k).length+(bs k).length:=by simp [Fy]
theorem ztn (ms:Nat→Int) (bs:Nat→List Int):∀ {a n:Nat},a≤n→(Fy ms bs a).length≤(Fy ms bs n).length
 | a,0,h=>by
  obtain rfl:a=0:=by omega
  exact Nat.le_refl _
 | a,n+1,h=>by
  by_cases e:a=n+1
  ·rw [e];exact Nat.le_refl _
  ·rw [zg9];have:=ztn ms bs (a:=a) (n:=n) (by omega);omega
theorem zuv (n:Nat) (hn:3≤n) (l Bq Bn b off len cap:Nat) (ms at0:Nat→Int) (tx:Nat→Option Addr) (tc:Nat→Nat) (bs:Nat→List Int) (w:World) (hP:zEc w b off ms at0 tx tc bs len) (hb:b<w.heap.size) (hreach:len≤1000000) (hbl:∀ e,e<len→(bs e).length≤1000000)
  (hBn:w.heap.size≤Bn) (hqn:Bq≠Bn) (N:Nat) (hN:(Fy ms bs len).length≤N)
  (J Jx:List (Int×Int)→World→Prop) (W:World) (hW:Below w.heap.size w W) (hBnW:Bn<W.heap.size) (hJ:AbidesFrom W.heap.size J)
  (hMay:CallsIn Fence.wide (n - 1) Tryz.prog 54 #[.slice (some ⟨b,off,none⟩) len cap] W fun e W'=>e=.returned (.bool true)∧Below W.heap.size W W')
  (hY:∀ pre x W1,J pre W1→pre.length<N→YieldAt Fence.wide (n - 1) Tryz.prog l #[.int .i64 x.1,.int .u8 x.2] W1 fun e W'=>
   (e=.returned (.bool true)∧J (pre++[x]) W'∧Wv Bn W1 W')∨(e=.returned (.bool false)∧Jx (pre++[x]) W'))
  (hBqW:Bq<W.heap.size) (hBq:W.cell? ⟨Bq,0,none⟩=some (.slice (some ⟨b,off,none⟩) len cap)) (h0:J [] W):
  CallsIn Fence.wide n Tryz.prog 134 #[.func (.yield l) #[] #[],.pointer (some ⟨Bq,0,none⟩)] W fun e W'=>(∃ v,e=.returned v)∧
   ((∃ ys,ys.length=(Fy ms bs len).length∧J ys W')∨(∃ pre,Jx pre W')):=by
 refine callsIn_of_wp Tryz.func134 rfl trivial ?_ rfl
 simp only [Tryz.ntmps134,List.size_toArray,List.length_cons,List.length_nil,Nat.reduceAdd,Nat.reduceSub,Array.replicate_succ,Array.replicate_zero,List.push_toArray,List.append_toArray,List.nil_append,List.cons_append]
 have n1:1≤n:=by omega
 gi_wp2_with (refine ⟨trivial, ?_⟩;gi_at_call 54;refine hMay.mono ?_;rintro e W2 ⟨rfl,hB2⟩;have hBq2:W2.cell? ⟨Bq,0,none⟩=some (.slice (some ⟨b,off,none⟩) len cap):=(hB2.cell (p:=⟨Bq,0,none⟩) hBqW).trans hBq)
 have hJ0:J [] W2:=hJ _ _ _ none h0 ⟨hB2.os,hB2.tape,hB2.output,hB2.size,fun i hi _=>hB2.block i hi⟩ (fun r e=>by cases e)
 have bn:b≠Bn:=by omega
 gi_loopw [12] (fun i wr=>∃ k:Nat,k≤len∧i=.int .i64 k∧J (Fy ms bs k) wr∧Wv Bn W2 wr) (fun i _=>len - (intOf i).toNat)
 case atStart=>exact ⟨0,Nat.zero_le _,rfl,hJ0,.refl _ _⟩
 case round=>
  obtain ⟨k,hk,rfl,hJs,hKw⟩:=hrel
  have kW:Wv Bn W wr:=(Wv.below hB2).trans hKw
  by_cases hlt:k<len
  ·have c0:wr.cell? ⟨b,off+k * 3,none⟩=some (.int .i64 (ms k)):=kW.cell (p:=⟨b,off+k * 3,none⟩) bn ((hW.cell (p:=⟨b,off+k * 3,none⟩) hb).trans (hP.mem k hlt))
   have c1:wr.cell? ⟨b,off+k * 3+1,none⟩=some (.int .i64 (at0 k)):=kW.cell (p:=⟨b,off+k * 3+1,none⟩) bn ((hW.cell (p:=⟨b,off+k * 3+1,none⟩) hb).trans (hP.at_ k hlt))
   have c2:wr.cell? ⟨b,off+k * 3+2,none⟩=some (.slice (tx k) (bs k).length (tc k)):=kW.cell (p:=⟨b,off+k * 3+2,none⟩) bn ((hW.cell (p:=⟨b,off+k * 3+2,none⟩) hb).trans (hP.txt k hlt))
   gi_wp2
   obtain ⟨W3,hW3⟩:∃ W3,wr.alloc (.cells #[.int .i64 (ms k),.int .i64 (at0 k),.slice (tx k) (bs k).length (tc k)] 52)=W3:=⟨_,rfl⟩
   have hJ3:J (Fy ms bs k) W3:=by rw [← hW3];exact hJ _ _ _ none hJs (World.grownBy_alloc _ _ none) (fun r e=>by cases e)
   have k3:Wv Bn wr W3:=by rw [← hW3];exact .below ((Below.refl _ _).alloc (Nat.le_refl _) _)
   have tn:wr.heap.size≠Bn:=by have:=kW.size;omega
   have t0:W3.cell? ⟨wr.heap.size,0,none⟩=some (.int .i64 (ms k)):=by rw [← hW3];unfold World.cell?;rw [World.alloc_heap_new];rfl
   have hbk:=hbl k hlt
   rw [hW3]
   obtain ⟨B0,hB0⟩:∃ B0,wr.heap.size=B0:=⟨_,rfl⟩
   rw [hB0] at tn t0 ⊢
   gi_loopw [19] (fun i w3=>∃ j:Nat,j≤(bs k).length∧i=.int .i64 j∧J (Fy ms bs k++((bs k).take j).map fun x=>(ms k,x)) w3∧Wv Bn W3 w3) (fun i _=>(bs k).length - (intOf i).toNat)
   case atStart=>exact ⟨0,Nat.zero_le _,rfl,by simpa using hJ3,.refl _ _⟩
   case round=>
    obtain ⟨j,hj,rfl,hJj,hKj⟩:=hrel
    by_cases hjl:j<(bs k).length
    ·obtain ⟨tb,toff,htx,hbc,htb⟩:=hP.byt k hlt j hjl
     have hal:=zg9 ms bs k
     have hal2:=ztn ms bs (a:=k+1) (n:=len) (by omega)
     have hxe:(bs k).take (j+1)=(bs k).take j++[(bs k).getD j 0]:=by rw [List.take_add_one,List.getD_eq_getElem?_getD,List.getElem?_eq_getElem hjl];rfl
     obtain ⟨x,hx⟩:∃ x,(bs k).getD j 0=x:=⟨_,rfl⟩
     rw [hx] at hbc hxe
     clear hx
     obtain ⟨fn,tmps,assign,body,hy,hR⟩:=hY _ (ms k,x) _ hJj (by simp only [List.length_append,List.length_map,List.length_take];omega)
     dsimp only at hy
     have t1:=hKj.cell (p:=⟨B0,0,none⟩) tn t0
     have tbn:tb≠Bn:=by omega
     have t2:=((kW.trans k3).trans hKj).cell (p:=⟨tb,toff+j,none⟩) tbn ((hW.cell (p:=⟨tb,toff+j,none⟩) htb).trans hbc)
     clear hbc
     have HX:Hid ((bs k).take (j+1)=(bs k).take j++[x]):=hxe
     clear hxe
     gi_wp2
     refine hR.mono ?_
     rintro e W4 (⟨rfl,hJ4,hk4⟩ | ⟨rfl,hJx4⟩)
     ·gi_wp2
      go_roundw
      case rel=>
       rw [htx]
       refine ⟨_,_,_,_,_,_,_,_,_,_,_,_,⟨j+1,by omega, ?_, ?_,hKj.trans hk4⟩,rfl⟩
       ·simp
       ·rw [HX.out,List.map_append,← List.append_assoc];exact hJ4
      case measure=>simp [intOf];omega
     ·gi_wp2
      refine bodyPost_ret (results_none rfl _ _ _) rfl ?_
      exact ⟨⟨_,rfl⟩,.inr ⟨_,hJx4⟩⟩
    ·obtain rfl:j=(bs k).length:=by omega
     gi_wp2
     refine ⟨⟨k+1,by omega,by simp, ?_,(hKw.trans k3).trans hKj⟩,by simp [intOf];omega⟩
     rw [List.take_length] at hJj
     exact hJj
  ·obtain rfl:k=len:=by omega
   gi_wp2
   go_end0
   exact ⟨⟨_,rfl⟩,.inl ⟨_,rfl,hJs⟩⟩
theorem zoO (n:Nat) (hn:3≤n) (l Bq cap:Nat) (a:Option Addr) (J:List (Int×Int)→World→Prop) (W:World) (hJ:AbidesFrom W.heap.size J)
  (hMay:CallsIn Fence.wide (n - 1) Tryz.prog 54 #[.slice a 0 cap] W fun e W'=>e=.returned (.bool true)∧Below W.heap.size W W')
  (hBqW:Bq<W.heap.size) (hBq:W.cell? ⟨Bq,0,none⟩=some (.slice a 0 cap)) (h0:J [] W):
  CallsIn Fence.wide n Tryz.prog 134 #[.func (.yield l) #[] #[],.pointer (some ⟨Bq,0,none⟩)] W fun e W'=>(∃ v,e=.returned v)∧J [] W':=by
 refine callsIn_of_wp Tryz.func134 rfl trivial ?_ rfl
 simp only [Tryz.ntmps134,List.size_toArray,List.length_cons,List.length_nil,Nat.reduceAdd,Nat.reduceSub,Array.replicate_succ,Array.replicate_zero,List.push_toArray,List.append_toArray,List.nil_append,List.cons_append]
 have n1:1≤n:=by omega
 gi_wp2_with (refine ⟨trivial, ?_⟩;gi_at_call 54;refine hMay.mono ?_;rintro e W2 ⟨rfl,hB2⟩;have hBq2:W2.cell? ⟨Bq,0,none⟩=some (.slice a 0 cap):=(hB2.cell (p:=⟨Bq,0,none⟩) hBqW).trans hBq)
 have hJ0:J [] W2:=hJ _ _ _ none h0 ⟨hB2.os,hB2.tape,hB2.output,hB2.size,fun i hi _=>hB2.block i hi⟩ (fun r e=>by cases e)
 gi_loopw [12] (fun i wr=>i=.int .i64 0∧J [] wr) (fun _ _=>0)
 case atStart=>exact ⟨rfl,hJ0⟩
 case round=>
  obtain ⟨rfl,hJs⟩:=hrel
  gi_wp2
  go_end0
  exact ⟨⟨_,rfl⟩,hJs⟩
theorem zvg (n:Nat) (hn:3≤n) (l Bq len cap:Nat) (a:Option Addr) (J:List (Int×Int)→World→Prop) (W:World) (hJ:AbidesFrom W.heap.size J)
  (hMay:CallsIn Fence.wide (n - 1) Tryz.prog 54 #[.slice a len cap] W fun e W'=>e=.returned (.bool false)∧Below W.heap.size W W')
  (hBq:W.cell? ⟨Bq,0,none⟩=some (.slice a len cap)) (h0:J [] W):
  CallsIn Fence.wide n Tryz.prog 134 #[.func (.yield l) #[] #[],.pointer (some ⟨Bq,0,none⟩)] W fun e W'=>(∃ v,e=.returned v)∧J [] W':=by
 refine callsIn_of_wp Tryz.func134 rfl trivial ?_ rfl
 simp only [Tryz.ntmps134,List.size_toArray,List.length_cons,List.length_nil,Nat.reduceAdd,Nat.reduceSub,Array.replicate_succ,Array.replicate_zero,List.push_toArray,List.append_toArray,List.nil_append,List.cons_append]
 have n1:1≤n:=by omega
 gi_wp2_with (refine ⟨trivial, ?_⟩;gi_at_call 54;refine hMay.mono ?_;rintro e W2 ⟨rfl,hB2⟩)
 have hJ0:J [] W2:=hJ _ _ _ none h0 ⟨hB2.os,hB2.tape,hB2.output,hB2.size,fun i hi _=>hB2.block i hi⟩ (fun r e=>by cases e)
 refine bodyPost_ret (results_none rfl _ _ _) rfl ?_
 exact ⟨⟨_,rfl⟩,hJ0⟩
theorem zzE (a:Option Addr) (len cap:Nat) (w:World) (n:Nat):
  CallsIn Fence.wide n Tryz.prog 130 #[.slice a len cap] w fun e w'=>e=.returned (.func (.func 134) #[] #[.pointer (some ⟨w.heap.size,0,none⟩)])∧w'=w.alloc (.cells #[.slice a len cap] 26):=by
 refine callsIn_of_wp Tryz.func130 rfl trivial ?_ rfl
 simp only [Tryz.ntmps130,List.size_toArray,List.length_cons,List.length_nil,Nat.reduceAdd,Nat.reduceSub,Array.replicate_succ,Array.replicate_zero,List.push_toArray,List.append_toArray,List.nil_append,List.cons_append]
 gi_wp2
 go_ret
 exact ⟨rfl,rfl⟩
def cnt:Nat→Int
 | 0=>0
 | k+1=>wrap64 (cnt k+1)
theorem zz7:∀ k,k≤1000000→cnt k=k
 | 0,_=>rfl
 | k+1,h=>by rw [cnt,zz7 k (by omega)];unfold wrap64;omega
def QAt (w:World) (a:Option Addr) (len:Nat) (ms at0:Nat→Int) (tx:Nat→Option Addr) (tc:Nat→Nat) (bs:Nat→List Int):Prop:=
 len=0∨∃ b off,a=some ⟨b,off,none⟩∧b<w.heap.size∧zEc w b off ms at0 tx tc bs len
theorem zn9 (n:Nat) (hn:3≤n) (a:Option Addr) (len cap:Nat) (ms at0:Nat→Int) (tx:Nat→Option Addr) (tc:Nat→Nat) (bs:Nat→List Int) (w w0:World) (hQ:QAt w a len ms at0 tx tc bs) (hreach:len≤1000000) (hbl:∀ e,e<len→(bs e).length≤1000000)
  (may:Bool) (hMay:∀ W,Below w.heap.size w W→Calls Tryz.prog 54 #[.slice a len cap] W fun e W'=>e=.returned (.bool may)∧Below W.heap.size W W')
  (Bq Bn:Nat) (hB:Below w.heap.size w w0) (hBn:w.heap.size≤Bn) (hBn0:Bn<w0.heap.size) (hqn:Bq≠Bn) (hBq0:Bq<w0.heap.size) (hBq:w0.cell? ⟨Bq,0,none⟩=some (.slice a len cap)):
  SeqStopsK Fence.wide n Tryz.prog 134 #[.pointer (some ⟨Bq,0,none⟩)] (fun x:Int×Int=> #[Value.int .i64 x.1,Value.int .u8 x.2]) (Wv Bn) (fun ys=>ys.length=if may=true then (Fy ms bs len).length else 0) (fun _=>True) (if may=true then (Fy ms bs len).length else 0) w0:=fun l J Jx W hW hJ _ hY h0=>by
 have hwW:Below w.heap.size w W:=hB.trans (hW.mono hB.size)
 have hm:=callsIn_wide (n:=n - 1) |>.2 (hMay W hwW)
 have hq:=(hW.cell (p:=⟨Bq,0,none⟩) hBq0).trans hBq
 have sz:=hW.size
 cases may with
 | false=>
  refine (zvg n hn l Bq len cap a J W hJ hm hq h0).mono fun e W' ⟨he,hj⟩=>⟨he,.inl ⟨[], ?_,hj⟩⟩
  simp
 | true=>
  rcases hQ with rfl | ⟨b,off,rfl,hb,hP⟩
  ·refine (zoO n hn l Bq cap a J W hJ hm (by omega) hq h0).mono fun e W' ⟨he,hj⟩=>⟨he,.inl ⟨[], ?_,hj⟩⟩
   simp [Fy]
  ·refine (zuv n hn l Bq Bn b off len cap ms at0 tx tc bs w hP hb hreach hbl hBn hqn _ (Nat.le_refl _) J Jx W hwW (by omega) hJ hm (by simpa using hY) (by omega) hq h0).mono ?_
   rintro e W' ⟨he,⟨ys,h1,hj⟩ | ⟨pre,hj⟩⟩
   ·exact ⟨he,.inl ⟨ys,by simpa using h1,hj⟩⟩
   ·exact ⟨he,.inr ⟨pre,trivial,hj⟩⟩
theorem zqW (a:Option Addr) (len cap:Nat) (ms at0:Nat→Int) (tx:Nat→Option Addr) (tc:Nat→Nat) (bs:Nat→List Int) (w:World) (hQ:QAt w a len ms at0 tx tc bs) (hreach:len≤1000000) (hbl:∀ e,e<len→(bs e).length≤1000000)
  (may:Bool) (hMay:∀ W,Below w.heap.size w W→Calls Tryz.prog 54 #[.slice a len cap] W fun e W'=>e=.returned (.bool may)∧Below W.heap.size W W'):
  Calls Tryz.prog 113 #[.slice a len cap] w fun e W'=>e=.returned (.int .i64 (cnt (if may=true then (Fy ms bs len).length else 0)))∧Below w.heap.size w W':=by
 have hst:=fun (w0:World) h1 h2 h3 h4 h5 h6=>zn9 (5 - 1) (by omega) a len cap ms at0 tx tc bs w w0 hQ hreach hbl may hMay (w.heap.size+1) w.heap.size h1 h2 h3 h4 h5 h6
 generalize (if may=true then (Fy ms bs len).length else 0)=tot at hst ⊢
 refine (callsIn_wide (n:=5)).1 ?_
 refine callsIn_of_wp_marks Tryz.func113 rfl trivial ?_ rfl
 simp only [Tryz.ntmps113,List.size_toArray,List.length_cons,List.length_nil,Nat.reduceAdd,Nat.reduceSub,Array.replicate_succ,Array.replicate_zero,List.push_toArray,List.append_toArray,List.nil_append,List.cons_append]
 have h1:1≤5:=by omega
 gi_wp2_with (refine ⟨trivial, ?_⟩;gi_at_call 130;refine (zzE _ _ _ _ _).mono ?_;rintro e w' ⟨rfl,rfl⟩)
 have bS:=Boxed.new w 3 (.int .i64 0)
 have bN:=Boxed.new (w.alloc (.cells #[.int .i64 0] 3)) 26 (.slice a len cap)
 rw [World.size_alloc] at bN
 have hB0:Below w.heap.size w ((w.alloc (.cells #[.int .i64 0] 3)).alloc (.cells #[.slice a len cap] 26)):=((Below.refl _ w).alloc (Nat.le_refl _) _).alloc (by simp) _
 refine wpIn_rangeFunc_ownG rfl h1 (gf:=134) (lb:= #[.pointer (some ⟨w.heap.size+1,0,none⟩)]) rfl trivial (enters_of Tryz.func134 (by kernel_rfl) rfl)
  (hst _ hB0 (Nat.le_refl _) (by simp;omega) (by omega) (by simp) bN.cell) Wv.trans (fun W l o o' _ h hc _=>Wv.putObj _ W l o o' h hc) (Below.refl _ _) (fun _=>rfl)
  (fun pre W=>(W.cell? ⟨w.heap.size,0,none⟩=some (.int .i64 (cnt pre.length))∧W.frozen? ⟨w.heap.size,0,none⟩=false)∧Below w.heap.size w W)
  (fun _ _ _=>False)
  (OwnFrom.and (Own.from (fun s A B row hs hg hr=>⟨cell_kept hs.1 hg hr,(frozen_kept hs.1 hg hr).trans hs.2⟩) _) (ownFrom_below (Nat.le_refl _) (by simp;omega)))
  (fun _ _ _ _ _ hs _ _=>hs)
  ⟨⟨(bS.alloc _).cell,(bS.alloc _).frozen⟩,hB0⟩
  (fun x=>{ tmps:= #[.slice a len cap,undef,.int .i64 0,.pointer (some ⟨w.heap.size,0,none⟩),.slice a len cap,.func (.func 134) #[] #[.pointer (some ⟨w.heap.size+1,0,none⟩)],.int .i64 x.1,.int .u8 x.2,undef,undef,undef],defers:=[] }) ?assign ?body ?done ?stop
 case assign=>
  intro l x W K hK
  gi_wp2
  have hz:(#[6,7]:Array Tmp).zip #[Value.int .i64 x.1,Value.int .u8 x.2]= #[(6,Value.int .i64 x.1),(7,Value.int .u8 x.2)]:=by simp [List.zip_toArray]
  rw [hz]
  simp only [List.foldl_toArray',List.foldl_cons,List.foldl_nil,List.setIfInBounds_toArray,List.set_cons_succ,List.set_cons_zero]
  exact hK
 case body=>
  rintro l pre x W ⟨⟨hc,hf⟩,hB⟩ _
  gi_wp2
  exact ⟨(KeepsOthers.setCell _ _ _).from _,Wv.setCell _ W 0 _,⟨by rw [List.length_append,List.length_singleton,cnt];exact World.cell?_setCell_same' _ _ _ (by rw [hc];rfl),by rw [World.frozen?_setCell];exact hf⟩,hB.setCell (p:=⟨w.heap.size,0,none⟩) (Nat.le_refl _) _⟩
 case done=>
  rintro D ys W hD hys ⟨⟨hc,_⟩,hB⟩ hK
  rw [hys] at hc
  gi_wp2
  refine ⟨by simp,.inl ⟨_,_,rfl,run_takeDeferred hK, ?_⟩⟩
  exact ⟨_,results_tmp rfl _ _ _,rfl,hB.trans (belowK_b (w:=w) (Nat.le_refl _) W D _ _ (by simp at hD;omega) hK rfl rfl)⟩
 case stop=>
  rintro D c pre W _ _ h _
  exact h.elim
theorem zmn {w:World} {X:Nat→Prop} {k:Nat} {es:List (List AV)} {f:Bool} {z:Value} (h:uj w X (.data false k es f) z):∃ a cap,z=.slice a es.length cap∧
  (es=[]∨∃ (b off:Nat) (val:Nat→Nat→Value),a=some ⟨b,off,none⟩∧b<w.heap.size∧(∀ (e j:Nat),e<es.length→j<k→w.cell? ⟨b,off+(e * k+j),none⟩=some (val e j)∧(val e j).oneCell'=true)∧
   (∀ (e j:Nat) g c,es[e]? =some g→g[j]? =some c→uj w X c (val e j))):=by
 cases h with
 | data0 _ _ a cap h=>exact ⟨a,cap,rfl,.inl rfl⟩
 | data _ _ _ b off cap val h1 h2 h3 h4 h5 h6 h7 h8=>exact ⟨_,cap,rfl,.inr ⟨b,off,val,rfl,h5,h6,h7⟩⟩
def mF:Nat→Option Dj:=fun f=>if f=gp then some (.fn Tp) else if f=gF then some (.fn y7) else none
theorem zHd (G:Nat→Option (List AV)):zax Tryz.prog G mF:=by
 intro f ent hf
 unfold mF at hf
 split at hf
 ·rename_i e;cases hf;subst e;exact zaD
 ·split at hf
  ·rename_i e;cases hf;subst e;exact Fa
  ·cases hf
theorem zzF:∀ (t:List (List AV)) (l:List Int),zgM t=some l→t=byt l
 | [],l,h=>by simp [zgM] at h;subst h;rfl
 | g::t,l,h=>by
  unfold zgM at h
  rw [List.mapM_cons] at h
  obtain ⟨x,hx,h⟩:=za.1 h
  obtain ⟨l',hl',h⟩:=za.1 h
  cases h
  have ih:=zzF t l' hl'
  split at hx
  ·cases hx;rw [ih];rfl
  ·cases hx
theorem zGT (g:List AV) (x:Pc) (h:zt1 g=some x):g=UK x:=by
 unfold zt1 at h
 split at h
 ·obtain ⟨l,hl,rfl⟩:=ze.1 h
  rw [zzF _ _ hl];rfl
 ·cases h
theorem zv1:∀ (es:List (List AV)) (q:List Pc),es.mapM zt1=some q→es=pcs q
 | [],q,h=>by simp at h;subst h;rfl
 | g::es,q,h=>by
  rw [List.mapM_cons] at h
  obtain ⟨x,hx,h⟩:=za.1 h
  obtain ⟨l',hl',h⟩:=za.1 h
  cases h
  rw [zv1 es l' hl',zGT g x hx];rfl
theorem zoZ {ρ:Rho} {w:World} {S O:Nat→Prop} {bo:Bool} {k:Nat} {es:List (List AV)} {f:Bool} {x:Value} (h:zB ρ w S O (.data bo k es f) x):zB (fun _=>none) w (fun b=>S b∨O b) (fun _=>False) (.data bo k es f) x:=by
 have e:(fun b=>(S b∨O b)∨False)=fun b=>S b∨O b:=by funext b;simp
 cases h with
 | s h=>exact .s (by rw [e];exact h)
 | bor0 _ _ a cap h=>exact .bor0 _ _ a cap h
 | bor _ _ _ b off cap val h1 h2 h3 h4 h5 h6 h7=>exact .bor _ _ _ b off cap val h1 h2 h3 (fun h=>h) h5 h6 (fun i j g c hg hc=>(h7 i j g c hg hc).mono fun b hb=>False.elim (hb.elim id id))
theorem zvK {S:Nat→Prop} {bo f:Bool} (q:List Pc) (hl:q.length≤1000000) (hb:∀ x ∈ q,x.2.2.1.length≤1000000) (x:Value) (W:World) (hS:∀ b,S b→b<W.heap.size) (hx:zB (fun _=>none) W S (fun _=>False) (.data bo 3 (pcs q) f) x):
  Calls Tryz.prog 54 #[x] W fun e W'=>e=.returned (.bool (jG 0 q))∧Below W.heap.size W W':=by
 have hr:=zs6 (fun _=>none) mF rfl rfl q bo f (by omega) (fun x hx=>by have:=hb x hx;omega)
 obtain ⟨r,h1,h2⟩:=za.1 hr
 have hv:=zx4 h2
 obtain ⟨v,h'⟩:=r
 simp only at hv
 subst hv
 have K:=(znZ ZP (zHd (fun _=>none)) gp [.data bo 3 (pcs q) f] [] _ h' h1).2 (fun _=>none) W S (fun _=>False) [x] ⟨fun id g pl h=>(nomatch h),fun id id' g g' p p' h=>(nomatch h),fun b hb=>hb.elim (hS b) False.elim,fun _ hb=>hb.elim⟩ (fun g cs h=>by cases h) (SK hx zmD)
 refine Calls.mono K fun e w' ⟨y,e1,ρ',O',A,_,_,hy,_⟩=>⟨?_,⟨A.os,A.tape,A.output,A.size,fun k hk=>A.same k hk (fun h=>h)⟩⟩
 cases hy with
 | s h=>cases h;exact e1
theorem zks (a b:List Pc):zV (a++b)=zV a+zV b:=by simp [zV]
theorem ze8:∀ (q:List Pc) (k:Nat),k≤q.length→(Fy (fun e=>(q.getD e (0,0,[],false)).1) (fun e=>(q.getD e (0,0,[],false)).2.2.1) k).length=zV (q.take k)
 | q,0,_=>rfl
 | q,k+1,h=>by
  have hk:k<q.length:=by omega
  have e:q.take (k+1)=q.take k++[q[k]]:=by rw [List.take_add_one,List.getElem?_eq_getElem hk];rfl
  rw [zg9,ze8 q k (by omega),e,zks]
  have e2:q.getD k (0,0,[],false)=q[k]:=by rw [List.getD_eq_getElem?_getD,List.getElem?_eq_getElem hk];rfl
  simp only [e2]
  simp [zV]
theorem zgY (G:Nat→Option (List AV)):∀ args h v h',zbL args h=some (v,h')→yg h h'∧(∃ fn,(Tryz.prog).funcs[113]? =some fn∧fn.name≠ "runtime.NumGoroutine" ∧fn.body.isSome=true)∧
  ∀ (ρ:Rho) (w:World) (S O:Nat→Prop) (xs:List Value),Heap ρ w S O h→(∀ g cs,G g=some cs→zB ρ w S O (.dptr cs) (.pointer (some ⟨g,0,none⟩)))→WO (zB ρ w S O) args xs→
   Calls Tryz.prog 113 xs.toArray w fun e w'=>∃ x,e=.returned x∧Fw ρ w S O h v h' x w':=by
 intro args h v h' he
 unfold zbL at he
 split at he
 case h_2=>cases he
 rename_i bo es f
 obtain ⟨q,hq,he⟩:=za.1 he
 split at he
 case isFalse=>cases he
 rename_i hc
 obtain ⟨hl,hbl,hs⟩:=hc
 cases he
 have:=zv1 es q hq
 subst this
 refine ⟨yg.refl _,⟨Tryz.f113,Tryz.func113,by decide,by kernel_rfl⟩,fun ρ w S O xs H hG hargs=> ?_⟩
 cases xs with
 | nil=>have:=hargs.1;simp at this
 | cons x xs=>
  obtain ⟨hx,hr⟩:=hargs.uncons
  have:xs=[]:=List.eq_nil_of_length_eq_zero (by have:=hr.1;simpa using this.symm)
  subst this
  have hx2:=zoZ hx
  have hS:∀ b,(S b∨O b)→b<w.heap.size:=fun b hb=>H.bd b hb
  obtain ⟨a,cap,rfl,h1,h2,h3,h4⟩:=oK hx
  have hln:=yB q
  let d:Pc:=(0,0,[],false)
  have hmay:∀ W,Below w.heap.size w W→Calls Tryz.prog 54 #[.slice a (pcs q).length cap] W fun e W'=>e=.returned (.bool (jG 0 q))∧Below W.heap.size W W':=fun W hW=>
   zvK (S:=fun b=>S b∨O b) (bo:=bo) (f:=f) q hl hbl _ W (fun b hb=>Nat.lt_of_lt_of_le (hS b hb) hW.size) (hx2.advX (fun id g pl h=>by cases h) ⟨hW.os,hW.tape,hW.output,hW.size,fun b hb _=>hW.block b hb,fun b h=>.inl h⟩)
  have fin:∀ tx tc,QAt w a (pcs q).length (fun e=>(q.getD e (0,0,[],false)).1) (fun e=>(q.getD e (0,0,[],false)).2.1) tx tc (fun e=>(q.getD e (0,0,[],false)).2.2.1)→
    Calls Tryz.prog 113 [Value.slice a (pcs q).length cap].toArray w fun e w'=>∃ x,e=.returned x∧Fw ρ w S O h (.int .i64 (if jG 0 q=true then zV q else 0)) h x w':=fun tx tc hQ=>by
   refine (zqW a _ cap _ _ tx tc _ w hQ (by omega) (fun e he=> ?_) _ hmay).mono fun e w' ⟨he,hB⟩=> ?_
   ·rw [List.getD_eq_getElem?_getD,List.getElem?_eq_getElem (by omega)]
    exact hbl _ (List.getElem_mem _)
   ·have hA:uB w O w' O:=⟨hB.os,hB.tape,hB.output,hB.size,fun b hb _=>hB.block b hb,fun _ h=>h,fun _ h=>.inl h⟩
    refine ⟨_,he,ρ,O,hA.x,Ext.refl ρ,H.step (.refl ρ) hA (fun b hb=>Nat.lt_of_lt_of_le (H.bd b (.inr hb)) hA.size) (fun _ _ p hid=>.inl ⟨hid,rfl,fun p hp=>hB.block _ (by subst hp;obtain ⟨r,_,_,hR⟩:=H.row _ _ _ hid;exact H.bd _ (.inr hR.own))⟩) H.inj, ?_,fun _ _ h=>h⟩
    have e2:(Fy (fun e=>(q.getD e (0,0,[],false)).1) (fun e=>(q.getD e (0,0,[],false)).2.2.1) (pcs q).length).length=zV q:=by rw [hln,ze8 q q.length (Nat.le_refl _),List.take_length]
    rw [e2,zz7 _ (by split<;>omega)]
    have e3:(((if jG 0 q=true then zV q else 0:Nat)):Int)=if jG 0 q=true then ((zV q:Nat):Int) else 0:=by split<;>rfl
    rw [e3]
    exact .s (.int _ _)
  rcases h4 with h4 | ⟨b,off,val,rfl,_,_,hb,hcell,hrep⟩
  ·exact fin (fun _=>none) (fun _=>0) (.inl (by rw [h4];rfl))
  ·have at_:∀ e,e<q.length→∃ x,q.getD e (0,0,[],false)=x∧(pcs q)[e]? =some [.int .i64 x.1,.int .i64 x.2.1,.data false 1 (byt x.2.2.1) x.2.2.2]:=fun e he=>⟨_,rfl,by rw [YZ he,List.getD_eq_getElem?_getD,List.getElem?_eq_getElem he];rfl⟩
   refine fin (fun e=>match val e 2 with | .slice a _ _=>a | _=>none) (fun e=>match val e 2 with | .slice _ _ c=>c | _=>0) (.inr ⟨b,off,rfl,hb, ?_, ?_, ?_, ?_⟩)
   ·intro e he
    obtain ⟨x,hx,hg⟩:=at_ e (by omega)
    have c:=(hcell e 0 he (by omega)).1
    have r:=hrep e 0 _ _ hg rfl
    rw [hx]
    generalize val e 0=z at c r
    cases r
    exact c
   ·intro e he
    obtain ⟨x,hx,hg⟩:=at_ e (by omega)
    have c:=(hcell e 1 he (by omega)).1
    have r:=hrep e 1 _ _ hg rfl
    rw [hx]
    generalize val e 1=z at c r
    cases r
    exact c
   ·intro e he
    obtain ⟨x,hx,hg⟩:=at_ e (by omega)
    have c:=(hcell e 2 he (by omega)).1
    have r:=hrep e 2 _ _ hg rfl
    simp only [hx]
    generalize val e 2=z at c r ⊢
    obtain ⟨a',cap',rfl,_⟩:=zmn r
    rw [oI] at c
    exact c
   ·intro e he j hj
    obtain ⟨x,hx,hg⟩:=at_ e (by omega)
    have r:=hrep e 2 _ _ hg rfl
    simp only [hx] at hj ⊢
    generalize val e 2=z at r ⊢
    obtain ⟨a',cap',rfl,r4⟩:=zmn r
    rcases r4 with r4 | ⟨tb,toff,tv,rfl,htb,hc,hrp⟩
    ·have:=congrArg List.length r4
     rw [oI] at this
     simp only [List.length_nil] at this
     omega
    ·refine ⟨tb,toff,rfl, ?_,htb⟩
     have c:=(hc j 0 (by rw [oI];exact hj) (by omega)).1
     have hg2:(byt x.2.2.1)[j]? =some [.int .u8 x.2.2.1[j]]:=by simp [byt,hj]
     have r:=hrp j 0 _ _ hg2 rfl
     rw [List.getD_eq_getElem?_getD,List.getElem?_eq_getElem hj]
     rw [Nat.mul_one,Nat.add_zero] at c
     generalize tv j 0=z at c r
     cases r
     exact c
end
end Go.Proofs.YthcnhibjddomdaaGreat
namespace Go.Proofs.YthcnhibjddomdaaGreat
section
open Go
variable [FrB]
theorem zHr (G:Nat→Option (List AV)):zax Tryz.prog G FT:=by
 intro f ent hf
 unfold FT at hf
 split at hf
 ·cases hf;exact Pn
 ·cases hf;exact SY
 ·cases hf;exact zel
 ·cases hf;exact zdr
 ·cases hf;exact zhN
 ·cases hf;exact VK
 ·cases hf;exact zbn
 ·cases hf;exact zcE
 ·cases hf;exact zeh
 ·cases hf;exact zc2
 ·cases hf;exact zit
 ·cases hf;exact Fa
 ·cases hf;exact zaD
 ·cases hf;exact ziE
 ·cases hf;exact zeb
 ·cases hf;exact zlL
 ·cases hf;exact zbf
 ·cases hf;exact Ki
 ·cases hf;exact Py
 ·cases hf;exact zbt
 ·cases hf;exact NH
 ·cases hf;exact RD
 ·cases hf;exact zcb
 ·cases hf;exact zef
 ·cases hf;exact KA G
 ·cases hf;exact KR G
 ·cases hf;exact zd4
 ·cases hf;exact zek G
 ·cases hf;exact zdk
 ·cases hf;exact ziz
 ·cases hf;exact FD G
 ·cases hf;exact zbo
 ·cases hf;exact Pw
 ·cases hf;exact zck
 ·cases hf;exact zfr
 ·cases hf;exact Dq
 ·cases hf;exact zc7
 ·cases hf;exact Dc
 ·cases hf;exact Je
 ·cases hf;exact zdt
 ·cases hf;exact NW
 ·cases hf;exact zcX
 ·cases hf;exact zeY
 ·cases hf;exact zbj
 ·cases hf;exact zd1
 ·cases hf;exact zhm
 ·cases hf;exact zam
 ·cases hf;exact zc1
 ·cases hf;exact zcU
 ·cases hf;exact RO
 ·cases hf;exact zaO
 ·cases hf;exact zdo
 ·cases hf;exact zbT
 ·cases hf;exact zbJ
 ·cases hf;exact zaP
 ·cases hf;exact NT
 ·cases hf;exact RZ
 ·cases hf;exact zeF
 ·cases hf;exact zis
 ·cases hf;exact zeg
 ·cases hf;exact ziu
 ·cases hf;exact zgY G
 ·cases hf;exact zgX
 ·cases hf;exact zaI
 ·cases hf;exact zkA
 ·cases hf;exact za1
 ·cases hf;exact zew
 ·cases hf;exact zex
 ·cases hf;exact zh4
 ·cases hf;exact zbd
 ·cases hf;exact Fz
 ·cases hf;exact zct
 ·cases hf;exact zfX
 ·cases hf;exact zbb
 ·cases hf;exact zc5
 ·cases hf;exact zcS
 ·cases hf;exact zbO
 ·cases hf;exact zbU
 ·cases hf;exact zes
 ·cases hf;exact zeq
 ·cases hf;exact zho
 ·cases hf;exact zeW
 ·cases hf;exact zfw
 ·cases hf;exact zgb
 ·cases hf;exact zhO
 ·cases hf;exact zhl
 ·cases hf;exact zhb
 ·cases hf;exact ziC
 ·cases hf;exact zij
 ·cases hf;exact zh7
 ·cases hf;exact zil
 ·cases hf;exact zhX
 ·cases hf;exact zem
 ·cases hf;exact zir
 ·cases hf;exact ziw
 ·cases hf;exact zfO
 ·cases hf;exact zix
 ·cases hf;exact zib
 ·cases hf;exact zhW
 ·cases hf;exact zgd
 ·cases hf;exact zkX
 ·cases hf;exact zgg
 ·cases hf;exact ziB
 ·cases hf;exact zeE
 ·cases hf;exact zed
 ·cases hf;exact zcD
 ·cases hf;exact zfW
 ·cases hf;exact zd8
 ·cases hf;exact zgW
 ·cases hf;exact zdZ
 ·cases hf;exact zcZ
 ·cases hf;exact zdm
 ·cases hf;exact zfn
 ·cases hf;exact zh6
 ·cases hf;exact zge
 ·cases hf;exact zfP
 ·cases hf;exact zeu
 ·cases hf;exact zee
 ·cases hf;exact JS
 ·cases hf
end
end Go.Proofs.YthcnhibjddomdaaGreat
namespace Go.Proofs.YthcnhibjddomdaaGreat
section
open Go
variable (G:Nat→Option (List AV))
theorem zFO {N:Nat} {a b c d:Nat×AV} (h1:∀ i ∈ a.2.ids,i<N) (h2:∀ i ∈ b.2.ids,i<N) (h3:∀ i ∈ c.2.ids,i<N) (h4:∀ i ∈ d.2.ids,i<N):∀ p ∈ [a,b,c,d],∀ i ∈ p.2.ids,i<N:=by
 intro p hp
 simp only [List.mem_cons,List.not_mem_nil,or_false] at hp
 rcases hp with rfl | rfl | rfl | rfl<;>assumption
theorem zlq {s:AV} {ff:Nat} {fs cs:List AV} {hh:Nat→List zf} {N:Nat} (hN:∀ j,(hh j).length=N) (hC:∀ j,vT (hh j)) (hS:∀ i ∈ s.ids,i<N) (hF:∀ i ∈ AV.idsL fs++AV.idsL cs,i<N) (j:Nat) (n i:Int):
  agc N [0,1,7,8] ⟨[(0,s),(1,.fn (.func ff) fs cs),(7,.int .i64 n),(8,.int .i64 i)],hh j⟩=some ⟨[(0,s),(1,.fn (.func ff) fs cs),(7,.int .i64 n),(8,.int .i64 i)],hh j⟩:=by
 have e:uy [0,1,7,8] [(0,s),(1,.fn (.func ff) fs cs),(7,.int .i64 n),(8,.int .i64 i)]=[(0,s),(1,.fn (.func ff) fs cs),(7,.int .i64 n),(8,.int .i64 i)]:=by (sym=>simp [Y9,Za,Zb,Ze])
 have:=zCZ (h:=hh j) (live:=[0,1,7,8]) (env:=[(0,s),(1,.fn (.func ff) fs cs),(7,.int .i64 n),(8,.int .i64 i)]) (hC j) (by rw [e,hN j];exact zFO hS (by simpa [AV.ids] using hF) (by simp [AV.ids]) (by simp [AV.ids]))
 rw [hN j,e] at this
 exact this
section
variable {α:Type} (l:List α) (vl:α→AV) (s:AV) (pt:Nat→AV) (ff:Nat) (fs cs:List AV) (p:Nat→Bool) (hh:Nat→List zf) (N:Nat)
 (hN:∀ j,(hh j).length=N) (hC:∀ j,vT (hh j)) (hS:∀ i ∈ s.ids,i<N) (hF:∀ i ∈ AV.idsL fs++AV.idsL cs,i<N) (hl:l.length<9223372036854775807)
 (hlen:zbi false s=some (.int .i64 l.length)) (hidx:∀ j (i:Nat),i<l.length→FB (hh j) 2 s (.int .i64 i)=some (pt i)) (hld:∀ j (i:Nat) (h:i<l.length),UL (hh j) true 2 (pt i)=some (vl l[i]))
include hN hC hS hF hl hidx hld
include hlen
end
theorem zav (s f:AV) (h h':List zf) (n:Int) (hr:aR G FT yJ [s,f] h=some (.int .i64 n,h')):aR G FT yR [s,f] h=some (.bool (decide (0≤n)),h'):=by
 rw [Re]
 (sym=>simp [Qb,Qd,Qe,Qi,Qj,Qm,Qn,Qo,Qr,Xa,Yd,Y1,Y5,Y7,Y9,Za,Zb,Zc,Ze,Zg,Zh,Zi,Zj,Zk,Zl,Zq,Zr,Zs,Zt,Zu,Zv,Zw,Jj,Jk,Jv,Jx,Be,zDL.eq_1,zDS.eq_1,yP.eq_1,hr])
def uZ {α:Type} (p:α→Bool):List α→Nat→List α→Nat×List α
 | [],i,R=>(i,R)
 | x::t,i,R=>if p x=true then uZ p t i R else uZ p t (i+1) (R.set i x)
theorem Rt {α:Type} (p:α→Bool):∀ (t:List α) (i:Nat) (R:List α),i+t.length≤R.length→(uZ p t i R).1=i+(t.filter fun x=> !p x).length∧(uZ p t i R).2.length=R.length∧
  (uZ p t i R).2.take (uZ p t i R).1=R.take i++t.filter fun x=> !p x
 | [],i,R,_=>by simp [uZ]
 | x::t,i,R,hi=>by
  simp only [List.length_cons] at hi
  unfold uZ
  by_cases hx:p x=true
  ·rw [if_pos hx]
   have:=Rt p t i R (by omega)
   simpa [hx] using this
  ·rw [if_neg hx]
   obtain ⟨h1,h2,h3⟩:=Rt p t (i+1) (R.set i x) (by simp;omega)
   have hx':p x=false:=by simpa using hx
   refine ⟨by rw [h1];simp [hx'];omega,by rw [h2];simp, ?_⟩
   rw [h3]
   have hlt:i<R.length:=by omega
   rw [List.take_add_one,List.take_set_of_le (Nat.le_refl _)]
   simp [hx',hlt]
theorem zbN {α:Type} (p:α→Bool):∀ (l:List α),((∀ x ∈ l,p x=false)∧(l.filter fun x=> !p x)=l)∨∃ (k:Nat) (h:k<l.length),p l[k]=true∧(∀ (j:Nat) (hj:j<l.length),j<k→p l[j]=false)∧(l.filter fun x=> !p x)=l.take k++(l.drop (k+1)).filter fun x=> !p x
 | []=>.inl ⟨by simp,rfl⟩
 | y::l=>by
  by_cases hy:p y=true
  ·exact .inr ⟨0,by simp,by simpa using hy,fun j _ hj=>by omega,by simp [hy]⟩
  ·have hy':p y=false:=by simpa using hy
   rcases zbN p l with ⟨h1,h2⟩ | ⟨k,h1,h2,h3,h4⟩
   ·refine .inl ⟨fun x hx=> ?_,by simp [hy',h2]⟩
    rcases List.mem_cons.1 hx with rfl | hx
    ·exact hy'
    ·exact h1 x hx
   ·refine .inr ⟨k+1,by simpa using h1,by simpa using h2,fun j hj hlt=> ?_,by simp [hy',h4]⟩
    cases j with
    | zero=>simpa using hy'
    | succ j=>simpa using h3 j (by simpa using hj) (by omega)
theorem zhB {h:List zf} {id:Nat} {r:zf} (hr:h[id]? =some r):h.set id r=h:=by
 apply List.ext_getElem?
 intro i
 by_cases e:id=i
 ·subst e;rw [List.getElem?_set_self (List.getElem?_eq_some_iff.1 hr).1];exact hr.symm
 ·rw [List.getElem?_set_ne e]
theorem zkw {h:List zf} {id g n c ff:Nat} {fs cs:List AV} {r:zf} {e:List zf} (hid:id<h.length) (hC:vT (h.set id r)) (hF:∀ i ∈ AV.idsL fs++AV.idsL cs,i<h.length) (i j:Int):
  agc h.length [0,1,5,6] ⟨[(0,.own id g 0 n c),(1,.fn (.func ff) fs cs),(5,.int .i64 i),(6,.int .i64 j)],h.set id r++e⟩=some ⟨[(0,.own id g 0 n c),(1,.fn (.func ff) fs cs),(5,.int .i64 i),(6,.int .i64 j)],h.set id r⟩:=by
 have e0:uy [0,1,5,6] [(0,.own id g 0 n c),(1,.fn (.func ff) fs cs),(5,.int .i64 i),(6,.int .i64 j)]=[(0,.own id g 0 n c),(1,.fn (.func ff) fs cs),(5,.int .i64 i),(6,.int .i64 j)]:=by (sym=>simp [Y9,Za,Zb,Ze])
 have:=znj (h:=h.set id r) (e:=e) (live:=[0,1,5,6]) (env:=[(0,.own id g 0 n c),(1,.fn (.func ff) fs cs),(5,.int .i64 i),(6,.int .i64 j)]) hC (by rw [e0,List.length_set];exact zFO (by simpa [AV.ids] using hid) (by simpa [AV.ids] using hF) (by simp [AV.ids]) (by simp [AV.ids]))
 rw [List.length_set,e0] at this
 exact this
theorem drop_at {α:Type} {l R:List α} {j:Nat} (hd:R.drop j=l.drop j) (hj:j<l.length):R[j]? =some l[j]:=by
 have:(R.drop j)[0]? =(l.drop j)[0]? :=by rw [hd]
 simpa [hj] using this
theorem zcP {α:Type} {l R:List α} {j:Nat} (hd:R.drop j=l.drop j):R.drop (j+1)=l.drop (j+1):=by
 have:(R.drop j).drop 1=(l.drop j).drop 1:=by rw [hd]
 simpa [List.drop_drop] using this
theorem NY {s:AV} {ff:Nat} {fs cs:List AV} {hh:Nat→List zf} {N:Nat} (hN:∀ j,(hh j).length=N) (hC:∀ j,vT (hh j)) (hS:∀ i ∈ s.ids,i<N) (hF:∀ i ∈ AV.idsL fs++AV.idsL cs,i<N) (j:Nat) (n i:Int) (e:List zf):
  agc N [0,1,7,8] ⟨[(0,s),(1,.fn (.func ff) fs cs),(7,.int .i64 n),(8,.int .i64 i)],hh j++e⟩=some ⟨[(0,s),(1,.fn (.func ff) fs cs),(7,.int .i64 n),(8,.int .i64 i)],hh j⟩:=by
 have e0:uy [0,1,7,8] [(0,s),(1,.fn (.func ff) fs cs),(7,.int .i64 n),(8,.int .i64 i)]=[(0,s),(1,.fn (.func ff) fs cs),(7,.int .i64 n),(8,.int .i64 i)]:=by (sym=>simp [Y9,Za,Zb,Ze])
 have:=znj (h:=hh j) (e:=e) (live:=[0,1,7,8]) (env:=[(0,s),(1,.fn (.func ff) fs cs),(7,.int .i64 n),(8,.int .i64 i)]) (hC j) (by rw [e0,hN j];exact zFO hS (by simpa [AV.ids] using hF) (by simp [AV.ids]) (by simp [AV.ids]))
 rw [hN j,e0] at this
 exact this
section
variable {α:Type} (l:List α) (vl:α→AV) (s:AV) (pt:Nat→AV) (ff:Nat) (fs cs:List AV) (p:Nat→Bool) (hh J:Nat→List zf) (N:Nat)
 (hN:∀ j,(hh j).length=N) (hC:∀ j,vT (hh j)) (hS:∀ i ∈ s.ids,i<N) (hF:∀ i ∈ AV.idsL fs++AV.idsL cs,i<N) (hl:l.length<9223372036854775807)
 (hlen:zbi false s=some (.int .i64 l.length)) (hidx:∀ j (i:Nat),i<l.length→FB (hh j) 2 s (.int .i64 i)=some (pt i)) (hld:∀ j (i:Nat) (h:i<l.length),UL (hh j) true 2 (pt i)=some (vl l[i]))
include hN hC hS hF hl hidx hld
theorem JU (k:Nat) (hk:k<l.length) (hp:∀ i (h:i<l.length),i≤k→aR G FT ff (fs++[vl l[i]]++cs) (hh i)=some (.bool (p i),hh (i+1)++J i)) (hpk:p k=true) (hpj:∀ j,j<k→p j=false):∀ (m i:Nat),i+m=k→∀ e,
  aE G FT N zO ⟨[(0,s),(1,.fn (.func ff) fs cs),(7,.int .i64 l.length),(8,.int .i64 i)],hh i++e⟩=some (.ret,⟨[(4,.int .i64 k)],hh (k+1)++J k⟩):=by
 intro m
 induction m with
 | zero=>
  intro i hi e
  obtain rfl:i=k:=by omega
  rw [zO,zn,NY hN hC hS hF]
  have h1:=hidx i i hk
  have h2:=hld i i hk
  have h3:=hp i hk (Nat.le_refl _)
  rw [hpk] at h3
  have h4:(i:Int)<l.length:=by omega
  (sym=>simp [Qb,Qc,Qd,Qe,Qi,Qm,Qn,Qp,Qq,Qr,Qt,Q4,Xa,Xs,Ya,Y9,Za,Zb,Zc,Ze,Zg,Zh,Zt,Zv,Zw,Jj,Jk,Jl,Jn,Jp,Jr,Jt,Jv,Nl,Be,zgN.eq_1,zhe.eq_1,zf7.eq_1,zf2.eq_1,zhQ.eq_1,yU.eq_1,h1,h2,h3,h4])
 | succ m ih=>
  intro i hi e
  have ih:=ih (i+1) (by omega) (J i)
  have hil:i<l.length:=by omega
  rw [zO] at ih
  rw [zO,zn,NY hN hC hS hF]
  have h1:=hidx i i hil
  have h2:=hld i i hil
  have h3:=hp i hil (by omega)
  rw [hpj i (by omega)] at h3
  have h4:(i:Int)<l.length:=by omega
  have hw:=zH (n:=i) (by omega)
  rw [← ih]
  (sym=>simp [Qc,Qd,Qe,Qi,Qj,Qm,Qn,Qp,Qq,Qr,Qt,Q4,Xa,Xs,X5,Ya,Y9,Za,Zb,Zc,Ze,Zg,Zh,Zt,Zv,Zw,Z3,Jj,Jk,Jn,Jo,Jr,Js,Jv,Nl,Be,zgN.eq_1,zhe.eq_1,zf7.eq_1,zf2.eq_1,zhQ.eq_1,yU.eq_1,h1,h2,h3,h4,hw])
theorem Fx (hp:∀ i (h:i<l.length),aR G FT ff (fs++[vl l[i]]++cs) (hh i)=some (.bool (p i),hh (i+1)++J i)) (hpj:∀ j,j<l.length→p j=false):∀ (m i:Nat),i+m=l.length→∀ e,
  aE G FT N zO ⟨[(0,s),(1,.fn (.func ff) fs cs),(7,.int .i64 l.length),(8,.int .i64 i)],hh i++e⟩=some (.exit 0,⟨[(0,s),(1,.fn (.func ff) fs cs),(7,.int .i64 l.length),(8,.int .i64 l.length),(9,.bool false)],hh l.length⟩):=by
 intro m
 induction m with
 | zero=>
  intro i hi e
  obtain rfl:i=l.length:=by omega
  rw [zO,zn,NY hN hC hS hF]
  have h4:¬ (l.length:Int)<l.length:=by omega
  (sym=>simp [Qa,Qd,Qe,Qi,Qt,Xa,Ya,Y9,Za,Zb,Zc,Ze,Zg,Zh,Zt,Zv,Zw,Z3,Jj,Jk,Jm,Jr,Ju,Jv,Nm,Be,zgN.eq_1,zhe.eq_1,zf7.eq_1,zf2.eq_1,zhQ.eq_1,yU.eq_1,h4])
 | succ m ih=>
  intro i hi e
  have ih:=ih (i+1) (by omega) (J i)
  have hil:i<l.length:=by omega
  rw [zO] at ih
  rw [zO,zn,NY hN hC hS hF]
  have h1:=hidx i i hil
  have h2:=hld i i hil
  have h3:=hp i hil
  rw [hpj i (by omega)] at h3
  have h4:(i:Int)<l.length:=by omega
  have hw:=zH (n:=i) (by omega)
  rw [← ih]
  (sym=>simp [Qc,Qd,Qe,Qi,Qj,Qm,Qn,Qp,Qq,Qr,Qt,Q4,Xa,Xs,X5,Ya,Y9,Za,Zb,Zc,Ze,Zg,Zh,Zt,Zv,Zw,Z3,Jj,Jk,Jn,Jo,Jr,Js,Jv,Nl,Be,zgN.eq_1,zhe.eq_1,zf7.eq_1,zf2.eq_1,zhQ.eq_1,yU.eq_1,h1,h2,h3,h4,hw])
include hlen
theorem LH (k:Nat) (hk:k<l.length) (hp:∀ i (h:i<l.length),i≤k→aR G FT ff (fs++[vl l[i]]++cs) (hh i)=some (.bool (p i),hh (i+1)++J i)) (hpk:p k=true) (hpj:∀ j,j<k→p j=false):
  aR G FT yJ [s,.fn (.func ff) fs cs] (hh 0)=some (.int .i64 k,hh (k+1)++J k):=by
 have key:=JU G l vl s pt ff fs cs p hh J N hN hC hS hF hl hidx hld k hk hp hpk hpj k 0 (by omega) []
 simp only [Int.natCast_zero,List.append_nil] at key
 rw [Ws,hN 0]
 (sym=>simp [Qd,Qe,Qi,Qj,Qr,Xy,Y1,Y5,Y7,Y9,Za,Zb,Zc,Ze,Zg,Zh,Zi,Zj,Zk,Zl,Zr,Zs,Zt,Zu,Zv,Zw,Jj,Jk,Jl,Jn,Jp,Jv,Jx,Be,zpP.eq_1,zpH.eq_1,zpC.eq_1,yI.eq_1,hlen,key])
theorem KY (hp:∀ i (h:i<l.length),aR G FT ff (fs++[vl l[i]]++cs) (hh i)=some (.bool (p i),hh (i+1)++J i)) (hpj:∀ j,j<l.length→p j=false):
  aR G FT yJ [s,.fn (.func ff) fs cs] (hh 0)=some (.int .i64 (-1),hh l.length):=by
 have key:=Fx G l vl s pt ff fs cs p hh J N hN hC hS hF hl hidx hld hp hpj l.length 0 (by omega) []
 simp only [Int.natCast_zero,List.append_nil] at key
 rw [Ws,hN 0]
 (sym=>simp [Qb,Qd,Qe,Qi,Qj,Qr,Xy,Y1,Y5,Y7,Y9,Za,Zb,Zc,Ze,Zg,Zh,Zi,Zj,Zk,Zl,Zr,Zs,Zt,Zu,Zv,Zw,Jj,Jk,Jn,Jq,Jv,Jx,Be,zpP.eq_1,zpH.eq_1,zpC.eq_1,yI.eq_1,hlen,key])
end
section
variable {α:Type} (cl:α→List AV) (z0:α) (hz:cl z0=[.int .i64 0,.int .i64 0]) (hcl:∀ x,(cl x).length=2) (hst:∀ x,AV.stableL (cl x)=true)
variable (l:List α) (id g c ff:Nat) (fs cs:List AV) (p:α→Bool) (h:List zf) (hid:id<h.length) (hC:vT h) (hF:∀ i ∈ AV.idsL fs++AV.idsL cs,i<h.length) (hl:l.length<1000000) (hc:l.length≤c)
 (J:α→List zf) (hp:∀ R x e,aR G FT ff (fs++[AV.agg (cl x)]++cs) (h.set id ⟨2,g,true,List.map cl R⟩++e)=some (.bool (p x),h.set id ⟨2,g,true,List.map cl R⟩++(e++J x)))
include hid hC hF hl hp hcl hst
theorem zcs:∀ (m i j:Nat) (R:List α),j+m=l.length→i<j→R.length=l.length→R.drop j=l.drop j→∀ e,
  aE G FT h.length yG ⟨[(0,.own id g 0 l.length c),(1,.fn (.func ff) fs cs),(5,.int .i64 i),(6,.int .i64 j)],h.set id ⟨2,g,true,List.map cl R⟩++e⟩=
   some (.exit 0,⟨[(0,.own id g 0 l.length c),(1,.fn (.func ff) fs cs),(5,.int .i64 (uZ p (l.drop j) i R).1),(6,.int .i64 l.length),(19,.bool false)],h.set id ⟨2,g,true,List.map cl (uZ p (l.drop j) i R).2⟩⟩):=by
 have hs:∀ r,(h.set id r)[id]? =some r:=fun r=>List.getElem?_set_self hid
 have hsa:∀ r e,(h.set id r++e)[id]? =some r:=fun r e=>by rw [List.getElem?_append_left (by simpa using hid)];exact hs r
 have hsv:∀ r v e,(h.set id r++v::e)[h.length]? =some v:=fun r v e=>by rw [List.getElem?_append_right (by simp)];simp
 have hss:∀ r r' e,(h.set id r++e).set id r'=h.set id r'++e:=fun r r' e=>by rw [List.set_append_left _ _ (by simpa using hid),List.set_set]
 have hvs:∀ r v v',(h.set id r++[v]).set h.length v'=h.set id r++[v']:=fun r v v'=>by rw [List.set_append_right _ _ (by simp)];simp
 have ha:∀ (R:List α) (i j:Int) e,_:=fun R i j e=>zkw (g:=g) (n:=l.length) (c:=c) (ff:=ff) (e:=e) hid (hC.set (id:=id) (r:=⟨2,g,true,List.map cl R⟩) rfl) hF i j
 intro m
 induction m with
 | zero=>
  intro i j R hj hij hR hd e'
  have e:l.drop j=[]:=List.drop_eq_nil_of_le (by omega)
  have ej:j=l.length:=by omega
  subst ej
  rw [yG,zn,ha,e,uZ]
  have h4:¬ (l.length:Int)<l.length:=by omega
  (sym=>simp [Qa,Qd,Qe,Qi,Qr,Qt,Xa,Xy,Ya,Yg,Y9,Za,Zb,Zc,Ze,Zg,Zh,Zt,Zv,Zw,Z3,Jj,Jk,Jm,Jr,Ju,Jv,Nm,Be,zln.eq_1,zle.eq_1,zk9.eq_1,zlH.eq_1,zeM.eq_1,zkU.eq_1,vQ.eq_1,h4])
 | succ m ih=>
  intro i j R hj hij hR hd e'
  have hlt:j<l.length:=by omega
  have hlt':(j:Int)<l.length:=by omega
  have hi':(i:Int)<l.length:=by omega
  have hiR:i<R.length:=by omega
  have e:l.drop j=l[j]::l.drop (j+1):=List.drop_eq_getElem_cons hlt
  have hRj:(List.map cl R)[j]? =some (cl l[j]):=by rw [List.getElem?_map,drop_at hd hlt];rfl
  obtain ⟨y,hRi⟩:∃ y,(List.map cl R)[i]? =some (cl y):=⟨R[i],by rw [List.getElem?_map,List.getElem?_eq_getElem hiR];rfl⟩
  have hd1:=zcP hd
  rw [yG] at ih
  rw [yG,zn,ha,e,uZ]
  have hw:=zH (n:=i) (by omega)
  have hw2:=zH (n:=j) (by omega)
  have hp:=hp R l[j]
  have hcx:=hcl l[j]
  have hsx:=hst l[j]
  have hcy:=hcl y
  have tkx:List.take 2 (cl l[j])=cl l[j]:=List.take_of_length_le (by omega)
  have tky:List.drop 2 (cl y)=[]:=List.drop_eq_nil_of_le (by omega)
  generalize l[j]=x at *
  by_cases hx:p x=true
  ·have ih:=fun e=>ih i (j+1) R (by omega) (by omega) hR hd1 e
   rw [if_pos hx]
   generalize uZ p (l.drop (j+1)) i R=DD at ih ⊢
   (sym=>simp [Qc,Qd,Qe,Qi,Qj,Qm,Qn,Qp,Qq,Qr,Qt,Qv,Q4,Q5,Xa,Xd,Xs,Xy,X5,Ya,Yg,Yr,Yu,Yx,Y9,Za,Zb,Zc,Zd,Ze,Zg,Zh,Zm,Zn,Zt,Zv,Zw,Zx,Zy,Z0,Z1,Z3,Jj,Jk,Jn,Jo,Jr,Js,Jv,J1,J2,Ue,Uf,Ug,Hh,Hk,Hn,Hp,Hr,Hs,Ht,Hu,Hv,Hw,H8,Ni,Nk,Nl,No,Nw,Nz,N0,Be,zln.eq_1,zle.eq_1,zk9.eq_1,zlH.eq_1,zeM.eq_1,zkU.eq_1,vQ.eq_1,hlt',hs,hsa,hsv,hss,hvs,hRj,hp,hx,hw2,hcx,hsx,tkx];tactic=>(
    exact ih _))
  ·have hx':p x=false:=by simpa using hx
   have ih:=fun e=>ih (i+1) (j+1) (R.set i x) (by omega) (by omega) (by simpa using hR) (by rw [List.drop_set_of_lt (by omega)];exact hd1) e
   rw [if_neg hx]
   generalize uZ p (l.drop (j+1)) (i+1) (R.set i x)=DD at ih ⊢
   have hms:(List.map cl R).set i (cl x)=List.map cl (R.set i x):=by rw [List.map_set]
   (sym=>simp [Qc,Qd,Qe,Qi,Qj,Qm,Qn,Qp,Qq,Qr,Qt,Qv,Q4,Q5,Xa,Xd,Xs,Xy,X5,Ya,Yg,Yr,Yu,Yx,Y9,Za,Zb,Zc,Zd,Ze,Zg,Zh,Zm,Zn,Zt,Zv,Zw,Zx,Zy,Z0,Z1,Jj,Jk,Jn,Jo,Jr,Js,Jv,J1,J2,Ue,Uf,Ug,Hh,Hk,Hn,Hp,Hr,Hs,Ht,Hu,Hv,Hw,H8,Ni,Nk,Nl,No,Nx,Nz,N0,Be,zln.eq_1,zle.eq_1,zk9.eq_1,zlH.eq_1,zeM.eq_1,zkU.eq_1,vQ.eq_1,hlt',hi',hs,hsa,hsv,hss,hvs,hRj,hRi,hp,hx',hw,hw2,hms,hcx,hsx,hcy,tkx,tky];tactic=>(
    exact ih _))
end
section
variable {α:Type} (cl:α→List AV) (z0:α) (hz:cl z0=[.int .i64 0,.int .i64 0]) (hcl:∀ x,(cl x).length=2) (hst:∀ x,AV.stableL (cl x)=true)
variable (l:List α) (id g c ff:Nat) (fs cs:List AV) (p:α→Bool) (h:List zf) (hid:id<h.length) (hC:vT h) (hF:∀ i ∈ AV.idsL fs++AV.idsL cs,i<h.length) (hl:l.length<1000000) (hc:l.length≤c)
 (J:α→List zf) (hp:∀ R x e,aR G FT ff (fs++[AV.agg (cl x)]++cs) (h.set id ⟨2,g,true,List.map cl R⟩++e)=some (.bool (p x),h.set id ⟨2,g,true,List.map cl R⟩++(e++J x)))
include hid hC hF hl hp hcl hst hz hc
theorem znL (hrow:h[id]? =some ⟨2,g,true,List.map cl l⟩):
  aR G FT ou [.own id g 0 l.length c,.fn (.func ff) fs cs] h=some (.own id g 0 (l.filter fun x=> !p x).length c,
   h.set id ⟨2,g,true,List.map cl ((l.filter fun x=> !p x)++List.replicate (l.length - (l.filter fun x=> !p x).length) z0)⟩):=by
 have hset:=zhB hrow
 have hp0:∀ x,aR G FT ff (fs++[AV.agg (cl x)]++cs) h=some (.bool (p x),h++J x):=fun x=>by have:=hp l x [];simpa [hset] using this
 have hidx:∀ (j i:Nat),i<l.length→FB ((fun _=>h) j) 2 (.own id g 0 l.length c) (.int .i64 i)=some (.ptr id g i 0):=fun j i hi=>by
  have h4:(i:Int)<l.length:=by omega
  (sym=>simp [Yx,Zg,Zx,Zy,H8,Ni,Nk,Nz,hrow,h4])
 have hld:∀ (j i:Nat) (hi:i<l.length),UL ((fun _=>h) j) true 2 (.ptr id g i 0)=some (AV.agg (cl l[i])):=fun j i hi=>by
  have h4:(List.map cl l)[i]? =some (cl l[i]):=by rw [List.getElem?_map,List.getElem?_eq_getElem hi];rfl
  have hcx:=hcl l[i]
  have tkx:List.take 2 (cl l[i])=cl l[i]:=List.take_of_length_le (by omega)
  (sym=>simp [Yr,Yu,Zg,Zy,Z0,Hs,hrow,h4,hcx,tkx])
 rw [RI]
 rcases zbN p l with ⟨h1,h2⟩ | ⟨k,hk,h1,h2,h3⟩
 ·have key:=KY G l (fun x=>AV.agg (cl x)) (.own id g 0 l.length c) (fun i=>.ptr id g i 0) ff fs cs (fun _=>false) (fun _=>h) (fun i=>if hi:i<l.length then J l[i] else []) h.length (fun _=>rfl) (fun _=>hC) (by simpa [AV.ids] using hid) hF (by omega) rfl hidx hld
   (fun i hi=>by rw [hp0,h1 _ (List.getElem_mem _),dif_pos hi]) (fun j hj=>rfl)
  rw [h2,Nat.sub_self,List.replicate_zero,List.append_nil,hset]
  (sym=>simp [Qb,Qd,Qe,Qi,Qj,Qm,Qn,Qo,Qr,Qt,Xa,X8,Y1,Y5,Y7,Y9,Za,Zb,Zc,Ze,Zg,Zh,Zi,Zj,Zk,Zl,Zq,Zr,Zs,Zt,Zu,Zv,Zw,Jj,Jk,Jl,Jr,Jv,Jx,Nl,Be,zo6.eq_1,zoI.eq_1,zov.eq_1,zpK.eq_1,zqQ.eq_1,zlz.eq_1,zlm.eq_1,yC.eq_1,key])
 ·have key:=LH G l (fun x=>AV.agg (cl x)) (.own id g 0 l.length c) (fun i=>.ptr id g i 0) ff fs cs (fun j=>decide (j=k)) (fun _=>h) (fun i=>if hi:i<l.length then J l[i] else []) h.length (fun _=>rfl) (fun _=>hC) (by simpa [AV.ids] using hid) hF (by omega) rfl hidx hld k hk
   (fun i hi hik=>by
    rw [hp0,dif_pos hi]
    by_cases e:i=k
    ·subst e;simp [h1]
    ·simp [e,h2 i hi (by omega)]) (by simp) (fun j hj=>by simp;omega)
  rw [dif_pos hk] at key
  have hw:=zH (n:=k) (by omega)
  have hk1:¬ ((k:Int)= -1):=by omega
  have loop:=zcs G cl hcl hst l id g c ff fs cs p h hid hC hF hl J hp (l.length - (k+1)) k (k+1) l (by omega) (by omega) rfl rfl (J l[k])
  obtain ⟨s1,s2,s3⟩:=Rt p (l.drop (k+1)) k l (by simp;omega)
  rw [hset] at loop
  generalize uZ p (l.drop (k+1)) k l=D at loop s1 s2 s3
  have hD:D.1=(l.filter fun x=> !p x).length:=by rw [s1,h3];simp;omega
  have hle:D.1≤l.length:=by rw [hD];exact List.length_filter_le _ _
  have hfin:D.2.take D.1++List.replicate (l.length - D.1) z0=(l.filter fun x=> !p x)++List.replicate (l.length - (l.filter fun x=> !p x).length) z0:=by rw [s3,h3,hD,h3]
  rw [← hfin,← hD]
  have hs:∀ r,(h.set id r)[id]? =some r:=fun r=>List.getElem?_set_self hid
  have ml:(List.map cl D.2).length=l.length:=by rw [List.length_map,s2]
  have e1:(List.map cl D.2).drop (D.1+(l.length - D.1))=[]:=List.drop_eq_nil_of_le (by rw [ml];omega)
  have e2:D.1+(l.length - D.1)≤l.length:=by omega
  have e3:(List.map cl D.2).take D.1++List.replicate (l.length - D.1) (cl z0)=List.map cl (D.2.take D.1++List.replicate (l.length - D.1) z0):=by rw [List.map_append,List.map_take,List.map_replicate]
  rw [hz] at e3
  have f1:D.1≤c:=by omega
  (sym=>simp [Qb,Qc,Qd,Qe,Qi,Qj,Qm,Qn,Qo,Qr,Qt,Xa,Xl,Xm,Xn,X5,X8,Y1,Y5,Y7,Y9,Za,Zb,Zc,Zd,Ze,Zg,Zh,Zi,Zj,Zk,Zl,Zm,Zn,Zq,Zr,Zs,Zt,Zu,Zv,Zw,Zx,Zy,Zz,Z0,Z3,Jj,Jk,Jn,Jq,Jr,Jv,Jx,K0,K1,K2,Ue,Uf,Ug,W8,Hw,H8,Na,Nf,Ng,Ni,Nk,Nm,No,Nz,Bb,Be,zo6.eq_1,zoI.eq_1,zov.eq_1,zpK.eq_1,zqQ.eq_1,zlz.eq_1,zlm.eq_1,yC.eq_1,key,hk1,hw,loop,hs,ml,hle,hc,f1,e1,e2,e3,List.set_set])
end
section
variable {α:Type} (l:List α) (vl:α→AV) (s:AV) (pt:Nat→AV) (ff:Nat) (fs cs:List AV) (p:Nat→Bool) (hh:Nat→List zf) (N:Nat)
 (hN:∀ j,(hh j).length=N) (hC:∀ j,vT (hh j)) (hS:∀ i ∈ s.ids,i<N) (hF:∀ i ∈ AV.idsL fs++AV.idsL cs,i<N) (hl:l.length<9223372036854775807)
 (hlen:zbi false s=some (.int .i64 l.length)) (hidx:∀ j (i:Nat),i<l.length→FB (hh j) 1 s (.int .i64 i)=some (pt i)) (hld:∀ j (i:Nat) (h:i<l.length),UL (hh j) false 1 (pt i)=some (vl l[i]))
include hN hC hS hF hl hidx hld
theorem zaa (k:Nat) (hk:k<l.length) (hp:∀ i (h:i<l.length),i≤k→aR G FT ff (fs++[vl l[i]]++cs) (hh i)=some (.bool (p i),hh (i+1))) (hpk:p k=true) (hpj:∀ j,j<k→p j=false):∀ (m i:Nat),i+m=k→
  aE G FT N zY ⟨[(0,s),(1,.fn (.func ff) fs cs),(7,.int .i64 l.length),(8,.int .i64 i)],hh i⟩=some (.ret,⟨[(4,.int .i64 k)],hh (k+1)⟩):=by
 intro m
 induction m with
 | zero=>
  intro i hi
  obtain rfl:i=k:=by omega
  rw [zY,zn,zlq hN hC hS hF]
  have h1:=hidx i i hk
  have h2:=hld i i hk
  have h3:=hp i hk (Nat.le_refl _)
  rw [hpk] at h3
  have h4:(i:Int)<l.length:=by omega
  (sym=>simp [Qb,Qc,Qd,Qe,Qi,Qm,Qn,Qp,Qq,Qr,Qt,Q4,Xa,Xs,Ya,Y9,Za,Zb,Zc,Ze,Zg,Zh,Zt,Zv,Zw,Jj,Jk,Jl,Jn,Jp,Jr,Jt,Jv,Nl,Be,zfs.eq_1,ze1.eq_1,zfZ.eq_1,zgO.eq_1,zgy.eq_1,vN.eq_1,h1,h2,h3,h4])
 | succ m ih=>
  intro i hi
  have ih:=ih (i+1) (by omega)
  have hil:i<l.length:=by omega
  rw [zY] at ih
  rw [zY,zn,zlq hN hC hS hF]
  have h1:=hidx i i hil
  have h2:=hld i i hil
  have h3:=hp i hil (by omega)
  rw [hpj i (by omega)] at h3
  have h4:(i:Int)<l.length:=by omega
  have hw:=zH (n:=i) (by omega)
  rw [← ih]
  (sym=>simp [Qc,Qd,Qe,Qi,Qj,Qm,Qn,Qp,Qq,Qr,Qt,Q4,Xa,Xs,X5,Ya,Y9,Za,Zb,Zc,Ze,Zg,Zh,Zt,Zv,Zw,Z3,Jj,Jk,Jn,Jo,Jr,Js,Jv,Nl,Be,zfs.eq_1,ze1.eq_1,zfZ.eq_1,zgO.eq_1,zgy.eq_1,vN.eq_1,h1,h2,h3,h4,hw])
theorem zao (hp:∀ i (h:i<l.length),aR G FT ff (fs++[vl l[i]]++cs) (hh i)=some (.bool (p i),hh (i+1))) (hpj:∀ j,j<l.length→p j=false):∀ (m i:Nat),i+m=l.length→
  aE G FT N zY ⟨[(0,s),(1,.fn (.func ff) fs cs),(7,.int .i64 l.length),(8,.int .i64 i)],hh i⟩=some (.exit 0,⟨[(0,s),(1,.fn (.func ff) fs cs),(7,.int .i64 l.length),(8,.int .i64 l.length),(9,.bool false)],hh l.length⟩):=by
 intro m
 induction m with
 | zero=>
  intro i hi
  obtain rfl:i=l.length:=by omega
  rw [zY,zn,zlq hN hC hS hF]
  have h4:¬ (l.length:Int)<l.length:=by omega
  (sym=>simp [Qa,Qd,Qe,Qi,Qt,Xa,Ya,Y9,Za,Zb,Zc,Ze,Zg,Zh,Zt,Zv,Zw,Z3,Jj,Jk,Jm,Jr,Ju,Jv,Nm,Be,zfs.eq_1,ze1.eq_1,zfZ.eq_1,zgO.eq_1,zgy.eq_1,vN.eq_1,h4])
 | succ m ih=>
  intro i hi
  have ih:=ih (i+1) (by omega)
  have hil:i<l.length:=by omega
  rw [zY] at ih
  rw [zY,zn,zlq hN hC hS hF]
  have h1:=hidx i i hil
  have h2:=hld i i hil
  have h3:=hp i hil
  rw [hpj i (by omega)] at h3
  have h4:(i:Int)<l.length:=by omega
  have hw:=zH (n:=i) (by omega)
  rw [← ih]
  (sym=>simp [Qc,Qd,Qe,Qi,Qj,Qm,Qn,Qp,Qq,Qr,Qt,Q4,Xa,Xs,X5,Ya,Y9,Za,Zb,Zc,Ze,Zg,Zh,Zt,Zv,Zw,Z3,Jj,Jk,Jn,Jo,Jr,Js,Jv,Nl,Be,zfs.eq_1,ze1.eq_1,zfZ.eq_1,zgO.eq_1,zgy.eq_1,vN.eq_1,h1,h2,h3,h4,hw])
include hlen
theorem Fh (k:Nat) (hk:k<l.length) (hp:∀ i (h:i<l.length),i≤k→aR G FT ff (fs++[vl l[i]]++cs) (hh i)=some (.bool (p i),hh (i+1))) (hpk:p k=true) (hpj:∀ j,j<k→p j=false):
  aR G FT vL [s,.fn (.func ff) fs cs] (hh 0)=some (.int .i64 k,hh (k+1)):=by
 have key:=zaa G l vl s pt ff fs cs p hh N hN hC hS hF hl hidx hld k hk hp hpk hpj k 0 (by omega)
 simp only [Int.natCast_zero] at key
 rw [UT,hN 0]
 (sym=>simp [Qd,Qe,Qi,Qj,Qr,Xy,Y1,Y5,Y7,Y9,Za,Zb,Zc,Ze,Zg,Zh,Zi,Zj,Zk,Zl,Zr,Zs,Zt,Zu,Zv,Zw,Jj,Jk,Jl,Jn,Jp,Jv,Jx,Be,zp3.eq_1,zpX.eq_1,zoM.eq_1,vM.eq_1,hlen,key])
theorem FY (hp:∀ i (h:i<l.length),aR G FT ff (fs++[vl l[i]]++cs) (hh i)=some (.bool (p i),hh (i+1))) (hpj:∀ j,j<l.length→p j=false):
  aR G FT vL [s,.fn (.func ff) fs cs] (hh 0)=some (.int .i64 (-1),hh l.length):=by
 have key:=zao G l vl s pt ff fs cs p hh N hN hC hS hF hl hidx hld hp hpj l.length 0 (by omega)
 simp only [Int.natCast_zero] at key
 rw [UT,hN 0]
 (sym=>simp [Qb,Qd,Qe,Qi,Qj,Qr,Xy,Y1,Y5,Y7,Y9,Za,Zb,Zc,Ze,Zg,Zh,Zi,Zj,Zk,Zl,Zr,Zs,Zt,Zu,Zv,Zw,Jj,Jk,Jn,Jq,Jv,Jx,Be,zp3.eq_1,zpX.eq_1,zoM.eq_1,vM.eq_1,hlen,key])
end
theorem ze9 (s f:AV) (h h':List zf) (n:Int) (hr:aR G FT vL [s,f] h=some (.int .i64 n,h')):aR G FT uU [s,f] h=some (.bool (decide (0≤n)),h'):=by
 rw [Pq]
 (sym=>simp [Qb,Qd,Qe,Qi,Qj,Qm,Qn,Qo,Qr,Xa,Yd,Y1,Y5,Y7,Y9,Za,Zb,Zc,Ze,Zg,Zh,Zi,Zj,Zk,Zl,Zq,Zr,Zs,Zt,Zu,Zv,Zw,Jj,Jk,Jv,Jx,Be,zDh.eq_1,zDy.eq_1,vO.eq_1,hr])
section
variable (l:List Int) (id g c ff:Nat) (fs cs:List AV) (p:Int→Bool) (h:List zf) (hid:id<h.length) (hC:vT h) (hF:∀ i ∈ AV.idsL fs++AV.idsL cs,i<h.length) (hl:l.length<1000000) (hc:l.length≤c)
 (hp:∀ R x,aR G FT ff (fs++[AV.int .i64 x]++cs) (h.set id ⟨1,g,true,ints R⟩)=some (.bool (p x),h.set id ⟨1,g,true,ints R⟩))
include hid hC hF hl hp
theorem zgk:∀ (m i j:Nat) (R:List Int),j+m=l.length→i<j→R.length=l.length→R.drop j=l.drop j→
  aE G FT h.length vH ⟨[(0,.own id g 0 l.length c),(1,.fn (.func ff) fs cs),(5,.int .i64 i),(6,.int .i64 j)],h.set id ⟨1,g,true,ints R⟩⟩=
   some (.exit 0,⟨[(0,.own id g 0 l.length c),(1,.fn (.func ff) fs cs),(5,.int .i64 (uZ p (l.drop j) i R).1),(6,.int .i64 l.length),(19,.bool false)],h.set id ⟨1,g,true,ints (uZ p (l.drop j) i R).2⟩⟩):=by
 have hs:∀ r,(h.set id r)[id]? =some r:=fun r=>List.getElem?_set_self hid
 have ha:∀ (R:List Int) (i j:Int),_:=fun R i j=>zkw (g:=g) (n:=l.length) (c:=c) (ff:=ff) (e:=[]) hid (hC.set (id:=id) (r:=⟨1,g,true,ints R⟩) rfl) hF i j
 simp only [List.append_nil] at ha
 intro m
 induction m with
 | zero=>
  intro i j R hj hij hR hd
  have e:l.drop j=[]:=List.drop_eq_nil_of_le (by omega)
  have ej:j=l.length:=by omega
  subst ej
  rw [vH,zn,ha,e,uZ]
  have h4:¬ (l.length:Int)<l.length:=by omega
  (sym=>simp [Qa,Qd,Qe,Qi,Qr,Qt,Xa,Xy,Ya,Yg,Y9,Za,Zb,Zc,Ze,Zg,Zh,Zt,Zv,Zw,Z3,Jj,Jk,Jm,Jr,Ju,Jv,Nm,Be,zkS.eq_1,zlQ.eq_1,zkl.eq_1,zlR.eq_1,zeU.eq_1,zkF.eq_1,uJ.eq_1,h4])
 | succ m ih=>
  intro i j R hj hij hR hd
  have hlt:j<l.length:=by omega
  have hlt':(j:Int)<l.length:=by omega
  have hi':(i:Int)<l.length:=by omega
  have hiR:i<R.length:=by omega
  have e:l.drop j=l[j]::l.drop (j+1):=List.drop_eq_getElem_cons hlt
  have hRj:(ints R)[j]? =some [.int .i64 l[j]]:=by rw [zt4,drop_at hd hlt];rfl
  have hRi:∃ y,(ints R)[i]? =some [.int .i64 y]:=⟨R[i],ints_at hiR⟩
  obtain ⟨y,hRi⟩:=hRi
  have hd1:=zcP hd
  rw [vH] at ih
  rw [vH,zn,ha,e,uZ]
  have hw:=zH (n:=i) (by omega)
  have hw2:=zH (n:=j) (by omega)
  have hp:=hp R l[j]
  by_cases hx:p l[j]=true
  ·have ih:=ih i (j+1) R (by omega) (by omega) hR hd1
   rw [if_pos hx,← ih]
   (sym=>simp [Qc,Qd,Qe,Qi,Qj,Qm,Qn,Qp,Qq,Qr,Qt,Q4,Xa,Xd,Xs,Xy,X5,Ya,Yg,Yr,Yt,Yx,Y9,Za,Zb,Zc,Ze,Zg,Zh,Zt,Zv,Zw,Zx,Zy,Z0,Z3,Jj,Jk,Jn,Jo,Jr,Js,Jv,Hh,H8,Ni,Nk,Nl,Nw,Nz,Be,zkS.eq_1,zlQ.eq_1,zkl.eq_1,zlR.eq_1,zeU.eq_1,zkF.eq_1,uJ.eq_1,hlt',hs,hRj,hp,hx,hw2])
  ·have hx':p l[j]=false:=by simpa using hx
   have ih:=ih (i+1) (j+1) (R.set i l[j]) (by omega) (by omega) (by simpa using hR) (by rw [List.drop_set_of_lt (by omega)];exact hd1)
   rw [if_neg hx,← ih]
   have hst:=ints_set R i l[j]
   (sym=>simp [Qc,Qd,Qe,Qi,Qj,Qm,Qn,Qp,Qq,Qr,Qt,Q4,Q5,Xa,Xd,Xs,Xy,X5,Ya,Yg,Yr,Yt,Yx,Y9,Za,Zb,Zc,Zd,Ze,Zg,Zh,Zm,Zn,Zt,Zv,Zw,Zx,Zy,Z0,Z1,Jj,Jk,Jn,Jo,Jr,Js,Jv,J3,Hh,Hk,H8,Ni,Nk,Nl,No,Nx,Nz,Be,zkS.eq_1,zlQ.eq_1,zkl.eq_1,zlR.eq_1,zeU.eq_1,zkF.eq_1,uJ.eq_1,hlt',hi',hs,hRj,hRi,hp,hx',hw,hw2,hst,List.set_set])
include hc
theorem zvG (hrow:h[id]? =some ⟨1,g,true,ints l⟩):
  aR G FT gT [.own id g 0 l.length c,.fn (.func ff) fs cs] h=some (.own id g 0 (l.filter fun x=> !p x).length c,
   h.set id ⟨1,g,true,ints ((l.filter fun x=> !p x)++List.replicate (l.length - (l.filter fun x=> !p x).length) 0)⟩):=by
 have hset:=zhB hrow
 have hp0:∀ x,aR G FT ff (fs++[AV.int .i64 x]++cs) h=some (.bool (p x),h):=fun x=>by have:=hp l x;rwa [hset] at this
 have hidx:∀ (j i:Nat),i<l.length→FB ((fun _=>h) j) 1 (.own id g 0 l.length c) (.int .i64 i)=some (.ptr id g i 0):=fun j i hi=>by
  have h4:(i:Int)<l.length:=by omega
  (sym=>simp [Yx,Zg,Zx,Zy,H8,Ni,Nk,Nz,hrow,h4])
 have hld:∀ (j i:Nat) (hi:i<l.length),UL ((fun _=>h) j) false 1 (.ptr id g i 0)=some (AV.int .i64 l[i]):=fun j i hi=>by
  have h4:=ints_at hi
  (sym=>simp [Yr,Yt,Zg,Zy,Z0,Hh,hrow,h4])
 rw [NS]
 rcases zbN p l with ⟨h1,h2⟩ | ⟨k,hk,h1,h2,h3⟩
 ·have key:=FY G l (fun x=>AV.int .i64 x) (.own id g 0 l.length c) (fun i=>.ptr id g i 0) ff fs cs (fun j=>p l[j]!) (fun _=>h) h.length (fun _=>rfl) (fun _=>hC) (by simpa [AV.ids] using hid) hF (by omega) rfl hidx hld
   (fun i hi=>by rw [hp0,getElem!_pos l i hi]) (fun j hj=>by rw [getElem!_pos l j hj];exact h1 _ (List.getElem_mem _))
  rw [h2,Nat.sub_self,List.replicate_zero,List.append_nil,hset]
  (sym=>simp [Qb,Qd,Qe,Qi,Qj,Qm,Qn,Qo,Qr,Qt,Xa,X8,Y1,Y5,Y7,Y9,Za,Zb,Zc,Ze,Zg,Zh,Zi,Zj,Zk,Zl,Zq,Zr,Zs,Zt,Zu,Zv,Zw,Jj,Jk,Jl,Jr,Jv,Jx,Nl,Be,zo5.eq_1,zqp.eq_1,zpz.eq_1,zqe.eq_1,zqB.eq_1,zlX.eq_1,zkq.eq_1,vD.eq_1,key])
 ·have key:=Fh G l (fun x=>AV.int .i64 x) (.own id g 0 l.length c) (fun i=>.ptr id g i 0) ff fs cs (fun j=>p l[j]!) (fun _=>h) h.length (fun _=>rfl) (fun _=>hC) (by simpa [AV.ids] using hid) hF (by omega) rfl hidx hld k hk
   (fun i hi _=>by rw [hp0,getElem!_pos l i hi]) (by rw [getElem!_pos l k hk];exact h1) (fun j hj=>by rw [getElem!_pos l j (by omega)];exact h2 j _ hj)
  have hw:=zH (n:=k) (by omega)
  have hk1:¬ ((k:Int)= -1):=by omega
  have loop:=zgk G l id g c ff fs cs p h hid hC hF hl hp (l.length - (k+1)) k (k+1) l (by omega) (by omega) rfl rfl
  obtain ⟨s1,s2,s3⟩:=Rt p (l.drop (k+1)) k l (by simp;omega)
  rw [hset] at loop
  generalize uZ p (l.drop (k+1)) k l=D at loop s1 s2 s3
  have hD:D.1=(l.filter fun x=> !p x).length:=by rw [s1,h3];simp;omega
  have hle:D.1≤l.length:=by rw [hD];exact List.length_filter_le _ _
  have hfin:D.2.take D.1++List.replicate (l.length - D.1) 0=(l.filter fun x=> !p x)++List.replicate (l.length - (l.filter fun x=> !p x).length) 0:=by rw [s3,h3,hD,h3]
  rw [← hfin,← hD]
  have hs:∀ r,(h.set id r)[id]? =some r:=fun r=>List.getElem?_set_self hid
  have e1:(ints D.2).drop (D.1+(l.length - D.1))=[]:=List.drop_eq_nil_of_le (by rw [zw,s2];omega)
  have e2:D.1+(l.length - D.1)≤l.length:=by omega
  have e3:(ints D.2).take D.1++List.replicate (l.length - D.1) [AV.int .i64 0]=ints (D.2.take D.1++List.replicate (l.length - D.1) 0):=by rw [uw,zdh];simp [ints]
  have f1:D.1≤c:=by omega
  (sym=>simp [Qb,Qc,Qd,Qe,Qi,Qj,Qm,Qn,Qo,Qr,Qt,Xa,Xl,Xm,Xn,X5,X8,Y1,Y5,Y7,Y9,Za,Zb,Zc,Zd,Ze,Zg,Zh,Zi,Zj,Zk,Zl,Zm,Zn,Zq,Zr,Zs,Zt,Zu,Zv,Zw,Zx,Zy,Zz,Z0,Z3,Jj,Jk,Jn,Jq,Jr,Jv,Jx,K0,K1,K2,Ue,Uf,Ug,W8,Hw,H8,Na,Nf,Ng,Ni,Nk,Nm,No,Nz,Bb,Be,zo5.eq_1,zqp.eq_1,zpz.eq_1,zqe.eq_1,zqB.eq_1,zlX.eq_1,zkq.eq_1,vD.eq_1,key,hk1,hw,loop,hs,zw,s2,hle,hc,f1,e1,e2,e3,List.set_set])
end
section
variable {α:Type} (l:List α) (vl:α→AV) (s:AV) (pt:Nat→AV) (ff:Nat) (fs cs:List AV) (p:Nat→Bool) (hh:Nat→List zf) (N:Nat)
 (hN:∀ j,(hh j).length=N) (hC:∀ j,vT (hh j)) (hS:∀ i ∈ s.ids,i<N) (hF:∀ i ∈ AV.idsL fs++AV.idsL cs,i<N) (hl:l.length<9223372036854775807)
 (hlen:zbi false s=some (.int .i64 l.length)) (hidx:∀ j (i:Nat),i<l.length→FB (hh j) 3 s (.int .i64 i)=some (pt i)) (hld:∀ j (i:Nat) (h:i<l.length),UL (hh j) true 3 (pt i)=some (vl l[i]))
include hN hC hS hF hl hidx hld
include hlen
end
theorem Pg (s f:AV) (h h':List zf) (n:Int) (hr:aR G FT yY [s,f] h=some (.int .i64 n,h')):aR G FT vk [s,f] h=some (.bool (decide (0≤n)),h'):=by
 rw [Rz]
 (sym=>simp [Qb,Qd,Qe,Qi,Qj,Qm,Qn,Qo,Qr,Xa,Yd,Y1,Y5,Y7,Y9,Za,Zb,Zc,Ze,Zg,Zh,Zi,Zj,Zk,Zl,Zq,Zr,Zs,Zt,Zu,Zv,Zw,Jj,Jk,Jv,Jx,Be,zDM.eq_1,zC6.eq_1,vo.eq_1,hr])
section
variable {α:Type} (l:List α) (vl:α→AV) (s:AV) (pt:Nat→AV) (ff:Nat) (fs cs:List AV) (p:Nat→Bool) (hh J:Nat→List zf) (N:Nat)
 (hN:∀ j,(hh j).length=N) (hC:∀ j,vT (hh j)) (hS:∀ i ∈ s.ids,i<N) (hF:∀ i ∈ AV.idsL fs++AV.idsL cs,i<N) (hl:l.length<9223372036854775807)
 (hlen:zbi false s=some (.int .i64 l.length)) (hidx:∀ j (i:Nat),i<l.length→FB (hh j) 3 s (.int .i64 i)=some (pt i)) (hld:∀ j (i:Nat) (h:i<l.length),UL (hh j) true 3 (pt i)=some (vl l[i]))
include hN hC hS hF hl hidx hld
theorem Fu (k:Nat) (hk:k<l.length) (hp:∀ i (h:i<l.length),i≤k→aR G FT ff (fs++[vl l[i]]++cs) (hh i)=some (.bool (p i),hh (i+1)++J i)) (hpk:p k=true) (hpj:∀ j,j<k→p j=false):∀ (m i:Nat),i+m=k→∀ e,
  aE G FT N zU ⟨[(0,s),(1,.fn (.func ff) fs cs),(7,.int .i64 l.length),(8,.int .i64 i)],hh i++e⟩=some (.ret,⟨[(4,.int .i64 k)],hh (k+1)++J k⟩):=by
 intro m
 induction m with
 | zero=>
  intro i hi e
  obtain rfl:i=k:=by omega
  rw [zU,zn,NY hN hC hS hF]
  have h1:=hidx i i hk
  have h2:=hld i i hk
  have h3:=hp i hk (Nat.le_refl _)
  rw [hpk] at h3
  have h4:(i:Int)<l.length:=by omega
  (sym=>simp [Qb,Qc,Qd,Qe,Qi,Qm,Qn,Qp,Qq,Qr,Qt,Q4,Xa,Xs,Ya,Y9,Za,Zb,Zc,Ze,Zg,Zh,Zt,Zv,Zw,Jj,Jk,Jl,Jn,Jp,Jr,Jt,Jv,Nl,Be,zfQ.eq_1,zgt.eq_1,zft.eq_1,zfN.eq_1,zfR.eq_1,vg.eq_1,h1,h2,h3,h4])
 | succ m ih=>
  intro i hi e
  have ih:=ih (i+1) (by omega) (J i)
  have hil:i<l.length:=by omega
  rw [zU] at ih
  rw [zU,zn,NY hN hC hS hF]
  have h1:=hidx i i hil
  have h2:=hld i i hil
  have h3:=hp i hil (by omega)
  rw [hpj i (by omega)] at h3
  have h4:(i:Int)<l.length:=by omega
  have hw:=zH (n:=i) (by omega)
  rw [← ih]
  (sym=>simp [Qc,Qd,Qe,Qi,Qj,Qm,Qn,Qp,Qq,Qr,Qt,Q4,Xa,Xs,X5,Ya,Y9,Za,Zb,Zc,Ze,Zg,Zh,Zt,Zv,Zw,Z3,Jj,Jk,Jn,Jo,Jr,Js,Jv,Nl,Be,zfQ.eq_1,zgt.eq_1,zft.eq_1,zfN.eq_1,zfR.eq_1,vg.eq_1,h1,h2,h3,h4,hw])
theorem FU (hp:∀ i (h:i<l.length),aR G FT ff (fs++[vl l[i]]++cs) (hh i)=some (.bool (p i),hh (i+1)++J i)) (hpj:∀ j,j<l.length→p j=false):∀ (m i:Nat),i+m=l.length→∀ e,
  aE G FT N zU ⟨[(0,s),(1,.fn (.func ff) fs cs),(7,.int .i64 l.length),(8,.int .i64 i)],hh i++e⟩=some (.exit 0,⟨[(0,s),(1,.fn (.func ff) fs cs),(7,.int .i64 l.length),(8,.int .i64 l.length),(9,.bool false)],hh l.length⟩):=by
 intro m
 induction m with
 | zero=>
  intro i hi e
  obtain rfl:i=l.length:=by omega
  rw [zU,zn,NY hN hC hS hF]
  have h4:¬ (l.length:Int)<l.length:=by omega
  (sym=>simp [Qa,Qd,Qe,Qi,Qt,Xa,Ya,Y9,Za,Zb,Zc,Ze,Zg,Zh,Zt,Zv,Zw,Z3,Jj,Jk,Jm,Jr,Ju,Jv,Nm,Be,zfQ.eq_1,zgt.eq_1,zft.eq_1,zfN.eq_1,zfR.eq_1,vg.eq_1,h4])
 | succ m ih=>
  intro i hi e
  have ih:=ih (i+1) (by omega) (J i)
  have hil:i<l.length:=by omega
  rw [zU] at ih
  rw [zU,zn,NY hN hC hS hF]
  have h1:=hidx i i hil
  have h2:=hld i i hil
  have h3:=hp i hil
  rw [hpj i (by omega)] at h3
  have h4:(i:Int)<l.length:=by omega
  have hw:=zH (n:=i) (by omega)
  rw [← ih]
  (sym=>simp [Qc,Qd,Qe,Qi,Qj,Qm,Qn,Qp,Qq,Qr,Qt,Q4,Xa,Xs,X5,Ya,Y9,Za,Zb,Zc,Ze,Zg,Zh,Zt,Zv,Zw,Z3,Jj,Jk,Jn,Jo,Jr,Js,Jv,Nl,Be,zfQ.eq_1,zgt.eq_1,zft.eq_1,zfN.eq_1,zfR.eq_1,vg.eq_1,h1,h2,h3,h4,hw])
include hlen
theorem SH (k:Nat) (hk:k<l.length) (hp:∀ i (h:i<l.length),i≤k→aR G FT ff (fs++[vl l[i]]++cs) (hh i)=some (.bool (p i),hh (i+1)++J i)) (hpk:p k=true) (hpj:∀ j,j<k→p j=false):
  aR G FT yY [s,.fn (.func ff) fs cs] (hh 0)=some (.int .i64 k,hh (k+1)++J k):=by
 have key:=Fu G l vl s pt ff fs cs p hh J N hN hC hS hF hl hidx hld k hk hp hpk hpj k 0 (by omega) []
 simp only [Int.natCast_zero,List.append_nil] at key
 rw [WU,hN 0]
 (sym=>simp [Qd,Qe,Qi,Qj,Qr,Xy,Y1,Y5,Y7,Y9,Za,Zb,Zc,Ze,Zg,Zh,Zi,Zj,Zk,Zl,Zr,Zs,Zt,Zu,Zv,Zw,Jj,Jk,Jl,Jn,Jp,Jv,Jx,Be,zou.eq_1,zqj.eq_1,zp1.eq_1,y8.eq_1,hlen,key])
theorem RQ (hp:∀ i (h:i<l.length),aR G FT ff (fs++[vl l[i]]++cs) (hh i)=some (.bool (p i),hh (i+1)++J i)) (hpj:∀ j,j<l.length→p j=false):
  aR G FT yY [s,.fn (.func ff) fs cs] (hh 0)=some (.int .i64 (-1),hh l.length):=by
 have key:=FU G l vl s pt ff fs cs p hh J N hN hC hS hF hl hidx hld hp hpj l.length 0 (by omega) []
 simp only [Int.natCast_zero,List.append_nil] at key
 rw [WU,hN 0]
 (sym=>simp [Qb,Qd,Qe,Qi,Qj,Qr,Xy,Y1,Y5,Y7,Y9,Za,Zb,Zc,Ze,Zg,Zh,Zi,Zj,Zk,Zl,Zr,Zs,Zt,Zu,Zv,Zw,Jj,Jk,Jn,Jq,Jv,Jx,Be,zou.eq_1,zqj.eq_1,zp1.eq_1,y8.eq_1,hlen,key])
end
section
variable {α:Type} (cl:α→List AV) (z0:α) (hz:cl z0=[.int .i64 0,.int .i64 0,.data false 1 [] true]) (hcl:∀ x,(cl x).length=3) (hst:∀ x,AV.stableL (cl x)=true)
variable (l:List α) (id g c ff:Nat) (fs cs:List AV) (p:α→Bool) (h:List zf) (hid:id<h.length) (hC:vT h) (hF:∀ i ∈ AV.idsL fs++AV.idsL cs,i<h.length) (hl:l.length<1000000) (hc:l.length≤c)
 (J:α→List zf) (hp:∀ R x e,aR G FT ff (fs++[AV.agg (cl x)]++cs) (h.set id ⟨3,g,true,List.map cl R⟩++e)=some (.bool (p x),h.set id ⟨3,g,true,List.map cl R⟩++(e++J x)))
include hid hC hF hl hp hcl hst
theorem zeC:∀ (m i j:Nat) (R:List α),j+m=l.length→i<j→R.length=l.length→R.drop j=l.drop j→∀ e,
  aE G FT h.length yQ ⟨[(0,.own id g 0 l.length c),(1,.fn (.func ff) fs cs),(5,.int .i64 i),(6,.int .i64 j)],h.set id ⟨3,g,true,List.map cl R⟩++e⟩=
   some (.exit 0,⟨[(0,.own id g 0 l.length c),(1,.fn (.func ff) fs cs),(5,.int .i64 (uZ p (l.drop j) i R).1),(6,.int .i64 l.length),(19,.bool false)],h.set id ⟨3,g,true,List.map cl (uZ p (l.drop j) i R).2⟩⟩):=by
 have hs:∀ r,(h.set id r)[id]? =some r:=fun r=>List.getElem?_set_self hid
 have hsa:∀ r e,(h.set id r++e)[id]? =some r:=fun r e=>by rw [List.getElem?_append_left (by simpa using hid)];exact hs r
 have hsv:∀ r v e,(h.set id r++v::e)[h.length]? =some v:=fun r v e=>by rw [List.getElem?_append_right (by simp)];simp
 have hss:∀ r r' e,(h.set id r++e).set id r'=h.set id r'++e:=fun r r' e=>by rw [List.set_append_left _ _ (by simpa using hid),List.set_set]
 have hvs:∀ r v v',(h.set id r++[v]).set h.length v'=h.set id r++[v']:=fun r v v'=>by rw [List.set_append_right _ _ (by simp)];simp
 have ha:∀ (R:List α) (i j:Int) e,_:=fun R i j e=>zkw (g:=g) (n:=l.length) (c:=c) (ff:=ff) (e:=e) hid (hC.set (id:=id) (r:=⟨3,g,true,List.map cl R⟩) rfl) hF i j
 intro m
 induction m with
 | zero=>
  intro i j R hj hij hR hd e'
  have e:l.drop j=[]:=List.drop_eq_nil_of_le (by omega)
  have ej:j=l.length:=by omega
  subst ej
  rw [yQ,zn,ha,e,uZ]
  have h4:¬ (l.length:Int)<l.length:=by omega
  (sym=>simp [Qa,Qd,Qe,Qi,Qr,Qt,Xa,Xy,Ya,Yg,Y9,Za,Zb,Zc,Ze,Zg,Zh,Zt,Zv,Zw,Z3,Jj,Jk,Jm,Jr,Ju,Jv,Nm,Be,zky.eq_1,zlu.eq_1,zkK.eq_1,zkf.eq_1,zeT.eq_1,zk3.eq_1,um.eq_1,h4])
 | succ m ih=>
  intro i j R hj hij hR hd e'
  have hlt:j<l.length:=by omega
  have hlt':(j:Int)<l.length:=by omega
  have hi':(i:Int)<l.length:=by omega
  have hiR:i<R.length:=by omega
  have e:l.drop j=l[j]::l.drop (j+1):=List.drop_eq_getElem_cons hlt
  have hRj:(List.map cl R)[j]? =some (cl l[j]):=by rw [List.getElem?_map,drop_at hd hlt];rfl
  obtain ⟨y,hRi⟩:∃ y,(List.map cl R)[i]? =some (cl y):=⟨R[i],by rw [List.getElem?_map,List.getElem?_eq_getElem hiR];rfl⟩
  have hd1:=zcP hd
  rw [yQ] at ih
  rw [yQ,zn,ha,e,uZ]
  have hw:=zH (n:=i) (by omega)
  have hw2:=zH (n:=j) (by omega)
  have hp:=hp R l[j]
  have hcx:=hcl l[j]
  have hsx:=hst l[j]
  have hcy:=hcl y
  have tkx:List.take 3 (cl l[j])=cl l[j]:=List.take_of_length_le (by omega)
  have tky:List.drop 3 (cl y)=[]:=List.drop_eq_nil_of_le (by omega)
  generalize l[j]=x at *
  by_cases hx:p x=true
  ·have ih:=fun e=>ih i (j+1) R (by omega) (by omega) hR hd1 e
   rw [if_pos hx]
   generalize uZ p (l.drop (j+1)) i R=DD at ih ⊢
   (sym=>simp [Qc,Qd,Qe,Qi,Qj,Qm,Qn,Qp,Qq,Qr,Qt,Qv,Q4,Q5,Xa,Xd,Xs,Xy,X5,Ya,Yg,Yr,Yu,Yx,Y9,Za,Zb,Zc,Zd,Ze,Zg,Zh,Zm,Zn,Zt,Zv,Zw,Zx,Zy,Z0,Z1,Z3,Jj,Jk,Jn,Jo,Jr,Js,Jv,J1,J2,Ue,Uf,Ug,Ul,Hh,Hk,Hn,Hp,Hr,Hs,Ht,Hu,Hv,Hw,H8,Ni,Nk,Nl,No,Nw,Nx,Nz,N0,Be,zky.eq_1,zlu.eq_1,zkK.eq_1,zkf.eq_1,zeT.eq_1,zk3.eq_1,um.eq_1,hlt',hs,hsa,hsv,hss,hvs,hRj,hp,hx,hw2,hcx,hsx,tkx];tactic=>(
    exact ih _))
  ·have hx':p x=false:=by simpa using hx
   have ih:=fun e=>ih (i+1) (j+1) (R.set i x) (by omega) (by omega) (by simpa using hR) (by rw [List.drop_set_of_lt (by omega)];exact hd1) e
   rw [if_neg hx]
   generalize uZ p (l.drop (j+1)) (i+1) (R.set i x)=DD at ih ⊢
   have hms:(List.map cl R).set i (cl x)=List.map cl (R.set i x):=by rw [List.map_set]
   (sym=>simp [Qc,Qd,Qe,Qi,Qj,Qm,Qn,Qp,Qq,Qr,Qt,Qv,Q4,Q5,Xa,Xd,Xs,Xy,X5,Ya,Yg,Yr,Yu,Yx,Y9,Za,Zb,Zc,Zd,Ze,Zg,Zh,Zm,Zn,Zt,Zv,Zw,Zx,Zy,Z0,Z1,Jj,Jk,Jn,Jo,Jr,Js,Jv,J1,J2,Ue,Uf,Ug,Ul,Hh,Hk,Hn,Hp,Hr,Hs,Ht,Hu,Hv,Hw,H8,Ni,Nk,Nl,No,Nx,Nz,N0,Be,zky.eq_1,zlu.eq_1,zkK.eq_1,zkf.eq_1,zeT.eq_1,zk3.eq_1,um.eq_1,hlt',hi',hs,hsa,hsv,hss,hvs,hRj,hRi,hp,hx',hw,hw2,hms,hcx,hsx,hcy,tkx,tky];tactic=>(
    exact ih _))
end
section
variable {α:Type} (cl:α→List AV) (z0:α) (hz:cl z0=[.int .i64 0,.int .i64 0,.data false 1 [] true]) (hcl:∀ x,(cl x).length=3) (hst:∀ x,AV.stableL (cl x)=true)
variable (l:List α) (id g c ff:Nat) (fs cs:List AV) (p:α→Bool) (h:List zf) (hid:id<h.length) (hC:vT h) (hF:∀ i ∈ AV.idsL fs++AV.idsL cs,i<h.length) (hl:l.length<1000000) (hc:l.length≤c)
 (J:α→List zf) (hp:∀ R x e,aR G FT ff (fs++[AV.agg (cl x)]++cs) (h.set id ⟨3,g,true,List.map cl R⟩++e)=some (.bool (p x),h.set id ⟨3,g,true,List.map cl R⟩++(e++J x)))
include hid hC hF hl hp hcl hst hz hc
theorem zqd (hrow:h[id]? =some ⟨3,g,true,List.map cl l⟩):
  aR G FT oM [.own id g 0 l.length c,.fn (.func ff) fs cs] h=some (.own id g 0 (l.filter fun x=> !p x).length c,
   h.set id ⟨3,g,true,List.map cl ((l.filter fun x=> !p x)++List.replicate (l.length - (l.filter fun x=> !p x).length) z0)⟩):=by
 have hset:=zhB hrow
 have hp0:∀ x,aR G FT ff (fs++[AV.agg (cl x)]++cs) h=some (.bool (p x),h++J x):=fun x=>by have:=hp l x [];simpa [hset] using this
 have hidx:∀ (j i:Nat),i<l.length→FB ((fun _=>h) j) 3 (.own id g 0 l.length c) (.int .i64 i)=some (.ptr id g i 0):=fun j i hi=>by
  have h4:(i:Int)<l.length:=by omega
  (sym=>simp [Yx,Zg,Zx,Zy,H8,Ni,Nk,Nz,hrow,h4])
 have hld:∀ (j i:Nat) (hi:i<l.length),UL ((fun _=>h) j) true 3 (.ptr id g i 0)=some (AV.agg (cl l[i])):=fun j i hi=>by
  have h4:(List.map cl l)[i]? =some (cl l[i]):=by rw [List.getElem?_map,List.getElem?_eq_getElem hi];rfl
  have hcx:=hcl l[i]
  have tkx:List.take 3 (cl l[i])=cl l[i]:=List.take_of_length_le (by omega)
  (sym=>simp [Yr,Yu,Zg,Zy,Z0,Hs,hrow,h4,hcx,tkx])
 rw [Pp]
 rcases zbN p l with ⟨h1,h2⟩ | ⟨k,hk,h1,h2,h3⟩
 ·have key:=RQ G l (fun x=>AV.agg (cl x)) (.own id g 0 l.length c) (fun i=>.ptr id g i 0) ff fs cs (fun _=>false) (fun _=>h) (fun i=>if hi:i<l.length then J l[i] else []) h.length (fun _=>rfl) (fun _=>hC) (by simpa [AV.ids] using hid) hF (by omega) rfl hidx hld
   (fun i hi=>by rw [hp0,h1 _ (List.getElem_mem _),dif_pos hi]) (fun j hj=>rfl)
  rw [h2,Nat.sub_self,List.replicate_zero,List.append_nil,hset]
  (sym=>simp [Qb,Qd,Qe,Qi,Qj,Qm,Qn,Qo,Qr,Qt,Xa,X8,Y1,Y5,Y7,Y9,Za,Zb,Zc,Ze,Zg,Zh,Zi,Zj,Zk,Zl,Zq,Zr,Zs,Zt,Zu,Zv,Zw,Jj,Jk,Jl,Jr,Jv,Jx,Nl,Be,zqR.eq_1,zqz.eq_1,zoK.eq_1,zpU.eq_1,zpo.eq_1,zlI.eq_1,zlx.eq_1,yH.eq_1,key])
 ·have key:=SH G l (fun x=>AV.agg (cl x)) (.own id g 0 l.length c) (fun i=>.ptr id g i 0) ff fs cs (fun j=>decide (j=k)) (fun _=>h) (fun i=>if hi:i<l.length then J l[i] else []) h.length (fun _=>rfl) (fun _=>hC) (by simpa [AV.ids] using hid) hF (by omega) rfl hidx hld k hk
   (fun i hi hik=>by
    rw [hp0,dif_pos hi]
    by_cases e:i=k
    ·subst e;simp [h1]
    ·simp [e,h2 i hi (by omega)]) (by simp) (fun j hj=>by simp;omega)
  rw [dif_pos hk] at key
  have hw:=zH (n:=k) (by omega)
  have hk1:¬ ((k:Int)= -1):=by omega
  have loop:=zeC G cl hcl hst l id g c ff fs cs p h hid hC hF hl J hp (l.length - (k+1)) k (k+1) l (by omega) (by omega) rfl rfl (J l[k])
  obtain ⟨s1,s2,s3⟩:=Rt p (l.drop (k+1)) k l (by simp;omega)
  rw [hset] at loop
  generalize uZ p (l.drop (k+1)) k l=D at loop s1 s2 s3
  have hD:D.1=(l.filter fun x=> !p x).length:=by rw [s1,h3];simp;omega
  have hle:D.1≤l.length:=by rw [hD];exact List.length_filter_le _ _
  have hfin:D.2.take D.1++List.replicate (l.length - D.1) z0=(l.filter fun x=> !p x)++List.replicate (l.length - (l.filter fun x=> !p x).length) z0:=by rw [s3,h3,hD,h3]
  rw [← hfin,← hD]
  have hs:∀ r,(h.set id r)[id]? =some r:=fun r=>List.getElem?_set_self hid
  have ml:(List.map cl D.2).length=l.length:=by rw [List.length_map,s2]
  have e1:(List.map cl D.2).drop (D.1+(l.length - D.1))=[]:=List.drop_eq_nil_of_le (by rw [ml];omega)
  have e2:D.1+(l.length - D.1)≤l.length:=by omega
  have e3:(List.map cl D.2).take D.1++List.replicate (l.length - D.1) (cl z0)=List.map cl (D.2.take D.1++List.replicate (l.length - D.1) z0):=by rw [List.map_append,List.map_take,List.map_replicate]
  rw [hz] at e3
  have f1:D.1≤c:=by omega
  (sym=>simp [Qb,Qc,Qd,Qe,Qi,Qj,Qm,Qn,Qo,Qr,Qt,Xa,Xl,Xm,Xn,X5,X8,Y1,Y5,Y7,Y9,Za,Zb,Zc,Zd,Ze,Zg,Zh,Zi,Zj,Zk,Zl,Zm,Zn,Zq,Zr,Zs,Zt,Zu,Zv,Zw,Zx,Zy,Zz,Z0,Z3,Jj,Jk,Jn,Jq,Jr,Jv,Jx,K0,K1,K2,Ue,Uf,Ug,Ul,W8,Hw,H8,Na,Nf,Ng,Ni,Nk,Nm,No,Nx,Nz,Bb,Be,zqR.eq_1,zqz.eq_1,zoK.eq_1,zpU.eq_1,zpo.eq_1,zlI.eq_1,zlx.eq_1,yH.eq_1,key,hk1,hw,loop,hs,ml,hle,hc,f1,e1,e2,e3,List.set_set])
end
section
variable {α:Type} (l:List α) (vl:α→AV) (s:AV) (pt:Nat→AV) (ff:Nat) (fs cs:List AV) (p:Nat→Bool) (hh:Nat→List zf) (N:Nat)
 (hN:∀ j,(hh j).length=N) (hC:∀ j,vT (hh j)) (hS:∀ i ∈ s.ids,i<N) (hF:∀ i ∈ AV.idsL fs++AV.idsL cs,i<N) (hl:l.length<9223372036854775807)
 (hlen:zbi false s=some (.int .i64 l.length)) (hidx:∀ j (i:Nat),i<l.length→FB (hh j) 4 s (.int .i64 i)=some (pt i)) (hld:∀ j (i:Nat) (h:i<l.length),UL (hh j) true 4 (pt i)=some (vl l[i]))
include hN hC hS hF hl hidx hld
include hlen
end
section
variable {α:Type} (l:List α) (vl:α→AV) (s:AV) (pt:Nat→AV) (ff:Nat) (fs cs:List AV) (p:Nat→Bool) (hh J:Nat→List zf) (N:Nat)
 (hN:∀ j,(hh j).length=N) (hC:∀ j,vT (hh j)) (hS:∀ i ∈ s.ids,i<N) (hF:∀ i ∈ AV.idsL fs++AV.idsL cs,i<N) (hl:l.length<9223372036854775807)
 (hlen:zbi false s=some (.int .i64 l.length)) (hidx:∀ j (i:Nat),i<l.length→FB (hh j) 4 s (.int .i64 i)=some (pt i)) (hld:∀ j (i:Nat) (h:i<l.length),UL (hh j) true 4 (pt i)=some (vl l[i]))
include hN hC hS hF hl hidx hld
include hlen
end
end
end Go.Proofs.YthcnhibjddomdaaGreat
namespace Go.Proofs.YthcnhibjddomdaaGreat
section
open Go
variable (G:Nat→Option (List AV))
def cm (m:Int×Int):List AV:=[.int .i64 m.1,.int .i64 m.2]
def mbs (l:List (Int×Int)):List (List AV):=List.map cm l
theorem uP:mbs []=[]:=rfl
theorem yM (l:List (Int×Int)):(mbs l).length=l.length:=by simp [mbs]
theorem Tf {l:List (Int×Int)} {i:Nat} (h:i<l.length):(mbs l)[i]? =some [.int .i64 l[i].1,.int .i64 l[i].2]:=by simp [mbs,h,cm]
theorem Iq (l m:List (Int×Int)):mbs (l++m)=mbs l++mbs m:=by simp [mbs]
theorem zk5 (m:Int×Int):mbs [m]=[[.int .i64 m.1,.int .i64 m.2]]:=rfl
theorem zAY (l:List (Int×Int)) (i:Nat):(mbs l).take i=mbs (l.take i):=by simp [mbs,List.map_take]
theorem zxa (l:List (Int×Int)) (i:Nat):(mbs l).drop i=mbs (l.drop i):=by simp [mbs,List.map_drop]
theorem zBO (l:List (Int×Int)) (i:Nat) (x:Int×Int):(mbs l).set i [.int .i64 x.1,.int .i64 x.2]=mbs (l.set i x):=by simp [mbs,List.map_set,cm]
def UE (r:Int):Bool:=decide (r=1)||decide (r=2)
theorem zpp (r:Int):aP G FT UR [.int .i64 r]=some (.bool (UE r)):=by
 unfold aP UE
 rw [zei]
 by_cases h1:r=1
 ·(sym=>simp [Qb,Qd,Qe,Qf,Qg,Qi,Qj,Qr,Qt,Qu,Xa,X8,Y1,Y5,Y7,Y9,Za,Zb,Zc,Ze,Zg,Zh,Zi,Zj,Zk,Zl,Zm,Zr,Zs,Zt,Zu,Zv,Zw,Z3,Jb,Jj,Jk,Jv,Jx,Wk,Nl,Nm,Nu,Nw,Be,zxx.eq_1,zyy.eq_1,YT.eq_1,h1])
 ·(sym=>simp [Qb,Qd,Qe,Qf,Qg,Qi,Qj,Qr,Qt,Qu,Xa,X8,Y1,Y5,Y7,Y9,Za,Zb,Zc,Ze,Zg,Zh,Zi,Zj,Zk,Zl,Zm,Zr,Zs,Zt,Zu,Zv,Zw,Z3,Jb,Jj,Jk,Jv,Jx,Wk,Nm,Nv,Nx,Be,zxx.eq_1,zyy.eq_1,YT.eq_1,h1])
def okM (last:Int) (m:Int×Int):Bool:=decide (last<m.1)&&decide (m.1≤8)&&UE m.2
def yO:Int→List (Int×Int)→Bool
 | _,[]=>true
 | last,m::t=>okM last m&&yO m.1 t
def y5 (l:List (Int×Int)):Bool:=yO 0 l
theorem zBb (last:Int) (m:Int×Int):aR G FT jv [.agg (cm m),.ptr 0 0 0 0] [⟨1,0,true,[[.int .i64 last]]⟩]=some (.bool (!okM last m),[⟨1,0,true,[[.int .i64 m.1]]⟩,⟨2,0,true,[cm m]⟩]):=by
 obtain ⟨a,r⟩:=m
 have hR:=zpp G r
 unfold cm okM
 rw [zcK]
 simp only
 by_cases h1:a≤last
 ·have h1':¬ last<a:=by omega
  (sym=>simp [Qb,Qd,Qe,Qf,Qg,Qi,Qj,Qr,Qt,Qu,Qw,Q4,Q5,Xa,Xp,Yb,Yj,Yr,Yt,Yv,Y1,Y5,Y7,Y9,Za,Zb,Zc,Zd,Ze,Zg,Zh,Zi,Zj,Zk,Zl,Zm,Zn,Zr,Zs,Zt,Zu,Zv,Zw,Zy,Z0,Z1,Z3,Jb,Jj,Jk,Jv,Jx,J3,Ue,Uf,Ug,Hh,Hi,Hk,Hu,Hv,Nl,Nm,No,Nr,Nw,Nx,Be,zsl.eq_1,ztA.eq_1,zth.eq_1,zrL.eq_1,jW.eq_1,h1,h1',hR])
 ·have h1':last<a:=by omega
  by_cases h8:8<a
  ·have h8':¬ a≤8:=by omega
   (sym=>simp [Qb,Qd,Qe,Qf,Qg,Qi,Qj,Qr,Qt,Qu,Qw,Q4,Q5,Xa,Xp,Yb,Yc,Yj,Yr,Yt,Yv,Y1,Y5,Y7,Y9,Za,Zb,Zc,Zd,Ze,Zg,Zh,Zi,Zj,Zk,Zl,Zm,Zn,Zr,Zs,Zt,Zu,Zv,Zw,Zy,Z0,Z1,Z3,Jb,Jj,Jk,Jv,Jx,J3,Ue,Uf,Ug,Hh,Hi,Hk,Hu,Hv,Nl,Nm,No,Nq,Nr,Nw,Nx,Be,zsl.eq_1,ztA.eq_1,zth.eq_1,zrL.eq_1,jW.eq_1,h1,h1',h8,h8',hR])
  ·have h8':a≤8:=by omega
   (sym=>simp [Qb,Qd,Qe,Qf,Qg,Qi,Qj,Qm,Qn,Qo,Qr,Qt,Qu,Qw,Q4,Q5,Xa,Xd,Xp,Yb,Yc,Yj,Yr,Yt,Yv,Y1,Y5,Y7,Y9,Za,Zb,Zc,Zd,Ze,Zg,Zh,Zi,Zj,Zk,Zl,Zm,Zn,Zo,Zr,Zs,Zt,Zu,Zv,Zw,Zy,Z0,Z1,Z3,Jb,Jj,Jk,Jv,Jx,J3,Ue,Uf,Ug,V6,Wd,We,Hh,Hi,Hk,Hu,Hv,Nl,Nm,No,Np,Nx,Be,zsl.eq_1,ztA.eq_1,zth.eq_1,zrL.eq_1,jW.eq_1,h1,h1',h8,h8',hR])
def oN (l:List (Int×Int)):Nat→Int
 | 0=>0
 | j+1=>(l.getD j (0,0)).1
theorem ziY:∀ (l:List (Int×Int)) (last:Int),yO last l=true↔∀ (i:Nat) (h:i<l.length),okM (match i with | 0=>last | j+1=>(l.getD j (0,0)).1) l[i]=true
 | [],last=>by simp [yO]
 | m::t,last=>by
  rw [yO,Bool.and_eq_true,ziY t m.1]
  constructor
  ·rintro ⟨h1,h2⟩ i hi
   cases i with
   | zero=>exact h1
   | succ i=>
    have:=h2 i (by simpa using hi)
    cases i with
    | zero=>simpa using this
    | succ i=>simpa using this
  ·intro h
   refine ⟨h 0 (by simp),fun i hi=> ?_⟩
   have:=h (i+1) (by simpa using hi)
   cases i with
   | zero=>simpa using this
   | succ i=>simpa using this
theorem zmR (l:List (Int×Int)):y5 l=true↔∀ (i:Nat) (h:i<l.length),okM (oN l i) l[i]=true:=by
 rw [y5,ziY]
 constructor
 ·intro h i hi
  have:=h i hi
  cases i<;>exact this
 ·intro h i hi
  have:=h i hi
  cases i<;>exact this
theorem zfU (p:Nat→Bool):∀ n,(∀ i,i<n→p i=false)∨∃ k,k<n∧p k=true∧∀ j,j<k→p j=false
 | 0=>.inl fun i h=>by omega
 | n+1=>by
  rcases zfU p n with h | ⟨k,h1,h2,h3⟩
  ·cases hn:p n with
   | true=>exact .inr ⟨n,by omega,hn,h⟩
   | false=>
    refine .inl fun i hi=> ?_
    by_cases e:i=n
    ·subst e;exact hn
    ·exact h i (by omega)
  ·exact .inr ⟨k,by omega,h2,h3⟩
theorem za7 (l:List (Int×Int)) (b f:Bool) (hl:l.length<1000000):aP G FT gm [.data b 2 (mbs l) f]=some (.bool (y5 l)):=by
 have hC:∀ j,vT ((fun j=>[⟨1,0,true,[[.int .i64 (oN l j)]]⟩]:Nat→List zf) j):=fun j r hr i hi=>by simp at hr;subst hr;simp [zf.ids] at hi
 have hidx:∀ (j i:Nat),i<l.length→FB ((fun j=>[⟨1,0,true,[[.int .i64 (oN l j)]]⟩]:Nat→List zf) j) 2 (.data b 2 (mbs l) f) (.int .i64 i)=some ((fun i=>.dptr ((mbs l).getD i [])) i):=fun j i hi=>by
  have h4:=Tf hi
  have h5:(mbs l).getD i []=[.int .i64 l[i].1,.int .i64 l[i].2]:=by rw [List.getD_eq_getElem?_getD,h4];rfl
  (sym=>simp [Yy,Zh,Ni,Nk,Ma,Mb,Md,Mf,h4,h5])
 have hld:∀ (j i:Nat) (hi:i<l.length),UL ((fun j=>[⟨1,0,true,[[.int .i64 (oN l j)]]⟩]:Nat→List zf) j) true 2 ((fun i=>.dptr ((mbs l).getD i [])) i)=some ((fun m=>AV.agg (cm m)) l[i]):=fun j i hi=>by
  have h5:(mbs l).getD i []=[.int .i64 l[i].1,.int .i64 l[i].2]:=by rw [List.getD_eq_getElem?_getD,Tf hi];rfl
  simp only [h5,cm]
  (sym=>simp [Ys,Yu,Zm,Zn,Ho,Hq,Hs])
 have hp:∀ i (h:i<l.length),aR G FT jv (([]:List AV)++[(fun m=>AV.agg (cm m)) l[i]]++[.ptr 0 0 0 0]) ((fun j=>[⟨1,0,true,[[.int .i64 (oN l j)]]⟩]:Nat→List zf) i)=
   some (.bool ((fun i=>if h:i<l.length then !okM (oN l i) l[i] else true) i),(fun j=>[⟨1,0,true,[[.int .i64 (oN l j)]]⟩]:Nat→List zf) (i+1)++(fun i=>if h:i<l.length then [⟨2,0,true,[cm l[i]]⟩] else []:Nat→List zf) i):=fun i hi=>by
  have e1:oN l (i+1)=l[i].1:=by rw [oN,List.getD_eq_getElem?_getD,List.getElem?_eq_getElem hi];rfl
  simp only [dif_pos hi,e1]
  exact zBb G (oN l i) l[i]
 have hlen:zbi false (.data b 2 (mbs l) f)=some (.int .i64 l.length):=by
  have:=yM l
  (sym=>simp [Yh,this])
 unfold aP
 rw [zgT]
 rcases zfU (fun i=>if h:i<l.length then !okM (oN l i) l[i] else true) l.length with hn | ⟨k,hk,hk1,hk2⟩
 ·have key:=KY G l (fun m=>AV.agg (cm m)) (.data b 2 (mbs l) f) (fun i=>.dptr ((mbs l).getD i [])) jv [] [.ptr 0 0 0 0] _ (fun j=>[⟨1,0,true,[[.int .i64 (oN l j)]]⟩]) _ 1 (fun _=>rfl) hC (by simp [AV.ids]) (by simp [AV.idsL,AV.ids]) (by omega) hlen hidx hld hp (fun j hj=>hn j hj)
  have hcf:=zav G _ _ _ _ _ key
  have hm:y5 l=true:=(zmR l).2 fun i hi=>by have:=hn i hi;simp only [dif_pos hi] at this;simpa using this
  rw [hm]
  have hcf:aR G FT yR [.data b 2 (mbs l) f,.fn (.func jv) [] [.ptr 0 0 0 0]] [⟨1,0,true,[[.int .i64 0]]⟩]=_:=hcf
  (sym=>simp [Qb,Qd,Qe,Qi,Qj,Qm,Qn,Qo,Qr,Qt,Qv,Q5,Xd,Xj,Y1,Y5,Y7,Y9,Za,Zb,Zc,Zd,Ze,Zg,Zh,Zi,Zj,Zk,Zl,Zm,Zn,Zq,Zr,Zs,Zt,Zu,Zv,Zw,Zy,Z0,Z1,Jj,Jk,Jv,Jx,J3,Ue,Uf,Ug,Wk,Hh,Hk,Hv,Nm,No,Nx,Be,zAf.eq_1,zyA.eq_1,zxQ.eq_1,Un.eq_1,hcf])
 ·have key:=LH G l (fun m=>AV.agg (cm m)) (.data b 2 (mbs l) f) (fun i=>.dptr ((mbs l).getD i [])) jv [] [.ptr 0 0 0 0] _ (fun j=>[⟨1,0,true,[[.int .i64 (oN l j)]]⟩]) _ 1 (fun _=>rfl) hC (by simp [AV.ids]) (by simp [AV.idsL,AV.ids]) (by omega) hlen hidx hld k hk (fun i hi _=>hp i hi) hk1 hk2
  have hcf:=zav G _ _ _ _ _ key
  have hm:y5 l=false:=by
   rw [Bool.eq_false_iff]
   intro hh
   have:=(zmR l).1 hh k hk
   simp only [dif_pos hk,this] at hk1
   simp at hk1
  rw [hm]
  have h0k:(0:Int)≤(k:Int):=by omega
  have hcf:aR G FT yR [.data b 2 (mbs l) f,.fn (.func jv) [] [.ptr 0 0 0 0]] [⟨1,0,true,[[.int .i64 0]]⟩]=_:=hcf
  (sym=>simp [Qb,Qd,Qe,Qi,Qj,Qm,Qn,Qo,Qr,Qt,Qv,Q5,Xd,Xj,Y1,Y5,Y7,Y9,Za,Zb,Zc,Zd,Ze,Zg,Zh,Zi,Zj,Zk,Zl,Zm,Zn,Zq,Zr,Zs,Zt,Zu,Zv,Zw,Zy,Z0,Z1,Jj,Jk,Jv,Jx,J3,Ue,Uf,Ug,Wk,Hh,Hk,Hu,Hv,Nk,Nl,No,Nw,Be,zAf.eq_1,zyA.eq_1,zxQ.eq_1,Un.eq_1,hcf,h0k])
end
end Go.Proofs.YthcnhibjddomdaaGreat
