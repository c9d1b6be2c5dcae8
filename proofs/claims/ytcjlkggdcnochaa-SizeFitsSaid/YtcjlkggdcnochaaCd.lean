/- The small machine's code of the seat's functions. Conditions: none. -/
import Derived.Test.YtcjlkggdcnochaaM3
set_option linter.unusedVariables false
set_option linter.unusedSimpArgs false
set_option linter.unusedSectionVars false
namespace Go.Proofs.Ytcjlkggdcnochaa
open Go

def n_law29_SizeFits : Nat := 4
def n_law29_known : Nat := 7
def n_size_Least : Nat := 8
def n_size_May : Nat := 10
def n_size_Set : Nat := 11
def n_size_member : Nat := 14
def n_size_side : Nat := 17
def n_size_window : Nat := 16
/- oriel/size.side -/
def q6R0 : List AOper := [⟨some 2, none, .mov (.const (.bool false))⟩]
def q6R1 : List AOper := [⟨some 3, none, .mov (.slot 0)⟩,
  ⟨some 4, none, .bin .geq (.slot 3) (.const (.int .i64 1))⟩,
  ⟨some 5, none, .mov (.slot 4)⟩,
  ⟨some 6, some (5, true), .mov (.slot 0)⟩,
  ⟨some 7, some (5, true), .bin .leq (.slot 6) (.const (.int .i64 1000))⟩,
  ⟨some 8, none, .pick (.slot 5) (.slot 7) (.const (.bool false))⟩,
  ⟨some 2, none, .mov (.slot 8)⟩]
def c_size_side : AFn := ⟨(.seq (.region q6R0 false [0]) (.seq (.region q6R1 false [2]) .ret)), [.slot 2]⟩
/- oriel/size.window -/
def q7R0 : List AOper := [⟨some 1, none, .box 2 (.slot 0)⟩,
  ⟨some 2, none, .mov (.const (.bool false))⟩]
def q7R1 : List AOper := [⟨some 3, none, .load true 2 (.slot 1)⟩,
  ⟨some 4, none, .build [.int .i64 0, .int .i64 0] []⟩,
  ⟨some 5, none, .eq true [.ki, .ki] false (.slot 3) (.slot 4)⟩,
  ⟨some 6, none, .mov (.slot 5)⟩,
  ⟨some 7, some (6, false), .idxarr 1 2 (.slot 1) (.const (.int .i64 0))⟩,
  ⟨some 8, some (6, false), .load false 1 (.slot 7)⟩,
  ⟨some 9, some (6, false), .call .frz n_size_side [(.slot 8)]⟩,
  ⟨some 10, some (6, false), .mov (.slot 9)⟩,
  ⟨some 11, some (10, true), .idxarr 1 2 (.slot 1) (.const (.int .i64 1))⟩,
  ⟨some 12, some (10, true), .load false 1 (.slot 11)⟩,
  ⟨some 13, some (10, true), .call .frz n_size_side [(.slot 12)]⟩,
  ⟨some 14, some (6, false), .pick (.slot 10) (.slot 13) (.const (.bool false))⟩,
  ⟨some 15, none, .pick (.slot 6) (.const (.bool true)) (.slot 14)⟩,
  ⟨some 2, none, .mov (.slot 15)⟩]
def c_size_window : AFn := ⟨(.seq (.region q7R0 false [1]) (.seq (.region q7R1 false [2]) .ret)), [.slot 2]⟩
/- oriel/size.May -/
def q3R0 : List AOper := [⟨some 1, none, .box 18 (.slot 0)⟩,
  ⟨some 2, none, .mov (.const (.bool false))⟩]
def q3R1 : List AOper := [⟨some 4, none, .mov (.const (.int .i64 0))⟩]
def q3R2 : List AOper := [⟨some 5, none, .bin .lss (.slot 4) (.const (.int .i64 9))⟩]
def q3R3 : List AOper := [⟨some 6, none, .mov (.slot 4)⟩,
  ⟨some 3, none, .mov (.slot 6)⟩]
def q3R4 : List AOper := [⟨some 7, none, .mov (.slot 3)⟩,
  ⟨some 8, none, .idxarr 2 9 (.slot 1) (.slot 7)⟩,
  ⟨some 9, none, .load true 2 (.slot 8)⟩,
  ⟨some 10, none, .call .frz n_size_window [(.slot 9)]⟩,
  ⟨some 11, none, .not (.slot 10)⟩,
  ⟨some 12, none, .mov (.slot 11)⟩,
  ⟨some 13, some (12, false), .mov (.slot 3)⟩,
  ⟨some 14, some (12, false), .bin .eql (.slot 13) (.const (.int .i64 0))⟩,
  ⟨some 15, some (12, false), .mov (.slot 14)⟩,
  ⟨some 16, some (15, true), .mov (.slot 3)⟩,
  ⟨some 17, some (15, true), .idxarr 2 9 (.slot 1) (.slot 16)⟩,
  ⟨some 18, some (15, true), .load true 2 (.slot 17)⟩,
  ⟨some 19, some (15, true), .build [.int .i64 0, .int .i64 0] []⟩,
  ⟨some 20, some (15, true), .eq true [.ki, .ki] true (.slot 18) (.slot 19)⟩,
  ⟨some 21, some (12, false), .pick (.slot 15) (.slot 20) (.const (.bool false))⟩,
  ⟨some 22, none, .pick (.slot 12) (.const (.bool true)) (.slot 21)⟩]
def q3R5 : List AOper := [⟨some 2, none, .mov (.const (.bool false))⟩]
def q3R6 : List AOper := [⟨some 23, none, .bin .add (.slot 4) (.const (.int .i64 1))⟩,
  ⟨some 4, none, .mov (.slot 23)⟩]
def c_size_May_L0 : ACode := (.seq (.region q3R2 false [1, 4, 5]) (.seq (.cond (.slot 5) .skip (.exit 0)) (.seq (.block 1 (.seq (.region q3R3 false [1, 3, 4]) (.seq (.region q3R4 false [1, 4, 22]) (.cond (.slot 22) (.seq (.region q3R5 false [2]) .ret) .skip)))) (.region q3R6 false [1, 4]))))
def lp_size_May_0 : ACode := .loop [1, 4] c_size_May_L0
def q3R7 : List AOper := [⟨some 2, none, .mov (.const (.bool true))⟩]
def c_size_May : AFn := ⟨(.seq (.region q3R0 false [1]) (.seq (.seq (.region q3R1 false [1, 4]) (.block 0 lp_size_May_0)) (.seq (.region q3R7 false [2]) .ret))), [.slot 2]⟩
/- oriel/size.member -/
def q5R0 : List AOper := [⟨some 2, none, .mov (.const (.bool false))⟩]
def q5R1 : List AOper := [⟨some 3, none, .mov (.slot 0)⟩,
  ⟨some 4, none, .bin .geq (.slot 3) (.const (.int .i64 1))⟩,
  ⟨some 5, none, .mov (.slot 4)⟩,
  ⟨some 6, some (5, true), .mov (.slot 0)⟩,
  ⟨some 7, some (5, true), .bin .leq (.slot 6) (.const (.int .i64 8))⟩,
  ⟨some 8, none, .pick (.slot 5) (.slot 7) (.const (.bool false))⟩,
  ⟨some 2, none, .mov (.slot 8)⟩]
def c_size_member : AFn := ⟨(.seq (.region q5R0 false [0]) (.seq (.region q5R1 false [2]) .ret)), [.slot 2]⟩
/- oriel/size.Least -/
def q2R0 : List AOper := [⟨some 3, none, .box 18 (.slot 0)⟩,
  ⟨some 5, none, .box 2 (.slot 2)⟩,
  ⟨some 6, none, .alloc [.int .i64 0, .int .i64 0]⟩]
def q2R1 : List AOper := [⟨some 12, none, .load true 18 (.slot 3)⟩,
  ⟨some 13, none, .call .frz n_size_May [(.slot 12)]⟩,
  ⟨some 14, none, .not (.slot 13)⟩]
def q2R2 : List AOper := [⟨some 15, none, .load true 2 (.slot 5)⟩,
  ⟨none, none, .store true 2 (.slot 6) (.slot 15)⟩]
def q2R3 : List AOper := [⟨some 16, none, .build [.int .i64 0, .int .i64 0] [(0, 1, (.const (.int .i64 24))), (1, 1, (.const (.int .i64 40)))]⟩,
  ⟨some 7, none, .alloc [.int .i64 0, .int .i64 0]⟩,
  ⟨none, none, .store true 2 (.slot 7) (.slot 16)⟩,
  ⟨some 8, none, .mov (.const (.bool false))⟩]
def q2R4 : List AOper := [⟨some 17, none, .mov (.slot 1)⟩,
  ⟨some 18, none, .len false (.slot 17)⟩,
  ⟨some 19, none, .mov (.const (.int .i64 0))⟩]
def q2R5 : List AOper := [⟨some 20, none, .bin .lss (.slot 19) (.slot 18)⟩]
def q2R6 : List AOper := [⟨some 21, none, .idx 1 (.slot 17) (.slot 19)⟩,
  ⟨some 22, none, .load false 1 (.slot 21)⟩,
  ⟨some 10, none, .mov (.slot 22)⟩]
def q2R7 : List AOper := [⟨some 23, none, .mov (.slot 10)⟩,
  ⟨some 24, none, .call .frz n_size_member [(.slot 23)]⟩,
  ⟨some 25, none, .not (.slot 24)⟩,
  ⟨some 26, none, .mov (.slot 25)⟩,
  ⟨some 27, some (26, false), .mov (.slot 10)⟩,
  ⟨some 28, some (26, false), .idxarr 2 9 (.slot 3) (.slot 27)⟩,
  ⟨some 29, some (26, false), .load true 2 (.slot 28)⟩,
  ⟨some 30, some (26, false), .build [.int .i64 0, .int .i64 0] []⟩,
  ⟨some 31, some (26, false), .eq true [.ki, .ki] false (.slot 29) (.slot 30)⟩,
  ⟨some 32, none, .pick (.slot 26) (.const (.bool true)) (.slot 31)⟩]
def q2R8 : List AOper := [⟨some 8, none, .mov (.const (.bool true))⟩]
def q2R9 : List AOper := [⟨some 33, none, .mov (.const (.int .i64 0))⟩]
def q2R10 : List AOper := [⟨some 34, none, .bin .lss (.slot 33) (.const (.int .i64 2))⟩]
def q2R11 : List AOper := [⟨some 35, none, .mov (.slot 33)⟩,
  ⟨some 11, none, .mov (.slot 35)⟩]
def q2R12 : List AOper := [⟨some 36, none, .mov (.slot 11)⟩,
  ⟨some 37, none, .mov (.slot 11)⟩,
  ⟨some 38, none, .idxarr 1 2 (.slot 7) (.slot 37)⟩,
  ⟨some 39, none, .load false 1 (.slot 38)⟩,
  ⟨some 40, none, .mov (.slot 10)⟩,
  ⟨some 41, none, .mov (.slot 11)⟩,
  ⟨some 42, none, .idxarr 2 9 (.slot 3) (.slot 40)⟩,
  ⟨some 43, none, .idxarr 1 2 (.slot 42) (.slot 41)⟩,
  ⟨some 44, none, .load false 1 (.slot 43)⟩,
  ⟨some 45, none, .min (.slot 39) (.slot 44)⟩,
  ⟨some 46, none, .idxarr 1 2 (.slot 7) (.slot 36)⟩,
  ⟨none, none, .store false 1 (.slot 46) (.slot 45)⟩]
def q2R13 : List AOper := [⟨some 47, none, .bin .add (.slot 33) (.const (.int .i64 1))⟩,
  ⟨some 33, none, .mov (.slot 47)⟩]
def c_size_Least_L1 : ACode := (.seq (.region q2R10 false [3, 5, 6, 7, 8, 10, 17, 18, 19, 33, 34]) (.seq (.cond (.slot 34) .skip (.exit 2)) (.seq (.block 3 (.seq (.region q2R11 false [3, 5, 6, 7, 8, 10, 11, 17, 18, 19, 33]) (.region q2R12 true [3, 5, 6, 7, 8, 10, 17, 18, 19, 33]))) (.region q2R13 false [3, 5, 6, 7, 8, 10, 17, 18, 19, 33]))))
def lp_size_Least_1 : ACode := .loop [3, 5, 6, 7, 8, 10, 17, 18, 19, 33] c_size_Least_L1
def q2R14 : List AOper := [⟨some 48, none, .bin .add (.slot 19) (.const (.int .i64 1))⟩,
  ⟨some 19, none, .mov (.slot 48)⟩]
def c_size_Least_L0 : ACode := (.seq (.region q2R5 false [3, 5, 6, 7, 8, 17, 18, 19, 20]) (.seq (.cond (.slot 20) .skip (.exit 0)) (.seq (.block 1 (.seq (.region q2R6 false [3, 5, 6, 7, 8, 10, 17, 18, 19]) (.seq (.seq (.region q2R7 false [3, 5, 6, 7, 8, 10, 17, 18, 19, 32]) (.cond (.slot 32) (.exit 1) .skip)) (.seq (.region q2R8 false [3, 5, 6, 7, 8, 10, 17, 18, 19]) (.seq (.region q2R9 false [3, 5, 6, 7, 8, 10, 17, 18, 19, 33]) (.block 2 lp_size_Least_1)))))) (.region q2R14 false [3, 5, 6, 7, 8, 17, 18, 19]))))
def lp_size_Least_0 : ACode := .loop [3, 5, 6, 7, 8, 17, 18, 19] c_size_Least_L0
def q2R15 : List AOper := [⟨some 49, none, .mov (.slot 8)⟩,
  ⟨some 50, none, .not (.slot 49)⟩]
def q2R16 : List AOper := [⟨some 51, none, .load true 2 (.slot 5)⟩,
  ⟨none, none, .store true 2 (.slot 6) (.slot 51)⟩]
def q2R17 : List AOper := [⟨some 52, none, .load true 2 (.slot 7)⟩,
  ⟨none, none, .store true 2 (.slot 6) (.slot 52)⟩]
def c_size_Least : AFn := ⟨(.seq (.region q2R0 false [1, 3, 5, 6]) (.seq (.seq (.region q2R1 false [1, 3, 5, 6, 14]) (.cond (.slot 14) (.seq (.region q2R2 false [6]) .ret) .skip)) (.seq (.region q2R3 false [1, 3, 5, 6, 7, 8]) (.seq (.seq (.region q2R4 false [3, 5, 6, 7, 8, 17, 18, 19]) (.block 0 lp_size_Least_0)) (.seq (.seq (.region q2R15 false [5, 6, 7, 50]) (.cond (.slot 50) (.seq (.region q2R16 false [6]) .ret) .skip)) (.seq (.region q2R17 false [6]) .ret)))))), [.cell 6 true 2]⟩
/- oriel/size.Set -/
def q4R0 : List AOper := [⟨some 4, none, .box 18 (.slot 0)⟩,
  ⟨some 8, none, .alloc [.int .i64 0, .int .i64 0, .int .i64 0, .int .i64 0, .int .i64 0, .int .i64 0, .int .i64 0, .int .i64 0, .int .i64 0, .int .i64 0, .int .i64 0, .int .i64 0, .int .i64 0, .int .i64 0, .int .i64 0, .int .i64 0, .int .i64 0, .int .i64 0]⟩,
  ⟨some 9, none, .mov (.const (.int .i64 0))⟩]
def q4R1 : List AOper := [⟨some 10, none, .load true 18 (.slot 4)⟩,
  ⟨some 11, none, .call .frz n_size_May [(.slot 10)]⟩,
  ⟨some 12, none, .not (.slot 11)⟩,
  ⟨some 13, none, .mov (.slot 12)⟩,
  ⟨some 14, some (13, false), .mov (.slot 1)⟩,
  ⟨some 15, some (13, false), .call .frz n_size_member [(.slot 14)]⟩,
  ⟨some 16, some (13, false), .not (.slot 15)⟩,
  ⟨some 17, none, .pick (.slot 13) (.const (.bool true)) (.slot 16)⟩,
  ⟨some 18, none, .mov (.slot 17)⟩,
  ⟨some 19, some (18, false), .mov (.slot 2)⟩,
  ⟨some 20, some (18, false), .call .frz n_size_side [(.slot 19)]⟩,
  ⟨some 21, some (18, false), .not (.slot 20)⟩,
  ⟨some 22, none, .pick (.slot 18) (.const (.bool true)) (.slot 21)⟩,
  ⟨some 23, none, .mov (.slot 22)⟩,
  ⟨some 24, some (23, false), .mov (.slot 3)⟩,
  ⟨some 25, some (23, false), .call .frz n_size_side [(.slot 24)]⟩,
  ⟨some 26, some (23, false), .not (.slot 25)⟩,
  ⟨some 27, none, .pick (.slot 23) (.const (.bool true)) (.slot 26)⟩]
def q4R2 : List AOper := [⟨some 28, none, .build [.int .i64 0, .int .i64 0, .int .i64 0, .int .i64 0, .int .i64 0, .int .i64 0, .int .i64 0, .int .i64 0, .int .i64 0, .int .i64 0, .int .i64 0, .int .i64 0, .int .i64 0, .int .i64 0, .int .i64 0, .int .i64 0, .int .i64 0, .int .i64 0] []⟩,
  ⟨none, none, .store true 18 (.slot 8) (.slot 28)⟩,
  ⟨some 9, none, .mov (.const (.int .i64 2))⟩]
def q4R3 : List AOper := [⟨some 29, none, .mov (.slot 1)⟩,
  ⟨some 30, none, .mov (.slot 2)⟩,
  ⟨some 31, none, .mov (.slot 3)⟩,
  ⟨some 32, none, .build [.int .i64 0, .int .i64 0] [(0, 1, (.slot 30)), (1, 1, (.slot 31))]⟩,
  ⟨some 33, none, .idxarr 2 9 (.slot 4) (.slot 29)⟩,
  ⟨none, none, .store true 2 (.slot 33) (.slot 32)⟩]
def q4R4 : List AOper := [⟨some 34, none, .load true 18 (.slot 4)⟩,
  ⟨none, none, .store true 18 (.slot 8) (.slot 34)⟩,
  ⟨some 9, none, .mov (.const (.int .i64 0))⟩]
def c_size_Set : AFn := ⟨(.seq (.region q4R0 false [1, 2, 3, 4, 8]) (.seq (.seq (.region q4R1 false [1, 2, 3, 4, 8, 27]) (.cond (.slot 27) (.seq (.region q4R2 false [8, 9]) .ret) .skip)) (.seq (.region q4R3 false [4, 8]) (.seq (.region q4R4 false [8, 9]) .ret)))), [.cell 8 true 18, .slot 9]⟩
/- oriel/oriellaw29.known -/
def q1R0 : List AOper := [⟨some 0, none, .mov (.const (.bool false))⟩]
def q1R1 : List AOper := [⟨some 5, none, .build [.int .i64 0, .int .i64 0, .int .i64 0, .int .i64 0, .int .i64 0, .int .i64 0, .int .i64 0, .int .i64 0, .int .i64 0, .int .i64 0, .int .i64 0, .int .i64 0, .int .i64 0, .int .i64 0, .int .i64 0, .int .i64 0, .int .i64 0, .int .i64 0] []⟩,
  ⟨some 6, none, .call .frz n_size_Set [(.slot 5), (.const (.int .i64 3)), (.const (.int .i64 30)), (.const (.int .i64 20))]⟩,
  ⟨some 4, none, .mov (.slot 6)⟩,
  ⟨some 7, none, .extract 0 (.slot 4)⟩,
  ⟨some 8, none, .extract 1 (.slot 4)⟩,
  ⟨some 1, none, .alloc [.int .i64 0, .int .i64 0, .int .i64 0, .int .i64 0, .int .i64 0, .int .i64 0, .int .i64 0, .int .i64 0, .int .i64 0, .int .i64 0, .int .i64 0, .int .i64 0, .int .i64 0, .int .i64 0, .int .i64 0, .int .i64 0, .int .i64 0, .int .i64 0]⟩,
  ⟨none, none, .store true 18 (.slot 1) (.slot 7)⟩,
  ⟨some 2, none, .mov (.slot 8)⟩]
def q1R2 : List AOper := [⟨some 10, none, .load true 18 (.slot 1)⟩,
  ⟨some 11, none, .call .frz n_size_Set [(.slot 10), (.const (.int .i64 5)), (.const (.int .i64 10)), (.const (.int .i64 100))]⟩,
  ⟨some 9, none, .mov (.slot 11)⟩,
  ⟨some 12, none, .extract 0 (.slot 9)⟩,
  ⟨some 13, none, .extract 1 (.slot 9)⟩,
  ⟨none, none, .store true 18 (.slot 1) (.slot 12)⟩,
  ⟨some 3, none, .mov (.slot 13)⟩]
def q1R3 : List AOper := ⟨some 14, none, .mov (.slot 2)⟩ ::
  ⟨some 15, none, .bin .eql (.slot 14) (.const (.int .i64 0))⟩ ::
  ⟨some 16, none, .mov (.slot 15)⟩ ::
  ⟨some 17, some (16, true), .mov (.slot 3)⟩ ::
  ⟨some 18, some (16, true), .bin .eql (.slot 17) (.const (.int .i64 0))⟩ ::
  ⟨some 19, none, .pick (.slot 16) (.slot 18) (.const (.bool false))⟩ ::
  ⟨some 20, none, .mov (.slot 19)⟩ ::
  ⟨some 21, some (20, true), .load true 18 (.slot 1)⟩ ::
  ⟨some 22, some (20, true), .mkslice 1 2 [.int .i64 0] [(0, (.const (.int .i64 5))), (1, (.const (.int .i64 3)))]⟩ ::
  ⟨some 23, some (20, true), .build [.int .i64 0, .int .i64 0] []⟩ ::
  ⟨some 24, some (20, true), .call .frz n_size_Least [(.slot 21), (.slot 22), (.slot 23)]⟩ ::
  ⟨some 25, some (20, true), .build [.int .i64 0, .int .i64 0] [(0, 1, (.const (.int .i64 10))), (1, 1, (.const (.int .i64 20)))]⟩ ::
  ⟨some 26, some (20, true), .eq true [.ki, .ki] false (.slot 24) (.slot 25)⟩ ::
  ⟨some 27, none, .pick (.slot 20) (.slot 26) (.const (.bool false))⟩ ::
  ⟨some 28, none, .mov (.slot 27)⟩ ::
  ⟨some 29, some (28, true), .load true 18 (.slot 1)⟩ ::
  ⟨some 30, some (28, true), .mkslice 1 1 [.int .i64 0] [(0, (.const (.int .i64 5)))]⟩ ::
  ⟨some 31, some (28, true), .build [.int .i64 0, .int .i64 0] []⟩ ::
  ⟨some 32, some (28, true), .call .frz n_size_Least [(.slot 29), (.slot 30), (.slot 31)]⟩ ::
  ⟨some 33, some (28, true), .build [.int .i64 0, .int .i64 0] [(0, 1, (.const (.int .i64 10))), (1, 1, (.const (.int .i64 40)))]⟩ ::
  ⟨some 34, some (28, true), .eq true [.ki, .ki] false (.slot 32) (.slot 33)⟩ ::
  ⟨some 35, none, .pick (.slot 28) (.slot 34) (.const (.bool false))⟩ ::
  ⟨some 36, none, .mov (.slot 35)⟩ ::
  ⟨some 37, some (36, true), .load true 18 (.slot 1)⟩ ::
  ⟨some 38, some (36, true), .mkslice 1 1 [.int .i64 0] [(0, (.const (.int .i64 7)))]⟩ ::
  ⟨some 39, some (36, true), .build [.int .i64 0, .int .i64 0] [(0, 1, (.const (.int .i64 4))), (1, 1, (.const (.int .i64 4)))]⟩ ::
  ⟨some 40, some (36, true), .call .frz n_size_Least [(.slot 37), (.slot 38), (.slot 39)]⟩ ::
  ⟨some 41, some (36, true), .build [.int .i64 0, .int .i64 0] [(0, 1, (.const (.int .i64 4))), (1, 1, (.const (.int .i64 4)))]⟩ ::
  ⟨some 42, some (36, true), .eq true [.ki, .ki] false (.slot 40) (.slot 41)⟩ ::
  ⟨some 43, none, .pick (.slot 36) (.slot 42) (.const (.bool false))⟩ ::
  ⟨some 0, none, .mov (.slot 43)⟩ :: []
def c_law29_known : AFn := ⟨(.seq (.region q1R0 false []) (.seq (.region q1R1 false [1, 2]) (.seq (.region q1R2 false [1, 2, 3]) (.seq (.region q1R3 false [0]) .ret)))), [.slot 0]⟩
/- oriel/oriellaw29.SizeFits -/
def q0R0 : List AOper := [⟨some 3, none, .box 18 (.slot 0)⟩,
  ⟨some 6, none, .mov (.const (.bool false))⟩]
def q0R1 : List AOper := [⟨some 17, none, .call .frz n_law29_known []⟩,
  ⟨some 18, none, .not (.slot 17)⟩]
def q0R2 : List AOper := [⟨some 6, none, .mov (.const (.bool false))⟩]
def q0R3 : List AOper := [⟨some 19, none, .load true 18 (.slot 3)⟩,
  ⟨some 20, none, .call .frz n_size_May [(.slot 19)]⟩,
  ⟨some 21, none, .not (.slot 20)⟩,
  ⟨some 22, none, .mov (.slot 21)⟩,
  ⟨some 23, some (22, false), .mov (.slot 1)⟩,
  ⟨some 24, some (22, false), .len false (.slot 23)⟩,
  ⟨some 25, some (22, false), .bin .gtr (.slot 24) (.const (.int .i64 50))⟩,
  ⟨some 26, none, .pick (.slot 22) (.const (.bool true)) (.slot 25)⟩]
def q0R4 : List AOper := [⟨some 6, none, .mov (.const (.bool true))⟩]
def q0R5 : List AOper := [⟨some 27, none, .build [.int .i64 0, .int .i64 0] [(0, 1, (.const (.int .i64 (-1)))), (1, 1, (.const (.int .i64 (-1))))]⟩,
  ⟨some 7, none, .alloc [.int .i64 0, .int .i64 0]⟩,
  ⟨none, none, .store true 2 (.slot 7) (.slot 27)⟩]
def q0R6 : List AOper := [⟨some 28, none, .load true 18 (.slot 3)⟩,
  ⟨some 29, none, .mov (.slot 1)⟩,
  ⟨some 30, none, .load true 2 (.slot 7)⟩,
  ⟨some 31, none, .call .frz n_size_Least [(.slot 28), (.slot 29), (.slot 30)]⟩,
  ⟨some 8, none, .alloc [.int .i64 0, .int .i64 0]⟩,
  ⟨none, none, .store true 2 (.slot 8) (.slot 31)⟩]
def q0R7 : List AOper := [⟨some 9, none, .mknil 1⟩]
def q0R8 : List AOper := [⟨some 10, none, .mov (.const (.bool false))⟩]
def q0R9 : List AOper := [⟨some 11, none, .mov (.const (.int .i64 0))⟩]
def q0R10 : List AOper := [⟨some 32, none, .mov (.slot 11)⟩,
  ⟨some 33, none, .mov (.slot 1)⟩,
  ⟨some 34, none, .len false (.slot 33)⟩,
  ⟨some 35, none, .bin .lss (.slot 32) (.slot 34)⟩]
def q0R12 : List AOper := [⟨some 38, none, .mov (.slot 9)⟩,
  ⟨some 39, none, .mov (.slot 1)⟩,
  ⟨some 40, none, .mov (.slot 1)⟩,
  ⟨some 41, none, .len false (.slot 40)⟩,
  ⟨some 42, none, .bin .sub (.slot 41) (.const (.int .i64 1))⟩,
  ⟨some 43, none, .mov (.slot 11)⟩,
  ⟨some 44, none, .bin .sub (.slot 42) (.slot 43)⟩,
  ⟨some 45, none, .idx 1 (.slot 39) (.slot 44)⟩,
  ⟨some 46, none, .load false 1 (.slot 45)⟩,
  ⟨some 47, none, .mov (.slot 1)⟩,
  ⟨some 48, none, .mov (.slot 11)⟩,
  ⟨some 49, none, .idx 1 (.slot 47) (.slot 48)⟩,
  ⟨some 50, none, .load false 1 (.slot 49)⟩,
  ⟨some 51, none, .mkslice 1 2 [.int .i64 0] [(0, (.slot 46)), (1, (.slot 50))]⟩,
  ⟨some 52, none, .append 1 8 (.slot 38) (.slot 51)⟩,
  ⟨some 9, none, .mov (.slot 52)⟩]
def q0R13 : List AOper := [⟨some 53, none, .mov (.slot 10)⟩,
  ⟨some 54, none, .mov (.slot 53)⟩,
  ⟨some 55, some (54, false), .mov (.slot 1)⟩,
  ⟨some 56, some (54, false), .mov (.slot 11)⟩,
  ⟨some 57, some (54, false), .idx 1 (.slot 55) (.slot 56)⟩,
  ⟨some 58, some (54, false), .load false 1 (.slot 57)⟩,
  ⟨some 59, some (54, false), .bin .geq (.slot 58) (.const (.int .i64 1))⟩,
  ⟨some 60, some (54, false), .mov (.slot 59)⟩,
  ⟨some 61, some (60, true), .mov (.slot 1)⟩,
  ⟨some 62, some (60, true), .mov (.slot 11)⟩,
  ⟨some 63, some (60, true), .idx 1 (.slot 61) (.slot 62)⟩,
  ⟨some 64, some (60, true), .load false 1 (.slot 63)⟩,
  ⟨some 65, some (60, true), .bin .leq (.slot 64) (.const (.int .i64 8))⟩,
  ⟨some 66, some (54, false), .pick (.slot 60) (.slot 65) (.const (.bool false))⟩,
  ⟨some 67, some (54, false), .mov (.slot 66)⟩,
  ⟨some 68, some (67, true), .mov (.slot 1)⟩,
  ⟨some 69, some (67, true), .mov (.slot 11)⟩,
  ⟨some 70, some (67, true), .idx 1 (.slot 68) (.slot 69)⟩,
  ⟨some 71, some (67, true), .load false 1 (.slot 70)⟩,
  ⟨some 72, some (67, true), .idxarr 2 9 (.slot 3) (.slot 71)⟩,
  ⟨some 73, some (67, true), .load true 2 (.slot 72)⟩,
  ⟨some 74, some (67, true), .build [.int .i64 0, .int .i64 0] []⟩,
  ⟨some 75, some (67, true), .eq true [.ki, .ki] true (.slot 73) (.slot 74)⟩,
  ⟨some 76, some (54, false), .pick (.slot 67) (.slot 75) (.const (.bool false))⟩,
  ⟨some 77, none, .pick (.slot 54) (.const (.bool true)) (.slot 76)⟩,
  ⟨some 10, none, .mov (.slot 77)⟩]
def q0R11 : List AOper := [⟨some 36, none, .mov (.slot 11)⟩,
  ⟨some 37, none, .bin .add (.slot 36) (.const (.int .i64 1))⟩,
  ⟨some 11, none, .mov (.slot 37)⟩]
def c_law29_SizeFits_L0 : ACode := (.seq (.seq (.region q0R10 false [1, 2, 3, 7, 8, 9, 10, 11, 35]) (.cond (.slot 35) .skip (.exit 0))) (.seq (.block 1 (.seq (.region q0R12 true [1, 2, 3, 7, 8, 9, 10, 11]) (.region q0R13 false [1, 2, 3, 7, 8, 9, 10, 11]))) (.region q0R11 false [1, 2, 3, 7, 8, 9, 10, 11])))
def lp_law29_SizeFits_0 : ACode := .loop [1, 2, 3, 7, 8, 9, 10, 11] c_law29_SizeFits_L0
def q0R14 : List AOper := [⟨some 78, none, .load true 18 (.slot 3)⟩,
  ⟨some 79, none, .mkslice 1 0 [.int .i64 0] []⟩,
  ⟨some 80, none, .mov (.slot 1)⟩,
  ⟨some 82, none, .mov (.slot 2)⟩,
  ⟨some 83, none, .mkslice 1 1 [.int .i64 0] [(0, (.slot 82))]⟩,
  ⟨some 85, none, .load true 2 (.slot 7)⟩,
  ⟨some 12, none, .alloc [.int .i64 0, .int .i64 0]⟩,
  ⟨some 81, none, .append 1 8 (.slot 79) (.slot 80)⟩,
  ⟨some 84, none, .append 1 8 (.slot 81) (.slot 83)⟩,
  ⟨some 86, none, .call .frz n_size_Least [(.slot 78), (.slot 84), (.slot 85)]⟩,
  ⟨none, none, .store true 2 (.slot 12) (.slot 86)⟩]
def q0R15 : List AOper := [⟨some 87, none, .load true 18 (.slot 3)⟩,
  ⟨some 88, none, .mov (.slot 9)⟩,
  ⟨some 89, none, .load true 2 (.slot 7)⟩,
  ⟨some 90, none, .call .frz n_size_Least [(.slot 87), (.slot 88), (.slot 89)]⟩,
  ⟨some 91, none, .load true 2 (.slot 8)⟩,
  ⟨some 92, none, .eq true [.ki, .ki] true (.slot 90) (.slot 91)⟩,
  ⟨some 93, none, .mov (.slot 92)⟩,
  ⟨some 94, some (93, false), .mov (.slot 10)⟩,
  ⟨some 95, some (93, false), .load true 2 (.slot 8)⟩,
  ⟨some 96, some (93, false), .load true 2 (.slot 7)⟩,
  ⟨some 97, some (93, false), .eq true [.ki, .ki] false (.slot 95) (.slot 96)⟩,
  ⟨some 98, some (93, false), .eq false [.kb] false (.slot 94) (.slot 97)⟩,
  ⟨some 99, none, .pick (.slot 93) (.const (.bool true)) (.slot 98)⟩]
def q0R16 : List AOper := [⟨some 6, none, .mov (.const (.bool false))⟩]
def q0R17 : List AOper := [⟨some 100, none, .mov (.slot 10)⟩,
  ⟨some 101, none, .not (.slot 100)⟩]
def q0R18 : List AOper := [⟨some 6, none, .mov (.const (.bool true))⟩]
def q0R19 : List AOper := [⟨some 102, none, .build [.int .i64 0, .int .i64 0] [(0, 1, (.const (.int .i64 24))), (1, 1, (.const (.int .i64 40)))]⟩,
  ⟨some 13, none, .alloc [.int .i64 0, .int .i64 0]⟩,
  ⟨none, none, .store true 2 (.slot 13) (.slot 102)⟩]
def q0R20 : List AOper := [⟨some 14, none, .mov (.const (.int .i64 0))⟩]
def q0R21 : List AOper := [⟨some 103, none, .mov (.slot 14)⟩,
  ⟨some 104, none, .bin .lss (.slot 103) (.const (.int .i64 2))⟩]
def q0R23 : List AOper := [⟨some 107, none, .mov (.slot 14)⟩,
  ⟨some 108, none, .idxarr 1 2 (.slot 8) (.slot 107)⟩,
  ⟨some 109, none, .load false 1 (.slot 108)⟩,
  ⟨some 110, none, .mov (.slot 14)⟩,
  ⟨some 111, none, .idxarr 1 2 (.slot 13) (.slot 110)⟩,
  ⟨some 112, none, .load false 1 (.slot 111)⟩,
  ⟨some 113, none, .bin .eql (.slot 109) (.slot 112)⟩,
  ⟨some 15, none, .mov (.slot 113)⟩]
def q0R24 : List AOper := [⟨some 16, none, .mov (.const (.int .i64 0))⟩]
def q0R25 : List AOper := [⟨some 114, none, .mov (.slot 16)⟩,
  ⟨some 115, none, .mov (.slot 1)⟩,
  ⟨some 116, none, .len false (.slot 115)⟩,
  ⟨some 117, none, .bin .lss (.slot 114) (.slot 116)⟩]
def q0R27 : List AOper := [⟨some 120, none, .mov (.slot 1)⟩,
  ⟨some 121, none, .mov (.slot 16)⟩,
  ⟨some 122, none, .idx 1 (.slot 120) (.slot 121)⟩,
  ⟨some 123, none, .load false 1 (.slot 122)⟩,
  ⟨some 124, none, .bin .lss (.slot 123) (.const (.int .i64 1))⟩,
  ⟨some 125, none, .mov (.slot 124)⟩,
  ⟨some 126, some (125, false), .mov (.slot 1)⟩,
  ⟨some 127, some (125, false), .mov (.slot 16)⟩,
  ⟨some 128, some (125, false), .idx 1 (.slot 126) (.slot 127)⟩,
  ⟨some 129, some (125, false), .load false 1 (.slot 128)⟩,
  ⟨some 130, some (125, false), .bin .gtr (.slot 129) (.const (.int .i64 8))⟩,
  ⟨some 131, none, .pick (.slot 125) (.const (.bool true)) (.slot 130)⟩,
  ⟨some 132, none, .mov (.slot 131)⟩,
  ⟨some 133, some (132, false), .mov (.slot 1)⟩,
  ⟨some 134, some (132, false), .mov (.slot 16)⟩,
  ⟨some 135, some (132, false), .idx 1 (.slot 133) (.slot 134)⟩,
  ⟨some 136, some (132, false), .load false 1 (.slot 135)⟩,
  ⟨some 137, some (132, false), .idxarr 2 9 (.slot 3) (.slot 136)⟩,
  ⟨some 138, some (132, false), .load true 2 (.slot 137)⟩,
  ⟨some 139, some (132, false), .build [.int .i64 0, .int .i64 0] []⟩,
  ⟨some 140, some (132, false), .eq true [.ki, .ki] false (.slot 138) (.slot 139)⟩,
  ⟨some 141, none, .pick (.slot 132) (.const (.bool true)) (.slot 140)⟩]
def q0R28 : List AOper := [⟨some 142, none, .mov (.slot 14)⟩,
  ⟨some 143, none, .idxarr 1 2 (.slot 8) (.slot 142)⟩,
  ⟨some 144, none, .load false 1 (.slot 143)⟩,
  ⟨some 145, none, .mov (.slot 1)⟩,
  ⟨some 146, none, .mov (.slot 16)⟩,
  ⟨some 147, none, .idx 1 (.slot 145) (.slot 146)⟩,
  ⟨some 148, none, .load false 1 (.slot 147)⟩,
  ⟨some 149, none, .mov (.slot 14)⟩,
  ⟨some 150, none, .idxarr 2 9 (.slot 3) (.slot 148)⟩,
  ⟨some 151, none, .idxarr 1 2 (.slot 150) (.slot 149)⟩,
  ⟨some 152, none, .load false 1 (.slot 151)⟩,
  ⟨some 153, none, .bin .gtr (.slot 144) (.slot 152)⟩]
def q0R29 : List AOper := [⟨some 6, none, .mov (.const (.bool false))⟩]
def q0R30 : List AOper := [⟨some 154, none, .mov (.slot 15)⟩,
  ⟨some 155, none, .mov (.slot 154)⟩,
  ⟨some 156, some (155, false), .mov (.slot 14)⟩,
  ⟨some 157, some (155, false), .idxarr 1 2 (.slot 8) (.slot 156)⟩,
  ⟨some 158, some (155, false), .load false 1 (.slot 157)⟩,
  ⟨some 159, some (155, false), .mov (.slot 1)⟩,
  ⟨some 160, some (155, false), .mov (.slot 16)⟩,
  ⟨some 161, some (155, false), .idx 1 (.slot 159) (.slot 160)⟩,
  ⟨some 162, some (155, false), .load false 1 (.slot 161)⟩,
  ⟨some 163, some (155, false), .mov (.slot 14)⟩,
  ⟨some 164, some (155, false), .idxarr 2 9 (.slot 3) (.slot 162)⟩,
  ⟨some 165, some (155, false), .idxarr 1 2 (.slot 164) (.slot 163)⟩,
  ⟨some 166, some (155, false), .load false 1 (.slot 165)⟩,
  ⟨some 167, some (155, false), .bin .eql (.slot 158) (.slot 166)⟩,
  ⟨some 168, none, .pick (.slot 155) (.const (.bool true)) (.slot 167)⟩,
  ⟨some 15, none, .mov (.slot 168)⟩]
def q0R26 : List AOper := [⟨some 118, none, .mov (.slot 16)⟩,
  ⟨some 119, none, .bin .add (.slot 118) (.const (.int .i64 1))⟩,
  ⟨some 16, none, .mov (.slot 119)⟩]
def c_law29_SizeFits_L2 : ACode := (.seq (.seq (.region q0R25 false [1, 3, 8, 12, 13, 14, 15, 16, 117]) (.cond (.slot 117) .skip (.exit 4))) (.seq (.block 5 (.seq (.seq (.region q0R27 false [1, 3, 8, 12, 13, 14, 15, 16, 141]) (.cond (.slot 141) (.exit 5) .skip)) (.seq (.seq (.region q0R28 true [1, 3, 8, 12, 13, 14, 15, 16, 153]) (.cond (.slot 153) (.seq (.region q0R29 false [6]) .ret) .skip)) (.region q0R30 true [1, 3, 8, 12, 13, 14, 15, 16])))) (.region q0R26 false [1, 3, 8, 12, 13, 14, 15, 16])))
def lp_law29_SizeFits_2 : ACode := .loop [1, 3, 8, 12, 13, 14, 15, 16] c_law29_SizeFits_L2
def q0R31 : List AOper := [⟨some 169, none, .mov (.slot 15)⟩,
  ⟨some 170, none, .not (.slot 169)⟩,
  ⟨some 171, none, .mov (.slot 170)⟩,
  ⟨some 172, some (171, false), .mov (.slot 14)⟩,
  ⟨some 173, some (171, false), .idxarr 1 2 (.slot 8) (.slot 172)⟩,
  ⟨some 174, some (171, false), .load false 1 (.slot 173)⟩,
  ⟨some 175, some (171, false), .mov (.slot 14)⟩,
  ⟨some 176, some (171, false), .idxarr 1 2 (.slot 13) (.slot 175)⟩,
  ⟨some 177, some (171, false), .load false 1 (.slot 176)⟩,
  ⟨some 178, some (171, false), .bin .gtr (.slot 174) (.slot 177)⟩,
  ⟨some 179, none, .pick (.slot 171) (.const (.bool true)) (.slot 178)⟩,
  ⟨some 180, none, .mov (.slot 179)⟩,
  ⟨some 181, some (180, false), .mov (.slot 14)⟩,
  ⟨some 182, some (180, false), .idxarr 1 2 (.slot 8) (.slot 181)⟩,
  ⟨some 183, some (180, false), .load false 1 (.slot 182)⟩,
  ⟨some 184, some (180, false), .bin .lss (.slot 183) (.const (.int .i64 1))⟩,
  ⟨some 185, none, .pick (.slot 180) (.const (.bool true)) (.slot 184)⟩,
  ⟨some 186, none, .mov (.slot 185)⟩,
  ⟨some 187, some (186, false), .mov (.slot 14)⟩,
  ⟨some 188, some (186, false), .idxarr 1 2 (.slot 12) (.slot 187)⟩,
  ⟨some 189, some (186, false), .load false 1 (.slot 188)⟩,
  ⟨some 190, some (186, false), .mov (.slot 14)⟩,
  ⟨some 191, some (186, false), .idxarr 1 2 (.slot 8) (.slot 190)⟩,
  ⟨some 192, some (186, false), .load false 1 (.slot 191)⟩,
  ⟨some 193, some (186, false), .bin .gtr (.slot 189) (.slot 192)⟩,
  ⟨some 194, none, .pick (.slot 186) (.const (.bool true)) (.slot 193)⟩]
def q0R32 : List AOper := [⟨some 6, none, .mov (.const (.bool false))⟩]
def q0R22 : List AOper := [⟨some 105, none, .mov (.slot 14)⟩,
  ⟨some 106, none, .bin .add (.slot 105) (.const (.int .i64 1))⟩,
  ⟨some 14, none, .mov (.slot 106)⟩]
def c_law29_SizeFits_L1 : ACode := (.seq (.seq (.region q0R21 false [1, 3, 8, 12, 13, 14, 104]) (.cond (.slot 104) .skip (.exit 2))) (.seq (.block 3 (.seq (.region q0R23 true [1, 3, 8, 12, 13, 14, 15]) (.seq (.seq (.region q0R24 false [1, 3, 8, 12, 13, 14, 15, 16]) (.block 4 lp_law29_SizeFits_2)) (.seq (.region q0R31 true [1, 3, 8, 12, 13, 14, 194]) (.cond (.slot 194) (.seq (.region q0R32 false [6]) .ret) .skip))))) (.region q0R22 false [1, 3, 8, 12, 13, 14])))
def lp_law29_SizeFits_1 : ACode := .loop [1, 3, 8, 12, 13, 14] c_law29_SizeFits_L1
def q0R33 : List AOper := [⟨some 6, none, .mov (.const (.bool true))⟩]
def c_law29_SizeFits : AFn := ⟨(.seq (.region q0R0 false [1, 2, 3]) (.seq (.seq (.region q0R1 false [1, 2, 3, 18]) (.cond (.slot 18) (.seq (.region q0R2 false [6]) .ret) .skip)) (.seq (.seq (.region q0R3 false [1, 2, 3, 26]) (.cond (.slot 26) (.seq (.region q0R4 false [6]) .ret) .skip)) (.seq (.region q0R5 false [1, 2, 3, 7]) (.seq (.region q0R6 false [1, 2, 3, 7, 8]) (.seq (.region q0R7 false [1, 2, 3, 7, 8, 9]) (.seq (.region q0R8 false [1, 2, 3, 7, 8, 9, 10]) (.seq (.seq (.region q0R9 false [1, 2, 3, 7, 8, 9, 10, 11]) (.block 0 lp_law29_SizeFits_0)) (.seq (.regionQ q0R14 [0, 1, 2, 4, 5, 7, 9, 3, 6, 8, 10] [(0, [7, 8, 10]), (4, [7, 8]), (5, [7, 8, 10]), (6, [7, 8, 10])] [1, 3, 7, 8, 9, 10, 12]) (.seq (.seq (.region q0R15 true [1, 3, 8, 10, 12, 99]) (.cond (.slot 99) (.seq (.region q0R16 false [6]) .ret) .skip)) (.seq (.seq (.region q0R17 false [1, 3, 8, 12, 101]) (.cond (.slot 101) (.seq (.region q0R18 false [6]) .ret) .skip)) (.seq (.region q0R19 false [1, 3, 8, 12, 13]) (.seq (.seq (.region q0R20 false [1, 3, 8, 12, 13, 14]) (.block 2 lp_law29_SizeFits_1)) (.seq (.region q0R33 false [6]) .ret)))))))))))))), [.slot 6]⟩
/-- The seat's functions. -/
def FT : Nat → Option AEnt
  | 17 => some (.fn c_size_side)
  | 16 => some (.fn c_size_window)
  | 10 => some (.fn c_size_May)
  | 14 => some (.fn c_size_member)
  | 8 => some (.fn c_size_Least)
  | 11 => some (.fn c_size_Set)
  | 7 => some (.fn c_law29_known)
  | 4 => some (.fn c_law29_SizeFits)
  | _ => none
variable (G : Nat → Option (List AV)) (args : List AV) (h : List ARow)
theorem run_size_side : aR G FT n_size_side args h = (aE G FT h.length c_size_side.body ⟨aenter args, h⟩).bind (afinish c_size_side.res) := y_fn G FT rfl args h
theorem run_size_window : aR G FT n_size_window args h = (aE G FT h.length c_size_window.body ⟨aenter args, h⟩).bind (afinish c_size_window.res) := y_fn G FT rfl args h
theorem run_size_May : aR G FT n_size_May args h = (aE G FT h.length c_size_May.body ⟨aenter args, h⟩).bind (afinish c_size_May.res) := y_fn G FT rfl args h
theorem run_size_member : aR G FT n_size_member args h = (aE G FT h.length c_size_member.body ⟨aenter args, h⟩).bind (afinish c_size_member.res) := y_fn G FT rfl args h
theorem run_size_Least : aR G FT n_size_Least args h = (aE G FT h.length c_size_Least.body ⟨aenter args, h⟩).bind (afinish c_size_Least.res) := y_fn G FT rfl args h
theorem run_law29_SizeFits : aR G FT n_law29_SizeFits args h = (aE G FT h.length c_law29_SizeFits.body ⟨aenter args, h⟩).bind (afinish c_law29_SizeFits.res) := y_fn G FT rfl args h
end Go.Proofs.Ytcjlkggdcnochaa
