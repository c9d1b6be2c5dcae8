/- The small machine's code of the seat's functions. Conditions: none. -/
import Derived.Test.YtmmkjbcklghopaaDoorM3
set_option linter.unusedVariables false
set_option linter.unusedSimpArgs false
set_option linter.unusedSectionVars false
namespace Go.Proofs.YtmmkjbcklghopaaDoor
open Go

def n_cols_Of : Nat := 58
def n_cols_Of_1 : Nat := 75
def n_grid_Erase : Nat := 20
def n_grid_Erase_1 : Nat := 47
def n_grid_May : Nat := 22
def n_grid_May_1 : Nat := 53
def n_grid_Scroll : Nat := 16
def n_grid_With : Nat := 27
def n_grid_copied : Nat := 42
def n_grid_side : Nat := 51
def n_law15_GridWith : Nat := 7
def n_law15_GridWith_1 : Nat := 28
def n_law15_GridWith_2 : Nat := 30
def n_law15_abc : Nat := 40
def n_law15_fine : Nat := 15
def n_law15_great : Nat := 13
def n_law15_known : Nat := 12
def n_line_Blank : Nat := 43
def n_line_Erase : Nat := 48
def n_line_May : Nat := 54
def n_line_Put : Nat := 31
def n_line_blank : Nat := 69
def n_line_fine : Nat := 57
def n_line_marked : Nat := 77
def n_line_may : Nat := 73
def n_line_torn : Nat := 59
def n_math_bits_Mul : Nat := 76
def n_math_bits_Mul32 : Nat := 78
def n_math_bits_Mul64 : Nat := 79
def n_pen_May : Nat := 41
def n_pen_May_1 : Nat := 67
def n_ref12_May : Nat := 55
def n_ref13_Of : Nat := 33
def n_ref13_in : Nat := 61
def n_ref14_Blank : Nat := 70
def n_ref14_Cell : Nat := 71
def n_ref14_May : Nat := 46
def n_ref14_Pen : Nat := 24
def n_ref14_Put : Nat := 32
def n_ref14_Same : Nat := 45
def n_ref14_Tear : Nat := 60
def n_ref15_Copy : Nat := 14
def n_ref15_May : Nat := 19
def n_ref15_Same : Nat := 18
def n_ref15_Side : Nat := 23
def n_ref15_With : Nat := 29
def n_slices_Clone_Cell : Nat := 56
def n_slices_ContainsFunc_LCell : Nat := 52
def n_slices_IndexFunc_LCell : Nat := 72
def n_slices_Repeat_Cell : Nat := 68
def n_sort_Search : Nat := 74
/- oriel/grid.side -/
def q14R0 : List AOper := [⟨some 2, none, .mov (.const (.bool false))⟩]
def q14R1 : List AOper := [⟨some 3, none, .mov (.slot 0)⟩,
  ⟨some 4, none, .bin .geq (.slot 3) (.const (.int .i64 1))⟩,
  ⟨some 5, none, .mov (.slot 4)⟩,
  ⟨some 6, some (5, true), .mov (.slot 0)⟩,
  ⟨some 7, some (5, true), .bin .leq (.slot 6) (.const (.int .i64 200))⟩,
  ⟨some 8, none, .pick (.slot 5) (.slot 7) (.const (.bool false))⟩,
  ⟨some 2, none, .mov (.slot 8)⟩]
def c_grid_side : AFn := ⟨(.seq (.region q14R0 false [0]) (.seq (.region q14R1 false [2]) .ret)), [.slot 2]⟩
/- slices.IndexFunc[[][]oriel/api.Cell,[]oriel/api.Cell] -/
def q74R0 : List AOper := [⟨some 4, none, .mov (.const (.int .i64 0))⟩]
def q74R1 : List AOper := [⟨some 6, none, .mov (.slot 0)⟩,
  ⟨some 7, none, .len false (.slot 6)⟩,
  ⟨some 8, none, .mov (.const (.int .i64 0))⟩]
def q74R2 : List AOper := [⟨some 9, none, .bin .lss (.slot 8) (.slot 7)⟩]
def q74R3 : List AOper := [⟨some 10, none, .mov (.slot 8)⟩,
  ⟨some 5, none, .mov (.slot 10)⟩]
def q74R4 : List AOper := [⟨some 11, none, .mov (.slot 1)⟩,
  ⟨some 12, none, .mov (.slot 0)⟩,
  ⟨some 13, none, .mov (.slot 5)⟩,
  ⟨some 14, none, .idx 1 (.slot 12) (.slot 13)⟩,
  ⟨some 15, none, .load false 1 (.slot 14)⟩,
  ⟨some 16, none, .callv (.slot 11) [(.slot 15)]⟩]
def q74R5 : List AOper := [⟨some 17, none, .mov (.slot 5)⟩,
  ⟨some 4, none, .mov (.slot 17)⟩]
def q74R6 : List AOper := [⟨some 18, none, .bin .add (.slot 8) (.const (.int .i64 1))⟩,
  ⟨some 8, none, .mov (.slot 18)⟩]
def c_slices_IndexFunc_LCell_L0 : ACode := (.seq (.region q74R2 false [0, 1, 7, 8, 9]) (.seq (.cond (.slot 9) .skip (.exit 0)) (.seq (.block 1 (.seq (.region q74R3 false [0, 1, 5, 7, 8]) (.seq (.region q74R4 false [0, 1, 5, 7, 8, 16]) (.cond (.slot 16) (.seq (.region q74R5 false [4]) .ret) .skip)))) (.region q74R6 false [0, 1, 7, 8]))))
def lp_slices_IndexFunc_LCell_0 : ACode := .loop [0, 1, 7, 8] c_slices_IndexFunc_LCell_L0
def q74R7 : List AOper := [⟨some 4, none, .mov (.const (.int .i64 (-1)))⟩]
def c_slices_IndexFunc_LCell : AFn := ⟨(.seq (.region q74R0 false [0, 1]) (.seq (.seq (.region q74R1 false [0, 1, 7, 8]) (.block 0 lp_slices_IndexFunc_LCell_0)) (.seq (.region q74R7 false [4]) .ret))), [.slot 4]⟩
/- slices.ContainsFunc[[][]oriel/api.Cell,[]oriel/api.Cell] -/
def q71R0 : List AOper := [⟨some 4, none, .mov (.const (.bool false))⟩]
def q71R1 : List AOper := [⟨some 5, none, .mov (.slot 0)⟩,
  ⟨some 6, none, .mov (.slot 1)⟩,
  ⟨some 7, none, .call .inl n_slices_IndexFunc_LCell [(.slot 5), (.slot 6)]⟩,
  ⟨some 8, none, .bin .geq (.slot 7) (.const (.int .i64 0))⟩,
  ⟨some 4, none, .mov (.slot 8)⟩]
def c_slices_ContainsFunc_LCell : AFn := ⟨(.seq (.region q71R0 false [0, 1]) (.seq (.region q71R1 false [4]) .ret)), [.slot 4]⟩
/- oriel/pen.May'1 -/
def q44R0 : List AOper := [⟨some 4, none, .mov (.const (.bool false))⟩]
def q44R1 : List AOper := [⟨some 5, none, .mov (.slot 0)⟩,
  ⟨some 6, none, .bin .geq (.slot 5) (.const (.int .i64 0))⟩,
  ⟨some 7, none, .mov (.slot 6)⟩,
  ⟨some 8, some (7, true), .mov (.slot 0)⟩,
  ⟨some 9, some (7, true), .mov (.slot 1)⟩,
  ⟨some 10, some (7, true), .bin .leq (.slot 8) (.slot 9)⟩,
  ⟨some 11, none, .pick (.slot 7) (.slot 10) (.const (.bool false))⟩,
  ⟨some 4, none, .mov (.slot 11)⟩]
def c_pen_May_1 : AFn := ⟨(.seq (.region q44R0 false [0, 1]) (.seq (.region q44R1 false [4]) .ret)), [.slot 4]⟩
/- oriel/pen.May -/
def q43R0 : List AOper := [⟨some 1, none, .box 3 (.slot 0)⟩,
  ⟨some 2, none, .mov (.const (.bool false))⟩]
def q43R1 : List AOper := [⟨some 3, none, .mov (.func n_pen_May_1)⟩]
def q43R2 : List AOper := [⟨some 4, none, .mov (.slot 3)⟩,
  ⟨some 5, none, .faddr 0 (.slot 1)⟩,
  ⟨some 6, none, .load false 1 (.slot 5)⟩,
  ⟨some 7, none, .callv (.slot 4) [(.slot 6), (.const (.int .i64 255))]⟩,
  ⟨some 8, none, .mov (.slot 7)⟩,
  ⟨some 9, some (8, true), .mov (.slot 3)⟩,
  ⟨some 10, some (8, true), .faddr 1 (.slot 1)⟩,
  ⟨some 11, some (8, true), .load false 1 (.slot 10)⟩,
  ⟨some 12, some (8, true), .callv (.slot 9) [(.slot 11), (.const (.int .i64 256))]⟩,
  ⟨some 13, none, .pick (.slot 8) (.slot 12) (.const (.bool false))⟩,
  ⟨some 14, none, .mov (.slot 13)⟩,
  ⟨some 15, some (14, true), .mov (.slot 3)⟩,
  ⟨some 16, some (14, true), .faddr 2 (.slot 1)⟩,
  ⟨some 17, some (14, true), .load false 1 (.slot 16)⟩,
  ⟨some 18, some (14, true), .callv (.slot 15) [(.slot 17), (.const (.int .i64 256))]⟩,
  ⟨some 19, none, .pick (.slot 14) (.slot 18) (.const (.bool false))⟩,
  ⟨some 2, none, .mov (.slot 19)⟩]
def c_pen_May : AFn := ⟨(.seq (.region q43R0 false [1]) (.seq (.region q43R1 false [1, 3]) (.seq (.region q43R2 false [2]) .ret))), [.slot 2]⟩
/- sort.Search -/
def q76R0 : List AOper := [⟨some 4, none, .mov (.const (.int .i64 0))⟩]
def q76R1 : List AOper := [⟨some 8, none, .mov (.slot 0)⟩,
  ⟨some 5, none, .mov (.const (.int .i64 0))⟩,
  ⟨some 6, none, .mov (.slot 8)⟩]
def q76R2 : List AOper := [⟨some 9, none, .mov (.slot 5)⟩,
  ⟨some 10, none, .mov (.slot 6)⟩,
  ⟨some 11, none, .bin .lss (.slot 9) (.slot 10)⟩]
def q76R3 : List AOper := [⟨some 12, none, .mov (.slot 5)⟩,
  ⟨some 13, none, .mov (.slot 6)⟩,
  ⟨some 14, none, .bin .add (.slot 12) (.slot 13)⟩,
  ⟨some 15, none, .conv .u64 (.slot 14)⟩,
  ⟨some 16, none, .bin .shr (.slot 15) (.const (.int .u64 1))⟩,
  ⟨some 17, none, .conv .i64 (.slot 16)⟩,
  ⟨some 7, none, .mov (.slot 17)⟩]
def q76R4 : List AOper := [⟨some 18, none, .mov (.slot 1)⟩,
  ⟨some 19, none, .mov (.slot 7)⟩,
  ⟨some 20, none, .callv (.slot 18) [(.slot 19)]⟩,
  ⟨some 21, none, .not (.slot 20)⟩]
def q76R5 : List AOper := [⟨some 22, none, .mov (.slot 7)⟩,
  ⟨some 23, none, .bin .add (.slot 22) (.const (.int .i64 1))⟩,
  ⟨some 5, none, .mov (.slot 23)⟩]
def q76R6 : List AOper := [⟨some 24, none, .mov (.slot 7)⟩,
  ⟨some 6, none, .mov (.slot 24)⟩]
def c_sort_Search_L0 : ACode := (.seq (.seq (.region q76R2 false [1, 5, 6, 11]) (.cond (.slot 11) .skip (.exit 0))) (.block 1 (.seq (.region q76R3 false [1, 5, 6, 7]) (.seq (.region q76R4 false [1, 5, 6, 7, 21]) (.cond (.slot 21) (.region q76R5 false [1, 5, 6]) (.region q76R6 false [1, 5, 6]))))))
def lp_sort_Search_0 : ACode := .loop [1, 5, 6] c_sort_Search_L0
def q76R7 : List AOper := [⟨some 25, none, .mov (.slot 5)⟩,
  ⟨some 4, none, .mov (.slot 25)⟩]
def c_sort_Search : AFn := ⟨(.seq (.region q76R0 false [0, 1]) (.seq (.region q76R1 false [1, 5, 6]) (.seq (.block 0 lp_sort_Search_0) (.seq (.region q76R7 false [4]) .ret)))), [.slot 4]⟩
/- oriel/cols.Of'1 -/
def q1R0 : List AOper := [⟨some 3, none, .mov (.const (.bool false))⟩]
def q1R1 : List AOper := [⟨some 4, none, .mov (.slot 0)⟩,
  ⟨some 5, none, .idxarr 3 22 (.glob 0) (.slot 4)⟩,
  ⟨some 6, none, .idxarr 1 3 (.slot 5) (.const (.int .i64 1))⟩,
  ⟨some 7, none, .load false 1 (.slot 6)⟩,
  ⟨some 8, none, .load false 1 (.slot 1)⟩,
  ⟨some 9, none, .bin .geq (.slot 7) (.slot 8)⟩,
  ⟨some 3, none, .mov (.slot 9)⟩]
def c_cols_Of_1 : AFn := ⟨(.seq (.region q1R0 false [0, 1]) (.seq (.region q1R1 true [3]) .ret)), [.slot 3]⟩
/- oriel/cols.Of -/
def q0R0 : List AOper := [⟨some 1, none, .box 1 (.slot 0)⟩,
  ⟨some 2, none, .mov (.const (.int .i64 0))⟩]
def q0R1 : List AOper := [⟨some 4, none, .load false 1 (.slot 1)⟩,
  ⟨some 5, none, .bin .lss (.slot 4) (.const (.int .i32 32))⟩,
  ⟨some 6, none, .mov (.slot 5)⟩,
  ⟨some 7, some (6, false), .load false 1 (.slot 1)⟩,
  ⟨some 8, some (6, false), .bin .geq (.slot 7) (.const (.int .i32 127))⟩,
  ⟨some 9, some (6, false), .mov (.slot 8)⟩,
  ⟨some 10, some (9, true), .load false 1 (.slot 1)⟩,
  ⟨some 11, some (9, true), .bin .lss (.slot 10) (.const (.int .i32 160))⟩,
  ⟨some 12, some (6, false), .pick (.slot 9) (.slot 11) (.const (.bool false))⟩,
  ⟨some 13, none, .pick (.slot 6) (.const (.bool true)) (.slot 12)⟩,
  ⟨some 14, none, .mov (.slot 13)⟩,
  ⟨some 15, some (14, false), .load false 1 (.slot 1)⟩,
  ⟨some 16, some (14, false), .bin .geq (.slot 15) (.const (.int .i32 55296))⟩,
  ⟨some 17, some (14, false), .mov (.slot 16)⟩,
  ⟨some 18, some (17, true), .load false 1 (.slot 1)⟩,
  ⟨some 19, some (17, true), .bin .leq (.slot 18) (.const (.int .i32 57343))⟩,
  ⟨some 20, some (14, false), .pick (.slot 17) (.slot 19) (.const (.bool false))⟩,
  ⟨some 21, none, .pick (.slot 14) (.const (.bool true)) (.slot 20)⟩,
  ⟨some 22, none, .mov (.slot 21)⟩,
  ⟨some 23, some (22, false), .load false 1 (.slot 1)⟩,
  ⟨some 24, some (22, false), .bin .gtr (.slot 23) (.const (.int .i32 1114111))⟩,
  ⟨some 25, none, .pick (.slot 22) (.const (.bool true)) (.slot 24)⟩]
def q0R2 : List AOper := [⟨some 2, none, .mov (.const (.int .i64 (-1)))⟩]
def q0R3 : List AOper := [⟨some 26, none, .mkfn (.func n_cols_Of_1) [] [(.slot 1)]⟩,
  ⟨some 27, none, .call .inl n_sort_Search [(.const (.int .i64 22)), (.slot 26)]⟩,
  ⟨some 3, none, .mov (.slot 27)⟩]
def q0R4 : List AOper := [⟨some 28, none, .mov (.slot 3)⟩,
  ⟨some 29, none, .bin .lss (.slot 28) (.const (.int .i64 22))⟩,
  ⟨some 30, none, .mov (.slot 29)⟩,
  ⟨some 31, some (30, true), .mov (.slot 3)⟩,
  ⟨some 32, some (30, true), .idxarr 3 22 (.glob 0) (.slot 31)⟩,
  ⟨some 33, some (30, true), .idxarr 1 3 (.slot 32) (.const (.int .i64 0))⟩,
  ⟨some 34, some (30, true), .load false 1 (.slot 33)⟩,
  ⟨some 35, some (30, true), .load false 1 (.slot 1)⟩,
  ⟨some 36, some (30, true), .bin .leq (.slot 34) (.slot 35)⟩,
  ⟨some 37, none, .pick (.slot 30) (.slot 36) (.const (.bool false))⟩]
def q0R5 : List AOper := [⟨some 38, none, .mov (.slot 3)⟩,
  ⟨some 39, none, .idxarr 3 22 (.glob 0) (.slot 38)⟩,
  ⟨some 40, none, .idxarr 1 3 (.slot 39) (.const (.int .i64 2))⟩,
  ⟨some 41, none, .load false 1 (.slot 40)⟩,
  ⟨some 42, none, .conv .i64 (.slot 41)⟩,
  ⟨some 2, none, .mov (.slot 42)⟩]
def q0R6 : List AOper := [⟨some 2, none, .mov (.const (.int .i64 1))⟩]
def c_cols_Of : AFn := ⟨(.seq (.region q0R0 false [1]) (.seq (.seq (.region q0R1 false [1, 25]) (.cond (.slot 25) (.seq (.region q0R2 false [2]) .ret) .skip)) (.seq (.region q0R3 false [1, 3]) (.seq (.seq (.region q0R4 true [3, 37]) (.cond (.slot 37) (.seq (.region q0R5 false [2]) .ret) .skip)) (.seq (.region q0R6 false [2]) .ret))))), [.slot 2]⟩
/- oriel/line.marked -/
def q37R0 : List AOper := [⟨some 1, none, .box 2 (.slot 0)⟩,
  ⟨some 2, none, .mov (.const (.bool false))⟩]
def q37R1 : List AOper := [⟨some 3, none, .idxarr 1 2 (.slot 1) (.const (.int .i64 0))⟩,
  ⟨some 4, none, .load false 1 (.slot 3)⟩,
  ⟨some 5, none, .bin .eql (.slot 4) (.const (.int .i32 0))⟩]
def q37R2 : List AOper := [⟨some 6, none, .idxarr 1 2 (.slot 1) (.const (.int .i64 1))⟩,
  ⟨some 7, none, .load false 1 (.slot 6)⟩,
  ⟨some 8, none, .bin .eql (.slot 7) (.const (.int .i32 0))⟩,
  ⟨some 2, none, .mov (.slot 8)⟩]
def q37R3 : List AOper := [⟨some 9, none, .idxarr 1 2 (.slot 1) (.const (.int .i64 0))⟩,
  ⟨some 10, none, .load false 1 (.slot 9)⟩,
  ⟨some 11, none, .call .frz n_cols_Of [(.slot 10)]⟩,
  ⟨some 12, none, .bin .eql (.slot 11) (.const (.int .i64 0))⟩,
  ⟨some 13, none, .mov (.slot 12)⟩,
  ⟨some 14, some (13, true), .idxarr 1 2 (.slot 1) (.const (.int .i64 1))⟩,
  ⟨some 15, some (13, true), .load false 1 (.slot 14)⟩,
  ⟨some 16, some (13, true), .bin .eql (.slot 15) (.const (.int .i32 0))⟩,
  ⟨some 17, some (13, true), .mov (.slot 16)⟩,
  ⟨some 18, some (17, false), .idxarr 1 2 (.slot 1) (.const (.int .i64 1))⟩,
  ⟨some 19, some (17, false), .load false 1 (.slot 18)⟩,
  ⟨some 20, some (17, false), .call .frz n_cols_Of [(.slot 19)]⟩,
  ⟨some 21, some (17, false), .bin .eql (.slot 20) (.const (.int .i64 0))⟩,
  ⟨some 22, some (13, true), .pick (.slot 17) (.const (.bool true)) (.slot 21)⟩,
  ⟨some 23, none, .pick (.slot 13) (.slot 22) (.const (.bool false))⟩,
  ⟨some 2, none, .mov (.slot 23)⟩]
def c_line_marked : AFn := ⟨(.seq (.region q37R0 false [1]) (.seq (.seq (.region q37R1 false [1, 5]) (.cond (.slot 5) (.seq (.region q37R2 false [2]) .ret) .skip)) (.seq (.region q37R3 false [2]) .ret))), [.slot 2]⟩
/- oriel/line.may -/
def q38R0 : List AOper := [⟨some 1, none, .box 7 (.slot 0)⟩,
  ⟨some 2, none, .mov (.const (.bool false))⟩]
def q38R1 : List AOper := [⟨some 3, none, .faddr 3 (.slot 1)⟩,
  ⟨some 4, none, .load false 1 (.slot 3)⟩]
def q38R2 : List AOper := [⟨some 6, none, .bin .eql (.slot 4) (.const (.int .i64 0))⟩,
  ⟨some 5, none, .mov (.slot 6)⟩]
def q38R3 : List AOper := [⟨some 7, none, .bin .eql (.slot 4) (.const (.int .i64 1))⟩,
  ⟨some 5, none, .mov (.slot 7)⟩]
def q38R4 : List AOper := [⟨some 8, none, .faddr 4 (.slot 1)⟩,
  ⟨some 9, none, .load true 3 (.slot 8)⟩,
  ⟨some 10, none, .call .frz n_pen_May [(.slot 9)]⟩,
  ⟨some 11, none, .mov (.slot 10)⟩,
  ⟨some 12, some (11, true), .faddr 0 (.slot 1)⟩,
  ⟨some 13, some (11, true), .load false 1 (.slot 12)⟩,
  ⟨some 14, some (11, true), .call .frz n_cols_Of [(.slot 13)]⟩,
  ⟨some 15, some (11, true), .faddr 3 (.slot 1)⟩,
  ⟨some 16, some (11, true), .load false 1 (.slot 15)⟩,
  ⟨some 17, some (11, true), .bin .add (.slot 16) (.const (.int .i64 1))⟩,
  ⟨some 18, some (11, true), .bin .eql (.slot 14) (.slot 17)⟩,
  ⟨some 19, none, .pick (.slot 11) (.slot 18) (.const (.bool false))⟩,
  ⟨some 20, none, .mov (.slot 19)⟩,
  ⟨some 21, some (20, true), .faddr 1 (.slot 1)⟩,
  ⟨some 22, some (20, true), .load true 2 (.slot 21)⟩,
  ⟨some 23, some (20, true), .call .frz n_line_marked [(.slot 22)]⟩,
  ⟨some 24, none, .pick (.slot 20) (.slot 23) (.const (.bool false))⟩,
  ⟨some 2, none, .mov (.slot 24)⟩]
def q38R5 : List AOper := [⟨some 26, none, .bin .eql (.slot 4) (.const (.int .i64 2))⟩,
  ⟨some 25, none, .mov (.slot 26)⟩]
def q38R6 : List AOper := [⟨some 27, none, .faddr 4 (.slot 1)⟩,
  ⟨some 28, none, .load true 3 (.slot 27)⟩,
  ⟨some 29, none, .call .frz n_pen_May [(.slot 28)]⟩,
  ⟨some 30, none, .mov (.slot 29)⟩,
  ⟨some 31, some (30, true), .load true 7 (.slot 1)⟩,
  ⟨some 32, some (30, true), .faddr 4 (.slot 1)⟩,
  ⟨some 33, some (30, true), .load true 3 (.slot 32)⟩,
  ⟨some 34, some (30, true), .build [.int .i32 0, .int .i32 0, .int .i32 0, .int .i64 0, .int .i64 0, .int .i64 0, .int .i64 0] [(3, 1, (.const (.int .i64 2))), (4, 3, (.slot 33))]⟩,
  ⟨some 35, some (30, true), .eq true [.ki, .ki, .ki, .ki, .ki, .ki, .ki] false (.slot 31) (.slot 34)⟩,
  ⟨some 36, none, .pick (.slot 30) (.slot 35) (.const (.bool false))⟩,
  ⟨some 2, none, .mov (.slot 36)⟩]
def q38R7 : List AOper := [⟨some 2, none, .mov (.const (.bool false))⟩]
def c_line_may : AFn := ⟨(.seq (.region q38R0 false [1]) (.seq (.seq (.region q38R1 false [1, 4]) (.block 0 (.seq (.seq (.region q38R2 false [1, 4, 5]) (.cond (.slot 5) .skip (.region q38R3 false [1, 4, 5]))) (.cond (.slot 5) (.seq (.region q38R4 true [2]) .ret) (.seq (.region q38R5 false [1, 25]) (.cond (.slot 25) (.seq (.region q38R6 false [2]) .ret) .skip)))))) (.seq (.region q38R7 false [2]) .ret))), [.slot 2]⟩
/- oriel/line.May -/
def q33R0 : List AOper := [⟨some 2, none, .mov (.const (.bool false))⟩]
def q33R1 : List AOper := [⟨some 6, none, .mov (.slot 0)⟩,
  ⟨some 7, none, .len false (.slot 6)⟩,
  ⟨some 8, none, .bin .gtr (.slot 7) (.const (.int .i64 1000))⟩]
def q33R2 : List AOper := [⟨some 2, none, .mov (.const (.bool false))⟩]
def q33R3 : List AOper := [⟨some 9, none, .mov (.slot 0)⟩,
  ⟨some 10, none, .len false (.slot 9)⟩,
  ⟨some 11, none, .mov (.const (.int .i64 0))⟩]
def q33R4 : List AOper := [⟨some 12, none, .bin .lss (.slot 11) (.slot 10)⟩]
def q33R5 : List AOper := [⟨some 13, none, .mov (.slot 11)⟩,
  ⟨some 14, none, .idx 7 (.slot 9) (.slot 11)⟩,
  ⟨some 15, none, .load true 7 (.slot 14)⟩,
  ⟨some 4, none, .alloc [.int .i32 0, .int .i32 0, .int .i32 0, .int .i64 0, .int .i64 0, .int .i64 0, .int .i64 0]⟩,
  ⟨some 3, none, .mov (.slot 13)⟩,
  ⟨none, none, .store true 7 (.slot 4) (.slot 15)⟩]
def q33R6 : List AOper := [⟨some 16, none, .mov (.slot 3)⟩,
  ⟨some 17, none, .bin .gtr (.slot 16) (.const (.int .i64 0))⟩,
  ⟨some 18, none, .mov (.slot 17)⟩,
  ⟨some 19, some (18, true), .mov (.slot 0)⟩,
  ⟨some 20, some (18, true), .mov (.slot 3)⟩,
  ⟨some 21, some (18, true), .bin .sub (.slot 20) (.const (.int .i64 1))⟩,
  ⟨some 22, some (18, true), .idx 7 (.slot 19) (.slot 21)⟩,
  ⟨some 23, some (18, true), .faddr 3 (.slot 22)⟩,
  ⟨some 24, some (18, true), .load false 1 (.slot 23)⟩,
  ⟨some 25, some (18, true), .bin .eql (.slot 24) (.const (.int .i64 1))⟩,
  ⟨some 26, none, .pick (.slot 18) (.slot 25) (.const (.bool false))⟩,
  ⟨some 5, none, .mov (.slot 26)⟩]
def q33R7 : List AOper := ⟨some 27, none, .load true 7 (.slot 4)⟩ ::
  ⟨some 28, none, .call .frz n_line_may [(.slot 27)]⟩ ::
  ⟨some 29, none, .not (.slot 28)⟩ ::
  ⟨some 30, none, .mov (.slot 29)⟩ ::
  ⟨some 31, some (30, false), .mov (.slot 5)⟩ ::
  ⟨some 32, some (30, false), .faddr 3 (.slot 4)⟩ ::
  ⟨some 33, some (30, false), .load false 1 (.slot 32)⟩ ::
  ⟨some 34, some (30, false), .bin .eql (.slot 33) (.const (.int .i64 2))⟩ ::
  ⟨some 35, some (30, false), .eq false [.kb] true (.slot 31) (.slot 34)⟩ ::
  ⟨some 36, none, .pick (.slot 30) (.const (.bool true)) (.slot 35)⟩ ::
  ⟨some 37, none, .mov (.slot 36)⟩ ::
  ⟨some 38, some (37, false), .mov (.slot 5)⟩ ::
  ⟨some 39, some (37, false), .mov (.slot 38)⟩ ::
  ⟨some 40, some (39, true), .mov (.slot 0)⟩ ::
  ⟨some 41, some (39, true), .mov (.slot 3)⟩ ::
  ⟨some 42, some (39, true), .bin .sub (.slot 41) (.const (.int .i64 1))⟩ ::
  ⟨some 43, some (39, true), .idx 7 (.slot 40) (.slot 42)⟩ ::
  ⟨some 44, some (39, true), .faddr 4 (.slot 43)⟩ ::
  ⟨some 45, some (39, true), .load true 3 (.slot 44)⟩ ::
  ⟨some 46, some (39, true), .faddr 4 (.slot 4)⟩ ::
  ⟨some 47, some (39, true), .load true 3 (.slot 46)⟩ ::
  ⟨some 48, some (39, true), .eq true [.ki, .ki, .ki] true (.slot 45) (.slot 47)⟩ ::
  ⟨some 49, some (37, false), .pick (.slot 39) (.slot 48) (.const (.bool false))⟩ ::
  ⟨some 50, none, .pick (.slot 37) (.const (.bool true)) (.slot 49)⟩ ::
  ⟨some 51, none, .mov (.slot 50)⟩ ::
  ⟨some 52, some (51, false), .faddr 3 (.slot 4)⟩ ::
  ⟨some 53, some (51, false), .load false 1 (.slot 52)⟩ ::
  ⟨some 54, some (51, false), .bin .eql (.slot 53) (.const (.int .i64 1))⟩ ::
  ⟨some 55, some (51, false), .mov (.slot 54)⟩ ::
  ⟨some 56, some (55, true), .mov (.slot 3)⟩ ::
  ⟨some 57, some (55, true), .mov (.slot 0)⟩ ::
  ⟨some 58, some (55, true), .len false (.slot 57)⟩ ::
  ⟨some 59, some (55, true), .bin .sub (.slot 58) (.const (.int .i64 1))⟩ ::
  ⟨some 60, some (55, true), .bin .eql (.slot 56) (.slot 59)⟩ ::
  ⟨some 61, some (51, false), .pick (.slot 55) (.slot 60) (.const (.bool false))⟩ ::
  ⟨some 62, none, .pick (.slot 51) (.const (.bool true)) (.slot 61)⟩ :: []
def q33R8 : List AOper := [⟨some 2, none, .mov (.const (.bool false))⟩]
def q33R9 : List AOper := [⟨some 63, none, .bin .add (.slot 11) (.const (.int .i64 1))⟩,
  ⟨some 11, none, .mov (.slot 63)⟩]
def c_line_May_L0 : ACode := (.seq (.region q33R4 false [0, 9, 10, 11, 12]) (.seq (.cond (.slot 12) .skip (.exit 0)) (.seq (.block 1 (.seq (.region q33R5 false [0, 3, 4, 9, 10, 11]) (.seq (.region q33R6 false [0, 3, 4, 5, 9, 10, 11]) (.seq (.region q33R7 true [0, 9, 10, 11, 62]) (.cond (.slot 62) (.seq (.region q33R8 false [2]) .ret) .skip))))) (.region q33R9 false [0, 9, 10, 11]))))
def lp_line_May_0 : ACode := .loop [0, 9, 10, 11] c_line_May_L0
def q33R10 : List AOper := [⟨some 2, none, .mov (.const (.bool true))⟩]
def c_line_May : AFn := ⟨(.seq (.region q33R0 false [0]) (.seq (.seq (.region q33R1 false [0, 8]) (.cond (.slot 8) (.seq (.region q33R2 false [2]) .ret) .skip)) (.seq (.seq (.region q33R3 false [0, 9, 10, 11]) (.block 0 lp_line_May_0)) (.seq (.region q33R10 false [2]) .ret)))), [.slot 2]⟩
/- oriel/grid.May'1 -/
def q7R0 : List AOper := [⟨some 3, none, .mov (.const (.bool false))⟩]
def q7R1 : List AOper := [⟨some 4, none, .mov (.slot 0)⟩,
  ⟨some 5, none, .len false (.slot 4)⟩,
  ⟨some 6, none, .load false 1 (.slot 1)⟩,
  ⟨some 7, none, .idx 1 (.slot 6) (.const (.int .i64 0))⟩,
  ⟨some 8, none, .load false 1 (.slot 7)⟩,
  ⟨some 9, none, .len false (.slot 8)⟩,
  ⟨some 10, none, .bin .neq (.slot 5) (.slot 9)⟩,
  ⟨some 11, none, .mov (.slot 10)⟩,
  ⟨some 12, some (11, false), .mov (.slot 0)⟩,
  ⟨some 13, some (11, false), .call .frz n_line_May [(.slot 12)]⟩,
  ⟨some 14, some (11, false), .not (.slot 13)⟩,
  ⟨some 15, none, .pick (.slot 11) (.const (.bool true)) (.slot 14)⟩,
  ⟨some 3, none, .mov (.slot 15)⟩]
def c_grid_May_1 : AFn := ⟨(.seq (.region q7R0 false [0, 1]) (.seq (.region q7R1 false [3]) .ret)), [.slot 3]⟩
/- oriel/grid.May -/
def q6R0 : List AOper := [⟨some 1, none, .box 1 (.slot 0)⟩,
  ⟨some 2, none, .mov (.const (.bool false))⟩]
def q6R1 : List AOper := [⟨some 3, none, .load false 1 (.slot 1)⟩,
  ⟨some 4, none, .len false (.slot 3)⟩,
  ⟨some 5, none, .call .frz n_grid_side [(.slot 4)]⟩,
  ⟨some 6, none, .not (.slot 5)⟩,
  ⟨some 7, none, .mov (.slot 6)⟩,
  ⟨some 8, some (7, false), .load false 1 (.slot 1)⟩,
  ⟨some 9, some (7, false), .idx 1 (.slot 8) (.const (.int .i64 0))⟩,
  ⟨some 10, some (7, false), .load false 1 (.slot 9)⟩,
  ⟨some 11, some (7, false), .len false (.slot 10)⟩,
  ⟨some 12, some (7, false), .call .frz n_grid_side [(.slot 11)]⟩,
  ⟨some 13, some (7, false), .not (.slot 12)⟩,
  ⟨some 14, none, .pick (.slot 7) (.const (.bool true)) (.slot 13)⟩]
def q6R2 : List AOper := [⟨some 2, none, .mov (.const (.bool false))⟩]
def q6R3 : List AOper := [⟨some 15, none, .load false 1 (.slot 1)⟩,
  ⟨some 16, none, .mkfn (.func n_grid_May_1) [] [(.slot 1)]⟩,
  ⟨some 17, none, .call .inl n_slices_ContainsFunc_LCell [(.slot 15), (.slot 16)]⟩,
  ⟨some 18, none, .not (.slot 17)⟩,
  ⟨some 2, none, .mov (.slot 18)⟩]
def c_grid_May : AFn := ⟨(.seq (.region q6R0 false [1]) (.seq (.seq (.region q6R1 false [1, 14]) (.cond (.slot 14) (.seq (.region q6R2 false [2]) .ret) .skip)) (.seq (.region q6R3 false [2]) .ret))), [.slot 2]⟩
/- slices.Clone[[]oriel/api.Cell,oriel/api.Cell] -/
def q70R0 : List AOper := [⟨some 2, none, .mov (.const (.data false 7 [] true))⟩]
def q70R1 : List AOper := [⟨some 3, none, .mov (.slot 0)⟩,
  ⟨some 4, none, .isnil .ks false (.slot 3)⟩]
def q70R2 : List AOper := [⟨some 2, none, .mov (.const (.data false 7 [] true))⟩]
def q70R3 : List AOper := [⟨some 5, none, .mkslice 7 0 [.int .i32 0, .int .i32 0, .int .i32 0, .int .i64 0, .int .i64 0, .int .i64 0, .int .i64 0] []⟩,
  ⟨some 6, none, .mov (.slot 0)⟩,
  ⟨some 7, none, .append 7 48 (.slot 5) (.slot 6)⟩,
  ⟨some 2, none, .mov (.slot 7)⟩]
def c_slices_Clone_Cell : AFn := ⟨(.seq (.region q70R0 false [0]) (.seq (.seq (.region q70R1 false [0, 4]) (.cond (.slot 4) (.seq (.region q70R2 false [2]) .ret) .skip)) (.seq (.region q70R3 false [2]) .ret))), [.slot 2]⟩
/- oriel/grid.copied -/
def q13R0 : List AOper := [⟨some 2, none, .mov (.const (.data false 1 [] true))⟩]
def q13R1 : List AOper := [⟨some 6, none, .mov (.slot 0)⟩,
  ⟨some 7, none, .len false (.slot 6)⟩,
  ⟨some 8, none, .mkrow 1 24 [.data false 7 [] true] (.slot 7) (.slot 7)⟩,
  ⟨some 3, none, .mov (.slot 8)⟩]
def q13R2 : List AOper := [⟨some 9, none, .mov (.slot 0)⟩,
  ⟨some 10, none, .len false (.slot 9)⟩,
  ⟨some 11, none, .mov (.const (.int .i64 0))⟩]
def q13R3 : List AOper := [⟨some 12, none, .bin .lss (.slot 11) (.slot 10)⟩]
def q13R4 : List AOper := [⟨some 13, none, .mov (.slot 11)⟩,
  ⟨some 14, none, .idx 1 (.slot 9) (.slot 11)⟩,
  ⟨some 15, none, .load false 1 (.slot 14)⟩,
  ⟨some 4, none, .mov (.slot 13)⟩,
  ⟨some 5, none, .mov (.slot 15)⟩]
def q13R5 : List AOper := [⟨some 16, none, .mov (.slot 3)⟩,
  ⟨some 17, none, .mov (.slot 4)⟩,
  ⟨some 18, none, .mov (.slot 5)⟩,
  ⟨some 19, none, .call .frz n_slices_Clone_Cell [(.slot 18)]⟩,
  ⟨some 20, none, .idx 1 (.slot 16) (.slot 17)⟩,
  ⟨none, none, .store false 1 (.slot 20) (.slot 19)⟩]
def q13R6 : List AOper := [⟨some 21, none, .bin .add (.slot 11) (.const (.int .i64 1))⟩,
  ⟨some 11, none, .mov (.slot 21)⟩]
def c_grid_copied_L0 : ACode := (.seq (.region q13R3 false [3, 9, 10, 11, 12]) (.seq (.cond (.slot 12) .skip (.exit 0)) (.seq (.block 1 (.seq (.region q13R4 false [3, 4, 5, 9, 10, 11]) (.region q13R5 false [3, 9, 10, 11]))) (.region q13R6 false [3, 9, 10, 11]))))
def lp_grid_copied_0 : ACode := .loop [3, 9, 10, 11] c_grid_copied_L0
def q13R7 : List AOper := [⟨some 22, none, .mov (.slot 3)⟩,
  ⟨some 2, none, .mov (.slot 22)⟩]
def c_grid_copied : AFn := ⟨(.seq (.region q13R0 false [0]) (.seq (.region q13R1 false [0, 3]) (.seq (.seq (.region q13R2 false [3, 9, 10, 11]) (.block 0 lp_grid_copied_0)) (.seq (.region q13R7 false [2]) .ret)))), [.slot 2]⟩
/- math/bits.Mul32 -/
def q41R0 : List AOper := [⟨some 4, none, .mov (.const (.int .u32 0))⟩,
  ⟨some 5, none, .mov (.const (.int .u32 0))⟩]
def q41R1 : List AOper := [⟨some 7, none, .mov (.slot 0)⟩,
  ⟨some 8, none, .conv .u64 (.slot 7)⟩,
  ⟨some 9, none, .mov (.slot 1)⟩,
  ⟨some 10, none, .conv .u64 (.slot 9)⟩,
  ⟨some 11, none, .bin .mul (.slot 8) (.slot 10)⟩,
  ⟨some 6, none, .mov (.slot 11)⟩]
def q41R2 : List AOper := [⟨some 12, none, .mov (.slot 6)⟩,
  ⟨some 13, none, .bin .shr (.slot 12) (.const (.int .u64 32))⟩,
  ⟨some 14, none, .conv .u32 (.slot 13)⟩,
  ⟨some 15, none, .mov (.slot 6)⟩,
  ⟨some 16, none, .conv .u32 (.slot 15)⟩,
  ⟨some 4, none, .mov (.slot 14)⟩,
  ⟨some 5, none, .mov (.slot 16)⟩]
def c_math_bits_Mul32 : AFn := ⟨(.seq (.region q41R0 false [0, 1]) (.seq (.region q41R1 false [6]) (.seq (.region q41R2 false [4, 5]) .ret))), [.slot 4, .slot 5]⟩
/- math/bits.Mul64 -/
def q42R0 : List AOper := [⟨some 4, none, .mov (.const (.int .u64 0))⟩,
  ⟨some 5, none, .mov (.const (.int .u64 0))⟩]
def q42R1 : List AOper := [⟨some 14, none, .mov (.slot 0)⟩,
  ⟨some 15, none, .bin .and (.slot 14) (.const (.int .u64 4294967295))⟩,
  ⟨some 6, none, .mov (.slot 15)⟩]
def q42R2 : List AOper := [⟨some 16, none, .mov (.slot 0)⟩,
  ⟨some 17, none, .bin .shr (.slot 16) (.const (.int .u64 32))⟩,
  ⟨some 7, none, .mov (.slot 17)⟩]
def q42R3 : List AOper := [⟨some 18, none, .mov (.slot 1)⟩,
  ⟨some 19, none, .bin .and (.slot 18) (.const (.int .u64 4294967295))⟩,
  ⟨some 8, none, .mov (.slot 19)⟩]
def q42R4 : List AOper := [⟨some 20, none, .mov (.slot 1)⟩,
  ⟨some 21, none, .bin .shr (.slot 20) (.const (.int .u64 32))⟩,
  ⟨some 9, none, .mov (.slot 21)⟩]
def q42R5 : List AOper := [⟨some 22, none, .mov (.slot 6)⟩,
  ⟨some 23, none, .mov (.slot 8)⟩,
  ⟨some 24, none, .bin .mul (.slot 22) (.slot 23)⟩,
  ⟨some 10, none, .mov (.slot 24)⟩]
def q42R6 : List AOper := [⟨some 25, none, .mov (.slot 7)⟩,
  ⟨some 26, none, .mov (.slot 8)⟩,
  ⟨some 27, none, .bin .mul (.slot 25) (.slot 26)⟩,
  ⟨some 28, none, .mov (.slot 10)⟩,
  ⟨some 29, none, .bin .shr (.slot 28) (.const (.int .u64 32))⟩,
  ⟨some 30, none, .bin .add (.slot 27) (.slot 29)⟩,
  ⟨some 11, none, .mov (.slot 30)⟩]
def q42R7 : List AOper := [⟨some 31, none, .mov (.slot 11)⟩,
  ⟨some 32, none, .bin .and (.slot 31) (.const (.int .u64 4294967295))⟩,
  ⟨some 12, none, .mov (.slot 32)⟩]
def q42R8 : List AOper := [⟨some 33, none, .mov (.slot 11)⟩,
  ⟨some 34, none, .bin .shr (.slot 33) (.const (.int .u64 32))⟩,
  ⟨some 13, none, .mov (.slot 34)⟩]
def q42R9 : List AOper := [⟨some 35, none, .mov (.slot 12)⟩,
  ⟨some 36, none, .mov (.slot 6)⟩,
  ⟨some 37, none, .mov (.slot 9)⟩,
  ⟨some 38, none, .bin .mul (.slot 36) (.slot 37)⟩,
  ⟨some 39, none, .bin .add (.slot 35) (.slot 38)⟩,
  ⟨some 12, none, .mov (.slot 39)⟩]
def q42R10 : List AOper := [⟨some 40, none, .mov (.slot 7)⟩,
  ⟨some 41, none, .mov (.slot 9)⟩,
  ⟨some 42, none, .bin .mul (.slot 40) (.slot 41)⟩,
  ⟨some 43, none, .mov (.slot 13)⟩,
  ⟨some 44, none, .bin .add (.slot 42) (.slot 43)⟩,
  ⟨some 45, none, .mov (.slot 12)⟩,
  ⟨some 46, none, .bin .shr (.slot 45) (.const (.int .u64 32))⟩,
  ⟨some 47, none, .bin .add (.slot 44) (.slot 46)⟩,
  ⟨some 4, none, .mov (.slot 47)⟩]
def q42R11 : List AOper := [⟨some 48, none, .mov (.slot 0)⟩,
  ⟨some 49, none, .mov (.slot 1)⟩,
  ⟨some 50, none, .bin .mul (.slot 48) (.slot 49)⟩,
  ⟨some 5, none, .mov (.slot 50)⟩]
def c_math_bits_Mul64 : AFn := ⟨(.seq (.region q42R0 false [0, 1]) (.seq (.region q42R1 false [0, 1, 6]) (.seq (.region q42R2 false [0, 1, 6, 7]) (.seq (.region q42R3 false [0, 1, 6, 7, 8]) (.seq (.region q42R4 false [0, 1, 6, 7, 8, 9]) (.seq (.region q42R5 false [0, 1, 6, 7, 8, 9, 10]) (.seq (.region q42R6 false [0, 1, 6, 7, 9, 11]) (.seq (.region q42R7 false [0, 1, 6, 7, 9, 11, 12]) (.seq (.region q42R8 false [0, 1, 6, 7, 9, 12, 13]) (.seq (.region q42R9 false [0, 1, 7, 9, 12, 13]) (.seq (.region q42R10 false [0, 1, 4]) (.seq (.region q42R11 false [4, 5]) .ret)))))))))))), [.slot 4, .slot 5]⟩
/- math/bits.Mul -/
def q40R0 : List AOper := [⟨some 4, none, .mov (.const (.int .u64 0))⟩,
  ⟨some 5, none, .mov (.const (.int .u64 0))⟩]
def q40R1 : List AOper := [⟨some 11, none, .mov (.slot 0)⟩,
  ⟨some 12, none, .conv .u32 (.slot 11)⟩,
  ⟨some 13, none, .mov (.slot 1)⟩,
  ⟨some 14, none, .conv .u32 (.slot 13)⟩,
  ⟨some 15, none, .call .frz n_math_bits_Mul32 [(.slot 12), (.slot 14)]⟩,
  ⟨some 10, none, .mov (.slot 15)⟩,
  ⟨some 16, none, .extract 0 (.slot 10)⟩,
  ⟨some 17, none, .extract 1 (.slot 10)⟩,
  ⟨some 6, none, .mov (.slot 16)⟩,
  ⟨some 7, none, .mov (.slot 17)⟩]
def q40R2 : List AOper := [⟨some 18, none, .mov (.slot 6)⟩,
  ⟨some 19, none, .conv .u64 (.slot 18)⟩,
  ⟨some 20, none, .mov (.slot 7)⟩,
  ⟨some 21, none, .conv .u64 (.slot 20)⟩,
  ⟨some 4, none, .mov (.slot 19)⟩,
  ⟨some 5, none, .mov (.slot 21)⟩]
def q40R3 : List AOper := [⟨some 23, none, .mov (.slot 0)⟩,
  ⟨some 24, none, .mov (.slot 1)⟩,
  ⟨some 25, none, .call .frz n_math_bits_Mul64 [(.slot 23), (.slot 24)]⟩,
  ⟨some 22, none, .mov (.slot 25)⟩,
  ⟨some 26, none, .extract 0 (.slot 22)⟩,
  ⟨some 27, none, .extract 1 (.slot 22)⟩,
  ⟨some 8, none, .mov (.slot 26)⟩,
  ⟨some 9, none, .mov (.slot 27)⟩]
def q40R4 : List AOper := [⟨some 28, none, .mov (.slot 8)⟩,
  ⟨some 29, none, .mov (.slot 9)⟩,
  ⟨some 4, none, .mov (.slot 28)⟩,
  ⟨some 5, none, .mov (.slot 29)⟩]
def c_math_bits_Mul : AFn := ⟨(.seq (.region q40R0 false [0, 1]) (.seq (.cond (.const (.bool false)) (.seq (.region q40R1 false [6, 7]) (.seq (.region q40R2 false [4, 5]) .ret)) .skip) (.seq (.region q40R3 false [8, 9]) (.seq (.region q40R4 false [4, 5]) .ret)))), [.slot 4, .slot 5]⟩
/- slices.Repeat[[]oriel/api.Cell,oriel/api.Cell] -/
def q75R0 : List AOper := [⟨some 4, none, .mov (.const (.data false 7 [] true))⟩]
def q75R1 : List AOper := [⟨some 9, none, .mov (.slot 1)⟩,
  ⟨some 10, none, .bin .lss (.slot 9) (.const (.int .i64 0))⟩]
def q75R3 : List AOper := [⟨some 13, none, .mov (.slot 0)⟩,
  ⟨some 14, none, .len false (.slot 13)⟩,
  ⟨some 15, none, .conv .u64 (.slot 14)⟩,
  ⟨some 16, none, .mov (.slot 1)⟩,
  ⟨some 17, none, .conv .u64 (.slot 16)⟩,
  ⟨some 18, none, .call .frz n_math_bits_Mul [(.slot 15), (.slot 17)]⟩,
  ⟨some 12, none, .mov (.slot 18)⟩,
  ⟨some 19, none, .extract 0 (.slot 12)⟩,
  ⟨some 20, none, .extract 1 (.slot 12)⟩,
  ⟨some 5, none, .mov (.slot 19)⟩,
  ⟨some 6, none, .mov (.slot 20)⟩]
def q75R4 : List AOper := [⟨some 21, none, .mov (.slot 5)⟩,
  ⟨some 22, none, .bin .gtr (.slot 21) (.const (.int .u64 0))⟩,
  ⟨some 23, none, .mov (.slot 22)⟩,
  ⟨some 24, some (23, false), .mov (.slot 6)⟩,
  ⟨some 25, some (23, false), .bin .gtr (.slot 24) (.const (.int .u64 9223372036854775807))⟩,
  ⟨some 26, none, .pick (.slot 23) (.const (.bool true)) (.slot 25)⟩]
def q75R6 : List AOper := [⟨some 28, none, .mov (.slot 6)⟩,
  ⟨some 29, none, .conv .i64 (.slot 28)⟩,
  ⟨some 30, none, .mkrow 7 48 [.int .i32 0, .int .i32 0, .int .i32 0, .int .i64 0, .int .i64 0, .int .i64 0, .int .i64 0] (.slot 29) (.slot 29)⟩,
  ⟨some 7, none, .mov (.slot 30)⟩]
def q75R7 : List AOper := [⟨some 31, none, .mov (.slot 7)⟩,
  ⟨some 32, none, .mov (.slot 0)⟩,
  ⟨some 33, none, .copy 7 (.slot 31) (.slot 32)⟩,
  ⟨some 8, none, .mov (.slot 33)⟩]
def q75R8 : List AOper := [⟨some 34, none, .mov (.slot 8)⟩,
  ⟨some 35, none, .mov (.slot 7)⟩,
  ⟨some 36, none, .len false (.slot 35)⟩,
  ⟨some 37, none, .bin .lss (.slot 34) (.slot 36)⟩]
def q75R9 : List AOper := [⟨some 38, none, .mov (.slot 8)⟩,
  ⟨some 39, none, .mov (.slot 7)⟩,
  ⟨some 40, none, .mov (.slot 8)⟩,
  ⟨some 41, none, .sl 7 (.slot 39) (some (.slot 40)) none none⟩,
  ⟨some 42, none, .mov (.slot 7)⟩,
  ⟨some 43, none, .mov (.slot 8)⟩,
  ⟨some 44, none, .sl 7 (.slot 42) none (some (.slot 43)) none⟩,
  ⟨some 45, none, .copy 7 (.slot 41) (.slot 44)⟩,
  ⟨some 46, none, .bin .add (.slot 38) (.slot 45)⟩,
  ⟨some 8, none, .mov (.slot 46)⟩]
def c_slices_Repeat_Cell_L0 : ACode := (.seq (.seq (.region q75R8 false [7, 8, 37]) (.cond (.slot 37) .skip (.exit 0))) (.block 1 (.region q75R9 true [7, 8])))
def lp_slices_Repeat_Cell_0 : ACode := .loop [7, 8] c_slices_Repeat_Cell_L0
def q75R10 : List AOper := [⟨some 47, none, .mov (.slot 7)⟩,
  ⟨some 4, none, .mov (.slot 47)⟩]
def c_slices_Repeat_Cell : AFn := ⟨(.seq (.region q75R0 false [0, 1]) (.seq (.seq (.region q75R1 false [0, 1, 10]) (.cond (.slot 10) .dead .skip)) (.seq (.region q75R3 false [0, 5, 6]) (.seq (.seq (.region q75R4 false [0, 6, 26]) (.cond (.slot 26) .dead .skip)) (.seq (.region q75R6 false [0, 7]) (.seq (.region q75R7 false [7, 8]) (.seq (.block 0 lp_slices_Repeat_Cell_0) (.seq (.region q75R10 false [4]) .ret)))))))), [.slot 4]⟩
/- oriel/line.blank -/
def q35R0 : List AOper := [⟨some 1, none, .box 3 (.slot 0)⟩,
  ⟨some 2, none, .alloc [.int .i32 0, .int .i32 0, .int .i32 0, .int .i64 0, .int .i64 0, .int .i64 0, .int .i64 0]⟩]
def q35R1 : List AOper := [⟨some 3, none, .faddr 2 (.slot 1)⟩,
  ⟨some 4, none, .load false 1 (.slot 3)⟩,
  ⟨some 5, none, .build [.int .i64 0, .int .i64 0, .int .i64 0] [(2, 1, (.slot 4))]⟩,
  ⟨some 6, none, .build [.int .i32 0, .int .i32 0, .int .i32 0, .int .i64 0, .int .i64 0, .int .i64 0, .int .i64 0] [(0, 1, (.const (.int .i32 32))), (4, 3, (.slot 5))]⟩,
  ⟨none, none, .store true 7 (.slot 2) (.slot 6)⟩]
def c_line_blank : AFn := ⟨(.seq (.region q35R0 false [1, 2]) (.seq (.region q35R1 false [2]) .ret)), [.cell 2 true 7]⟩
/- oriel/line.Blank -/
def q30R0 : List AOper := [⟨some 3, none, .box 3 (.slot 1)⟩,
  ⟨some 4, none, .mov (.const (.data false 7 [] true))⟩]
def q30R1 : List AOper := [⟨some 5, none, .mov (.slot 0)⟩,
  ⟨some 6, none, .bin .lss (.slot 5) (.const (.int .i64 0))⟩,
  ⟨some 7, none, .mov (.slot 6)⟩,
  ⟨some 8, some (7, false), .mov (.slot 0)⟩,
  ⟨some 9, some (7, false), .bin .gtr (.slot 8) (.const (.int .i64 1000))⟩,
  ⟨some 10, none, .pick (.slot 7) (.const (.bool true)) (.slot 9)⟩,
  ⟨some 11, none, .mov (.slot 10)⟩,
  ⟨some 12, some (11, false), .load true 3 (.slot 3)⟩,
  ⟨some 13, some (11, false), .call .frz n_pen_May [(.slot 12)]⟩,
  ⟨some 14, some (11, false), .not (.slot 13)⟩,
  ⟨some 15, none, .pick (.slot 11) (.const (.bool true)) (.slot 14)⟩]
def q30R2 : List AOper := [⟨some 4, none, .mov (.const (.data false 7 [] true))⟩]
def q30R3 : List AOper := [⟨some 16, none, .load true 3 (.slot 3)⟩,
  ⟨some 17, none, .call .frz n_line_blank [(.slot 16)]⟩,
  ⟨some 18, none, .mkslice 7 1 [.int .i32 0, .int .i32 0, .int .i32 0, .int .i64 0, .int .i64 0, .int .i64 0, .int .i64 0] [(0, (.slot 17))]⟩,
  ⟨some 19, none, .mov (.slot 0)⟩,
  ⟨some 20, none, .call .frz n_slices_Repeat_Cell [(.slot 18), (.slot 19)]⟩,
  ⟨some 4, none, .mov (.slot 20)⟩]
def c_line_Blank : AFn := ⟨(.seq (.region q30R0 false [0, 3]) (.seq (.seq (.region q30R1 false [0, 3, 15]) (.cond (.slot 15) (.seq (.region q30R2 false [4]) .ret) .skip)) (.seq (.region q30R3 false [4]) .ret))), [.slot 4]⟩
/- oriel/grid.Scroll -/
def q10R0 : List AOper := [⟨some 9, none, .box 3 (.slot 4)⟩,
  ⟨some 10, none, .mov (.const (.data false 1 [] true))⟩]
def q10R1 : List AOper := [⟨some 14, none, .mov (.slot 0)⟩,
  ⟨some 15, none, .call .frz n_grid_May [(.slot 14)]⟩,
  ⟨some 16, none, .not (.slot 15)⟩,
  ⟨some 17, none, .mov (.slot 16)⟩,
  ⟨some 18, some (17, false), .load true 3 (.slot 9)⟩,
  ⟨some 19, some (17, false), .call .frz n_pen_May [(.slot 18)]⟩,
  ⟨some 20, some (17, false), .not (.slot 19)⟩,
  ⟨some 21, none, .pick (.slot 17) (.const (.bool true)) (.slot 20)⟩]
def q10R2 : List AOper := [⟨some 10, none, .mov (.const (.data false 1 [] true))⟩]
def q10R3 : List AOper := [⟨some 22, none, .mov (.slot 0)⟩,
  ⟨some 23, none, .call .adp n_grid_copied [(.slot 22)]⟩,
  ⟨some 11, none, .mov (.slot 23)⟩]
def q10R4 : List AOper := [⟨some 24, none, .mov (.slot 1)⟩,
  ⟨some 25, none, .bin .lss (.slot 24) (.const (.int .i64 0))⟩,
  ⟨some 26, none, .mov (.slot 25)⟩,
  ⟨some 27, some (26, false), .mov (.slot 1)⟩,
  ⟨some 28, some (26, false), .mov (.slot 2)⟩,
  ⟨some 29, some (26, false), .bin .gtr (.slot 27) (.slot 28)⟩,
  ⟨some 30, none, .pick (.slot 26) (.const (.bool true)) (.slot 29)⟩,
  ⟨some 31, none, .mov (.slot 30)⟩,
  ⟨some 32, some (31, false), .mov (.slot 2)⟩,
  ⟨some 33, some (31, false), .mov (.slot 0)⟩,
  ⟨some 34, some (31, false), .len false (.slot 33)⟩,
  ⟨some 35, some (31, false), .bin .geq (.slot 32) (.slot 34)⟩,
  ⟨some 36, none, .pick (.slot 31) (.const (.bool true)) (.slot 35)⟩]
def q10R5 : List AOper := [⟨some 37, none, .mov (.slot 11)⟩,
  ⟨some 10, none, .mov (.slot 37)⟩]
def q10R6 : List AOper := [⟨some 38, none, .mov (.slot 11)⟩,
  ⟨some 39, none, .mov (.slot 1)⟩,
  ⟨some 40, none, .mov (.slot 2)⟩,
  ⟨some 41, none, .bin .add (.slot 40) (.const (.int .i64 1))⟩,
  ⟨some 42, none, .sl 1 (.slot 38) (some (.slot 39)) (some (.slot 41)) none⟩,
  ⟨some 12, none, .mov (.slot 42)⟩]
def q10R7 : List AOper := [⟨some 43, none, .mov (.slot 12)⟩,
  ⟨some 44, none, .len false (.slot 43)⟩,
  ⟨some 45, none, .neg (.slot 44)⟩,
  ⟨some 46, none, .mov (.slot 3)⟩,
  ⟨some 47, none, .mov (.slot 12)⟩,
  ⟨some 48, none, .len false (.slot 47)⟩,
  ⟨some 49, none, .min (.slot 46) (.slot 48)⟩,
  ⟨some 50, none, .max (.slot 45) (.slot 49)⟩,
  ⟨some 3, none, .mov (.slot 50)⟩]
def q10R8 : List AOper := [⟨some 51, none, .mov (.slot 3)⟩,
  ⟨some 52, none, .bin .geq (.slot 51) (.const (.int .i64 0))⟩]
def q10R9 : List AOper := [⟨some 53, none, .mov (.slot 12)⟩,
  ⟨some 54, none, .mov (.slot 12)⟩,
  ⟨some 55, none, .mov (.slot 3)⟩,
  ⟨some 56, none, .sl 1 (.slot 54) (some (.slot 55)) none none⟩,
  ⟨some 57, none, .copy 1 (.slot 53) (.slot 56)⟩]
def q10R10 : List AOper := [⟨some 58, none, .mov (.slot 12)⟩,
  ⟨some 59, none, .mov (.slot 12)⟩,
  ⟨some 60, none, .len false (.slot 59)⟩,
  ⟨some 61, none, .mov (.slot 3)⟩,
  ⟨some 62, none, .bin .sub (.slot 60) (.slot 61)⟩,
  ⟨some 63, none, .sl 1 (.slot 58) (some (.slot 62)) none none⟩,
  ⟨some 12, none, .mov (.slot 63)⟩]
def q10R11 : List AOper := [⟨some 64, none, .mov (.slot 12)⟩,
  ⟨some 65, none, .mov (.slot 3)⟩,
  ⟨some 66, none, .neg (.slot 65)⟩,
  ⟨some 67, none, .sl 1 (.slot 64) (some (.slot 66)) none none⟩,
  ⟨some 68, none, .mov (.slot 12)⟩,
  ⟨some 69, none, .copy 1 (.slot 67) (.slot 68)⟩]
def q10R12 : List AOper := [⟨some 70, none, .mov (.slot 12)⟩,
  ⟨some 71, none, .mov (.slot 3)⟩,
  ⟨some 72, none, .neg (.slot 71)⟩,
  ⟨some 73, none, .sl 1 (.slot 70) none (some (.slot 72)) none⟩,
  ⟨some 12, none, .mov (.slot 73)⟩]
def q10R13 : List AOper := [⟨some 74, none, .mov (.slot 12)⟩,
  ⟨some 75, none, .len false (.slot 74)⟩,
  ⟨some 76, none, .mov (.const (.int .i64 0))⟩]
def q10R14 : List AOper := [⟨some 77, none, .bin .lss (.slot 76) (.slot 75)⟩]
def q10R15 : List AOper := [⟨some 78, none, .mov (.slot 76)⟩,
  ⟨some 13, none, .mov (.slot 78)⟩]
def q10R16 : List AOper := [⟨some 79, none, .mov (.slot 12)⟩,
  ⟨some 80, none, .mov (.slot 13)⟩,
  ⟨some 81, none, .mov (.slot 0)⟩,
  ⟨some 82, none, .idx 1 (.slot 81) (.const (.int .i64 0))⟩,
  ⟨some 83, none, .load false 1 (.slot 82)⟩,
  ⟨some 84, none, .len false (.slot 83)⟩,
  ⟨some 85, none, .load true 3 (.slot 9)⟩,
  ⟨some 86, none, .call .frz n_line_Blank [(.slot 84), (.slot 85)]⟩,
  ⟨some 87, none, .idx 1 (.slot 79) (.slot 80)⟩,
  ⟨none, none, .store false 1 (.slot 87) (.slot 86)⟩]
def q10R17 : List AOper := [⟨some 88, none, .bin .add (.slot 76) (.const (.int .i64 1))⟩,
  ⟨some 76, none, .mov (.slot 88)⟩]
def c_grid_Scroll_L0 : ACode := (.seq (.region q10R14 false [0, 9, 11, 12, 75, 76, 77]) (.seq (.cond (.slot 77) .skip (.exit 0)) (.seq (.block 1 (.seq (.region q10R15 false [0, 9, 11, 12, 13, 75, 76]) (.region q10R16 true [0, 9, 11, 12, 75, 76]))) (.region q10R17 false [0, 9, 11, 12, 75, 76]))))
def lp_grid_Scroll_0 : ACode := .loop [0, 9, 11, 12, 75, 76] c_grid_Scroll_L0
def q10R18 : List AOper := [⟨some 89, none, .mov (.slot 11)⟩,
  ⟨some 10, none, .mov (.slot 89)⟩]
def c_grid_Scroll : AFn := ⟨(.seq (.region q10R0 false [0, 1, 2, 3, 9]) (.seq (.seq (.region q10R1 false [0, 1, 2, 3, 9, 21]) (.cond (.slot 21) (.seq (.region q10R2 false [10]) .ret) .skip)) (.seq (.region q10R3 false [0, 1, 2, 3, 9, 11]) (.seq (.seq (.region q10R4 false [0, 1, 2, 3, 9, 11, 36]) (.cond (.slot 36) (.seq (.region q10R5 false [10]) .ret) .skip)) (.seq (.region q10R6 false [0, 3, 9, 11, 12]) (.seq (.region q10R7 false [0, 3, 9, 11, 12]) (.seq (.seq (.region q10R8 false [0, 3, 9, 11, 12, 52]) (.cond (.slot 52) (.seq (.region q10R9 false [0, 3, 9, 11, 12]) (.region q10R10 false [0, 9, 11, 12])) (.seq (.region q10R11 false [0, 3, 9, 11, 12]) (.region q10R12 false [0, 9, 11, 12])))) (.seq (.seq (.region q10R13 false [0, 9, 11, 12, 75, 76]) (.block 0 lp_grid_Scroll_0)) (.seq (.region q10R18 false [10]) .ret))))))))), [.slot 10]⟩
/- oriel/orielref14.Same -/
def q57R0 : List AOper := [⟨some 4, none, .mov (.const (.bool false))⟩]
def q57R1 : List AOper := [⟨some 6, none, .mov (.slot 0)⟩,
  ⟨some 7, none, .len false (.slot 6)⟩,
  ⟨some 8, none, .mov (.slot 1)⟩,
  ⟨some 9, none, .len false (.slot 8)⟩,
  ⟨some 10, none, .bin .neq (.slot 7) (.slot 9)⟩]
def q57R2 : List AOper := [⟨some 4, none, .mov (.const (.bool false))⟩]
def q57R3 : List AOper := [⟨some 5, none, .mov (.const (.int .i64 0))⟩]
def q57R4 : List AOper := [⟨some 11, none, .mov (.slot 5)⟩,
  ⟨some 12, none, .mov (.slot 0)⟩,
  ⟨some 13, none, .len false (.slot 12)⟩,
  ⟨some 14, none, .bin .lss (.slot 11) (.slot 13)⟩]
def q57R6 : List AOper := [⟨some 17, none, .mov (.slot 0)⟩,
  ⟨some 18, none, .mov (.slot 5)⟩,
  ⟨some 19, none, .idx 7 (.slot 17) (.slot 18)⟩,
  ⟨some 20, none, .load true 7 (.slot 19)⟩,
  ⟨some 21, none, .mov (.slot 1)⟩,
  ⟨some 22, none, .mov (.slot 5)⟩,
  ⟨some 23, none, .idx 7 (.slot 21) (.slot 22)⟩,
  ⟨some 24, none, .load true 7 (.slot 23)⟩,
  ⟨some 25, none, .eq true [.ki, .ki, .ki, .ki, .ki, .ki, .ki] true (.slot 20) (.slot 24)⟩]
def q57R7 : List AOper := [⟨some 4, none, .mov (.const (.bool false))⟩]
def q57R5 : List AOper := [⟨some 15, none, .mov (.slot 5)⟩,
  ⟨some 16, none, .bin .add (.slot 15) (.const (.int .i64 1))⟩,
  ⟨some 5, none, .mov (.slot 16)⟩]
def c_ref14_Same_L0 : ACode := (.seq (.seq (.region q57R4 false [0, 1, 5, 14]) (.cond (.slot 14) .skip (.exit 0))) (.seq (.block 1 (.seq (.region q57R6 true [0, 1, 5, 25]) (.cond (.slot 25) (.seq (.region q57R7 false [4]) .ret) .skip))) (.region q57R5 false [0, 1, 5])))
def lp_ref14_Same_0 : ACode := .loop [0, 1, 5] c_ref14_Same_L0
def q57R8 : List AOper := [⟨some 4, none, .mov (.const (.bool true))⟩]
def c_ref14_Same : AFn := ⟨(.seq (.region q57R0 false [0, 1]) (.seq (.seq (.region q57R1 false [0, 1, 10]) (.cond (.slot 10) (.seq (.region q57R2 false [4]) .ret) .skip)) (.seq (.seq (.region q57R3 false [0, 1, 5]) (.block 0 lp_ref14_Same_0)) (.seq (.region q57R8 false [4]) .ret)))), [.slot 4]⟩
/- oriel/orielref15.Same -/
def q64R0 : List AOper := [⟨some 4, none, .mov (.const (.bool false))⟩]
def q64R1 : List AOper := [⟨some 6, none, .mov (.slot 0)⟩,
  ⟨some 7, none, .len false (.slot 6)⟩,
  ⟨some 8, none, .mov (.slot 1)⟩,
  ⟨some 9, none, .len false (.slot 8)⟩,
  ⟨some 10, none, .bin .neq (.slot 7) (.slot 9)⟩]
def q64R2 : List AOper := [⟨some 4, none, .mov (.const (.bool false))⟩]
def q64R3 : List AOper := [⟨some 5, none, .mov (.const (.int .i64 0))⟩]
def q64R4 : List AOper := [⟨some 11, none, .mov (.slot 5)⟩,
  ⟨some 12, none, .mov (.slot 0)⟩,
  ⟨some 13, none, .len false (.slot 12)⟩,
  ⟨some 14, none, .bin .lss (.slot 11) (.slot 13)⟩]
def q64R6 : List AOper := [⟨some 17, none, .mov (.slot 0)⟩,
  ⟨some 18, none, .mov (.slot 5)⟩,
  ⟨some 19, none, .idx 1 (.slot 17) (.slot 18)⟩,
  ⟨some 20, none, .load false 1 (.slot 19)⟩,
  ⟨some 21, none, .mov (.slot 1)⟩,
  ⟨some 22, none, .mov (.slot 5)⟩,
  ⟨some 23, none, .idx 1 (.slot 21) (.slot 22)⟩,
  ⟨some 24, none, .load false 1 (.slot 23)⟩,
  ⟨some 25, none, .call .frz n_ref14_Same [(.slot 20), (.slot 24)]⟩,
  ⟨some 26, none, .not (.slot 25)⟩]
def q64R7 : List AOper := [⟨some 4, none, .mov (.const (.bool false))⟩]
def q64R5 : List AOper := [⟨some 15, none, .mov (.slot 5)⟩,
  ⟨some 16, none, .bin .add (.slot 15) (.const (.int .i64 1))⟩,
  ⟨some 5, none, .mov (.slot 16)⟩]
def c_ref15_Same_L0 : ACode := (.seq (.seq (.region q64R4 false [0, 1, 5, 14]) (.cond (.slot 14) .skip (.exit 0))) (.seq (.block 1 (.seq (.region q64R6 true [0, 1, 5, 26]) (.cond (.slot 26) (.seq (.region q64R7 false [4]) .ret) .skip))) (.region q64R5 false [0, 1, 5])))
def lp_ref15_Same_0 : ACode := .loop [0, 1, 5] c_ref15_Same_L0
def q64R8 : List AOper := [⟨some 4, none, .mov (.const (.bool true))⟩]
def c_ref15_Same : AFn := ⟨(.seq (.region q64R0 false [0, 1]) (.seq (.seq (.region q64R1 false [0, 1, 10]) (.cond (.slot 10) (.seq (.region q64R2 false [4]) .ret) .skip)) (.seq (.seq (.region q64R3 false [0, 1, 5]) (.block 0 lp_ref15_Same_0)) (.seq (.region q64R8 false [4]) .ret)))), [.slot 4]⟩
/- oriel/grid.Erase'1 -/
def q4R0 : List AOper := [⟨some 2, none, .box 2 (.slot 0)⟩,
  ⟨some 3, none, .mov (.const (.bool false))⟩]
def q4R1 : List AOper := [⟨some 4, none, .idxarr 1 2 (.slot 2) (.const (.int .i64 0))⟩,
  ⟨some 5, none, .load false 1 (.slot 4)⟩,
  ⟨some 6, none, .bin .geq (.slot 5) (.const (.int .i64 0))⟩,
  ⟨some 7, none, .mov (.slot 6)⟩,
  ⟨some 8, some (7, true), .idxarr 1 2 (.slot 2) (.const (.int .i64 0))⟩,
  ⟨some 9, some (7, true), .load false 1 (.slot 8)⟩,
  ⟨some 10, some (7, true), .load false 1 (.slot 1)⟩,
  ⟨some 11, some (7, true), .len false (.slot 10)⟩,
  ⟨some 12, some (7, true), .bin .lss (.slot 9) (.slot 11)⟩,
  ⟨some 13, none, .pick (.slot 7) (.slot 12) (.const (.bool false))⟩,
  ⟨some 14, none, .mov (.slot 13)⟩,
  ⟨some 15, some (14, true), .idxarr 1 2 (.slot 2) (.const (.int .i64 1))⟩,
  ⟨some 16, some (14, true), .load false 1 (.slot 15)⟩,
  ⟨some 17, some (14, true), .bin .geq (.slot 16) (.const (.int .i64 0))⟩,
  ⟨some 18, none, .pick (.slot 14) (.slot 17) (.const (.bool false))⟩,
  ⟨some 19, none, .mov (.slot 18)⟩,
  ⟨some 20, some (19, true), .idxarr 1 2 (.slot 2) (.const (.int .i64 1))⟩,
  ⟨some 21, some (19, true), .load false 1 (.slot 20)⟩,
  ⟨some 22, some (19, true), .load false 1 (.slot 1)⟩,
  ⟨some 23, some (19, true), .idx 1 (.slot 22) (.const (.int .i64 0))⟩,
  ⟨some 24, some (19, true), .load false 1 (.slot 23)⟩,
  ⟨some 25, some (19, true), .len false (.slot 24)⟩,
  ⟨some 26, some (19, true), .bin .lss (.slot 21) (.slot 25)⟩,
  ⟨some 27, none, .pick (.slot 19) (.slot 26) (.const (.bool false))⟩,
  ⟨some 3, none, .mov (.slot 27)⟩]
def c_grid_Erase_1 : AFn := ⟨(.seq (.region q4R0 false [1, 2]) (.seq (.region q4R1 true [3]) .ret)), [.slot 3]⟩
/- oriel/line.fine -/
def q36R0 : List AOper := [⟨some 3, none, .box 3 (.slot 1)⟩,
  ⟨some 4, none, .mov (.const (.bool false))⟩]
def q36R1 : List AOper := [⟨some 5, none, .mov (.slot 0)⟩,
  ⟨some 6, none, .call .frz n_line_May [(.slot 5)]⟩,
  ⟨some 7, none, .mov (.slot 6)⟩,
  ⟨some 8, some (7, true), .load true 3 (.slot 3)⟩,
  ⟨some 9, some (7, true), .call .frz n_pen_May [(.slot 8)]⟩,
  ⟨some 10, none, .pick (.slot 7) (.slot 9) (.const (.bool false))⟩,
  ⟨some 4, none, .mov (.slot 10)⟩]
def c_line_fine : AFn := ⟨(.seq (.region q36R0 false [0, 3]) (.seq (.region q36R1 false [4]) .ret)), [.slot 4]⟩
/- oriel/line.torn -/
def q39R0 : List AOper := [⟨some 4, none, .mov (.slot 1)⟩,
  ⟨some 5, none, .bin .gtr (.slot 4) (.const (.int .i64 0))⟩,
  ⟨some 6, none, .mov (.slot 5)⟩,
  ⟨some 7, some (6, true), .mov (.slot 1)⟩,
  ⟨some 8, some (6, true), .mov (.slot 0)⟩,
  ⟨some 9, some (6, true), .len false (.slot 8)⟩,
  ⟨some 10, some (6, true), .bin .lss (.slot 7) (.slot 9)⟩,
  ⟨some 11, none, .pick (.slot 6) (.slot 10) (.const (.bool false))⟩,
  ⟨some 12, none, .mov (.slot 11)⟩,
  ⟨some 13, some (12, true), .mov (.slot 0)⟩,
  ⟨some 14, some (12, true), .mov (.slot 1)⟩,
  ⟨some 15, some (12, true), .idx 7 (.slot 13) (.slot 14)⟩,
  ⟨some 16, some (12, true), .faddr 3 (.slot 15)⟩,
  ⟨some 17, some (12, true), .load false 1 (.slot 16)⟩,
  ⟨some 18, some (12, true), .bin .eql (.slot 17) (.const (.int .i64 2))⟩,
  ⟨some 19, none, .pick (.slot 12) (.slot 18) (.const (.bool false))⟩]
def q39R1 : List AOper := [⟨some 20, none, .mov (.slot 0)⟩,
  ⟨some 21, none, .mov (.slot 1)⟩,
  ⟨some 22, none, .bin .sub (.slot 21) (.const (.int .i64 1))⟩,
  ⟨some 23, none, .mov (.slot 0)⟩,
  ⟨some 24, none, .mov (.slot 1)⟩,
  ⟨some 25, none, .mov (.slot 0)⟩,
  ⟨some 26, none, .mov (.slot 1)⟩,
  ⟨some 27, none, .bin .sub (.slot 26) (.const (.int .i64 1))⟩,
  ⟨some 28, none, .idx 7 (.slot 25) (.slot 27)⟩,
  ⟨some 29, none, .faddr 4 (.slot 28)⟩,
  ⟨some 30, none, .load true 3 (.slot 29)⟩,
  ⟨some 31, none, .call .frz n_line_blank [(.slot 30)]⟩,
  ⟨some 32, none, .mov (.slot 0)⟩,
  ⟨some 33, none, .mov (.slot 1)⟩,
  ⟨some 34, none, .idx 7 (.slot 32) (.slot 33)⟩,
  ⟨some 35, none, .faddr 4 (.slot 34)⟩,
  ⟨some 36, none, .load true 3 (.slot 35)⟩,
  ⟨some 37, none, .call .frz n_line_blank [(.slot 36)]⟩,
  ⟨some 38, none, .idx 7 (.slot 20) (.slot 22)⟩,
  ⟨none, none, .store true 7 (.slot 38) (.slot 31)⟩,
  ⟨some 39, none, .idx 7 (.slot 23) (.slot 24)⟩,
  ⟨none, none, .store true 7 (.slot 39) (.slot 37)⟩]
def c_line_torn : AFn := ⟨(.seq (.region q39R0 false [0, 1, 19]) (.cond (.slot 19) (.region q39R1 true []) .skip)), []⟩
/- oriel/line.Erase -/
def q31R0 : List AOper := [⟨some 7, none, .box 3 (.slot 3)⟩,
  ⟨some 8, none, .mov (.const (.data false 7 [] true))⟩]
def q31R1 : List AOper := [⟨some 10, none, .mov (.slot 0)⟩,
  ⟨some 11, none, .load true 3 (.slot 7)⟩,
  ⟨some 12, none, .call .frz n_line_fine [(.slot 10), (.slot 11)]⟩,
  ⟨some 13, none, .not (.slot 12)⟩]
def q31R2 : List AOper := [⟨some 8, none, .mov (.const (.data false 7 [] true))⟩]
def q31R3 : List AOper := [⟨some 14, none, .mov (.slot 0)⟩,
  ⟨some 15, none, .call .adp n_slices_Clone_Cell [(.slot 14)]⟩,
  ⟨some 9, none, .mov (.slot 15)⟩]
def q31R4 : List AOper := [⟨some 16, none, .mov (.slot 1)⟩,
  ⟨some 17, none, .max (.const (.int .i64 0)) (.slot 16)⟩,
  ⟨some 18, none, .mov (.slot 2)⟩,
  ⟨some 19, none, .mov (.slot 0)⟩,
  ⟨some 20, none, .len false (.slot 19)⟩,
  ⟨some 21, none, .min (.slot 18) (.slot 20)⟩,
  ⟨some 1, none, .mov (.slot 17)⟩,
  ⟨some 2, none, .mov (.slot 21)⟩]
def q31R5 : List AOper := [⟨some 22, none, .mov (.slot 1)⟩,
  ⟨some 23, none, .mov (.slot 2)⟩,
  ⟨some 24, none, .bin .geq (.slot 22) (.slot 23)⟩]
def q31R6 : List AOper := [⟨some 25, none, .mov (.slot 9)⟩,
  ⟨some 8, none, .mov (.slot 25)⟩]
def q31R7 : List AOper := [⟨some 26, none, .mov (.slot 9)⟩,
  ⟨some 27, none, .mov (.slot 1)⟩,
  ⟨some 28, none, .call .inl n_line_torn [(.slot 26), (.slot 27)]⟩]
def q31R8 : List AOper := [⟨some 29, none, .mov (.slot 9)⟩,
  ⟨some 30, none, .mov (.slot 2)⟩,
  ⟨some 31, none, .call .inl n_line_torn [(.slot 29), (.slot 30)]⟩]
def q31R9 : List AOper := [⟨some 32, none, .mov (.slot 9)⟩,
  ⟨some 33, none, .mov (.slot 1)⟩,
  ⟨some 34, none, .mov (.slot 2)⟩,
  ⟨some 35, none, .sl 7 (.slot 32) (some (.slot 33)) (some (.slot 34)) none⟩,
  ⟨some 36, none, .mov (.slot 2)⟩,
  ⟨some 37, none, .mov (.slot 1)⟩,
  ⟨some 38, none, .bin .sub (.slot 36) (.slot 37)⟩,
  ⟨some 39, none, .load true 3 (.slot 7)⟩,
  ⟨some 40, none, .call .frz n_line_Blank [(.slot 38), (.slot 39)]⟩,
  ⟨some 41, none, .copy 7 (.slot 35) (.slot 40)⟩]
def q31R10 : List AOper := [⟨some 42, none, .mov (.slot 9)⟩,
  ⟨some 8, none, .mov (.slot 42)⟩]
def c_line_Erase : AFn := ⟨(.seq (.region q31R0 false [0, 1, 2, 7]) (.seq (.seq (.region q31R1 false [0, 1, 2, 7, 13]) (.cond (.slot 13) (.seq (.region q31R2 false [8]) .ret) .skip)) (.seq (.region q31R3 false [0, 1, 2, 7, 9]) (.seq (.region q31R4 false [1, 2, 7, 9]) (.seq (.seq (.region q31R5 false [1, 2, 7, 9, 24]) (.cond (.slot 24) (.seq (.region q31R6 false [8]) .ret) .skip)) (.seq (.region q31R7 false [1, 2, 7, 9]) (.seq (.region q31R8 false [1, 2, 7, 9]) (.seq (.region q31R9 true [9]) (.seq (.region q31R10 false [8]) .ret))))))))), [.slot 8]⟩
/- oriel/grid.Erase -/
def q3R0 : List AOper := [⟨some 4, none, .box 1 (.slot 0)⟩,
  ⟨some 5, none, .box 2 (.slot 1)⟩,
  ⟨some 6, none, .box 2 (.slot 2)⟩,
  ⟨some 7, none, .box 3 (.slot 3)⟩,
  ⟨some 8, none, .mov (.const (.data false 1 [] true))⟩]
def q3R1 : List AOper := [⟨some 14, none, .load false 1 (.slot 4)⟩,
  ⟨some 15, none, .call .frz n_grid_May [(.slot 14)]⟩,
  ⟨some 16, none, .not (.slot 15)⟩,
  ⟨some 17, none, .mov (.slot 16)⟩,
  ⟨some 18, some (17, false), .load true 3 (.slot 7)⟩,
  ⟨some 19, some (17, false), .call .frz n_pen_May [(.slot 18)]⟩,
  ⟨some 20, some (17, false), .not (.slot 19)⟩,
  ⟨some 21, none, .pick (.slot 17) (.const (.bool true)) (.slot 20)⟩]
def q3R2 : List AOper := [⟨some 8, none, .mov (.const (.data false 1 [] true))⟩]
def q3R3 : List AOper := [⟨some 22, none, .load false 1 (.slot 4)⟩,
  ⟨some 23, none, .call .adp n_grid_copied [(.slot 22)]⟩,
  ⟨some 9, none, .mov (.slot 23)⟩]
def q3R4 : List AOper := [⟨some 24, none, .mkfn (.func n_grid_Erase_1) [] [(.slot 4)]⟩,
  ⟨some 10, none, .mov (.slot 24)⟩]
def q3R5 : List AOper := [⟨some 25, none, .mov (.slot 10)⟩,
  ⟨some 26, none, .load true 2 (.slot 5)⟩,
  ⟨some 27, none, .callv (.slot 25) [(.slot 26)]⟩,
  ⟨some 28, none, .not (.slot 27)⟩,
  ⟨some 29, none, .mov (.slot 28)⟩,
  ⟨some 30, some (29, false), .mov (.slot 10)⟩,
  ⟨some 31, some (29, false), .load true 2 (.slot 6)⟩,
  ⟨some 32, some (29, false), .callv (.slot 30) [(.slot 31)]⟩,
  ⟨some 33, some (29, false), .not (.slot 32)⟩,
  ⟨some 34, none, .pick (.slot 29) (.const (.bool true)) (.slot 33)⟩]
def q3R6 : List AOper := [⟨some 35, none, .mov (.slot 9)⟩,
  ⟨some 8, none, .mov (.slot 35)⟩]
def q3R7 : List AOper := [⟨some 36, none, .idxarr 1 2 (.slot 5) (.const (.int .i64 0))⟩,
  ⟨some 37, none, .load false 1 (.slot 36)⟩,
  ⟨some 11, none, .mov (.slot 37)⟩]
def q3R8 : List AOper := [⟨some 38, none, .mov (.slot 11)⟩,
  ⟨some 39, none, .idxarr 1 2 (.slot 6) (.const (.int .i64 0))⟩,
  ⟨some 40, none, .load false 1 (.slot 39)⟩,
  ⟨some 41, none, .bin .leq (.slot 38) (.slot 40)⟩]
def q3R10 : List AOper := [⟨some 44, none, .load false 1 (.slot 4)⟩,
  ⟨some 45, none, .idx 1 (.slot 44) (.const (.int .i64 0))⟩,
  ⟨some 46, none, .load false 1 (.slot 45)⟩,
  ⟨some 47, none, .len false (.slot 46)⟩,
  ⟨some 12, none, .mov (.const (.int .i64 0))⟩,
  ⟨some 13, none, .mov (.slot 47)⟩]
def q3R11 : List AOper := [⟨some 48, none, .mov (.slot 11)⟩,
  ⟨some 49, none, .idxarr 1 2 (.slot 5) (.const (.int .i64 0))⟩,
  ⟨some 50, none, .load false 1 (.slot 49)⟩,
  ⟨some 51, none, .bin .eql (.slot 48) (.slot 50)⟩]
def q3R12 : List AOper := [⟨some 52, none, .idxarr 1 2 (.slot 5) (.const (.int .i64 1))⟩,
  ⟨some 53, none, .load false 1 (.slot 52)⟩,
  ⟨some 12, none, .mov (.slot 53)⟩]
def q3R13 : List AOper := [⟨some 54, none, .mov (.slot 11)⟩,
  ⟨some 55, none, .idxarr 1 2 (.slot 6) (.const (.int .i64 0))⟩,
  ⟨some 56, none, .load false 1 (.slot 55)⟩,
  ⟨some 57, none, .bin .eql (.slot 54) (.slot 56)⟩]
def q3R14 : List AOper := [⟨some 58, none, .idxarr 1 2 (.slot 6) (.const (.int .i64 1))⟩,
  ⟨some 59, none, .load false 1 (.slot 58)⟩,
  ⟨some 60, none, .bin .add (.slot 59) (.const (.int .i64 1))⟩,
  ⟨some 13, none, .mov (.slot 60)⟩]
def q3R15 : List AOper := [⟨some 61, none, .mov (.slot 9)⟩,
  ⟨some 62, none, .mov (.slot 11)⟩,
  ⟨some 63, none, .mov (.slot 9)⟩,
  ⟨some 64, none, .mov (.slot 11)⟩,
  ⟨some 65, none, .idx 1 (.slot 63) (.slot 64)⟩,
  ⟨some 66, none, .load false 1 (.slot 65)⟩,
  ⟨some 67, none, .mov (.slot 12)⟩,
  ⟨some 68, none, .mov (.slot 13)⟩,
  ⟨some 69, none, .load true 3 (.slot 7)⟩,
  ⟨some 70, none, .call .frz n_line_Erase [(.slot 66), (.slot 67), (.slot 68), (.slot 69)]⟩,
  ⟨some 71, none, .idx 1 (.slot 61) (.slot 62)⟩,
  ⟨none, none, .store false 1 (.slot 71) (.slot 70)⟩]
def q3R9 : List AOper := [⟨some 42, none, .mov (.slot 11)⟩,
  ⟨some 43, none, .bin .add (.slot 42) (.const (.int .i64 1))⟩,
  ⟨some 11, none, .mov (.slot 43)⟩]
def c_grid_Erase_L0 : ACode := (.seq (.seq (.region q3R8 false [4, 5, 6, 7, 9, 11, 41]) (.cond (.slot 41) .skip (.exit 0))) (.seq (.block 1 (.seq (.region q3R10 true [4, 5, 6, 7, 9, 11, 12, 13]) (.seq (.seq (.region q3R11 false [4, 5, 6, 7, 9, 11, 12, 13, 51]) (.cond (.slot 51) (.region q3R12 false [4, 5, 6, 7, 9, 11, 12, 13]) .skip)) (.seq (.seq (.region q3R13 false [4, 5, 6, 7, 9, 11, 12, 13, 57]) (.cond (.slot 57) (.region q3R14 false [4, 5, 6, 7, 9, 11, 12, 13]) .skip)) (.region q3R15 true [4, 5, 6, 7, 9, 11]))))) (.region q3R9 false [4, 5, 6, 7, 9, 11])))
def lp_grid_Erase_0 : ACode := .loop [4, 5, 6, 7, 9, 11] c_grid_Erase_L0
def q3R16 : List AOper := [⟨some 72, none, .mov (.slot 9)⟩,
  ⟨some 8, none, .mov (.slot 72)⟩]
def c_grid_Erase : AFn := ⟨(.seq (.region q3R0 false [4, 5, 6, 7]) (.seq (.seq (.region q3R1 false [4, 5, 6, 7, 21]) (.cond (.slot 21) (.seq (.region q3R2 false [8]) .ret) .skip)) (.seq (.region q3R3 false [4, 5, 6, 7, 9]) (.seq (.region q3R4 false [4, 5, 6, 7, 9, 10]) (.seq (.seq (.region q3R5 false [4, 5, 6, 7, 9, 34]) (.cond (.slot 34) (.seq (.region q3R6 false [8]) .ret) .skip)) (.seq (.seq (.region q3R7 false [4, 5, 6, 7, 9, 11]) (.block 0 lp_grid_Erase_0)) (.seq (.region q3R16 false [8]) .ret))))))), [.slot 8]⟩
/- oriel/oriellaw15.abc -/
def q26R0 : List AOper := [⟨some 0, none, .mov (.const (.data false 1 [] true))⟩]
def q26R1 : List AOper := [⟨some 1, none, .build [.int .i32 0, .int .i32 0, .int .i32 0, .int .i64 0, .int .i64 0, .int .i64 0, .int .i64 0] [(0, 1, (.const (.int .i32 97)))]⟩,
  ⟨some 2, none, .mkdata 7 1 [.int .i32 0, .int .i32 0, .int .i32 0, .int .i64 0, .int .i64 0, .int .i64 0, .int .i64 0] [(0, (.slot 1))]⟩,
  ⟨some 3, none, .build [.int .i32 0, .int .i32 0, .int .i32 0, .int .i64 0, .int .i64 0, .int .i64 0, .int .i64 0] [(0, 1, (.const (.int .i32 98)))]⟩,
  ⟨some 4, none, .mkdata 7 1 [.int .i32 0, .int .i32 0, .int .i32 0, .int .i64 0, .int .i64 0, .int .i64 0, .int .i64 0] [(0, (.slot 3))]⟩,
  ⟨some 5, none, .build [.int .i32 0, .int .i32 0, .int .i32 0, .int .i64 0, .int .i64 0, .int .i64 0, .int .i64 0] [(0, 1, (.const (.int .i32 99)))]⟩,
  ⟨some 6, none, .mkdata 7 1 [.int .i32 0, .int .i32 0, .int .i32 0, .int .i64 0, .int .i64 0, .int .i64 0, .int .i64 0] [(0, (.slot 5))]⟩,
  ⟨some 7, none, .mkslice 1 3 [.data false 7 [] true] [(0, (.slot 2)), (1, (.slot 4)), (2, (.slot 6))]⟩,
  ⟨some 0, none, .mov (.slot 7)⟩]
def c_law15_abc : AFn := ⟨(.seq (.region q26R0 false []) (.seq (.region q26R1 false [0]) .ret)), [.slot 0]⟩
/- oriel/oriellaw15.known -/
def q29R0 : List AOper := [⟨some 0, none, .mov (.const (.bool false))⟩]
def q29R1 : List AOper := [⟨some 3, none, .build [.int .i32 0, .int .i32 0, .int .i32 0, .int .i64 0, .int .i64 0, .int .i64 0, .int .i64 0] [(0, 1, (.const (.int .i32 32)))]⟩,
  ⟨some 4, none, .mkdata 7 1 [.int .i32 0, .int .i32 0, .int .i32 0, .int .i64 0, .int .i64 0, .int .i64 0, .int .i64 0] [(0, (.slot 3))]⟩,
  ⟨some 1, none, .mov (.slot 4)⟩]
def q29R2 : List AOper := [⟨some 5, none, .call .frz n_law15_abc []⟩,
  ⟨some 2, none, .mov (.slot 5)⟩]
def q29R3 : List AOper := ⟨some 6, none, .mov (.slot 2)⟩ ::
  ⟨some 7, none, .call .frz n_grid_May [(.slot 6)]⟩ ::
  ⟨some 8, none, .mov (.slot 7)⟩ ::
  ⟨some 9, some (8, true), .mov (.slot 2)⟩ ::
  ⟨some 10, some (8, true), .build [.int .i64 0, .int .i64 0, .int .i64 0] []⟩ ::
  ⟨some 11, some (8, true), .call .frz n_grid_Scroll [(.slot 9), (.const (.int .i64 0)), (.const (.int .i64 2)), (.const (.int .i64 1)), (.slot 10)]⟩ ::
  ⟨some 12, some (8, true), .mov (.slot 2)⟩ ::
  ⟨some 13, some (8, true), .idx 1 (.slot 12) (.const (.int .i64 1))⟩ ::
  ⟨some 14, some (8, true), .load false 1 (.slot 13)⟩ ::
  ⟨some 15, some (8, true), .mov (.slot 2)⟩ ::
  ⟨some 16, some (8, true), .idx 1 (.slot 15) (.const (.int .i64 2))⟩ ::
  ⟨some 17, some (8, true), .load false 1 (.slot 16)⟩ ::
  ⟨some 18, some (8, true), .mov (.slot 1)⟩ ::
  ⟨some 19, some (8, true), .mkslice 1 3 [.data false 7 [] true] [(0, (.slot 14)), (1, (.slot 17)), (2, (.slot 18))]⟩ ::
  ⟨some 20, some (8, true), .call .frz n_ref15_Same [(.slot 11), (.slot 19)]⟩ ::
  ⟨some 21, none, .pick (.slot 8) (.slot 20) (.const (.bool false))⟩ ::
  ⟨some 22, none, .mov (.slot 21)⟩ ::
  ⟨some 23, some (22, true), .mov (.slot 2)⟩ ::
  ⟨some 24, some (22, true), .build [.int .i64 0, .int .i64 0, .int .i64 0] []⟩ ::
  ⟨some 25, some (22, true), .call .frz n_grid_Scroll [(.slot 23), (.const (.int .i64 0)), (.const (.int .i64 2)), (.const (.int .i64 (-2))), (.slot 24)]⟩ ::
  ⟨some 26, some (22, true), .mov (.slot 1)⟩ ::
  ⟨some 27, some (22, true), .mov (.slot 1)⟩ ::
  ⟨some 28, some (22, true), .mov (.slot 2)⟩ ::
  ⟨some 29, some (22, true), .idx 1 (.slot 28) (.const (.int .i64 0))⟩ ::
  ⟨some 30, some (22, true), .load false 1 (.slot 29)⟩ ::
  ⟨some 31, some (22, true), .mkslice 1 3 [.data false 7 [] true] [(0, (.slot 26)), (1, (.slot 27)), (2, (.slot 30))]⟩ ::
  ⟨some 32, some (22, true), .call .frz n_ref15_Same [(.slot 25), (.slot 31)]⟩ ::
  ⟨some 33, none, .pick (.slot 22) (.slot 32) (.const (.bool false))⟩ ::
  ⟨some 34, none, .mov (.slot 33)⟩ ::
  ⟨some 35, some (34, true), .mov (.slot 2)⟩ ::
  ⟨some 36, some (34, true), .build [.int .i64 0, .int .i64 0] [(0, 1, (.const (.int .i64 0))), (1, 1, (.const (.int .i64 0)))]⟩ ::
  ⟨some 37, some (34, true), .build [.int .i64 0, .int .i64 0] [(0, 1, (.const (.int .i64 1))), (1, 1, (.const (.int .i64 0)))]⟩ ::
  ⟨some 38, some (34, true), .build [.int .i64 0, .int .i64 0, .int .i64 0] []⟩ ::
  ⟨some 39, some (34, true), .call .frz n_grid_Erase [(.slot 35), (.slot 36), (.slot 37), (.slot 38)]⟩ ::
  ⟨some 40, some (34, true), .mov (.slot 1)⟩ ::
  ⟨some 41, some (34, true), .mov (.slot 1)⟩ ::
  ⟨some 42, some (34, true), .mov (.slot 2)⟩ ::
  ⟨some 43, some (34, true), .idx 1 (.slot 42) (.const (.int .i64 2))⟩ ::
  ⟨some 44, some (34, true), .load false 1 (.slot 43)⟩ ::
  ⟨some 45, some (34, true), .mkslice 1 3 [.data false 7 [] true] [(0, (.slot 40)), (1, (.slot 41)), (2, (.slot 44))]⟩ ::
  ⟨some 46, some (34, true), .call .frz n_ref15_Same [(.slot 39), (.slot 45)]⟩ ::
  ⟨some 47, none, .pick (.slot 34) (.slot 46) (.const (.bool false))⟩ ::
  ⟨some 0, none, .mov (.slot 47)⟩ :: []
def c_law15_known : AFn := ⟨(.seq (.region q29R0 false []) (.seq (.region q29R1 false [1]) (.seq (.region q29R2 false [1, 2]) (.seq (.region q29R3 true [0]) .ret)))), [.slot 0]⟩
/- oriel/oriellaw15.great -/
def q28R0 : List AOper := [⟨some 2, none, .mov (.const (.bool false))⟩]
def q28R1 : List AOper := [⟨some 5, none, .mov (.slot 0)⟩,
  ⟨some 6, none, .len false (.slot 5)⟩,
  ⟨some 7, none, .bin .gtr (.slot 6) (.const (.int .i64 210))⟩]
def q28R2 : List AOper := [⟨some 2, none, .mov (.const (.bool true))⟩]
def q28R3 : List AOper := [⟨some 3, none, .mov (.const (.int .i64 0))⟩]
def q28R4 : List AOper := [⟨some 4, none, .mov (.const (.int .i64 0))⟩]
def q28R5 : List AOper := [⟨some 8, none, .mov (.slot 4)⟩,
  ⟨some 9, none, .mov (.slot 0)⟩,
  ⟨some 10, none, .len false (.slot 9)⟩,
  ⟨some 11, none, .bin .lss (.slot 8) (.slot 10)⟩]
def q28R7 : List AOper := [⟨some 14, none, .mov (.slot 0)⟩,
  ⟨some 15, none, .mov (.slot 4)⟩,
  ⟨some 16, none, .idx 1 (.slot 14) (.slot 15)⟩,
  ⟨some 17, none, .load false 1 (.slot 16)⟩,
  ⟨some 18, none, .len false (.slot 17)⟩,
  ⟨some 19, none, .mov (.slot 3)⟩,
  ⟨some 20, none, .bin .sub (.const (.int .i64 2000)) (.slot 19)⟩,
  ⟨some 21, none, .bin .gtr (.slot 18) (.slot 20)⟩]
def q28R8 : List AOper := [⟨some 2, none, .mov (.const (.bool true))⟩]
def q28R9 : List AOper := [⟨some 22, none, .mov (.slot 3)⟩,
  ⟨some 23, none, .mov (.slot 0)⟩,
  ⟨some 24, none, .mov (.slot 4)⟩,
  ⟨some 25, none, .idx 1 (.slot 23) (.slot 24)⟩,
  ⟨some 26, none, .load false 1 (.slot 25)⟩,
  ⟨some 27, none, .len false (.slot 26)⟩,
  ⟨some 28, none, .bin .add (.slot 22) (.slot 27)⟩,
  ⟨some 3, none, .mov (.slot 28)⟩]
def q28R6 : List AOper := [⟨some 12, none, .mov (.slot 4)⟩,
  ⟨some 13, none, .bin .add (.slot 12) (.const (.int .i64 1))⟩,
  ⟨some 4, none, .mov (.slot 13)⟩]
def c_law15_great_L0 : ACode := (.seq (.seq (.region q28R5 false [0, 3, 4, 11]) (.cond (.slot 11) .skip (.exit 0))) (.seq (.block 1 (.seq (.seq (.region q28R7 false [0, 3, 4, 21]) (.cond (.slot 21) (.seq (.region q28R8 false [2]) .ret) .skip)) (.region q28R9 false [0, 3, 4]))) (.region q28R6 false [0, 3, 4])))
def lp_law15_great_0 : ACode := .loop [0, 3, 4] c_law15_great_L0
def q28R10 : List AOper := [⟨some 2, none, .mov (.const (.bool false))⟩]
def c_law15_great : AFn := ⟨(.seq (.region q28R0 false [0]) (.seq (.seq (.region q28R1 false [0, 7]) (.cond (.slot 7) (.seq (.region q28R2 false [2]) .ret) .skip)) (.seq (.region q28R3 false [0, 3]) (.seq (.seq (.region q28R4 false [0, 3, 4]) (.block 0 lp_law15_great_0)) (.seq (.region q28R10 false [2]) .ret))))), [.slot 2]⟩
/- oriel/orielref15.Copy -/
def q60R0 : List AOper := [⟨some 2, none, .mov (.const (.data false 1 [] true))⟩]
def q60R1 : List AOper := [⟨some 3, none, .mknil 1⟩]
def q60R2 : List AOper := [⟨some 4, none, .mov (.const (.int .i64 0))⟩]
def q60R3 : List AOper := [⟨some 5, none, .mov (.slot 4)⟩,
  ⟨some 6, none, .mov (.slot 0)⟩,
  ⟨some 7, none, .len false (.slot 6)⟩,
  ⟨some 8, none, .bin .lss (.slot 5) (.slot 7)⟩]
def q60R5 : List AOper := [⟨some 11, none, .mov (.slot 3)⟩,
  ⟨some 12, none, .mkdata 7 0 [.int .i32 0, .int .i32 0, .int .i32 0, .int .i64 0, .int .i64 0, .int .i64 0, .int .i64 0] []⟩,
  ⟨some 13, none, .mov (.slot 0)⟩,
  ⟨some 14, none, .mov (.slot 4)⟩,
  ⟨some 15, none, .idx 1 (.slot 13) (.slot 14)⟩,
  ⟨some 16, none, .load false 1 (.slot 15)⟩,
  ⟨some 17, none, .appendD 7 48 (.slot 12) (.slot 16)⟩,
  ⟨some 18, none, .mkslice 1 1 [.data false 7 [] true] [(0, (.slot 17))]⟩,
  ⟨some 19, none, .append 1 24 (.slot 11) (.slot 18)⟩,
  ⟨some 3, none, .mov (.slot 19)⟩]
def q60R4 : List AOper := [⟨some 9, none, .mov (.slot 4)⟩,
  ⟨some 10, none, .bin .add (.slot 9) (.const (.int .i64 1))⟩,
  ⟨some 4, none, .mov (.slot 10)⟩]
def c_ref15_Copy_L0 : ACode := (.seq (.seq (.region q60R3 false [0, 3, 4, 8]) (.cond (.slot 8) .skip (.exit 0))) (.seq (.block 1 (.region q60R5 false [0, 3, 4])) (.region q60R4 false [0, 3, 4])))
def lp_ref15_Copy_0 : ACode := .loop [0, 3, 4] c_ref15_Copy_L0
def q60R6 : List AOper := [⟨some 20, none, .mov (.slot 3)⟩,
  ⟨some 2, none, .mov (.slot 20)⟩]
def c_ref15_Copy : AFn := ⟨(.seq (.region q60R0 false [0]) (.seq (.region q60R1 false [0, 3]) (.seq (.seq (.region q60R2 false [0, 3, 4]) (.block 0 lp_ref15_Copy_0)) (.seq (.region q60R6 false [2]) .ret)))), [.slot 2]⟩
/- oriel/orielref15.Side -/
def q66R0 : List AOper := [⟨some 2, none, .mov (.const (.bool false))⟩]
def q66R1 : List AOper := [⟨some 3, none, .mov (.slot 0)⟩,
  ⟨some 4, none, .bin .geq (.slot 3) (.const (.int .i64 1))⟩,
  ⟨some 5, none, .mov (.slot 4)⟩,
  ⟨some 6, some (5, true), .mov (.slot 0)⟩,
  ⟨some 7, some (5, true), .bin .leq (.slot 6) (.const (.int .i64 200))⟩,
  ⟨some 8, none, .pick (.slot 5) (.slot 7) (.const (.bool false))⟩,
  ⟨some 2, none, .mov (.slot 8)⟩]
def c_ref15_Side : AFn := ⟨(.seq (.region q66R0 false [0]) (.seq (.region q66R1 false [2]) .ret)), [.slot 2]⟩
/- oriel/orielref13.in -/
def q48R0 : List AOper := [⟨some 6, none, .mov (.const (.bool false))⟩]
def q48R1 : List AOper := [⟨some 7, none, .mov (.slot 0)⟩,
  ⟨some 8, none, .mov (.slot 1)⟩,
  ⟨some 9, none, .bin .geq (.slot 7) (.slot 8)⟩,
  ⟨some 10, none, .mov (.slot 9)⟩,
  ⟨some 11, some (10, true), .mov (.slot 0)⟩,
  ⟨some 12, some (10, true), .mov (.slot 2)⟩,
  ⟨some 13, some (10, true), .bin .leq (.slot 11) (.slot 12)⟩,
  ⟨some 14, none, .pick (.slot 10) (.slot 13) (.const (.bool false))⟩,
  ⟨some 6, none, .mov (.slot 14)⟩]
def c_ref13_in : AFn := ⟨(.seq (.region q48R0 false [0, 1, 2]) (.seq (.region q48R1 false [6]) .ret)), [.slot 6]⟩
/- oriel/orielref13.Of -/
def q46R0 : List AOper := [⟨some 2, none, .mov (.const (.int .i64 0))⟩]
def q46R1 : List AOper := [⟨some 4, none, .mov (.slot 0)⟩,
  ⟨some 5, none, .bin .lss (.slot 4) (.const (.int .i32 32))⟩,
  ⟨some 6, none, .mov (.slot 5)⟩,
  ⟨some 7, some (6, false), .mov (.slot 0)⟩,
  ⟨some 8, some (6, false), .call .frz n_ref13_in [(.slot 7), (.const (.int .i32 127)), (.const (.int .i32 159))]⟩,
  ⟨some 9, none, .pick (.slot 6) (.const (.bool true)) (.slot 8)⟩,
  ⟨some 10, none, .mov (.slot 9)⟩,
  ⟨some 11, some (10, false), .mov (.slot 0)⟩,
  ⟨some 12, some (10, false), .call .frz n_ref13_in [(.slot 11), (.const (.int .i32 55296)), (.const (.int .i32 57343))]⟩,
  ⟨some 13, none, .pick (.slot 10) (.const (.bool true)) (.slot 12)⟩,
  ⟨some 14, none, .mov (.slot 13)⟩,
  ⟨some 15, some (14, false), .mov (.slot 0)⟩,
  ⟨some 16, some (14, false), .bin .gtr (.slot 15) (.const (.int .i32 1114111))⟩,
  ⟨some 17, none, .pick (.slot 14) (.const (.bool true)) (.slot 16)⟩,
  ⟨some 3, none, .mov (.slot 17)⟩]
def q46R2 : List AOper := [⟨some 2, none, .mov (.const (.int .i64 (-1)))⟩]
def q46R3 : List AOper := [⟨some 19, none, .mov (.slot 0)⟩,
  ⟨some 20, none, .call .frz n_ref13_in [(.slot 19), (.const (.int .i32 768)), (.const (.int .i32 879))]⟩,
  ⟨some 21, none, .mov (.slot 20)⟩,
  ⟨some 22, some (21, false), .mov (.slot 0)⟩,
  ⟨some 23, some (21, false), .call .frz n_ref13_in [(.slot 22), (.const (.int .i32 1155)), (.const (.int .i32 1161))]⟩,
  ⟨some 24, none, .pick (.slot 21) (.const (.bool true)) (.slot 23)⟩,
  ⟨some 25, none, .mov (.slot 24)⟩,
  ⟨some 26, some (25, false), .mov (.slot 0)⟩,
  ⟨some 27, some (25, false), .call .frz n_ref13_in [(.slot 26), (.const (.int .i32 1425)), (.const (.int .i32 1469))]⟩,
  ⟨some 28, none, .pick (.slot 25) (.const (.bool true)) (.slot 27)⟩,
  ⟨some 29, none, .mov (.slot 28)⟩,
  ⟨some 30, some (29, false), .mov (.slot 0)⟩,
  ⟨some 31, some (29, false), .call .frz n_ref13_in [(.slot 30), (.const (.int .i32 1552)), (.const (.int .i32 1562))]⟩,
  ⟨some 32, none, .pick (.slot 29) (.const (.bool true)) (.slot 31)⟩,
  ⟨some 33, none, .mov (.slot 32)⟩,
  ⟨some 34, some (33, false), .mov (.slot 0)⟩,
  ⟨some 35, some (33, false), .call .frz n_ref13_in [(.slot 34), (.const (.int .i32 1611)), (.const (.int .i32 1631))]⟩,
  ⟨some 36, none, .pick (.slot 33) (.const (.bool true)) (.slot 35)⟩,
  ⟨some 37, none, .mov (.slot 36)⟩,
  ⟨some 38, some (37, false), .mov (.slot 0)⟩,
  ⟨some 39, some (37, false), .call .frz n_ref13_in [(.slot 38), (.const (.int .i32 6832)), (.const (.int .i32 6911))]⟩,
  ⟨some 40, none, .pick (.slot 37) (.const (.bool true)) (.slot 39)⟩,
  ⟨some 18, none, .mov (.slot 40)⟩]
def q46R4 : List AOper := [⟨some 2, none, .mov (.const (.int .i64 0))⟩]
def q46R5 : List AOper := [⟨some 42, none, .mov (.slot 0)⟩,
  ⟨some 43, none, .call .frz n_ref13_in [(.slot 42), (.const (.int .i32 7616)), (.const (.int .i32 7679))]⟩,
  ⟨some 44, none, .mov (.slot 43)⟩,
  ⟨some 45, some (44, false), .mov (.slot 0)⟩,
  ⟨some 46, some (44, false), .call .frz n_ref13_in [(.slot 45), (.const (.int .i32 8203)), (.const (.int .i32 8207))]⟩,
  ⟨some 47, none, .pick (.slot 44) (.const (.bool true)) (.slot 46)⟩,
  ⟨some 48, none, .mov (.slot 47)⟩,
  ⟨some 49, some (48, false), .mov (.slot 0)⟩,
  ⟨some 50, some (48, false), .call .frz n_ref13_in [(.slot 49), (.const (.int .i32 8400)), (.const (.int .i32 8447))]⟩,
  ⟨some 51, none, .pick (.slot 48) (.const (.bool true)) (.slot 50)⟩,
  ⟨some 52, none, .mov (.slot 51)⟩,
  ⟨some 53, some (52, false), .mov (.slot 0)⟩,
  ⟨some 54, some (52, false), .call .frz n_ref13_in [(.slot 53), (.const (.int .i32 65024)), (.const (.int .i32 65039))]⟩,
  ⟨some 55, none, .pick (.slot 52) (.const (.bool true)) (.slot 54)⟩,
  ⟨some 56, none, .mov (.slot 55)⟩,
  ⟨some 57, some (56, false), .mov (.slot 0)⟩,
  ⟨some 58, some (56, false), .call .frz n_ref13_in [(.slot 57), (.const (.int .i32 65056)), (.const (.int .i32 65071))]⟩,
  ⟨some 59, none, .pick (.slot 56) (.const (.bool true)) (.slot 58)⟩,
  ⟨some 41, none, .mov (.slot 59)⟩]
def q46R6 : List AOper := [⟨some 2, none, .mov (.const (.int .i64 0))⟩]
def q46R7 : List AOper := [⟨some 61, none, .mov (.slot 0)⟩,
  ⟨some 62, none, .call .frz n_ref13_in [(.slot 61), (.const (.int .i32 4352)), (.const (.int .i32 4447))]⟩,
  ⟨some 63, none, .mov (.slot 62)⟩,
  ⟨some 64, some (63, false), .mov (.slot 0)⟩,
  ⟨some 65, some (63, false), .call .frz n_ref13_in [(.slot 64), (.const (.int .i32 11904)), (.const (.int .i32 12350))]⟩,
  ⟨some 66, none, .pick (.slot 63) (.const (.bool true)) (.slot 65)⟩,
  ⟨some 67, none, .mov (.slot 66)⟩,
  ⟨some 68, some (67, false), .mov (.slot 0)⟩,
  ⟨some 69, some (67, false), .call .frz n_ref13_in [(.slot 68), (.const (.int .i32 12353)), (.const (.int .i32 42191))]⟩,
  ⟨some 70, none, .pick (.slot 67) (.const (.bool true)) (.slot 69)⟩,
  ⟨some 71, none, .mov (.slot 70)⟩,
  ⟨some 72, some (71, false), .mov (.slot 0)⟩,
  ⟨some 73, some (71, false), .call .frz n_ref13_in [(.slot 72), (.const (.int .i32 44032)), (.const (.int .i32 55203))]⟩,
  ⟨some 74, none, .pick (.slot 71) (.const (.bool true)) (.slot 73)⟩,
  ⟨some 75, none, .mov (.slot 74)⟩,
  ⟨some 76, some (75, false), .mov (.slot 0)⟩,
  ⟨some 77, some (75, false), .call .frz n_ref13_in [(.slot 76), (.const (.int .i32 63744)), (.const (.int .i32 64255))]⟩,
  ⟨some 78, none, .pick (.slot 75) (.const (.bool true)) (.slot 77)⟩,
  ⟨some 60, none, .mov (.slot 78)⟩]
def q46R8 : List AOper := [⟨some 2, none, .mov (.const (.int .i64 2))⟩]
def q46R9 : List AOper := [⟨some 80, none, .mov (.slot 0)⟩,
  ⟨some 81, none, .call .frz n_ref13_in [(.slot 80), (.const (.int .i32 65072)), (.const (.int .i32 65135))]⟩,
  ⟨some 82, none, .mov (.slot 81)⟩,
  ⟨some 83, some (82, false), .mov (.slot 0)⟩,
  ⟨some 84, some (82, false), .call .frz n_ref13_in [(.slot 83), (.const (.int .i32 65280)), (.const (.int .i32 65376))]⟩,
  ⟨some 85, none, .pick (.slot 82) (.const (.bool true)) (.slot 84)⟩,
  ⟨some 86, none, .mov (.slot 85)⟩,
  ⟨some 87, some (86, false), .mov (.slot 0)⟩,
  ⟨some 88, some (86, false), .call .frz n_ref13_in [(.slot 87), (.const (.int .i32 65504)), (.const (.int .i32 65510))]⟩,
  ⟨some 89, none, .pick (.slot 86) (.const (.bool true)) (.slot 88)⟩,
  ⟨some 90, none, .mov (.slot 89)⟩,
  ⟨some 91, some (90, false), .mov (.slot 0)⟩,
  ⟨some 92, some (90, false), .call .frz n_ref13_in [(.slot 91), (.const (.int .i32 127744)), (.const (.int .i32 128591))]⟩,
  ⟨some 93, none, .pick (.slot 90) (.const (.bool true)) (.slot 92)⟩,
  ⟨some 94, none, .mov (.slot 93)⟩,
  ⟨some 95, some (94, false), .mov (.slot 0)⟩,
  ⟨some 96, some (94, false), .call .frz n_ref13_in [(.slot 95), (.const (.int .i32 129280)), (.const (.int .i32 129535))]⟩,
  ⟨some 97, none, .pick (.slot 94) (.const (.bool true)) (.slot 96)⟩,
  ⟨some 98, none, .mov (.slot 97)⟩,
  ⟨some 99, some (98, false), .mov (.slot 0)⟩,
  ⟨some 100, some (98, false), .call .frz n_ref13_in [(.slot 99), (.const (.int .i32 131072)), (.const (.int .i32 262141))]⟩,
  ⟨some 101, none, .pick (.slot 98) (.const (.bool true)) (.slot 100)⟩,
  ⟨some 79, none, .mov (.slot 101)⟩]
def q46R10 : List AOper := [⟨some 2, none, .mov (.const (.int .i64 2))⟩]
def q46R11 : List AOper := [⟨some 2, none, .mov (.const (.int .i64 1))⟩]
def c_ref13_Of : AFn := ⟨(.seq (.region q46R0 false [0]) (.seq (.block 0 (.seq (.region q46R1 false [0, 3]) (.cond (.slot 3) (.seq (.region q46R2 false [2]) .ret) (.seq (.region q46R3 false [0, 18]) (.cond (.slot 18) (.seq (.region q46R4 false [2]) .ret) (.seq (.region q46R5 false [0, 41]) (.cond (.slot 41) (.seq (.region q46R6 false [2]) .ret) (.seq (.region q46R7 false [0, 60]) (.cond (.slot 60) (.seq (.region q46R8 false [2]) .ret) (.seq (.region q46R9 false [79]) (.cond (.slot 79) (.seq (.region q46R10 false [2]) .ret) .skip))))))))))) (.seq (.region q46R11 false [2]) .ret))), [.slot 2]⟩
/- oriel/orielref12.May -/
def q45R0 : List AOper := [⟨some 1, none, .box 3 (.slot 0)⟩,
  ⟨some 2, none, .mov (.const (.bool false))⟩]
def q45R1 : List AOper := ⟨some 3, none, .faddr 0 (.slot 1)⟩ ::
  ⟨some 4, none, .load false 1 (.slot 3)⟩ ::
  ⟨some 5, none, .bin .geq (.slot 4) (.const (.int .i64 0))⟩ ::
  ⟨some 6, none, .mov (.slot 5)⟩ ::
  ⟨some 7, some (6, true), .faddr 0 (.slot 1)⟩ ::
  ⟨some 8, some (6, true), .load false 1 (.slot 7)⟩ ::
  ⟨some 9, some (6, true), .bin .leq (.slot 8) (.const (.int .i64 255))⟩ ::
  ⟨some 10, none, .pick (.slot 6) (.slot 9) (.const (.bool false))⟩ ::
  ⟨some 11, none, .mov (.slot 10)⟩ ::
  ⟨some 12, some (11, true), .faddr 1 (.slot 1)⟩ ::
  ⟨some 13, some (11, true), .load false 1 (.slot 12)⟩ ::
  ⟨some 14, some (11, true), .bin .geq (.slot 13) (.const (.int .i64 0))⟩ ::
  ⟨some 15, none, .pick (.slot 11) (.slot 14) (.const (.bool false))⟩ ::
  ⟨some 16, none, .mov (.slot 15)⟩ ::
  ⟨some 17, some (16, true), .faddr 1 (.slot 1)⟩ ::
  ⟨some 18, some (16, true), .load false 1 (.slot 17)⟩ ::
  ⟨some 19, some (16, true), .bin .leq (.slot 18) (.const (.int .i64 256))⟩ ::
  ⟨some 20, none, .pick (.slot 16) (.slot 19) (.const (.bool false))⟩ ::
  ⟨some 21, none, .mov (.slot 20)⟩ ::
  ⟨some 22, some (21, true), .faddr 2 (.slot 1)⟩ ::
  ⟨some 23, some (21, true), .load false 1 (.slot 22)⟩ ::
  ⟨some 24, some (21, true), .bin .geq (.slot 23) (.const (.int .i64 0))⟩ ::
  ⟨some 25, none, .pick (.slot 21) (.slot 24) (.const (.bool false))⟩ ::
  ⟨some 26, none, .mov (.slot 25)⟩ ::
  ⟨some 27, some (26, true), .faddr 2 (.slot 1)⟩ ::
  ⟨some 28, some (26, true), .load false 1 (.slot 27)⟩ ::
  ⟨some 29, some (26, true), .bin .leq (.slot 28) (.const (.int .i64 256))⟩ ::
  ⟨some 30, none, .pick (.slot 26) (.slot 29) (.const (.bool false))⟩ ::
  ⟨some 2, none, .mov (.slot 30)⟩ :: []
def c_ref12_May : AFn := ⟨(.seq (.region q45R0 false [1]) (.seq (.region q45R1 false [2]) .ret)), [.slot 2]⟩
/- oriel/orielref14.Cell -/
def q51R0 : List AOper := [⟨some 1, none, .box 7 (.slot 0)⟩,
  ⟨some 2, none, .mov (.const (.bool false))⟩]
def q51R1 : List AOper := [⟨some 4, none, .faddr 4 (.slot 1)⟩,
  ⟨some 5, none, .load true 3 (.slot 4)⟩,
  ⟨some 6, none, .call .frz n_ref12_May [(.slot 5)]⟩,
  ⟨some 7, none, .not (.slot 6)⟩]
def q51R2 : List AOper := [⟨some 2, none, .mov (.const (.bool false))⟩]
def q51R3 : List AOper := [⟨some 8, none, .faddr 3 (.slot 1)⟩,
  ⟨some 9, none, .load false 1 (.slot 8)⟩,
  ⟨some 10, none, .bin .eql (.slot 9) (.const (.int .i64 2))⟩]
def q51R4 : List AOper := [⟨some 11, none, .faddr 0 (.slot 1)⟩,
  ⟨some 12, none, .load false 1 (.slot 11)⟩,
  ⟨some 13, none, .bin .eql (.slot 12) (.const (.int .i32 0))⟩,
  ⟨some 14, none, .mov (.slot 13)⟩,
  ⟨some 15, some (14, true), .faddr 1 (.slot 1)⟩,
  ⟨some 16, some (14, true), .idxarr 1 2 (.slot 15) (.const (.int .i64 0))⟩,
  ⟨some 17, some (14, true), .load false 1 (.slot 16)⟩,
  ⟨some 18, some (14, true), .bin .eql (.slot 17) (.const (.int .i32 0))⟩,
  ⟨some 19, none, .pick (.slot 14) (.slot 18) (.const (.bool false))⟩,
  ⟨some 20, none, .mov (.slot 19)⟩,
  ⟨some 21, some (20, true), .faddr 1 (.slot 1)⟩,
  ⟨some 22, some (20, true), .idxarr 1 2 (.slot 21) (.const (.int .i64 1))⟩,
  ⟨some 23, some (20, true), .load false 1 (.slot 22)⟩,
  ⟨some 24, some (20, true), .bin .eql (.slot 23) (.const (.int .i32 0))⟩,
  ⟨some 25, none, .pick (.slot 20) (.slot 24) (.const (.bool false))⟩,
  ⟨some 2, none, .mov (.slot 25)⟩]
def q51R5 : List AOper := [⟨some 26, none, .faddr 3 (.slot 1)⟩,
  ⟨some 27, none, .load false 1 (.slot 26)⟩,
  ⟨some 28, none, .bin .neq (.slot 27) (.const (.int .i64 0))⟩,
  ⟨some 29, none, .mov (.slot 28)⟩,
  ⟨some 30, some (29, true), .faddr 3 (.slot 1)⟩,
  ⟨some 31, some (29, true), .load false 1 (.slot 30)⟩,
  ⟨some 32, some (29, true), .bin .neq (.slot 31) (.const (.int .i64 1))⟩,
  ⟨some 33, none, .pick (.slot 29) (.slot 32) (.const (.bool false))⟩,
  ⟨some 34, none, .mov (.slot 33)⟩,
  ⟨some 35, some (34, false), .faddr 0 (.slot 1)⟩,
  ⟨some 36, some (34, false), .load false 1 (.slot 35)⟩,
  ⟨some 37, some (34, false), .call .frz n_ref13_Of [(.slot 36)]⟩,
  ⟨some 38, some (34, false), .faddr 3 (.slot 1)⟩,
  ⟨some 39, some (34, false), .load false 1 (.slot 38)⟩,
  ⟨some 40, some (34, false), .bin .add (.const (.int .i64 1)) (.slot 39)⟩,
  ⟨some 41, some (34, false), .bin .neq (.slot 37) (.slot 40)⟩,
  ⟨some 42, none, .pick (.slot 34) (.const (.bool true)) (.slot 41)⟩]
def q51R6 : List AOper := [⟨some 2, none, .mov (.const (.bool false))⟩]
def q51R7 : List AOper := [⟨some 3, none, .mov (.const (.int .i64 0))⟩]
def q51R8 : List AOper := [⟨some 43, none, .mov (.slot 3)⟩,
  ⟨some 44, none, .bin .lss (.slot 43) (.const (.int .i64 2))⟩]
def q51R10 : List AOper := [⟨some 47, none, .mov (.slot 3)⟩,
  ⟨some 48, none, .faddr 1 (.slot 1)⟩,
  ⟨some 49, none, .idxarr 1 2 (.slot 48) (.slot 47)⟩,
  ⟨some 50, none, .load false 1 (.slot 49)⟩,
  ⟨some 51, none, .bin .neq (.slot 50) (.const (.int .i32 0))⟩,
  ⟨some 52, none, .mov (.slot 51)⟩,
  ⟨some 53, some (52, true), .mov (.slot 3)⟩,
  ⟨some 54, some (52, true), .faddr 1 (.slot 1)⟩,
  ⟨some 55, some (52, true), .idxarr 1 2 (.slot 54) (.slot 53)⟩,
  ⟨some 56, some (52, true), .load false 1 (.slot 55)⟩,
  ⟨some 57, some (52, true), .call .frz n_ref13_Of [(.slot 56)]⟩,
  ⟨some 58, some (52, true), .bin .neq (.slot 57) (.const (.int .i64 0))⟩,
  ⟨some 59, some (52, true), .mov (.slot 58)⟩,
  ⟨some 60, some (59, false), .mov (.slot 3)⟩,
  ⟨some 61, some (59, false), .bin .eql (.slot 60) (.const (.int .i64 1))⟩,
  ⟨some 62, some (59, false), .mov (.slot 61)⟩,
  ⟨some 63, some (62, true), .faddr 1 (.slot 1)⟩,
  ⟨some 64, some (62, true), .idxarr 1 2 (.slot 63) (.const (.int .i64 0))⟩,
  ⟨some 65, some (62, true), .load false 1 (.slot 64)⟩,
  ⟨some 66, some (62, true), .bin .eql (.slot 65) (.const (.int .i32 0))⟩,
  ⟨some 67, some (59, false), .pick (.slot 62) (.slot 66) (.const (.bool false))⟩,
  ⟨some 68, some (52, true), .pick (.slot 59) (.const (.bool true)) (.slot 67)⟩,
  ⟨some 69, none, .pick (.slot 52) (.slot 68) (.const (.bool false))⟩]
def q51R11 : List AOper := [⟨some 2, none, .mov (.const (.bool false))⟩]
def q51R9 : List AOper := [⟨some 45, none, .mov (.slot 3)⟩,
  ⟨some 46, none, .bin .add (.slot 45) (.const (.int .i64 1))⟩,
  ⟨some 3, none, .mov (.slot 46)⟩]
def c_ref14_Cell_L0 : ACode := (.seq (.seq (.region q51R8 false [1, 3, 44]) (.cond (.slot 44) .skip (.exit 0))) (.seq (.block 1 (.seq (.region q51R10 false [1, 3, 69]) (.cond (.slot 69) (.seq (.region q51R11 false [2]) .ret) .skip))) (.region q51R9 false [1, 3])))
def lp_ref14_Cell_0 : ACode := .loop [1, 3] c_ref14_Cell_L0
def q51R12 : List AOper := [⟨some 2, none, .mov (.const (.bool true))⟩]
def c_ref14_Cell : AFn := ⟨(.seq (.region q51R0 false [1]) (.seq (.seq (.region q51R1 false [1, 7]) (.cond (.slot 7) (.seq (.region q51R2 false [2]) .ret) .skip)) (.seq (.seq (.region q51R3 false [1, 10]) (.cond (.slot 10) (.seq (.region q51R4 false [2]) .ret) .skip)) (.seq (.seq (.region q51R5 true [1, 42]) (.cond (.slot 42) (.seq (.region q51R6 false [2]) .ret) .skip)) (.seq (.seq (.region q51R7 false [1, 3]) (.block 0 lp_ref14_Cell_0)) (.seq (.region q51R12 false [2]) .ret)))))), [.slot 2]⟩
/- oriel/orielref14.May -/
def q54R0 : List AOper := [⟨some 2, none, .mov (.const (.bool false))⟩]
def q54R1 : List AOper := [⟨some 4, none, .mov (.slot 0)⟩,
  ⟨some 5, none, .len false (.slot 4)⟩,
  ⟨some 6, none, .bin .gtr (.slot 5) (.const (.int .i64 1000))⟩]
def q54R2 : List AOper := [⟨some 2, none, .mov (.const (.bool false))⟩]
def q54R3 : List AOper := [⟨some 3, none, .mov (.const (.int .i64 0))⟩]
def q54R4 : List AOper := [⟨some 7, none, .mov (.slot 3)⟩,
  ⟨some 8, none, .mov (.slot 0)⟩,
  ⟨some 9, none, .len false (.slot 8)⟩,
  ⟨some 10, none, .bin .lss (.slot 7) (.slot 9)⟩]
def q54R6 : List AOper := [⟨some 13, none, .mov (.slot 0)⟩,
  ⟨some 14, none, .mov (.slot 3)⟩,
  ⟨some 15, none, .idx 7 (.slot 13) (.slot 14)⟩,
  ⟨some 16, none, .load true 7 (.slot 15)⟩,
  ⟨some 17, none, .call .frz n_ref14_Cell [(.slot 16)]⟩,
  ⟨some 18, none, .not (.slot 17)⟩]
def q54R7 : List AOper := [⟨some 2, none, .mov (.const (.bool false))⟩]
def q54R8 : List AOper := ⟨some 19, none, .mov (.slot 0)⟩ ::
  ⟨some 20, none, .mov (.slot 3)⟩ ::
  ⟨some 21, none, .idx 7 (.slot 19) (.slot 20)⟩ ::
  ⟨some 22, none, .faddr 3 (.slot 21)⟩ ::
  ⟨some 23, none, .load false 1 (.slot 22)⟩ ::
  ⟨some 24, none, .bin .eql (.slot 23) (.const (.int .i64 1))⟩ ::
  ⟨some 25, none, .mov (.slot 24)⟩ ::
  ⟨some 26, some (25, true), .mov (.slot 3)⟩ ::
  ⟨some 27, some (25, true), .bin .add (.slot 26) (.const (.int .i64 1))⟩ ::
  ⟨some 28, some (25, true), .mov (.slot 0)⟩ ::
  ⟨some 29, some (25, true), .len false (.slot 28)⟩ ::
  ⟨some 30, some (25, true), .bin .eql (.slot 27) (.slot 29)⟩ ::
  ⟨some 31, some (25, true), .mov (.slot 30)⟩ ::
  ⟨some 32, some (31, false), .mov (.slot 0)⟩ ::
  ⟨some 33, some (31, false), .mov (.slot 3)⟩ ::
  ⟨some 34, some (31, false), .bin .add (.slot 33) (.const (.int .i64 1))⟩ ::
  ⟨some 35, some (31, false), .idx 7 (.slot 32) (.slot 34)⟩ ::
  ⟨some 36, some (31, false), .faddr 3 (.slot 35)⟩ ::
  ⟨some 37, some (31, false), .load false 1 (.slot 36)⟩ ::
  ⟨some 38, some (31, false), .bin .neq (.slot 37) (.const (.int .i64 2))⟩ ::
  ⟨some 39, some (25, true), .pick (.slot 31) (.const (.bool true)) (.slot 38)⟩ ::
  ⟨some 40, some (25, true), .mov (.slot 39)⟩ ::
  ⟨some 41, some (40, false), .mov (.slot 0)⟩ ::
  ⟨some 42, some (40, false), .mov (.slot 3)⟩ ::
  ⟨some 43, some (40, false), .bin .add (.slot 42) (.const (.int .i64 1))⟩ ::
  ⟨some 44, some (40, false), .idx 7 (.slot 41) (.slot 43)⟩ ::
  ⟨some 45, some (40, false), .faddr 4 (.slot 44)⟩ ::
  ⟨some 46, some (40, false), .load true 3 (.slot 45)⟩ ::
  ⟨some 47, some (40, false), .mov (.slot 0)⟩ ::
  ⟨some 48, some (40, false), .mov (.slot 3)⟩ ::
  ⟨some 49, some (40, false), .idx 7 (.slot 47) (.slot 48)⟩ ::
  ⟨some 50, some (40, false), .faddr 4 (.slot 49)⟩ ::
  ⟨some 51, some (40, false), .load true 3 (.slot 50)⟩ ::
  ⟨some 52, some (40, false), .eq true [.ki, .ki, .ki] true (.slot 46) (.slot 51)⟩ ::
  ⟨some 53, some (25, true), .pick (.slot 40) (.const (.bool true)) (.slot 52)⟩ ::
  ⟨some 54, none, .pick (.slot 25) (.slot 53) (.const (.bool false))⟩ :: []
def q54R9 : List AOper := [⟨some 2, none, .mov (.const (.bool false))⟩]
def q54R10 : List AOper := [⟨some 55, none, .mov (.slot 0)⟩,
  ⟨some 56, none, .mov (.slot 3)⟩,
  ⟨some 57, none, .idx 7 (.slot 55) (.slot 56)⟩,
  ⟨some 58, none, .faddr 3 (.slot 57)⟩,
  ⟨some 59, none, .load false 1 (.slot 58)⟩,
  ⟨some 60, none, .bin .eql (.slot 59) (.const (.int .i64 2))⟩,
  ⟨some 61, none, .mov (.slot 60)⟩,
  ⟨some 62, some (61, true), .mov (.slot 3)⟩,
  ⟨some 63, some (61, true), .bin .eql (.slot 62) (.const (.int .i64 0))⟩,
  ⟨some 64, some (61, true), .mov (.slot 63)⟩,
  ⟨some 65, some (64, false), .mov (.slot 0)⟩,
  ⟨some 66, some (64, false), .mov (.slot 3)⟩,
  ⟨some 67, some (64, false), .bin .sub (.slot 66) (.const (.int .i64 1))⟩,
  ⟨some 68, some (64, false), .idx 7 (.slot 65) (.slot 67)⟩,
  ⟨some 69, some (64, false), .faddr 3 (.slot 68)⟩,
  ⟨some 70, some (64, false), .load false 1 (.slot 69)⟩,
  ⟨some 71, some (64, false), .bin .neq (.slot 70) (.const (.int .i64 1))⟩,
  ⟨some 72, some (61, true), .pick (.slot 64) (.const (.bool true)) (.slot 71)⟩,
  ⟨some 73, none, .pick (.slot 61) (.slot 72) (.const (.bool false))⟩]
def q54R11 : List AOper := [⟨some 2, none, .mov (.const (.bool false))⟩]
def q54R5 : List AOper := [⟨some 11, none, .mov (.slot 3)⟩,
  ⟨some 12, none, .bin .add (.slot 11) (.const (.int .i64 1))⟩,
  ⟨some 3, none, .mov (.slot 12)⟩]
def c_ref14_May_L0 : ACode := (.seq (.seq (.region q54R4 false [0, 3, 10]) (.cond (.slot 10) .skip (.exit 0))) (.seq (.block 1 (.seq (.seq (.region q54R6 false [0, 3, 18]) (.cond (.slot 18) (.seq (.region q54R7 false [2]) .ret) .skip)) (.seq (.seq (.region q54R8 true [0, 3, 54]) (.cond (.slot 54) (.seq (.region q54R9 false [2]) .ret) .skip)) (.seq (.region q54R10 false [0, 3, 73]) (.cond (.slot 73) (.seq (.region q54R11 false [2]) .ret) .skip))))) (.region q54R5 false [0, 3])))
def lp_ref14_May_0 : ACode := .loop [0, 3] c_ref14_May_L0
def q54R12 : List AOper := [⟨some 2, none, .mov (.const (.bool true))⟩]
def c_ref14_May : AFn := ⟨(.seq (.region q54R0 false [0]) (.seq (.seq (.region q54R1 false [0, 6]) (.cond (.slot 6) (.seq (.region q54R2 false [2]) .ret) .skip)) (.seq (.seq (.region q54R3 false [0, 3]) (.block 0 lp_ref14_May_0)) (.seq (.region q54R12 false [2]) .ret)))), [.slot 2]⟩
/- oriel/orielref15.May -/
def q63R0 : List AOper := [⟨some 2, none, .mov (.const (.bool false))⟩]
def q63R1 : List AOper := [⟨some 4, none, .mov (.slot 0)⟩,
  ⟨some 5, none, .len false (.slot 4)⟩,
  ⟨some 6, none, .call .frz n_ref15_Side [(.slot 5)]⟩,
  ⟨some 7, none, .not (.slot 6)⟩,
  ⟨some 8, none, .mov (.slot 7)⟩,
  ⟨some 9, some (8, false), .mov (.slot 0)⟩,
  ⟨some 10, some (8, false), .idx 1 (.slot 9) (.const (.int .i64 0))⟩,
  ⟨some 11, some (8, false), .load false 1 (.slot 10)⟩,
  ⟨some 12, some (8, false), .len false (.slot 11)⟩,
  ⟨some 13, some (8, false), .call .frz n_ref15_Side [(.slot 12)]⟩,
  ⟨some 14, some (8, false), .not (.slot 13)⟩,
  ⟨some 15, none, .pick (.slot 8) (.const (.bool true)) (.slot 14)⟩]
def q63R2 : List AOper := [⟨some 2, none, .mov (.const (.bool false))⟩]
def q63R3 : List AOper := [⟨some 3, none, .mov (.const (.int .i64 0))⟩]
def q63R4 : List AOper := [⟨some 16, none, .mov (.slot 3)⟩,
  ⟨some 17, none, .mov (.slot 0)⟩,
  ⟨some 18, none, .len false (.slot 17)⟩,
  ⟨some 19, none, .bin .lss (.slot 16) (.slot 18)⟩]
def q63R6 : List AOper := [⟨some 22, none, .mov (.slot 0)⟩,
  ⟨some 23, none, .mov (.slot 3)⟩,
  ⟨some 24, none, .idx 1 (.slot 22) (.slot 23)⟩,
  ⟨some 25, none, .load false 1 (.slot 24)⟩,
  ⟨some 26, none, .len false (.slot 25)⟩,
  ⟨some 27, none, .mov (.slot 0)⟩,
  ⟨some 28, none, .idx 1 (.slot 27) (.const (.int .i64 0))⟩,
  ⟨some 29, none, .load false 1 (.slot 28)⟩,
  ⟨some 30, none, .len false (.slot 29)⟩,
  ⟨some 31, none, .bin .neq (.slot 26) (.slot 30)⟩,
  ⟨some 32, none, .mov (.slot 31)⟩,
  ⟨some 33, some (32, false), .mov (.slot 0)⟩,
  ⟨some 34, some (32, false), .mov (.slot 3)⟩,
  ⟨some 35, some (32, false), .idx 1 (.slot 33) (.slot 34)⟩,
  ⟨some 36, some (32, false), .load false 1 (.slot 35)⟩,
  ⟨some 37, some (32, false), .call .frz n_ref14_May [(.slot 36)]⟩,
  ⟨some 38, some (32, false), .not (.slot 37)⟩,
  ⟨some 39, none, .pick (.slot 32) (.const (.bool true)) (.slot 38)⟩]
def q63R7 : List AOper := [⟨some 2, none, .mov (.const (.bool false))⟩]
def q63R5 : List AOper := [⟨some 20, none, .mov (.slot 3)⟩,
  ⟨some 21, none, .bin .add (.slot 20) (.const (.int .i64 1))⟩,
  ⟨some 3, none, .mov (.slot 21)⟩]
def c_ref15_May_L0 : ACode := (.seq (.seq (.region q63R4 false [0, 3, 19]) (.cond (.slot 19) .skip (.exit 0))) (.seq (.block 1 (.seq (.region q63R6 true [0, 3, 39]) (.cond (.slot 39) (.seq (.region q63R7 false [2]) .ret) .skip))) (.region q63R5 false [0, 3])))
def lp_ref15_May_0 : ACode := .loop [0, 3] c_ref15_May_L0
def q63R8 : List AOper := [⟨some 2, none, .mov (.const (.bool true))⟩]
def c_ref15_May : AFn := ⟨(.seq (.region q63R0 false [0]) (.seq (.seq (.region q63R1 false [0, 15]) (.cond (.slot 15) (.seq (.region q63R2 false [2]) .ret) .skip)) (.seq (.seq (.region q63R3 false [0, 3]) (.block 0 lp_ref15_May_0)) (.seq (.region q63R8 false [2]) .ret)))), [.slot 2]⟩
/- oriel/orielref14.Pen -/
def q55R0 : List AOper := [⟨some 1, none, .box 3 (.slot 0)⟩,
  ⟨some 2, none, .mov (.const (.bool false))⟩]
def q55R1 : List AOper := [⟨some 3, none, .load true 3 (.slot 1)⟩,
  ⟨some 4, none, .call .frz n_ref12_May [(.slot 3)]⟩,
  ⟨some 2, none, .mov (.slot 4)⟩]
def c_ref14_Pen : AFn := ⟨(.seq (.region q55R0 false [1]) (.seq (.region q55R1 false [2]) .ret)), [.slot 2]⟩
/- oriel/oriellaw15.fine -/
def q27R0 : List AOper := [⟨some 5, none, .box 3 (.slot 1)⟩,
  ⟨some 8, none, .mov (.const (.bool false))⟩]
def q27R1 : List AOper := [⟨some 9, none, .mov (.slot 0)⟩,
  ⟨some 10, none, .call .frz n_ref15_May [(.slot 9)]⟩,
  ⟨some 11, none, .not (.slot 10)⟩,
  ⟨some 12, none, .mov (.slot 11)⟩,
  ⟨some 13, some (12, false), .load true 3 (.slot 5)⟩,
  ⟨some 14, some (12, false), .call .frz n_ref14_Pen [(.slot 13)]⟩,
  ⟨some 15, some (12, false), .not (.slot 14)⟩,
  ⟨some 16, none, .pick (.slot 12) (.const (.bool true)) (.slot 15)⟩]
def q27R2 : List AOper := [⟨some 17, none, .mov (.slot 2)⟩,
  ⟨some 18, none, .len false (.slot 17)⟩,
  ⟨some 19, none, .bin .eql (.slot 18) (.const (.int .i64 0))⟩,
  ⟨some 8, none, .mov (.slot 19)⟩]
def q27R3 : List AOper := [⟨some 20, none, .mov (.slot 2)⟩,
  ⟨some 21, none, .mov (.slot 3)⟩,
  ⟨some 22, none, .call .frz n_ref15_Same [(.slot 20), (.slot 21)]⟩,
  ⟨some 8, none, .mov (.slot 22)⟩]
def c_law15_fine : AFn := ⟨(.seq (.region q27R0 false [0, 2, 3, 5]) (.seq (.seq (.region q27R1 false [2, 3, 16]) (.cond (.slot 16) (.seq (.region q27R2 false [8]) .ret) .skip)) (.seq (.region q27R3 false [8]) .ret))), [.slot 8]⟩
/- oriel/grid.With -/
def q12R0 : List AOper := [⟨some 6, none, .mov (.const (.data false 1 [] true))⟩]
def q12R1 : List AOper := [⟨some 9, none, .mov (.slot 0)⟩,
  ⟨some 10, none, .call .frz n_grid_May [(.slot 9)]⟩,
  ⟨some 11, none, .not (.slot 10)⟩]
def q12R2 : List AOper := [⟨some 6, none, .mov (.const (.data false 1 [] true))⟩]
def q12R3 : List AOper := [⟨some 12, none, .mov (.slot 0)⟩,
  ⟨some 13, none, .call .adp n_grid_copied [(.slot 12)]⟩,
  ⟨some 7, none, .mov (.slot 13)⟩]
def q12R4 : List AOper := [⟨some 14, none, .mov (.slot 1)⟩,
  ⟨some 15, none, .bin .lss (.slot 14) (.const (.int .i64 0))⟩,
  ⟨some 16, none, .mov (.slot 15)⟩,
  ⟨some 17, some (16, false), .mov (.slot 1)⟩,
  ⟨some 18, some (16, false), .mov (.slot 0)⟩,
  ⟨some 19, some (16, false), .len false (.slot 18)⟩,
  ⟨some 20, some (16, false), .bin .geq (.slot 17) (.slot 19)⟩,
  ⟨some 21, none, .pick (.slot 16) (.const (.bool true)) (.slot 20)⟩,
  ⟨some 22, none, .mov (.slot 21)⟩,
  ⟨some 23, some (22, false), .mov (.slot 2)⟩,
  ⟨some 24, some (22, false), .isnil .kf false (.slot 23)⟩,
  ⟨some 25, none, .pick (.slot 22) (.const (.bool true)) (.slot 24)⟩]
def q12R5 : List AOper := [⟨some 26, none, .mov (.slot 7)⟩,
  ⟨some 6, none, .mov (.slot 26)⟩]
def q12R6 : List AOper := [⟨some 27, none, .mov (.slot 2)⟩,
  ⟨some 28, none, .mov (.slot 0)⟩,
  ⟨some 29, none, .mov (.slot 1)⟩,
  ⟨some 30, none, .idx 1 (.slot 28) (.slot 29)⟩,
  ⟨some 31, none, .load false 1 (.slot 30)⟩,
  ⟨some 32, none, .call .adp n_slices_Clone_Cell [(.slot 31)]⟩,
  ⟨some 33, none, .callv (.slot 27) [(.slot 32)]⟩,
  ⟨some 8, none, .mov (.slot 33)⟩]
def q12R7 : List AOper := [⟨some 34, none, .mov (.slot 8)⟩,
  ⟨some 35, none, .len false (.slot 34)⟩,
  ⟨some 36, none, .mov (.slot 0)⟩,
  ⟨some 37, none, .mov (.slot 1)⟩,
  ⟨some 38, none, .idx 1 (.slot 36) (.slot 37)⟩,
  ⟨some 39, none, .load false 1 (.slot 38)⟩,
  ⟨some 40, none, .len false (.slot 39)⟩,
  ⟨some 41, none, .bin .eql (.slot 35) (.slot 40)⟩,
  ⟨some 42, none, .mov (.slot 41)⟩,
  ⟨some 43, some (42, true), .mov (.slot 8)⟩,
  ⟨some 44, some (42, true), .call .frz n_line_May [(.slot 43)]⟩,
  ⟨some 45, none, .pick (.slot 42) (.slot 44) (.const (.bool false))⟩]
def q12R8 : List AOper := [⟨some 46, none, .mov (.slot 7)⟩,
  ⟨some 47, none, .mov (.slot 1)⟩,
  ⟨some 48, none, .mov (.slot 8)⟩,
  ⟨some 49, none, .call .frz n_slices_Clone_Cell [(.slot 48)]⟩,
  ⟨some 50, none, .idx 1 (.slot 46) (.slot 47)⟩,
  ⟨none, none, .store false 1 (.slot 50) (.slot 49)⟩]
def q12R9 : List AOper := [⟨some 51, none, .mov (.slot 7)⟩,
  ⟨some 6, none, .mov (.slot 51)⟩]
def c_grid_With : AFn := ⟨(.seq (.region q12R0 false [0, 1, 2]) (.seq (.seq (.region q12R1 false [0, 1, 2, 11]) (.cond (.slot 11) (.seq (.region q12R2 false [6]) .ret) .skip)) (.seq (.region q12R3 false [0, 1, 2, 7]) (.seq (.seq (.region q12R4 false [0, 1, 2, 7, 25]) (.cond (.slot 25) (.seq (.region q12R5 false [6]) .ret) .skip)) (.seq (.seq (.region q12R6 false [0, 1, 7, 8]) (.seq (.region q12R7 false [1, 7, 8, 45]) (.cond (.slot 45) (.region q12R8 false [7]) .skip))) (.seq (.region q12R9 false [6]) .ret)))))), [.slot 6]⟩
/- oriel/oriellaw15.GridWith'1 -/
def q24R0 : List AOper := [⟨some 4, none, .mov (.const (.data false 7 [] true))⟩]
def q24R1 : List AOper := [⟨some 6, none, .load false 1 (.slot 1)⟩,
  ⟨some 7, none, .bin .add (.slot 6) (.const (.int .i64 1))⟩,
  ⟨none, none, .store false 1 (.slot 1) (.slot 7)⟩]
def q24R2 : List AOper := [⟨some 5, none, .mov (.const (.int .i64 0))⟩]
def q24R3 : List AOper := [⟨some 8, none, .mov (.slot 5)⟩,
  ⟨some 9, none, .mov (.slot 0)⟩,
  ⟨some 10, none, .len false (.slot 9)⟩,
  ⟨some 11, none, .bin .lss (.slot 8) (.slot 10)⟩]
def q24R5 : List AOper := [⟨some 14, none, .mov (.slot 0)⟩,
  ⟨some 15, none, .mov (.slot 5)⟩,
  ⟨some 16, none, .idx 7 (.slot 14) (.slot 15)⟩,
  ⟨some 17, none, .faddr 0 (.slot 16)⟩,
  ⟨none, none, .store false 1 (.slot 17) (.const (.int .i32 120))⟩]
def q24R4 : List AOper := [⟨some 12, none, .mov (.slot 5)⟩,
  ⟨some 13, none, .bin .add (.slot 12) (.const (.int .i64 1))⟩,
  ⟨some 5, none, .mov (.slot 13)⟩]
def c_law15_GridWith_1_L0 : ACode := (.seq (.seq (.region q24R3 false [0, 2, 5, 11]) (.cond (.slot 11) .skip (.exit 0))) (.seq (.block 1 (.region q24R5 false [0, 2, 5])) (.region q24R4 false [0, 2, 5])))
def lp_law15_GridWith_1_0 : ACode := .loop [0, 2, 5] c_law15_GridWith_1_L0
def q24R6 : List AOper := [⟨some 18, none, .load false 1 (.slot 2)⟩,
  ⟨some 4, none, .mov (.slot 18)⟩]
def c_law15_GridWith_1 : AFn := ⟨(.seq (.region q24R0 false [0, 1, 2]) (.seq (.region q24R1 false [0, 2]) (.seq (.seq (.region q24R2 false [0, 2, 5]) (.block 0 lp_law15_GridWith_1_0)) (.seq (.region q24R6 false [4]) .ret)))), [.slot 4]⟩
/- oriel/orielref15.With -/
def q68R0 : List AOper := [⟨some 6, none, .mov (.const (.data false 1 [] true))⟩]
def q68R1 : List AOper := [⟨some 7, none, .mknil 1⟩]
def q68R2 : List AOper := [⟨some 8, none, .mov (.const (.int .i64 0))⟩]
def q68R3 : List AOper := [⟨some 9, none, .mov (.slot 8)⟩,
  ⟨some 10, none, .mov (.slot 0)⟩,
  ⟨some 11, none, .len false (.slot 10)⟩,
  ⟨some 12, none, .bin .lss (.slot 9) (.slot 11)⟩]
def q68R5 : List AOper := [⟨some 15, none, .mov (.slot 8)⟩,
  ⟨some 16, none, .mov (.slot 1)⟩,
  ⟨some 17, none, .bin .eql (.slot 15) (.slot 16)⟩,
  ⟨some 18, none, .mov (.slot 17)⟩,
  ⟨some 19, some (18, true), .mov (.slot 2)⟩,
  ⟨some 20, some (18, true), .len false (.slot 19)⟩,
  ⟨some 21, some (18, true), .mov (.slot 0)⟩,
  ⟨some 22, some (18, true), .mov (.slot 8)⟩,
  ⟨some 23, some (18, true), .idx 1 (.slot 21) (.slot 22)⟩,
  ⟨some 24, some (18, true), .load false 1 (.slot 23)⟩,
  ⟨some 25, some (18, true), .len false (.slot 24)⟩,
  ⟨some 26, some (18, true), .bin .eql (.slot 20) (.slot 25)⟩,
  ⟨some 27, none, .pick (.slot 18) (.slot 26) (.const (.bool false))⟩,
  ⟨some 28, none, .mov (.slot 27)⟩,
  ⟨some 29, some (28, true), .mov (.slot 2)⟩,
  ⟨some 30, some (28, true), .call .frz n_ref14_May [(.slot 29)]⟩,
  ⟨some 31, none, .pick (.slot 28) (.slot 30) (.const (.bool false))⟩]
def q68R6 : List AOper := [⟨some 32, none, .mov (.slot 7)⟩,
  ⟨some 33, none, .mov (.slot 2)⟩,
  ⟨some 34, none, .mkslice 1 1 [.data false 7 [] true] [(0, (.slot 33))]⟩,
  ⟨some 35, none, .append 1 24 (.slot 32) (.slot 34)⟩,
  ⟨some 7, none, .mov (.slot 35)⟩]
def q68R7 : List AOper := [⟨some 36, none, .mov (.slot 7)⟩,
  ⟨some 37, none, .mov (.slot 0)⟩,
  ⟨some 38, none, .mov (.slot 8)⟩,
  ⟨some 39, none, .idx 1 (.slot 37) (.slot 38)⟩,
  ⟨some 40, none, .load false 1 (.slot 39)⟩,
  ⟨some 41, none, .mkslice 1 1 [.data false 7 [] true] [(0, (.slot 40))]⟩,
  ⟨some 42, none, .append 1 24 (.slot 36) (.slot 41)⟩,
  ⟨some 7, none, .mov (.slot 42)⟩]
def q68R4 : List AOper := [⟨some 13, none, .mov (.slot 8)⟩,
  ⟨some 14, none, .bin .add (.slot 13) (.const (.int .i64 1))⟩,
  ⟨some 8, none, .mov (.slot 14)⟩]
def c_ref15_With_L0 : ACode := (.seq (.seq (.region q68R3 false [0, 1, 2, 7, 8, 12]) (.cond (.slot 12) .skip (.exit 0))) (.seq (.block 1 (.seq (.region q68R5 false [0, 1, 2, 7, 8, 31]) (.cond (.slot 31) (.region q68R6 false [0, 1, 2, 7, 8]) (.region q68R7 false [0, 1, 2, 7, 8])))) (.region q68R4 false [0, 1, 2, 7, 8])))
def lp_ref15_With_0 : ACode := .loop [0, 1, 2, 7, 8] c_ref15_With_L0
def q68R8 : List AOper := [⟨some 43, none, .mov (.slot 7)⟩,
  ⟨some 6, none, .mov (.slot 43)⟩]
def c_ref15_With : AFn := ⟨(.seq (.region q68R0 false [0, 1, 2]) (.seq (.region q68R1 false [0, 1, 2, 7]) (.seq (.seq (.region q68R2 false [0, 1, 2, 7, 8]) (.block 0 lp_ref15_With_0)) (.seq (.region q68R8 false [6]) .ret)))), [.slot 6]⟩
/- oriel/line.Put -/
def q34R0 : List AOper := [⟨some 7, none, .box 3 (.slot 3)⟩,
  ⟨some 8, none, .mov (.const (.data false 7 [] true))⟩]
def q34R1 : List AOper := [⟨some 11, none, .mov (.slot 0)⟩,
  ⟨some 12, none, .load true 3 (.slot 7)⟩,
  ⟨some 13, none, .call .frz n_line_fine [(.slot 11), (.slot 12)]⟩,
  ⟨some 14, none, .not (.slot 13)⟩]
def q34R2 : List AOper := [⟨some 8, none, .mov (.const (.data false 7 [] true))⟩]
def q34R3 : List AOper := [⟨some 15, none, .mov (.slot 2)⟩,
  ⟨some 16, none, .call .frz n_cols_Of [(.slot 15)]⟩,
  ⟨some 9, none, .mov (.slot 16)⟩]
def q34R4 : List AOper := [⟨some 17, none, .mov (.slot 0)⟩,
  ⟨some 18, none, .call .adp n_slices_Clone_Cell [(.slot 17)]⟩,
  ⟨some 10, none, .mov (.slot 18)⟩]
def q34R5 : List AOper := [⟨some 19, none, .mov (.slot 9)⟩,
  ⟨some 20, none, .bin .lss (.slot 19) (.const (.int .i64 1))⟩,
  ⟨some 21, none, .mov (.slot 20)⟩,
  ⟨some 22, some (21, false), .mov (.slot 1)⟩,
  ⟨some 23, some (21, false), .bin .lss (.slot 22) (.const (.int .i64 0))⟩,
  ⟨some 24, none, .pick (.slot 21) (.const (.bool true)) (.slot 23)⟩,
  ⟨some 25, none, .mov (.slot 24)⟩,
  ⟨some 26, some (25, false), .mov (.slot 1)⟩,
  ⟨some 27, some (25, false), .mov (.slot 0)⟩,
  ⟨some 28, some (25, false), .len false (.slot 27)⟩,
  ⟨some 29, some (25, false), .mov (.slot 9)⟩,
  ⟨some 30, some (25, false), .bin .sub (.slot 28) (.slot 29)⟩,
  ⟨some 31, some (25, false), .bin .gtr (.slot 26) (.slot 30)⟩,
  ⟨some 32, none, .pick (.slot 25) (.const (.bool true)) (.slot 31)⟩]
def q34R6 : List AOper := [⟨some 33, none, .mov (.slot 10)⟩,
  ⟨some 8, none, .mov (.slot 33)⟩]
def q34R7 : List AOper := [⟨some 34, none, .mov (.slot 10)⟩,
  ⟨some 35, none, .mov (.slot 1)⟩,
  ⟨some 36, none, .call .inl n_line_torn [(.slot 34), (.slot 35)]⟩]
def q34R8 : List AOper := [⟨some 37, none, .mov (.slot 10)⟩,
  ⟨some 38, none, .mov (.slot 1)⟩,
  ⟨some 39, none, .mov (.slot 9)⟩,
  ⟨some 40, none, .bin .add (.slot 38) (.slot 39)⟩,
  ⟨some 41, none, .call .inl n_line_torn [(.slot 37), (.slot 40)]⟩]
def q34R9 : List AOper := [⟨some 42, none, .mov (.slot 10)⟩,
  ⟨some 43, none, .mov (.slot 1)⟩,
  ⟨some 44, none, .mov (.slot 2)⟩,
  ⟨some 45, none, .mov (.slot 9)⟩,
  ⟨some 46, none, .bin .sub (.slot 45) (.const (.int .i64 1))⟩,
  ⟨some 47, none, .load true 3 (.slot 7)⟩,
  ⟨some 48, none, .build [.int .i32 0, .int .i32 0, .int .i32 0, .int .i64 0, .int .i64 0, .int .i64 0, .int .i64 0] [(0, 1, (.slot 44)), (3, 1, (.slot 46)), (4, 3, (.slot 47))]⟩,
  ⟨some 49, none, .idx 7 (.slot 42) (.slot 43)⟩,
  ⟨none, none, .store true 7 (.slot 49) (.slot 48)⟩]
def q34R10 : List AOper := [⟨some 50, none, .mov (.slot 9)⟩,
  ⟨some 51, none, .bin .eql (.slot 50) (.const (.int .i64 2))⟩]
def q34R11 : List AOper := [⟨some 52, none, .mov (.slot 10)⟩,
  ⟨some 53, none, .mov (.slot 1)⟩,
  ⟨some 54, none, .bin .add (.slot 53) (.const (.int .i64 1))⟩,
  ⟨some 55, none, .load true 3 (.slot 7)⟩,
  ⟨some 56, none, .build [.int .i32 0, .int .i32 0, .int .i32 0, .int .i64 0, .int .i64 0, .int .i64 0, .int .i64 0] [(3, 1, (.const (.int .i64 2))), (4, 3, (.slot 55))]⟩,
  ⟨some 57, none, .idx 7 (.slot 52) (.slot 54)⟩,
  ⟨none, none, .store true 7 (.slot 57) (.slot 56)⟩]
def q34R12 : List AOper := [⟨some 58, none, .mov (.slot 10)⟩,
  ⟨some 8, none, .mov (.slot 58)⟩]
def c_line_Put : AFn := ⟨(.seq (.region q34R0 false [0, 1, 2, 7]) (.seq (.seq (.region q34R1 false [0, 1, 2, 7, 14]) (.cond (.slot 14) (.seq (.region q34R2 false [8]) .ret) .skip)) (.seq (.region q34R3 false [0, 1, 2, 7, 9]) (.seq (.region q34R4 false [0, 1, 2, 7, 9, 10]) (.seq (.seq (.region q34R5 false [1, 2, 7, 9, 10, 32]) (.cond (.slot 32) (.seq (.region q34R6 false [8]) .ret) .skip)) (.seq (.region q34R7 false [1, 2, 7, 9, 10]) (.seq (.region q34R8 false [1, 2, 7, 9, 10]) (.seq (.region q34R9 false [1, 7, 9, 10]) (.seq (.seq (.region q34R10 false [1, 7, 10, 51]) (.cond (.slot 51) (.region q34R11 false [10]) .skip)) (.seq (.region q34R12 false [8]) .ret)))))))))), [.slot 8]⟩
/- oriel/oriellaw15.GridWith'2 -/
def q25R0 : List AOper := [⟨some 4, none, .mov (.const (.data false 7 [] true))⟩]
def q25R1 : List AOper := [⟨some 5, none, .mov (.slot 0)⟩,
  ⟨some 6, none, .load false 1 (.slot 1)⟩,
  ⟨some 7, none, .load false 1 (.slot 2)⟩,
  ⟨some 8, none, .build [.int .i64 0, .int .i64 0, .int .i64 0] [(0, 1, (.const (.int .i64 1)))]⟩,
  ⟨some 9, none, .call .frz n_line_Put [(.slot 5), (.slot 6), (.slot 7), (.slot 8)]⟩,
  ⟨some 4, none, .mov (.slot 9)⟩]
def c_law15_GridWith_2 : AFn := ⟨(.seq (.region q25R0 false [0, 1, 2]) (.seq (.region q25R1 false [4]) .ret)), [.slot 4]⟩
/- oriel/orielref14.Blank -/
def q49R0 : List AOper := [⟨some 1, none, .box 3 (.slot 0)⟩,
  ⟨some 2, none, .alloc [.int .i32 0, .int .i32 0, .int .i32 0, .int .i64 0, .int .i64 0, .int .i64 0, .int .i64 0]⟩]
def q49R1 : List AOper := [⟨some 3, none, .faddr 2 (.slot 1)⟩,
  ⟨some 4, none, .load false 1 (.slot 3)⟩,
  ⟨some 5, none, .build [.int .i64 0, .int .i64 0, .int .i64 0] [(2, 1, (.slot 4))]⟩,
  ⟨some 6, none, .build [.int .i32 0, .int .i32 0, .int .i32 0, .int .i64 0, .int .i64 0, .int .i64 0, .int .i64 0] [(0, 1, (.const (.int .i32 32))), (4, 3, (.slot 5))]⟩,
  ⟨none, none, .store true 7 (.slot 2) (.slot 6)⟩]
def c_ref14_Blank : AFn := ⟨(.seq (.region q49R0 false [1, 2]) (.seq (.region q49R1 false [2]) .ret)), [.cell 2 true 7]⟩
/- oriel/orielref14.Tear -/
def q58R0 : List AOper := [⟨some 4, none, .mov (.const (.data false 7 [] true))⟩]
def q58R1 : List AOper := [⟨some 5, none, .mknil 7⟩]
def q58R2 : List AOper := [⟨some 6, none, .mov (.const (.int .i64 0))⟩]
def q58R3 : List AOper := [⟨some 8, none, .mov (.slot 6)⟩,
  ⟨some 9, none, .mov (.slot 0)⟩,
  ⟨some 10, none, .len false (.slot 9)⟩,
  ⟨some 11, none, .bin .lss (.slot 8) (.slot 10)⟩]
def q58R5 : List AOper := [⟨some 14, none, .mov (.slot 0)⟩,
  ⟨some 15, none, .mov (.slot 6)⟩,
  ⟨some 16, none, .idx 7 (.slot 14) (.slot 15)⟩,
  ⟨some 17, none, .load true 7 (.slot 16)⟩,
  ⟨some 7, none, .alloc [.int .i32 0, .int .i32 0, .int .i32 0, .int .i64 0, .int .i64 0, .int .i64 0, .int .i64 0]⟩,
  ⟨none, none, .store true 7 (.slot 7) (.slot 17)⟩]
def q58R6 : List AOper := [⟨some 18, none, .mov (.slot 6)⟩,
  ⟨some 19, none, .mov (.slot 1)⟩,
  ⟨some 20, none, .bin .eql (.slot 18) (.slot 19)⟩,
  ⟨some 21, none, .mov (.slot 20)⟩,
  ⟨some 22, some (21, true), .faddr 3 (.slot 7)⟩,
  ⟨some 23, some (21, true), .load false 1 (.slot 22)⟩,
  ⟨some 24, some (21, true), .bin .eql (.slot 23) (.const (.int .i64 2))⟩,
  ⟨some 25, none, .pick (.slot 21) (.slot 24) (.const (.bool false))⟩,
  ⟨some 26, none, .mov (.slot 25)⟩,
  ⟨some 27, some (26, false), .mov (.slot 6)⟩,
  ⟨some 28, some (26, false), .mov (.slot 1)⟩,
  ⟨some 29, some (26, false), .bin .sub (.slot 28) (.const (.int .i64 1))⟩,
  ⟨some 30, some (26, false), .bin .eql (.slot 27) (.slot 29)⟩,
  ⟨some 31, some (26, false), .mov (.slot 30)⟩,
  ⟨some 32, some (31, true), .faddr 3 (.slot 7)⟩,
  ⟨some 33, some (31, true), .load false 1 (.slot 32)⟩,
  ⟨some 34, some (31, true), .bin .eql (.slot 33) (.const (.int .i64 1))⟩,
  ⟨some 35, some (26, false), .pick (.slot 31) (.slot 34) (.const (.bool false))⟩,
  ⟨some 36, none, .pick (.slot 26) (.const (.bool true)) (.slot 35)⟩]
def q58R7 : List AOper := [⟨some 37, none, .faddr 4 (.slot 7)⟩,
  ⟨some 38, none, .load true 3 (.slot 37)⟩,
  ⟨some 39, none, .call .frz n_ref14_Blank [(.slot 38)]⟩,
  ⟨none, none, .store true 7 (.slot 7) (.slot 39)⟩]
def q58R8 : List AOper := [⟨some 40, none, .mov (.slot 5)⟩,
  ⟨some 41, none, .load true 7 (.slot 7)⟩,
  ⟨some 42, none, .mkslice 7 1 [.int .i32 0, .int .i32 0, .int .i32 0, .int .i64 0, .int .i64 0, .int .i64 0, .int .i64 0] [(0, (.slot 41))]⟩,
  ⟨some 43, none, .append 7 48 (.slot 40) (.slot 42)⟩,
  ⟨some 5, none, .mov (.slot 43)⟩]
def q58R4 : List AOper := [⟨some 12, none, .mov (.slot 6)⟩,
  ⟨some 13, none, .bin .add (.slot 12) (.const (.int .i64 1))⟩,
  ⟨some 6, none, .mov (.slot 13)⟩]
def c_ref14_Tear_L0 : ACode := (.seq (.seq (.region q58R3 false [0, 1, 5, 6, 11]) (.cond (.slot 11) .skip (.exit 0))) (.seq (.block 1 (.seq (.region q58R5 false [0, 1, 5, 6, 7]) (.seq (.seq (.region q58R6 false [0, 1, 5, 6, 7, 36]) (.cond (.slot 36) (.region q58R7 false [0, 1, 5, 6, 7]) .skip)) (.region q58R8 false [0, 1, 5, 6])))) (.region q58R4 false [0, 1, 5, 6])))
def lp_ref14_Tear_0 : ACode := .loop [0, 1, 5, 6] c_ref14_Tear_L0
def q58R9 : List AOper := [⟨some 44, none, .mov (.slot 5)⟩,
  ⟨some 4, none, .mov (.slot 44)⟩]
def c_ref14_Tear : AFn := ⟨(.seq (.region q58R0 false [0, 1]) (.seq (.region q58R1 false [0, 1, 5]) (.seq (.seq (.region q58R2 false [0, 1, 5, 6]) (.block 0 lp_ref14_Tear_0)) (.seq (.region q58R9 false [4]) .ret)))), [.slot 4]⟩
/- oriel/orielref14.Put -/
def q56R0 : List AOper := [⟨some 7, none, .box 3 (.slot 3)⟩,
  ⟨some 8, none, .mov (.const (.data false 7 [] true))⟩]
def q56R1 : List AOper := [⟨some 11, none, .mov (.slot 2)⟩,
  ⟨some 12, none, .call .frz n_ref13_Of [(.slot 11)]⟩,
  ⟨some 9, none, .mov (.slot 12)⟩]
def q56R2 : List AOper := [⟨some 13, none, .mov (.slot 9)⟩,
  ⟨some 14, none, .bin .lss (.slot 13) (.const (.int .i64 1))⟩,
  ⟨some 15, none, .mov (.slot 14)⟩,
  ⟨some 16, some (15, false), .mov (.slot 1)⟩,
  ⟨some 17, some (15, false), .bin .lss (.slot 16) (.const (.int .i64 0))⟩,
  ⟨some 18, none, .pick (.slot 15) (.const (.bool true)) (.slot 17)⟩,
  ⟨some 19, none, .mov (.slot 18)⟩,
  ⟨some 20, some (19, false), .mov (.slot 1)⟩,
  ⟨some 21, some (19, false), .mov (.slot 0)⟩,
  ⟨some 22, some (19, false), .len false (.slot 21)⟩,
  ⟨some 23, some (19, false), .bin .geq (.slot 20) (.slot 22)⟩,
  ⟨some 24, none, .pick (.slot 19) (.const (.bool true)) (.slot 23)⟩,
  ⟨some 25, none, .mov (.slot 24)⟩,
  ⟨some 26, some (25, false), .mov (.slot 9)⟩,
  ⟨some 27, some (25, false), .bin .eql (.slot 26) (.const (.int .i64 2))⟩,
  ⟨some 28, some (25, false), .mov (.slot 27)⟩,
  ⟨some 29, some (28, true), .mov (.slot 1)⟩,
  ⟨some 30, some (28, true), .mov (.slot 0)⟩,
  ⟨some 31, some (28, true), .len false (.slot 30)⟩,
  ⟨some 32, some (28, true), .bin .sub (.slot 31) (.const (.int .i64 1))⟩,
  ⟨some 33, some (28, true), .bin .eql (.slot 29) (.slot 32)⟩,
  ⟨some 34, some (25, false), .pick (.slot 28) (.slot 33) (.const (.bool false))⟩,
  ⟨some 35, none, .pick (.slot 25) (.const (.bool true)) (.slot 34)⟩]
def q56R3 : List AOper := [⟨some 36, none, .mov (.slot 0)⟩,
  ⟨some 8, none, .mov (.slot 36)⟩]
def q56R4 : List AOper := [⟨some 37, none, .mov (.slot 0)⟩,
  ⟨some 38, none, .mov (.slot 1)⟩,
  ⟨some 39, none, .call .adp n_ref14_Tear [(.slot 37), (.slot 38)]⟩,
  ⟨some 40, none, .mov (.slot 1)⟩,
  ⟨some 41, none, .mov (.slot 9)⟩,
  ⟨some 42, none, .bin .add (.slot 40) (.slot 41)⟩,
  ⟨some 43, none, .call .adp n_ref14_Tear [(.slot 39), (.slot 42)]⟩,
  ⟨some 10, none, .mov (.slot 43)⟩]
def q56R5 : List AOper := [⟨some 44, none, .mov (.slot 10)⟩,
  ⟨some 45, none, .mov (.slot 1)⟩,
  ⟨some 46, none, .mov (.slot 2)⟩,
  ⟨some 47, none, .mov (.slot 9)⟩,
  ⟨some 48, none, .bin .sub (.slot 47) (.const (.int .i64 1))⟩,
  ⟨some 49, none, .load true 3 (.slot 7)⟩,
  ⟨some 50, none, .build [.int .i32 0, .int .i32 0, .int .i32 0, .int .i64 0, .int .i64 0, .int .i64 0, .int .i64 0] [(0, 1, (.slot 46)), (3, 1, (.slot 48)), (4, 3, (.slot 49))]⟩,
  ⟨some 51, none, .idx 7 (.slot 44) (.slot 45)⟩,
  ⟨none, none, .store true 7 (.slot 51) (.slot 50)⟩]
def q56R6 : List AOper := [⟨some 52, none, .mov (.slot 9)⟩,
  ⟨some 53, none, .bin .eql (.slot 52) (.const (.int .i64 2))⟩]
def q56R7 : List AOper := [⟨some 54, none, .mov (.slot 10)⟩,
  ⟨some 55, none, .mov (.slot 1)⟩,
  ⟨some 56, none, .bin .add (.slot 55) (.const (.int .i64 1))⟩,
  ⟨some 57, none, .load true 3 (.slot 7)⟩,
  ⟨some 58, none, .build [.int .i32 0, .int .i32 0, .int .i32 0, .int .i64 0, .int .i64 0, .int .i64 0, .int .i64 0] [(3, 1, (.const (.int .i64 2))), (4, 3, (.slot 57))]⟩,
  ⟨some 59, none, .idx 7 (.slot 54) (.slot 56)⟩,
  ⟨none, none, .store true 7 (.slot 59) (.slot 58)⟩]
def q56R8 : List AOper := [⟨some 60, none, .mov (.slot 10)⟩,
  ⟨some 8, none, .mov (.slot 60)⟩]
def c_ref14_Put : AFn := ⟨(.seq (.region q56R0 false [0, 1, 2, 7]) (.seq (.region q56R1 false [0, 1, 2, 7, 9]) (.seq (.seq (.region q56R2 false [0, 1, 2, 7, 9, 35]) (.cond (.slot 35) (.seq (.region q56R3 false [8]) .ret) .skip)) (.seq (.region q56R4 false [1, 2, 7, 9, 10]) (.seq (.region q56R5 false [1, 7, 9, 10]) (.seq (.seq (.region q56R6 false [1, 7, 10, 53]) (.cond (.slot 53) (.region q56R7 false [10]) .skip)) (.seq (.region q56R8 false [8]) .ret))))))), [.slot 8]⟩
/- oriel/oriellaw15.GridWith -/
def q23R0 : List AOper := [⟨some 7, none, .box 1 (.slot 2)⟩,
  ⟨some 8, none, .box 1 (.slot 3)⟩,
  ⟨some 9, none, .box 1 (.slot 4)⟩,
  ⟨some 10, none, .mov (.const (.bool false))⟩]
def q23R1 : List AOper := [⟨some 15, none, .call .frz n_law15_known []⟩,
  ⟨some 16, none, .not (.slot 15)⟩]
def q23R2 : List AOper := [⟨some 10, none, .mov (.const (.bool false))⟩]
def q23R3 : List AOper := [⟨some 17, none, .mov (.slot 0)⟩,
  ⟨some 18, none, .call .frz n_law15_great [(.slot 17)]⟩,
  ⟨some 19, none, .mov (.slot 18)⟩,
  ⟨some 20, some (19, false), .load false 1 (.slot 7)⟩,
  ⟨some 21, some (19, false), .len false (.slot 20)⟩,
  ⟨some 22, some (19, false), .bin .gtr (.slot 21) (.const (.int .i64 300))⟩,
  ⟨some 23, none, .pick (.slot 19) (.const (.bool true)) (.slot 22)⟩]
def q23R4 : List AOper := [⟨some 10, none, .mov (.const (.bool true))⟩]
def q23R5 : List AOper := [⟨some 24, none, .mov (.slot 0)⟩,
  ⟨some 25, none, .call .frz n_ref15_Copy [(.slot 24)]⟩,
  ⟨some 11, none, .mov (.slot 25)⟩]
def q23R6 : List AOper := [⟨some 12, none, .alloc [.int .i64 0]⟩,
  ⟨none, none, .store false 1 (.slot 12) (.const (.int .i64 0))⟩]
def q23R7 : List AOper := [⟨some 26, none, .mov (.slot 11)⟩,
  ⟨some 27, none, .mov (.slot 1)⟩,
  ⟨some 28, none, .mkfn (.func n_law15_GridWith_1) [] [(.slot 12), (.slot 7)]⟩,
  ⟨some 29, none, .call .inl n_grid_With [(.slot 26), (.slot 27), (.slot 28)]⟩,
  ⟨some 13, none, .mov (.slot 29)⟩]
def q23R8 : List AOper := [⟨some 30, none, .load false 1 (.slot 12)⟩,
  ⟨some 31, none, .bin .gtr (.slot 30) (.const (.int .i64 1))⟩,
  ⟨some 32, none, .mov (.slot 31)⟩,
  ⟨some 33, some (32, false), .mov (.slot 0)⟩,
  ⟨some 34, some (32, false), .build [.int .i64 0, .int .i64 0, .int .i64 0] []⟩,
  ⟨some 35, some (32, false), .mov (.slot 13)⟩,
  ⟨some 36, some (32, false), .mov (.slot 0)⟩,
  ⟨some 37, some (32, false), .mov (.slot 1)⟩,
  ⟨some 38, some (32, false), .load false 1 (.slot 7)⟩,
  ⟨some 39, some (32, false), .call .frz n_ref15_With [(.slot 36), (.slot 37), (.slot 38)]⟩,
  ⟨some 40, some (32, false), .call .frz n_law15_fine [(.slot 33), (.slot 34), (.slot 35), (.slot 39)]⟩,
  ⟨some 41, some (32, false), .not (.slot 40)⟩,
  ⟨some 42, none, .pick (.slot 32) (.const (.bool true)) (.slot 41)⟩,
  ⟨some 43, none, .mov (.slot 42)⟩,
  ⟨some 44, some (43, false), .mov (.slot 11)⟩,
  ⟨some 45, some (43, false), .mov (.slot 0)⟩,
  ⟨some 46, some (43, false), .call .frz n_ref15_Same [(.slot 44), (.slot 45)]⟩,
  ⟨some 47, some (43, false), .not (.slot 46)⟩,
  ⟨some 48, none, .pick (.slot 43) (.const (.bool true)) (.slot 47)⟩]
def q23R9 : List AOper := [⟨some 10, none, .mov (.const (.bool false))⟩]
def q23R10 : List AOper := [⟨some 49, none, .mov (.slot 11)⟩,
  ⟨some 50, none, .mov (.slot 1)⟩,
  ⟨some 51, none, .mkfn (.func n_law15_GridWith_2) [] [(.slot 8), (.slot 9)]⟩,
  ⟨some 52, none, .call .inl n_grid_With [(.slot 49), (.slot 50), (.slot 51)]⟩,
  ⟨some 14, none, .mov (.slot 52)⟩]
def q23R11 : List AOper := [⟨some 53, none, .mov (.slot 1)⟩,
  ⟨some 54, none, .bin .lss (.slot 53) (.const (.int .i64 0))⟩,
  ⟨some 55, none, .mov (.slot 54)⟩,
  ⟨some 56, some (55, false), .mov (.slot 1)⟩,
  ⟨some 57, some (55, false), .mov (.slot 0)⟩,
  ⟨some 58, some (55, false), .len false (.slot 57)⟩,
  ⟨some 59, some (55, false), .bin .geq (.slot 56) (.slot 58)⟩,
  ⟨some 60, none, .pick (.slot 55) (.const (.bool true)) (.slot 59)⟩,
  ⟨some 61, none, .mov (.slot 60)⟩,
  ⟨some 62, some (61, false), .mov (.slot 0)⟩,
  ⟨some 63, some (61, false), .call .frz n_ref15_May [(.slot 62)]⟩,
  ⟨some 64, some (61, false), .not (.slot 63)⟩,
  ⟨some 65, none, .pick (.slot 61) (.const (.bool true)) (.slot 64)⟩]
def q23R12 : List AOper := [⟨some 66, none, .mov (.slot 0)⟩,
  ⟨some 67, none, .build [.int .i64 0, .int .i64 0, .int .i64 0] []⟩,
  ⟨some 68, none, .mov (.slot 14)⟩,
  ⟨some 69, none, .mov (.slot 0)⟩,
  ⟨some 70, none, .call .frz n_law15_fine [(.slot 66), (.slot 67), (.slot 68), (.slot 69)]⟩,
  ⟨some 10, none, .mov (.slot 70)⟩]
def q23R13 : List AOper := [⟨some 71, none, .mov (.slot 0)⟩,
  ⟨some 72, none, .build [.int .i64 0, .int .i64 0, .int .i64 0] []⟩,
  ⟨some 73, none, .mov (.slot 14)⟩,
  ⟨some 74, none, .mov (.slot 0)⟩,
  ⟨some 75, none, .mov (.slot 1)⟩,
  ⟨some 76, none, .mov (.slot 0)⟩,
  ⟨some 77, none, .mov (.slot 1)⟩,
  ⟨some 78, none, .idx 1 (.slot 76) (.slot 77)⟩,
  ⟨some 79, none, .load false 1 (.slot 78)⟩,
  ⟨some 80, none, .load false 1 (.slot 8)⟩,
  ⟨some 81, none, .load false 1 (.slot 9)⟩,
  ⟨some 82, none, .build [.int .i64 0, .int .i64 0, .int .i64 0] [(0, 1, (.const (.int .i64 1)))]⟩,
  ⟨some 83, none, .call .frz n_ref14_Put [(.slot 79), (.slot 80), (.slot 81), (.slot 82)]⟩,
  ⟨some 84, none, .call .frz n_ref15_With [(.slot 74), (.slot 75), (.slot 83)]⟩,
  ⟨some 85, none, .call .frz n_law15_fine [(.slot 71), (.slot 72), (.slot 73), (.slot 84)]⟩,
  ⟨some 86, none, .mov (.slot 85)⟩,
  ⟨some 87, some (86, true), .call .frz n_ref13_Of [(.const (.int .i32 120))]⟩,
  ⟨some 88, some (86, true), .bin .eql (.slot 87) (.const (.int .i64 1))⟩,
  ⟨some 89, none, .pick (.slot 86) (.slot 88) (.const (.bool false))⟩,
  ⟨some 10, none, .mov (.slot 89)⟩]
def c_law15_GridWith : AFn := ⟨(.seq (.region q23R0 false [0, 1, 7, 8, 9]) (.seq (.seq (.region q23R1 false [0, 1, 7, 8, 9, 16]) (.cond (.slot 16) (.seq (.region q23R2 false [10]) .ret) .skip)) (.seq (.seq (.region q23R3 false [0, 1, 7, 8, 9, 23]) (.cond (.slot 23) (.seq (.region q23R4 false [10]) .ret) .skip)) (.seq (.region q23R5 false [0, 1, 7, 8, 9, 11]) (.seq (.region q23R6 false [0, 1, 7, 8, 9, 11, 12]) (.seq (.region q23R7 false [0, 1, 7, 8, 9, 11, 12, 13]) (.seq (.seq (.region q23R8 false [0, 1, 8, 9, 11, 48]) (.cond (.slot 48) (.seq (.region q23R9 false [10]) .ret) .skip)) (.seq (.region q23R10 false [0, 1, 8, 9, 14]) (.seq (.seq (.region q23R11 false [0, 1, 8, 9, 14, 65]) (.cond (.slot 65) (.seq (.region q23R12 false [10]) .ret) .skip)) (.seq (.region q23R13 true [10]) .ret)))))))))), [.slot 10]⟩
/-- The seat's functions. -/
def FT : Nat → Option AEnt
  | 51 => some (.fn c_grid_side)
  | 72 => some (.fn c_slices_IndexFunc_LCell)
  | 52 => some (.fn c_slices_ContainsFunc_LCell)
  | 67 => some (.fn c_pen_May_1)
  | 41 => some (.fn c_pen_May)
  | 74 => some (.fn c_sort_Search)
  | 75 => some (.fn c_cols_Of_1)
  | 58 => some (.fn c_cols_Of)
  | 77 => some (.fn c_line_marked)
  | 73 => some (.fn c_line_may)
  | 54 => some (.fn c_line_May)
  | 53 => some (.fn c_grid_May_1)
  | 22 => some (.fn c_grid_May)
  | 56 => some (.ext (extClone 7))
  | 42 => some (.fn c_grid_copied)
  | 78 => some (.fn c_math_bits_Mul32)
  | 79 => some (.fn c_math_bits_Mul64)
  | 76 => some (.fn c_math_bits_Mul)
  | 68 => some (.fn c_slices_Repeat_Cell)
  | 69 => some (.fn c_line_blank)
  | 43 => some (.fn c_line_Blank)
  | 16 => some (.fn c_grid_Scroll)
  | 45 => some (.fn c_ref14_Same)
  | 18 => some (.fn c_ref15_Same)
  | 47 => some (.fn c_grid_Erase_1)
  | 57 => some (.fn c_line_fine)
  | 59 => some (.fn c_line_torn)
  | 48 => some (.fn c_line_Erase)
  | 20 => some (.fn c_grid_Erase)
  | 40 => some (.fn c_law15_abc)
  | 12 => some (.fn c_law15_known)
  | 13 => some (.fn c_law15_great)
  | 14 => some (.fn c_ref15_Copy)
  | 23 => some (.fn c_ref15_Side)
  | 61 => some (.fn c_ref13_in)
  | 33 => some (.fn c_ref13_Of)
  | 55 => some (.fn c_ref12_May)
  | 71 => some (.fn c_ref14_Cell)
  | 46 => some (.fn c_ref14_May)
  | 19 => some (.fn c_ref15_May)
  | 24 => some (.fn c_ref14_Pen)
  | 15 => some (.fn c_law15_fine)
  | 27 => some (.fn c_grid_With)
  | 28 => some (.fn c_law15_GridWith_1)
  | 29 => some (.fn c_ref15_With)
  | 31 => some (.fn c_line_Put)
  | 30 => some (.fn c_law15_GridWith_2)
  | 70 => some (.fn c_ref14_Blank)
  | 60 => some (.fn c_ref14_Tear)
  | 32 => some (.fn c_ref14_Put)
  | 7 => some (.fn c_law15_GridWith)
  | _ => none
variable (G : Nat → Option (List AV)) (args : List AV) (h : List ARow)
theorem run_grid_side : aR G FT n_grid_side args h = (aE G FT h.length c_grid_side.body ⟨aenter args, h⟩).bind (afinish c_grid_side.res) := y_fn G FT rfl args h
theorem run_slices_IndexFunc_LCell : aR G FT n_slices_IndexFunc_LCell args h = (aE G FT h.length c_slices_IndexFunc_LCell.body ⟨aenter args, h⟩).bind (afinish c_slices_IndexFunc_LCell.res) := y_fn G FT rfl args h
theorem run_slices_ContainsFunc_LCell : aR G FT n_slices_ContainsFunc_LCell args h = (aE G FT h.length c_slices_ContainsFunc_LCell.body ⟨aenter args, h⟩).bind (afinish c_slices_ContainsFunc_LCell.res) := y_fn G FT rfl args h
theorem run_pen_May_1 : aR G FT n_pen_May_1 args h = (aE G FT h.length c_pen_May_1.body ⟨aenter args, h⟩).bind (afinish c_pen_May_1.res) := y_fn G FT rfl args h
theorem run_pen_May : aR G FT n_pen_May args h = (aE G FT h.length c_pen_May.body ⟨aenter args, h⟩).bind (afinish c_pen_May.res) := y_fn G FT rfl args h
theorem run_sort_Search : aR G FT n_sort_Search args h = (aE G FT h.length c_sort_Search.body ⟨aenter args, h⟩).bind (afinish c_sort_Search.res) := y_fn G FT rfl args h
theorem run_cols_Of_1 : aR G FT n_cols_Of_1 args h = (aE G FT h.length c_cols_Of_1.body ⟨aenter args, h⟩).bind (afinish c_cols_Of_1.res) := y_fn G FT rfl args h
theorem run_cols_Of : aR G FT n_cols_Of args h = (aE G FT h.length c_cols_Of.body ⟨aenter args, h⟩).bind (afinish c_cols_Of.res) := y_fn G FT rfl args h
theorem run_line_marked : aR G FT n_line_marked args h = (aE G FT h.length c_line_marked.body ⟨aenter args, h⟩).bind (afinish c_line_marked.res) := y_fn G FT rfl args h
theorem run_line_may : aR G FT n_line_may args h = (aE G FT h.length c_line_may.body ⟨aenter args, h⟩).bind (afinish c_line_may.res) := y_fn G FT rfl args h
theorem run_line_May : aR G FT n_line_May args h = (aE G FT h.length c_line_May.body ⟨aenter args, h⟩).bind (afinish c_line_May.res) := y_fn G FT rfl args h
theorem run_grid_May_1 : aR G FT n_grid_May_1 args h = (aE G FT h.length c_grid_May_1.body ⟨aenter args, h⟩).bind (afinish c_grid_May_1.res) := y_fn G FT rfl args h
theorem run_grid_May : aR G FT n_grid_May args h = (aE G FT h.length c_grid_May.body ⟨aenter args, h⟩).bind (afinish c_grid_May.res) := y_fn G FT rfl args h
theorem run_grid_copied : aR G FT n_grid_copied args h = (aE G FT h.length c_grid_copied.body ⟨aenter args, h⟩).bind (afinish c_grid_copied.res) := y_fn G FT rfl args h
theorem run_line_blank : aR G FT n_line_blank args h = (aE G FT h.length c_line_blank.body ⟨aenter args, h⟩).bind (afinish c_line_blank.res) := y_fn G FT rfl args h
theorem run_ref14_Same : aR G FT n_ref14_Same args h = (aE G FT h.length c_ref14_Same.body ⟨aenter args, h⟩).bind (afinish c_ref14_Same.res) := y_fn G FT rfl args h
theorem run_ref15_Same : aR G FT n_ref15_Same args h = (aE G FT h.length c_ref15_Same.body ⟨aenter args, h⟩).bind (afinish c_ref15_Same.res) := y_fn G FT rfl args h
theorem run_line_fine : aR G FT n_line_fine args h = (aE G FT h.length c_line_fine.body ⟨aenter args, h⟩).bind (afinish c_line_fine.res) := y_fn G FT rfl args h
theorem run_line_torn : aR G FT n_line_torn args h = (aE G FT h.length c_line_torn.body ⟨aenter args, h⟩).bind (afinish c_line_torn.res) := y_fn G FT rfl args h
theorem run_law15_great : aR G FT n_law15_great args h = (aE G FT h.length c_law15_great.body ⟨aenter args, h⟩).bind (afinish c_law15_great.res) := y_fn G FT rfl args h
theorem run_ref15_Copy : aR G FT n_ref15_Copy args h = (aE G FT h.length c_ref15_Copy.body ⟨aenter args, h⟩).bind (afinish c_ref15_Copy.res) := y_fn G FT rfl args h
theorem run_ref15_Side : aR G FT n_ref15_Side args h = (aE G FT h.length c_ref15_Side.body ⟨aenter args, h⟩).bind (afinish c_ref15_Side.res) := y_fn G FT rfl args h
theorem run_ref13_in : aR G FT n_ref13_in args h = (aE G FT h.length c_ref13_in.body ⟨aenter args, h⟩).bind (afinish c_ref13_in.res) := y_fn G FT rfl args h
theorem run_ref13_Of : aR G FT n_ref13_Of args h = (aE G FT h.length c_ref13_Of.body ⟨aenter args, h⟩).bind (afinish c_ref13_Of.res) := y_fn G FT rfl args h
theorem run_ref12_May : aR G FT n_ref12_May args h = (aE G FT h.length c_ref12_May.body ⟨aenter args, h⟩).bind (afinish c_ref12_May.res) := y_fn G FT rfl args h
theorem run_ref14_Cell : aR G FT n_ref14_Cell args h = (aE G FT h.length c_ref14_Cell.body ⟨aenter args, h⟩).bind (afinish c_ref14_Cell.res) := y_fn G FT rfl args h
theorem run_ref14_May : aR G FT n_ref14_May args h = (aE G FT h.length c_ref14_May.body ⟨aenter args, h⟩).bind (afinish c_ref14_May.res) := y_fn G FT rfl args h
theorem run_ref15_May : aR G FT n_ref15_May args h = (aE G FT h.length c_ref15_May.body ⟨aenter args, h⟩).bind (afinish c_ref15_May.res) := y_fn G FT rfl args h
theorem run_ref14_Pen : aR G FT n_ref14_Pen args h = (aE G FT h.length c_ref14_Pen.body ⟨aenter args, h⟩).bind (afinish c_ref14_Pen.res) := y_fn G FT rfl args h
theorem run_law15_fine : aR G FT n_law15_fine args h = (aE G FT h.length c_law15_fine.body ⟨aenter args, h⟩).bind (afinish c_law15_fine.res) := y_fn G FT rfl args h
theorem run_grid_With : aR G FT n_grid_With args h = (aE G FT h.length c_grid_With.body ⟨aenter args, h⟩).bind (afinish c_grid_With.res) := y_fn G FT rfl args h
theorem run_law15_GridWith_1 : aR G FT n_law15_GridWith_1 args h = (aE G FT h.length c_law15_GridWith_1.body ⟨aenter args, h⟩).bind (afinish c_law15_GridWith_1.res) := y_fn G FT rfl args h
theorem run_ref15_With : aR G FT n_ref15_With args h = (aE G FT h.length c_ref15_With.body ⟨aenter args, h⟩).bind (afinish c_ref15_With.res) := y_fn G FT rfl args h
theorem run_line_Put : aR G FT n_line_Put args h = (aE G FT h.length c_line_Put.body ⟨aenter args, h⟩).bind (afinish c_line_Put.res) := y_fn G FT rfl args h
theorem run_law15_GridWith_2 : aR G FT n_law15_GridWith_2 args h = (aE G FT h.length c_law15_GridWith_2.body ⟨aenter args, h⟩).bind (afinish c_law15_GridWith_2.res) := y_fn G FT rfl args h
theorem run_ref14_Blank : aR G FT n_ref14_Blank args h = (aE G FT h.length c_ref14_Blank.body ⟨aenter args, h⟩).bind (afinish c_ref14_Blank.res) := y_fn G FT rfl args h
theorem run_ref14_Tear : aR G FT n_ref14_Tear args h = (aE G FT h.length c_ref14_Tear.body ⟨aenter args, h⟩).bind (afinish c_ref14_Tear.res) := y_fn G FT rfl args h
theorem run_ref14_Put : aR G FT n_ref14_Put args h = (aE G FT h.length c_ref14_Put.body ⟨aenter args, h⟩).bind (afinish c_ref14_Put.res) := y_fn G FT rfl args h
theorem run_law15_GridWith : aR G FT n_law15_GridWith args h = (aE G FT h.length c_law15_GridWith.body ⟨aenter args, h⟩).bind (afinish c_law15_GridWith.res) := y_fn G FT rfl args h
end Go.Proofs.YtmmkjbcklghopaaDoor
