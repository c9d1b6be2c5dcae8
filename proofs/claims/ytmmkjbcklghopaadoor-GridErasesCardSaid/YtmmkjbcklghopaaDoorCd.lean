/- The small machine's code of the seat's functions. Conditions: none. -/
import Derived.Test.YtmmkjbcklghopaaDoorM3
set_option linter.unusedVariables false
set_option linter.unusedSimpArgs false
set_option linter.unusedSectionVars false
namespace Go.Proofs.YtmmkjbcklghopaaDoor
open Go

def n_cols_Of : Nat := 58
def n_cols_Of_1 : Nat := 75
def n_grid_Erase : Nat := 20
def n_grid_Erase_1 : Nat := 47
def n_grid_May : Nat := 22
def n_grid_May_1 : Nat := 53
def n_grid_Scroll : Nat := 16
def n_grid_copied : Nat := 42
def n_grid_side : Nat := 51
def n_law15_GridErases : Nat := 4
def n_law15_abc : Nat := 40
def n_law15_fine : Nat := 15
def n_law15_great : Nat := 13
def n_law15_known : Nat := 12
def n_line_Blank : Nat := 43
def n_line_Erase : Nat := 48
def n_line_May : Nat := 54
def n_line_blank : Nat := 69
def n_line_fine : Nat := 57
def n_line_marked : Nat := 77
def n_line_may : Nat := 73
def n_line_torn : Nat := 59
def n_math_bits_Mul : Nat := 76
def n_math_bits_Mul32 : Nat := 78
def n_math_bits_Mul64 : Nat := 79
def n_pen_May : Nat := 41
def n_pen_May_1 : Nat := 67
def n_ref12_May : Nat := 55
def n_ref13_Of : Nat := 33
def n_ref13_in : Nat := 61
def n_ref14_Blank : Nat := 70
def n_ref14_Cell : Nat := 71
def n_ref14_Erase : Nat := 50
def n_ref14_May : Nat := 46
def n_ref14_Pen : Nat := 24
def n_ref14_Same : Nat := 45
def n_ref14_Tear : Nat := 60
def n_ref15_Copy : Nat := 14
def n_ref15_Erase : Nat := 21
def n_ref15_May : Nat := 19
def n_ref15_Same : Nat := 18
def n_ref15_Side : Nat := 23
def n_ref15_place : Nat := 49
def n_slices_Clone_Cell : Nat := 56
def n_slices_ContainsFunc_LCell : Nat := 52
def n_slices_IndexFunc_LCell : Nat := 72
def n_slices_Repeat_Cell : Nat := 68
def n_sort_Search : Nat := 74
/- oriel/grid.side -/
def c_grid_side_R0 : List AOper := [⟨some 2, none, .mov (.const (.bool false))⟩]
def c_grid_side_R1 : List AOper := [⟨some 3, none, .mov (.slot 0)⟩,
  ⟨some 4, none, .bin .geq (.slot 3) (.const (.int .i64 1))⟩,
  ⟨some 5, none, .mov (.slot 4)⟩,
  ⟨some 6, some (5, true), .mov (.slot 0)⟩,
  ⟨some 7, some (5, true), .bin .leq (.slot 6) (.const (.int .i64 200))⟩,
  ⟨some 8, none, .pick (.slot 5) (.slot 7) (.const (.bool false))⟩,
  ⟨some 2, none, .mov (.slot 8)⟩]
def c_grid_side : AFn := ⟨(.seq (.region c_grid_side_R0 false [0]) (.seq (.region c_grid_side_R1 false [2]) .ret)), [.slot 2]⟩
/- slices.IndexFunc[[][]oriel/api.Cell,[]oriel/api.Cell] -/
def c_slices_IndexFunc_LCell_R0 : List AOper := [⟨some 4, none, .mov (.const (.int .i64 0))⟩]
def c_slices_IndexFunc_LCell_R1 : List AOper := [⟨some 6, none, .mov (.slot 0)⟩,
  ⟨some 7, none, .len false (.slot 6)⟩,
  ⟨some 8, none, .mov (.const (.int .i64 0))⟩]
def c_slices_IndexFunc_LCell_R2 : List AOper := [⟨some 9, none, .bin .lss (.slot 8) (.slot 7)⟩]
def c_slices_IndexFunc_LCell_R3 : List AOper := [⟨some 10, none, .mov (.slot 8)⟩,
  ⟨some 5, none, .mov (.slot 10)⟩]
def c_slices_IndexFunc_LCell_R4 : List AOper := [⟨some 11, none, .mov (.slot 1)⟩,
  ⟨some 12, none, .mov (.slot 0)⟩,
  ⟨some 13, none, .mov (.slot 5)⟩,
  ⟨some 14, none, .idx 1 (.slot 12) (.slot 13)⟩,
  ⟨some 15, none, .load false 1 (.slot 14)⟩,
  ⟨some 16, none, .callv (.slot 11) [(.slot 15)]⟩]
def c_slices_IndexFunc_LCell_R5 : List AOper := [⟨some 17, none, .mov (.slot 5)⟩,
  ⟨some 4, none, .mov (.slot 17)⟩]
def c_slices_IndexFunc_LCell_R6 : List AOper := [⟨some 18, none, .bin .add (.slot 8) (.const (.int .i64 1))⟩,
  ⟨some 8, none, .mov (.slot 18)⟩]
def c_slices_IndexFunc_LCell_L0 : ACode := (.seq (.region c_slices_IndexFunc_LCell_R2 false [0, 1, 7, 8, 9]) (.seq (.cond (.slot 9) .skip (.exit 0)) (.seq (.block 1 (.seq (.region c_slices_IndexFunc_LCell_R3 false [0, 1, 5, 7, 8]) (.seq (.region c_slices_IndexFunc_LCell_R4 false [0, 1, 5, 7, 8, 16]) (.cond (.slot 16) (.seq (.region c_slices_IndexFunc_LCell_R5 false [4]) .ret) .skip)))) (.region c_slices_IndexFunc_LCell_R6 false [0, 1, 7, 8]))))
def lp_slices_IndexFunc_LCell_0 : ACode := .loop [0, 1, 7, 8] c_slices_IndexFunc_LCell_L0
def c_slices_IndexFunc_LCell_R7 : List AOper := [⟨some 4, none, .mov (.const (.int .i64 (-1)))⟩]
def c_slices_IndexFunc_LCell : AFn := ⟨(.seq (.region c_slices_IndexFunc_LCell_R0 false [0, 1]) (.seq (.seq (.region c_slices_IndexFunc_LCell_R1 false [0, 1, 7, 8]) (.block 0 lp_slices_IndexFunc_LCell_0)) (.seq (.region c_slices_IndexFunc_LCell_R7 false [4]) .ret))), [.slot 4]⟩
/- slices.ContainsFunc[[][]oriel/api.Cell,[]oriel/api.Cell] -/
def c_slices_ContainsFunc_LCell_R0 : List AOper := [⟨some 4, none, .mov (.const (.bool false))⟩]
def c_slices_ContainsFunc_LCell_R1 : List AOper := [⟨some 5, none, .mov (.slot 0)⟩,
  ⟨some 6, none, .mov (.slot 1)⟩,
  ⟨some 7, none, .call .inl n_slices_IndexFunc_LCell [(.slot 5), (.slot 6)]⟩,
  ⟨some 8, none, .bin .geq (.slot 7) (.const (.int .i64 0))⟩,
  ⟨some 4, none, .mov (.slot 8)⟩]
def c_slices_ContainsFunc_LCell : AFn := ⟨(.seq (.region c_slices_ContainsFunc_LCell_R0 false [0, 1]) (.seq (.region c_slices_ContainsFunc_LCell_R1 false [4]) .ret)), [.slot 4]⟩
/- oriel/pen.May'1 -/
def c_pen_May_1_R0 : List AOper := [⟨some 4, none, .mov (.const (.bool false))⟩]
def c_pen_May_1_R1 : List AOper := [⟨some 5, none, .mov (.slot 0)⟩,
  ⟨some 6, none, .bin .geq (.slot 5) (.const (.int .i64 0))⟩,
  ⟨some 7, none, .mov (.slot 6)⟩,
  ⟨some 8, some (7, true), .mov (.slot 0)⟩,
  ⟨some 9, some (7, true), .mov (.slot 1)⟩,
  ⟨some 10, some (7, true), .bin .leq (.slot 8) (.slot 9)⟩,
  ⟨some 11, none, .pick (.slot 7) (.slot 10) (.const (.bool false))⟩,
  ⟨some 4, none, .mov (.slot 11)⟩]
def c_pen_May_1 : AFn := ⟨(.seq (.region c_pen_May_1_R0 false [0, 1]) (.seq (.region c_pen_May_1_R1 false [4]) .ret)), [.slot 4]⟩
/- oriel/pen.May -/
def c_pen_May_R0 : List AOper := [⟨some 1, none, .box 3 (.slot 0)⟩,
  ⟨some 2, none, .mov (.const (.bool false))⟩]
def c_pen_May_R1 : List AOper := [⟨some 3, none, .mov (.func n_pen_May_1)⟩]
def c_pen_May_R2 : List AOper := [⟨some 4, none, .mov (.slot 3)⟩,
  ⟨some 5, none, .faddr 0 (.slot 1)⟩,
  ⟨some 6, none, .load false 1 (.slot 5)⟩,
  ⟨some 7, none, .callv (.slot 4) [(.slot 6), (.const (.int .i64 255))]⟩,
  ⟨some 8, none, .mov (.slot 7)⟩,
  ⟨some 9, some (8, true), .mov (.slot 3)⟩,
  ⟨some 10, some (8, true), .faddr 1 (.slot 1)⟩,
  ⟨some 11, some (8, true), .load false 1 (.slot 10)⟩,
  ⟨some 12, some (8, true), .callv (.slot 9) [(.slot 11), (.const (.int .i64 256))]⟩,
  ⟨some 13, none, .pick (.slot 8) (.slot 12) (.const (.bool false))⟩,
  ⟨some 14, none, .mov (.slot 13)⟩,
  ⟨some 15, some (14, true), .mov (.slot 3)⟩,
  ⟨some 16, some (14, true), .faddr 2 (.slot 1)⟩,
  ⟨some 17, some (14, true), .load false 1 (.slot 16)⟩,
  ⟨some 18, some (14, true), .callv (.slot 15) [(.slot 17), (.const (.int .i64 256))]⟩,
  ⟨some 19, none, .pick (.slot 14) (.slot 18) (.const (.bool false))⟩,
  ⟨some 2, none, .mov (.slot 19)⟩]
def c_pen_May : AFn := ⟨(.seq (.region c_pen_May_R0 false [1]) (.seq (.region c_pen_May_R1 false [1, 3]) (.seq (.region c_pen_May_R2 false [2]) .ret))), [.slot 2]⟩
/- sort.Search -/
def c_sort_Search_R0 : List AOper := [⟨some 4, none, .mov (.const (.int .i64 0))⟩]
def c_sort_Search_R1 : List AOper := [⟨some 8, none, .mov (.slot 0)⟩,
  ⟨some 5, none, .mov (.const (.int .i64 0))⟩,
  ⟨some 6, none, .mov (.slot 8)⟩]
def c_sort_Search_R2 : List AOper := [⟨some 9, none, .mov (.slot 5)⟩,
  ⟨some 10, none, .mov (.slot 6)⟩,
  ⟨some 11, none, .bin .lss (.slot 9) (.slot 10)⟩]
def c_sort_Search_R3 : List AOper := [⟨some 12, none, .mov (.slot 5)⟩,
  ⟨some 13, none, .mov (.slot 6)⟩,
  ⟨some 14, none, .bin .add (.slot 12) (.slot 13)⟩,
  ⟨some 15, none, .conv .u64 (.slot 14)⟩,
  ⟨some 16, none, .bin .shr (.slot 15) (.const (.int .u64 1))⟩,
  ⟨some 17, none, .conv .i64 (.slot 16)⟩,
  ⟨some 7, none, .mov (.slot 17)⟩]
def c_sort_Search_R4 : List AOper := [⟨some 18, none, .mov (.slot 1)⟩,
  ⟨some 19, none, .mov (.slot 7)⟩,
  ⟨some 20, none, .callv (.slot 18) [(.slot 19)]⟩,
  ⟨some 21, none, .not (.slot 20)⟩]
def c_sort_Search_R5 : List AOper := [⟨some 22, none, .mov (.slot 7)⟩,
  ⟨some 23, none, .bin .add (.slot 22) (.const (.int .i64 1))⟩,
  ⟨some 5, none, .mov (.slot 23)⟩]
def c_sort_Search_R6 : List AOper := [⟨some 24, none, .mov (.slot 7)⟩,
  ⟨some 6, none, .mov (.slot 24)⟩]
def c_sort_Search_L0 : ACode := (.seq (.seq (.region c_sort_Search_R2 false [1, 5, 6, 11]) (.cond (.slot 11) .skip (.exit 0))) (.block 1 (.seq (.region c_sort_Search_R3 false [1, 5, 6, 7]) (.seq (.region c_sort_Search_R4 false [1, 5, 6, 7, 21]) (.cond (.slot 21) (.region c_sort_Search_R5 false [1, 5, 6]) (.region c_sort_Search_R6 false [1, 5, 6]))))))
def lp_sort_Search_0 : ACode := .loop [1, 5, 6] c_sort_Search_L0
def c_sort_Search_R7 : List AOper := [⟨some 25, none, .mov (.slot 5)⟩,
  ⟨some 4, none, .mov (.slot 25)⟩]
def c_sort_Search : AFn := ⟨(.seq (.region c_sort_Search_R0 false [0, 1]) (.seq (.region c_sort_Search_R1 false [1, 5, 6]) (.seq (.block 0 lp_sort_Search_0) (.seq (.region c_sort_Search_R7 false [4]) .ret)))), [.slot 4]⟩
/- oriel/cols.Of'1 -/
def c_cols_Of_1_R0 : List AOper := [⟨some 3, none, .mov (.const (.bool false))⟩]
def c_cols_Of_1_R1 : List AOper := [⟨some 4, none, .mov (.slot 0)⟩,
  ⟨some 5, none, .idxarr 3 22 (.glob 0) (.slot 4)⟩,
  ⟨some 6, none, .idxarr 1 3 (.slot 5) (.const (.int .i64 1))⟩,
  ⟨some 7, none, .load false 1 (.slot 6)⟩,
  ⟨some 8, none, .load false 1 (.slot 1)⟩,
  ⟨some 9, none, .bin .geq (.slot 7) (.slot 8)⟩,
  ⟨some 3, none, .mov (.slot 9)⟩]
def c_cols_Of_1 : AFn := ⟨(.seq (.region c_cols_Of_1_R0 false [0, 1]) (.seq (.region c_cols_Of_1_R1 true [3]) .ret)), [.slot 3]⟩
/- oriel/cols.Of -/
def c_cols_Of_R0 : List AOper := [⟨some 1, none, .box 1 (.slot 0)⟩,
  ⟨some 2, none, .mov (.const (.int .i64 0))⟩]
def c_cols_Of_R1 : List AOper := [⟨some 4, none, .load false 1 (.slot 1)⟩,
  ⟨some 5, none, .bin .lss (.slot 4) (.const (.int .i32 32))⟩,
  ⟨some 6, none, .mov (.slot 5)⟩,
  ⟨some 7, some (6, false), .load false 1 (.slot 1)⟩,
  ⟨some 8, some (6, false), .bin .geq (.slot 7) (.const (.int .i32 127))⟩,
  ⟨some 9, some (6, false), .mov (.slot 8)⟩,
  ⟨some 10, some (9, true), .load false 1 (.slot 1)⟩,
  ⟨some 11, some (9, true), .bin .lss (.slot 10) (.const (.int .i32 160))⟩,
  ⟨some 12, some (6, false), .pick (.slot 9) (.slot 11) (.const (.bool false))⟩,
  ⟨some 13, none, .pick (.slot 6) (.const (.bool true)) (.slot 12)⟩,
  ⟨some 14, none, .mov (.slot 13)⟩,
  ⟨some 15, some (14, false), .load false 1 (.slot 1)⟩,
  ⟨some 16, some (14, false), .bin .geq (.slot 15) (.const (.int .i32 55296))⟩,
  ⟨some 17, some (14, false), .mov (.slot 16)⟩,
  ⟨some 18, some (17, true), .load false 1 (.slot 1)⟩,
  ⟨some 19, some (17, true), .bin .leq (.slot 18) (.const (.int .i32 57343))⟩,
  ⟨some 20, some (14, false), .pick (.slot 17) (.slot 19) (.const (.bool false))⟩,
  ⟨some 21, none, .pick (.slot 14) (.const (.bool true)) (.slot 20)⟩,
  ⟨some 22, none, .mov (.slot 21)⟩,
  ⟨some 23, some (22, false), .load false 1 (.slot 1)⟩,
  ⟨some 24, some (22, false), .bin .gtr (.slot 23) (.const (.int .i32 1114111))⟩,
  ⟨some 25, none, .pick (.slot 22) (.const (.bool true)) (.slot 24)⟩]
def c_cols_Of_R2 : List AOper := [⟨some 2, none, .mov (.const (.int .i64 (-1)))⟩]
def c_cols_Of_R3 : List AOper := [⟨some 26, none, .mkfn (.func n_cols_Of_1) [] [(.slot 1)]⟩,
  ⟨some 27, none, .call .inl n_sort_Search [(.const (.int .i64 22)), (.slot 26)]⟩,
  ⟨some 3, none, .mov (.slot 27)⟩]
def c_cols_Of_R4 : List AOper := [⟨some 28, none, .mov (.slot 3)⟩,
  ⟨some 29, none, .bin .lss (.slot 28) (.const (.int .i64 22))⟩,
  ⟨some 30, none, .mov (.slot 29)⟩,
  ⟨some 31, some (30, true), .mov (.slot 3)⟩,
  ⟨some 32, some (30, true), .idxarr 3 22 (.glob 0) (.slot 31)⟩,
  ⟨some 33, some (30, true), .idxarr 1 3 (.slot 32) (.const (.int .i64 0))⟩,
  ⟨some 34, some (30, true), .load false 1 (.slot 33)⟩,
  ⟨some 35, some (30, true), .load false 1 (.slot 1)⟩,
  ⟨some 36, some (30, true), .bin .leq (.slot 34) (.slot 35)⟩,
  ⟨some 37, none, .pick (.slot 30) (.slot 36) (.const (.bool false))⟩]
def c_cols_Of_R5 : List AOper := [⟨some 38, none, .mov (.slot 3)⟩,
  ⟨some 39, none, .idxarr 3 22 (.glob 0) (.slot 38)⟩,
  ⟨some 40, none, .idxarr 1 3 (.slot 39) (.const (.int .i64 2))⟩,
  ⟨some 41, none, .load false 1 (.slot 40)⟩,
  ⟨some 42, none, .conv .i64 (.slot 41)⟩,
  ⟨some 2, none, .mov (.slot 42)⟩]
def c_cols_Of_R6 : List AOper := [⟨some 2, none, .mov (.const (.int .i64 1))⟩]
def c_cols_Of : AFn := ⟨(.seq (.region c_cols_Of_R0 false [1]) (.seq (.seq (.region c_cols_Of_R1 false [1, 25]) (.cond (.slot 25) (.seq (.region c_cols_Of_R2 false [2]) .ret) .skip)) (.seq (.region c_cols_Of_R3 false [1, 3]) (.seq (.seq (.region c_cols_Of_R4 true [3, 37]) (.cond (.slot 37) (.seq (.region c_cols_Of_R5 false [2]) .ret) .skip)) (.seq (.region c_cols_Of_R6 false [2]) .ret))))), [.slot 2]⟩
/- oriel/line.marked -/
def c_line_marked_R0 : List AOper := [⟨some 1, none, .box 2 (.slot 0)⟩,
  ⟨some 2, none, .mov (.const (.bool false))⟩]
def c_line_marked_R1 : List AOper := [⟨some 3, none, .idxarr 1 2 (.slot 1) (.const (.int .i64 0))⟩,
  ⟨some 4, none, .load false 1 (.slot 3)⟩,
  ⟨some 5, none, .bin .eql (.slot 4) (.const (.int .i32 0))⟩]
def c_line_marked_R2 : List AOper := [⟨some 6, none, .idxarr 1 2 (.slot 1) (.const (.int .i64 1))⟩,
  ⟨some 7, none, .load false 1 (.slot 6)⟩,
  ⟨some 8, none, .bin .eql (.slot 7) (.const (.int .i32 0))⟩,
  ⟨some 2, none, .mov (.slot 8)⟩]
def c_line_marked_R3 : List AOper := [⟨some 9, none, .idxarr 1 2 (.slot 1) (.const (.int .i64 0))⟩,
  ⟨some 10, none, .load false 1 (.slot 9)⟩,
  ⟨some 11, none, .call .frz n_cols_Of [(.slot 10)]⟩,
  ⟨some 12, none, .bin .eql (.slot 11) (.const (.int .i64 0))⟩,
  ⟨some 13, none, .mov (.slot 12)⟩,
  ⟨some 14, some (13, true), .idxarr 1 2 (.slot 1) (.const (.int .i64 1))⟩,
  ⟨some 15, some (13, true), .load false 1 (.slot 14)⟩,
  ⟨some 16, some (13, true), .bin .eql (.slot 15) (.const (.int .i32 0))⟩,
  ⟨some 17, some (13, true), .mov (.slot 16)⟩,
  ⟨some 18, some (17, false), .idxarr 1 2 (.slot 1) (.const (.int .i64 1))⟩,
  ⟨some 19, some (17, false), .load false 1 (.slot 18)⟩,
  ⟨some 20, some (17, false), .call .frz n_cols_Of [(.slot 19)]⟩,
  ⟨some 21, some (17, false), .bin .eql (.slot 20) (.const (.int .i64 0))⟩,
  ⟨some 22, some (13, true), .pick (.slot 17) (.const (.bool true)) (.slot 21)⟩,
  ⟨some 23, none, .pick (.slot 13) (.slot 22) (.const (.bool false))⟩,
  ⟨some 2, none, .mov (.slot 23)⟩]
def c_line_marked : AFn := ⟨(.seq (.region c_line_marked_R0 false [1]) (.seq (.seq (.region c_line_marked_R1 false [1, 5]) (.cond (.slot 5) (.seq (.region c_line_marked_R2 false [2]) .ret) .skip)) (.seq (.region c_line_marked_R3 false [2]) .ret))), [.slot 2]⟩
/- oriel/line.may -/
def c_line_may_R0 : List AOper := [⟨some 1, none, .box 7 (.slot 0)⟩,
  ⟨some 2, none, .mov (.const (.bool false))⟩]
def c_line_may_R1 : List AOper := [⟨some 3, none, .faddr 3 (.slot 1)⟩,
  ⟨some 4, none, .load false 1 (.slot 3)⟩]
def c_line_may_R2 : List AOper := [⟨some 6, none, .bin .eql (.slot 4) (.const (.int .i64 0))⟩,
  ⟨some 5, none, .mov (.slot 6)⟩]
def c_line_may_R3 : List AOper := [⟨some 7, none, .bin .eql (.slot 4) (.const (.int .i64 1))⟩,
  ⟨some 5, none, .mov (.slot 7)⟩]
def c_line_may_R4 : List AOper := [⟨some 8, none, .faddr 4 (.slot 1)⟩,
  ⟨some 9, none, .load true 3 (.slot 8)⟩,
  ⟨some 10, none, .call .frz n_pen_May [(.slot 9)]⟩,
  ⟨some 11, none, .mov (.slot 10)⟩,
  ⟨some 12, some (11, true), .faddr 0 (.slot 1)⟩,
  ⟨some 13, some (11, true), .load false 1 (.slot 12)⟩,
  ⟨some 14, some (11, true), .call .frz n_cols_Of [(.slot 13)]⟩,
  ⟨some 15, some (11, true), .faddr 3 (.slot 1)⟩,
  ⟨some 16, some (11, true), .load false 1 (.slot 15)⟩,
  ⟨some 17, some (11, true), .bin .add (.slot 16) (.const (.int .i64 1))⟩,
  ⟨some 18, some (11, true), .bin .eql (.slot 14) (.slot 17)⟩,
  ⟨some 19, none, .pick (.slot 11) (.slot 18) (.const (.bool false))⟩,
  ⟨some 20, none, .mov (.slot 19)⟩,
  ⟨some 21, some (20, true), .faddr 1 (.slot 1)⟩,
  ⟨some 22, some (20, true), .load true 2 (.slot 21)⟩,
  ⟨some 23, some (20, true), .call .frz n_line_marked [(.slot 22)]⟩,
  ⟨some 24, none, .pick (.slot 20) (.slot 23) (.const (.bool false))⟩,
  ⟨some 2, none, .mov (.slot 24)⟩]
def c_line_may_R5 : List AOper := [⟨some 26, none, .bin .eql (.slot 4) (.const (.int .i64 2))⟩,
  ⟨some 25, none, .mov (.slot 26)⟩]
def c_line_may_R6 : List AOper := [⟨some 27, none, .faddr 4 (.slot 1)⟩,
  ⟨some 28, none, .load true 3 (.slot 27)⟩,
  ⟨some 29, none, .call .frz n_pen_May [(.slot 28)]⟩,
  ⟨some 30, none, .mov (.slot 29)⟩,
  ⟨some 31, some (30, true), .load true 7 (.slot 1)⟩,
  ⟨some 32, some (30, true), .faddr 4 (.slot 1)⟩,
  ⟨some 33, some (30, true), .load true 3 (.slot 32)⟩,
  ⟨some 34, some (30, true), .build [.int .i32 0, .int .i32 0, .int .i32 0, .int .i64 0, .int .i64 0, .int .i64 0, .int .i64 0] [(3, 1, (.const (.int .i64 2))), (4, 3, (.slot 33))]⟩,
  ⟨some 35, some (30, true), .eq true [.ki, .ki, .ki, .ki, .ki, .ki, .ki] false (.slot 31) (.slot 34)⟩,
  ⟨some 36, none, .pick (.slot 30) (.slot 35) (.const (.bool false))⟩,
  ⟨some 2, none, .mov (.slot 36)⟩]
def c_line_may_R7 : List AOper := [⟨some 2, none, .mov (.const (.bool false))⟩]
def c_line_may : AFn := ⟨(.seq (.region c_line_may_R0 false [1]) (.seq (.seq (.region c_line_may_R1 false [1, 4]) (.block 0 (.seq (.seq (.region c_line_may_R2 false [1, 4, 5]) (.cond (.slot 5) .skip (.region c_line_may_R3 false [1, 4, 5]))) (.cond (.slot 5) (.seq (.region c_line_may_R4 true [2]) .ret) (.seq (.region c_line_may_R5 false [1, 25]) (.cond (.slot 25) (.seq (.region c_line_may_R6 false [2]) .ret) .skip)))))) (.seq (.region c_line_may_R7 false [2]) .ret))), [.slot 2]⟩
/- oriel/line.May -/
def c_line_May_R0 : List AOper := [⟨some 2, none, .mov (.const (.bool false))⟩]
def c_line_May_R1 : List AOper := [⟨some 6, none, .mov (.slot 0)⟩,
  ⟨some 7, none, .len false (.slot 6)⟩,
  ⟨some 8, none, .bin .gtr (.slot 7) (.const (.int .i64 1000))⟩]
def c_line_May_R2 : List AOper := [⟨some 2, none, .mov (.const (.bool false))⟩]
def c_line_May_R3 : List AOper := [⟨some 9, none, .mov (.slot 0)⟩,
  ⟨some 10, none, .len false (.slot 9)⟩,
  ⟨some 11, none, .mov (.const (.int .i64 0))⟩]
def c_line_May_R4 : List AOper := [⟨some 12, none, .bin .lss (.slot 11) (.slot 10)⟩]
def c_line_May_R5 : List AOper := [⟨some 13, none, .mov (.slot 11)⟩,
  ⟨some 14, none, .idx 7 (.slot 9) (.slot 11)⟩,
  ⟨some 15, none, .load true 7 (.slot 14)⟩,
  ⟨some 4, none, .alloc [.int .i32 0, .int .i32 0, .int .i32 0, .int .i64 0, .int .i64 0, .int .i64 0, .int .i64 0]⟩,
  ⟨some 3, none, .mov (.slot 13)⟩,
  ⟨none, none, .store true 7 (.slot 4) (.slot 15)⟩]
def c_line_May_R6 : List AOper := [⟨some 16, none, .mov (.slot 3)⟩,
  ⟨some 17, none, .bin .gtr (.slot 16) (.const (.int .i64 0))⟩,
  ⟨some 18, none, .mov (.slot 17)⟩,
  ⟨some 19, some (18, true), .mov (.slot 0)⟩,
  ⟨some 20, some (18, true), .mov (.slot 3)⟩,
  ⟨some 21, some (18, true), .bin .sub (.slot 20) (.const (.int .i64 1))⟩,
  ⟨some 22, some (18, true), .idx 7 (.slot 19) (.slot 21)⟩,
  ⟨some 23, some (18, true), .faddr 3 (.slot 22)⟩,
  ⟨some 24, some (18, true), .load false 1 (.slot 23)⟩,
  ⟨some 25, some (18, true), .bin .eql (.slot 24) (.const (.int .i64 1))⟩,
  ⟨some 26, none, .pick (.slot 18) (.slot 25) (.const (.bool false))⟩,
  ⟨some 5, none, .mov (.slot 26)⟩]
def c_line_May_R7 : List AOper := ⟨some 27, none, .load true 7 (.slot 4)⟩ ::
  ⟨some 28, none, .call .frz n_line_may [(.slot 27)]⟩ ::
  ⟨some 29, none, .not (.slot 28)⟩ ::
  ⟨some 30, none, .mov (.slot 29)⟩ ::
  ⟨some 31, some (30, false), .mov (.slot 5)⟩ ::
  ⟨some 32, some (30, false), .faddr 3 (.slot 4)⟩ ::
  ⟨some 33, some (30, false), .load false 1 (.slot 32)⟩ ::
  ⟨some 34, some (30, false), .bin .eql (.slot 33) (.const (.int .i64 2))⟩ ::
  ⟨some 35, some (30, false), .eq false [.kb] true (.slot 31) (.slot 34)⟩ ::
  ⟨some 36, none, .pick (.slot 30) (.const (.bool true)) (.slot 35)⟩ ::
  ⟨some 37, none, .mov (.slot 36)⟩ ::
  ⟨some 38, some (37, false), .mov (.slot 5)⟩ ::
  ⟨some 39, some (37, false), .mov (.slot 38)⟩ ::
  ⟨some 40, some (39, true), .mov (.slot 0)⟩ ::
  ⟨some 41, some (39, true), .mov (.slot 3)⟩ ::
  ⟨some 42, some (39, true), .bin .sub (.slot 41) (.const (.int .i64 1))⟩ ::
  ⟨some 43, some (39, true), .idx 7 (.slot 40) (.slot 42)⟩ ::
  ⟨some 44, some (39, true), .faddr 4 (.slot 43)⟩ ::
  ⟨some 45, some (39, true), .load true 3 (.slot 44)⟩ ::
  ⟨some 46, some (39, true), .faddr 4 (.slot 4)⟩ ::
  ⟨some 47, some (39, true), .load true 3 (.slot 46)⟩ ::
  ⟨some 48, some (39, true), .eq true [.ki, .ki, .ki] true (.slot 45) (.slot 47)⟩ ::
  ⟨some 49, some (37, false), .pick (.slot 39) (.slot 48) (.const (.bool false))⟩ ::
  ⟨some 50, none, .pick (.slot 37) (.const (.bool true)) (.slot 49)⟩ ::
  ⟨some 51, none, .mov (.slot 50)⟩ ::
  ⟨some 52, some (51, false), .faddr 3 (.slot 4)⟩ ::
  ⟨some 53, some (51, false), .load false 1 (.slot 52)⟩ ::
  ⟨some 54, some (51, false), .bin .eql (.slot 53) (.const (.int .i64 1))⟩ ::
  ⟨some 55, some (51, false), .mov (.slot 54)⟩ ::
  ⟨some 56, some (55, true), .mov (.slot 3)⟩ ::
  ⟨some 57, some (55, true), .mov (.slot 0)⟩ ::
  ⟨some 58, some (55, true), .len false (.slot 57)⟩ ::
  ⟨some 59, some (55, true), .bin .sub (.slot 58) (.const (.int .i64 1))⟩ ::
  ⟨some 60, some (55, true), .bin .eql (.slot 56) (.slot 59)⟩ ::
  ⟨some 61, some (51, false), .pick (.slot 55) (.slot 60) (.const (.bool false))⟩ ::
  ⟨some 62, none, .pick (.slot 51) (.const (.bool true)) (.slot 61)⟩ :: []
def c_line_May_R8 : List AOper := [⟨some 2, none, .mov (.const (.bool false))⟩]
def c_line_May_R9 : List AOper := [⟨some 63, none, .bin .add (.slot 11) (.const (.int .i64 1))⟩,
  ⟨some 11, none, .mov (.slot 63)⟩]
def c_line_May_L0 : ACode := (.seq (.region c_line_May_R4 false [0, 9, 10, 11, 12]) (.seq (.cond (.slot 12) .skip (.exit 0)) (.seq (.block 1 (.seq (.region c_line_May_R5 false [0, 3, 4, 9, 10, 11]) (.seq (.region c_line_May_R6 false [0, 3, 4, 5, 9, 10, 11]) (.seq (.region c_line_May_R7 true [0, 9, 10, 11, 62]) (.cond (.slot 62) (.seq (.region c_line_May_R8 false [2]) .ret) .skip))))) (.region c_line_May_R9 false [0, 9, 10, 11]))))
def lp_line_May_0 : ACode := .loop [0, 9, 10, 11] c_line_May_L0
def c_line_May_R10 : List AOper := [⟨some 2, none, .mov (.const (.bool true))⟩]
def c_line_May : AFn := ⟨(.seq (.region c_line_May_R0 false [0]) (.seq (.seq (.region c_line_May_R1 false [0, 8]) (.cond (.slot 8) (.seq (.region c_line_May_R2 false [2]) .ret) .skip)) (.seq (.seq (.region c_line_May_R3 false [0, 9, 10, 11]) (.block 0 lp_line_May_0)) (.seq (.region c_line_May_R10 false [2]) .ret)))), [.slot 2]⟩
/- oriel/grid.May'1 -/
def c_grid_May_1_R0 : List AOper := [⟨some 3, none, .mov (.const (.bool false))⟩]
def c_grid_May_1_R1 : List AOper := [⟨some 4, none, .mov (.slot 0)⟩,
  ⟨some 5, none, .len false (.slot 4)⟩,
  ⟨some 6, none, .load false 1 (.slot 1)⟩,
  ⟨some 7, none, .idx 1 (.slot 6) (.const (.int .i64 0))⟩,
  ⟨some 8, none, .load false 1 (.slot 7)⟩,
  ⟨some 9, none, .len false (.slot 8)⟩,
  ⟨some 10, none, .bin .neq (.slot 5) (.slot 9)⟩,
  ⟨some 11, none, .mov (.slot 10)⟩,
  ⟨some 12, some (11, false), .mov (.slot 0)⟩,
  ⟨some 13, some (11, false), .call .frz n_line_May [(.slot 12)]⟩,
  ⟨some 14, some (11, false), .not (.slot 13)⟩,
  ⟨some 15, none, .pick (.slot 11) (.const (.bool true)) (.slot 14)⟩,
  ⟨some 3, none, .mov (.slot 15)⟩]
def c_grid_May_1 : AFn := ⟨(.seq (.region c_grid_May_1_R0 false [0, 1]) (.seq (.region c_grid_May_1_R1 false [3]) .ret)), [.slot 3]⟩
/- oriel/grid.May -/
def c_grid_May_R0 : List AOper := [⟨some 1, none, .box 1 (.slot 0)⟩,
  ⟨some 2, none, .mov (.const (.bool false))⟩]
def c_grid_May_R1 : List AOper := [⟨some 3, none, .load false 1 (.slot 1)⟩,
  ⟨some 4, none, .len false (.slot 3)⟩,
  ⟨some 5, none, .call .frz n_grid_side [(.slot 4)]⟩,
  ⟨some 6, none, .not (.slot 5)⟩,
  ⟨some 7, none, .mov (.slot 6)⟩,
  ⟨some 8, some (7, false), .load false 1 (.slot 1)⟩,
  ⟨some 9, some (7, false), .idx 1 (.slot 8) (.const (.int .i64 0))⟩,
  ⟨some 10, some (7, false), .load false 1 (.slot 9)⟩,
  ⟨some 11, some (7, false), .len false (.slot 10)⟩,
  ⟨some 12, some (7, false), .call .frz n_grid_side [(.slot 11)]⟩,
  ⟨some 13, some (7, false), .not (.slot 12)⟩,
  ⟨some 14, none, .pick (.slot 7) (.const (.bool true)) (.slot 13)⟩]
def c_grid_May_R2 : List AOper := [⟨some 2, none, .mov (.const (.bool false))⟩]
def c_grid_May_R3 : List AOper := [⟨some 15, none, .load false 1 (.slot 1)⟩,
  ⟨some 16, none, .mkfn (.func n_grid_May_1) [] [(.slot 1)]⟩,
  ⟨some 17, none, .call .inl n_slices_ContainsFunc_LCell [(.slot 15), (.slot 16)]⟩,
  ⟨some 18, none, .not (.slot 17)⟩,
  ⟨some 2, none, .mov (.slot 18)⟩]
def c_grid_May : AFn := ⟨(.seq (.region c_grid_May_R0 false [1]) (.seq (.seq (.region c_grid_May_R1 false [1, 14]) (.cond (.slot 14) (.seq (.region c_grid_May_R2 false [2]) .ret) .skip)) (.seq (.region c_grid_May_R3 false [2]) .ret))), [.slot 2]⟩
/- slices.Clone[[]oriel/api.Cell,oriel/api.Cell] -/
def c_slices_Clone_Cell_R0 : List AOper := [⟨some 2, none, .mov (.const (.data false 7 [] true))⟩]
def c_slices_Clone_Cell_R1 : List AOper := [⟨some 3, none, .mov (.slot 0)⟩,
  ⟨some 4, none, .isnil .ks false (.slot 3)⟩]
def c_slices_Clone_Cell_R2 : List AOper := [⟨some 2, none, .mov (.const (.data false 7 [] true))⟩]
def c_slices_Clone_Cell_R3 : List AOper := [⟨some 5, none, .mkslice 7 0 [.int .i32 0, .int .i32 0, .int .i32 0, .int .i64 0, .int .i64 0, .int .i64 0, .int .i64 0] []⟩,
  ⟨some 6, none, .mov (.slot 0)⟩,
  ⟨some 7, none, .append 7 48 (.slot 5) (.slot 6)⟩,
  ⟨some 2, none, .mov (.slot 7)⟩]
def c_slices_Clone_Cell : AFn := ⟨(.seq (.region c_slices_Clone_Cell_R0 false [0]) (.seq (.seq (.region c_slices_Clone_Cell_R1 false [0, 4]) (.cond (.slot 4) (.seq (.region c_slices_Clone_Cell_R2 false [2]) .ret) .skip)) (.seq (.region c_slices_Clone_Cell_R3 false [2]) .ret))), [.slot 2]⟩
/- oriel/grid.copied -/
def c_grid_copied_R0 : List AOper := [⟨some 2, none, .mov (.const (.data false 1 [] true))⟩]
def c_grid_copied_R1 : List AOper := [⟨some 6, none, .mov (.slot 0)⟩,
  ⟨some 7, none, .len false (.slot 6)⟩,
  ⟨some 8, none, .mkrow 1 24 [.data false 7 [] true] (.slot 7) (.slot 7)⟩,
  ⟨some 3, none, .mov (.slot 8)⟩]
def c_grid_copied_R2 : List AOper := [⟨some 9, none, .mov (.slot 0)⟩,
  ⟨some 10, none, .len false (.slot 9)⟩,
  ⟨some 11, none, .mov (.const (.int .i64 0))⟩]
def c_grid_copied_R3 : List AOper := [⟨some 12, none, .bin .lss (.slot 11) (.slot 10)⟩]
def c_grid_copied_R4 : List AOper := [⟨some 13, none, .mov (.slot 11)⟩,
  ⟨some 14, none, .idx 1 (.slot 9) (.slot 11)⟩,
  ⟨some 15, none, .load false 1 (.slot 14)⟩,
  ⟨some 4, none, .mov (.slot 13)⟩,
  ⟨some 5, none, .mov (.slot 15)⟩]
def c_grid_copied_R5 : List AOper := [⟨some 16, none, .mov (.slot 3)⟩,
  ⟨some 17, none, .mov (.slot 4)⟩,
  ⟨some 18, none, .mov (.slot 5)⟩,
  ⟨some 19, none, .call .frz n_slices_Clone_Cell [(.slot 18)]⟩,
  ⟨some 20, none, .idx 1 (.slot 16) (.slot 17)⟩,
  ⟨none, none, .store false 1 (.slot 20) (.slot 19)⟩]
def c_grid_copied_R6 : List AOper := [⟨some 21, none, .bin .add (.slot 11) (.const (.int .i64 1))⟩,
  ⟨some 11, none, .mov (.slot 21)⟩]
def c_grid_copied_L0 : ACode := (.seq (.region c_grid_copied_R3 false [3, 9, 10, 11, 12]) (.seq (.cond (.slot 12) .skip (.exit 0)) (.seq (.block 1 (.seq (.region c_grid_copied_R4 false [3, 4, 5, 9, 10, 11]) (.region c_grid_copied_R5 false [3, 9, 10, 11]))) (.region c_grid_copied_R6 false [3, 9, 10, 11]))))
def lp_grid_copied_0 : ACode := .loop [3, 9, 10, 11] c_grid_copied_L0
def c_grid_copied_R7 : List AOper := [⟨some 22, none, .mov (.slot 3)⟩,
  ⟨some 2, none, .mov (.slot 22)⟩]
def c_grid_copied : AFn := ⟨(.seq (.region c_grid_copied_R0 false [0]) (.seq (.region c_grid_copied_R1 false [0, 3]) (.seq (.seq (.region c_grid_copied_R2 false [3, 9, 10, 11]) (.block 0 lp_grid_copied_0)) (.seq (.region c_grid_copied_R7 false [2]) .ret)))), [.slot 2]⟩
/- math/bits.Mul32 -/
def c_math_bits_Mul32_R0 : List AOper := [⟨some 4, none, .mov (.const (.int .u32 0))⟩,
  ⟨some 5, none, .mov (.const (.int .u32 0))⟩]
def c_math_bits_Mul32_R1 : List AOper := [⟨some 7, none, .mov (.slot 0)⟩,
  ⟨some 8, none, .conv .u64 (.slot 7)⟩,
  ⟨some 9, none, .mov (.slot 1)⟩,
  ⟨some 10, none, .conv .u64 (.slot 9)⟩,
  ⟨some 11, none, .bin .mul (.slot 8) (.slot 10)⟩,
  ⟨some 6, none, .mov (.slot 11)⟩]
def c_math_bits_Mul32_R2 : List AOper := [⟨some 12, none, .mov (.slot 6)⟩,
  ⟨some 13, none, .bin .shr (.slot 12) (.const (.int .u64 32))⟩,
  ⟨some 14, none, .conv .u32 (.slot 13)⟩,
  ⟨some 15, none, .mov (.slot 6)⟩,
  ⟨some 16, none, .conv .u32 (.slot 15)⟩,
  ⟨some 4, none, .mov (.slot 14)⟩,
  ⟨some 5, none, .mov (.slot 16)⟩]
def c_math_bits_Mul32 : AFn := ⟨(.seq (.region c_math_bits_Mul32_R0 false [0, 1]) (.seq (.region c_math_bits_Mul32_R1 false [6]) (.seq (.region c_math_bits_Mul32_R2 false [4, 5]) .ret))), [.slot 4, .slot 5]⟩
/- math/bits.Mul64 -/
def c_math_bits_Mul64_R0 : List AOper := [⟨some 4, none, .mov (.const (.int .u64 0))⟩,
  ⟨some 5, none, .mov (.const (.int .u64 0))⟩]
def c_math_bits_Mul64_R1 : List AOper := [⟨some 14, none, .mov (.slot 0)⟩,
  ⟨some 15, none, .bin .and (.slot 14) (.const (.int .u64 4294967295))⟩,
  ⟨some 6, none, .mov (.slot 15)⟩]
def c_math_bits_Mul64_R2 : List AOper := [⟨some 16, none, .mov (.slot 0)⟩,
  ⟨some 17, none, .bin .shr (.slot 16) (.const (.int .u64 32))⟩,
  ⟨some 7, none, .mov (.slot 17)⟩]
def c_math_bits_Mul64_R3 : List AOper := [⟨some 18, none, .mov (.slot 1)⟩,
  ⟨some 19, none, .bin .and (.slot 18) (.const (.int .u64 4294967295))⟩,
  ⟨some 8, none, .mov (.slot 19)⟩]
def c_math_bits_Mul64_R4 : List AOper := [⟨some 20, none, .mov (.slot 1)⟩,
  ⟨some 21, none, .bin .shr (.slot 20) (.const (.int .u64 32))⟩,
  ⟨some 9, none, .mov (.slot 21)⟩]
def c_math_bits_Mul64_R5 : List AOper := [⟨some 22, none, .mov (.slot 6)⟩,
  ⟨some 23, none, .mov (.slot 8)⟩,
  ⟨some 24, none, .bin .mul (.slot 22) (.slot 23)⟩,
  ⟨some 10, none, .mov (.slot 24)⟩]
def c_math_bits_Mul64_R6 : List AOper := [⟨some 25, none, .mov (.slot 7)⟩,
  ⟨some 26, none, .mov (.slot 8)⟩,
  ⟨some 27, none, .bin .mul (.slot 25) (.slot 26)⟩,
  ⟨some 28, none, .mov (.slot 10)⟩,
  ⟨some 29, none, .bin .shr (.slot 28) (.const (.int .u64 32))⟩,
  ⟨some 30, none, .bin .add (.slot 27) (.slot 29)⟩,
  ⟨some 11, none, .mov (.slot 30)⟩]
def c_math_bits_Mul64_R7 : List AOper := [⟨some 31, none, .mov (.slot 11)⟩,
  ⟨some 32, none, .bin .and (.slot 31) (.const (.int .u64 4294967295))⟩,
  ⟨some 12, none, .mov (.slot 32)⟩]
def c_math_bits_Mul64_R8 : List AOper := [⟨some 33, none, .mov (.slot 11)⟩,
  ⟨some 34, none, .bin .shr (.slot 33) (.const (.int .u64 32))⟩,
  ⟨some 13, none, .mov (.slot 34)⟩]
def c_math_bits_Mul64_R9 : List AOper := [⟨some 35, none, .mov (.slot 12)⟩,
  ⟨some 36, none, .mov (.slot 6)⟩,
  ⟨some 37, none, .mov (.slot 9)⟩,
  ⟨some 38, none, .bin .mul (.slot 36) (.slot 37)⟩,
  ⟨some 39, none, .bin .add (.slot 35) (.slot 38)⟩,
  ⟨some 12, none, .mov (.slot 39)⟩]
def c_math_bits_Mul64_R10 : List AOper := [⟨some 40, none, .mov (.slot 7)⟩,
  ⟨some 41, none, .mov (.slot 9)⟩,
  ⟨some 42, none, .bin .mul (.slot 40) (.slot 41)⟩,
  ⟨some 43, none, .mov (.slot 13)⟩,
  ⟨some 44, none, .bin .add (.slot 42) (.slot 43)⟩,
  ⟨some 45, none, .mov (.slot 12)⟩,
  ⟨some 46, none, .bin .shr (.slot 45) (.const (.int .u64 32))⟩,
  ⟨some 47, none, .bin .add (.slot 44) (.slot 46)⟩,
  ⟨some 4, none, .mov (.slot 47)⟩]
def c_math_bits_Mul64_R11 : List AOper := [⟨some 48, none, .mov (.slot 0)⟩,
  ⟨some 49, none, .mov (.slot 1)⟩,
  ⟨some 50, none, .bin .mul (.slot 48) (.slot 49)⟩,
  ⟨some 5, none, .mov (.slot 50)⟩]
def c_math_bits_Mul64 : AFn := ⟨(.seq (.region c_math_bits_Mul64_R0 false [0, 1]) (.seq (.region c_math_bits_Mul64_R1 false [0, 1, 6]) (.seq (.region c_math_bits_Mul64_R2 false [0, 1, 6, 7]) (.seq (.region c_math_bits_Mul64_R3 false [0, 1, 6, 7, 8]) (.seq (.region c_math_bits_Mul64_R4 false [0, 1, 6, 7, 8, 9]) (.seq (.region c_math_bits_Mul64_R5 false [0, 1, 6, 7, 8, 9, 10]) (.seq (.region c_math_bits_Mul64_R6 false [0, 1, 6, 7, 9, 11]) (.seq (.region c_math_bits_Mul64_R7 false [0, 1, 6, 7, 9, 11, 12]) (.seq (.region c_math_bits_Mul64_R8 false [0, 1, 6, 7, 9, 12, 13]) (.seq (.region c_math_bits_Mul64_R9 false [0, 1, 7, 9, 12, 13]) (.seq (.region c_math_bits_Mul64_R10 false [0, 1, 4]) (.seq (.region c_math_bits_Mul64_R11 false [4, 5]) .ret)))))))))))), [.slot 4, .slot 5]⟩
/- math/bits.Mul -/
def c_math_bits_Mul_R0 : List AOper := [⟨some 4, none, .mov (.const (.int .u64 0))⟩,
  ⟨some 5, none, .mov (.const (.int .u64 0))⟩]
def c_math_bits_Mul_R1 : List AOper := [⟨some 11, none, .mov (.slot 0)⟩,
  ⟨some 12, none, .conv .u32 (.slot 11)⟩,
  ⟨some 13, none, .mov (.slot 1)⟩,
  ⟨some 14, none, .conv .u32 (.slot 13)⟩,
  ⟨some 15, none, .call .frz n_math_bits_Mul32 [(.slot 12), (.slot 14)]⟩,
  ⟨some 10, none, .mov (.slot 15)⟩,
  ⟨some 16, none, .extract 0 (.slot 10)⟩,
  ⟨some 17, none, .extract 1 (.slot 10)⟩,
  ⟨some 6, none, .mov (.slot 16)⟩,
  ⟨some 7, none, .mov (.slot 17)⟩]
def c_math_bits_Mul_R2 : List AOper := [⟨some 18, none, .mov (.slot 6)⟩,
  ⟨some 19, none, .conv .u64 (.slot 18)⟩,
  ⟨some 20, none, .mov (.slot 7)⟩,
  ⟨some 21, none, .conv .u64 (.slot 20)⟩,
  ⟨some 4, none, .mov (.slot 19)⟩,
  ⟨some 5, none, .mov (.slot 21)⟩]
def c_math_bits_Mul_R3 : List AOper := [⟨some 23, none, .mov (.slot 0)⟩,
  ⟨some 24, none, .mov (.slot 1)⟩,
  ⟨some 25, none, .call .frz n_math_bits_Mul64 [(.slot 23), (.slot 24)]⟩,
  ⟨some 22, none, .mov (.slot 25)⟩,
  ⟨some 26, none, .extract 0 (.slot 22)⟩,
  ⟨some 27, none, .extract 1 (.slot 22)⟩,
  ⟨some 8, none, .mov (.slot 26)⟩,
  ⟨some 9, none, .mov (.slot 27)⟩]
def c_math_bits_Mul_R4 : List AOper := [⟨some 28, none, .mov (.slot 8)⟩,
  ⟨some 29, none, .mov (.slot 9)⟩,
  ⟨some 4, none, .mov (.slot 28)⟩,
  ⟨some 5, none, .mov (.slot 29)⟩]
def c_math_bits_Mul : AFn := ⟨(.seq (.region c_math_bits_Mul_R0 false [0, 1]) (.seq (.cond (.const (.bool false)) (.seq (.region c_math_bits_Mul_R1 false [6, 7]) (.seq (.region c_math_bits_Mul_R2 false [4, 5]) .ret)) .skip) (.seq (.region c_math_bits_Mul_R3 false [8, 9]) (.seq (.region c_math_bits_Mul_R4 false [4, 5]) .ret)))), [.slot 4, .slot 5]⟩
/- slices.Repeat[[]oriel/api.Cell,oriel/api.Cell] -/
def c_slices_Repeat_Cell_R0 : List AOper := [⟨some 4, none, .mov (.const (.data false 7 [] true))⟩]
def c_slices_Repeat_Cell_R1 : List AOper := [⟨some 9, none, .mov (.slot 1)⟩,
  ⟨some 10, none, .bin .lss (.slot 9) (.const (.int .i64 0))⟩]
def c_slices_Repeat_Cell_R3 : List AOper := [⟨some 13, none, .mov (.slot 0)⟩,
  ⟨some 14, none, .len false (.slot 13)⟩,
  ⟨some 15, none, .conv .u64 (.slot 14)⟩,
  ⟨some 16, none, .mov (.slot 1)⟩,
  ⟨some 17, none, .conv .u64 (.slot 16)⟩,
  ⟨some 18, none, .call .frz n_math_bits_Mul [(.slot 15), (.slot 17)]⟩,
  ⟨some 12, none, .mov (.slot 18)⟩,
  ⟨some 19, none, .extract 0 (.slot 12)⟩,
  ⟨some 20, none, .extract 1 (.slot 12)⟩,
  ⟨some 5, none, .mov (.slot 19)⟩,
  ⟨some 6, none, .mov (.slot 20)⟩]
def c_slices_Repeat_Cell_R4 : List AOper := [⟨some 21, none, .mov (.slot 5)⟩,
  ⟨some 22, none, .bin .gtr (.slot 21) (.const (.int .u64 0))⟩,
  ⟨some 23, none, .mov (.slot 22)⟩,
  ⟨some 24, some (23, false), .mov (.slot 6)⟩,
  ⟨some 25, some (23, false), .bin .gtr (.slot 24) (.const (.int .u64 9223372036854775807))⟩,
  ⟨some 26, none, .pick (.slot 23) (.const (.bool true)) (.slot 25)⟩]
def c_slices_Repeat_Cell_R6 : List AOper := [⟨some 28, none, .mov (.slot 6)⟩,
  ⟨some 29, none, .conv .i64 (.slot 28)⟩,
  ⟨some 30, none, .mkrow 7 48 [.int .i32 0, .int .i32 0, .int .i32 0, .int .i64 0, .int .i64 0, .int .i64 0, .int .i64 0] (.slot 29) (.slot 29)⟩,
  ⟨some 7, none, .mov (.slot 30)⟩]
def c_slices_Repeat_Cell_R7 : List AOper := [⟨some 31, none, .mov (.slot 7)⟩,
  ⟨some 32, none, .mov (.slot 0)⟩,
  ⟨some 33, none, .copy 7 (.slot 31) (.slot 32)⟩,
  ⟨some 8, none, .mov (.slot 33)⟩]
def c_slices_Repeat_Cell_R8 : List AOper := [⟨some 34, none, .mov (.slot 8)⟩,
  ⟨some 35, none, .mov (.slot 7)⟩,
  ⟨some 36, none, .len false (.slot 35)⟩,
  ⟨some 37, none, .bin .lss (.slot 34) (.slot 36)⟩]
def c_slices_Repeat_Cell_R9 : List AOper := [⟨some 38, none, .mov (.slot 8)⟩,
  ⟨some 39, none, .mov (.slot 7)⟩,
  ⟨some 40, none, .mov (.slot 8)⟩,
  ⟨some 41, none, .sl 7 (.slot 39) (some (.slot 40)) none none⟩,
  ⟨some 42, none, .mov (.slot 7)⟩,
  ⟨some 43, none, .mov (.slot 8)⟩,
  ⟨some 44, none, .sl 7 (.slot 42) none (some (.slot 43)) none⟩,
  ⟨some 45, none, .copy 7 (.slot 41) (.slot 44)⟩,
  ⟨some 46, none, .bin .add (.slot 38) (.slot 45)⟩,
  ⟨some 8, none, .mov (.slot 46)⟩]
def c_slices_Repeat_Cell_L0 : ACode := (.seq (.seq (.region c_slices_Repeat_Cell_R8 false [7, 8, 37]) (.cond (.slot 37) .skip (.exit 0))) (.block 1 (.region c_slices_Repeat_Cell_R9 true [7, 8])))
def lp_slices_Repeat_Cell_0 : ACode := .loop [7, 8] c_slices_Repeat_Cell_L0
def c_slices_Repeat_Cell_R10 : List AOper := [⟨some 47, none, .mov (.slot 7)⟩,
  ⟨some 4, none, .mov (.slot 47)⟩]
def c_slices_Repeat_Cell : AFn := ⟨(.seq (.region c_slices_Repeat_Cell_R0 false [0, 1]) (.seq (.seq (.region c_slices_Repeat_Cell_R1 false [0, 1, 10]) (.cond (.slot 10) .dead .skip)) (.seq (.region c_slices_Repeat_Cell_R3 false [0, 5, 6]) (.seq (.seq (.region c_slices_Repeat_Cell_R4 false [0, 6, 26]) (.cond (.slot 26) .dead .skip)) (.seq (.region c_slices_Repeat_Cell_R6 false [0, 7]) (.seq (.region c_slices_Repeat_Cell_R7 false [7, 8]) (.seq (.block 0 lp_slices_Repeat_Cell_0) (.seq (.region c_slices_Repeat_Cell_R10 false [4]) .ret)))))))), [.slot 4]⟩
/- oriel/line.blank -/
def c_line_blank_R0 : List AOper := [⟨some 1, none, .box 3 (.slot 0)⟩,
  ⟨some 2, none, .alloc [.int .i32 0, .int .i32 0, .int .i32 0, .int .i64 0, .int .i64 0, .int .i64 0, .int .i64 0]⟩]
def c_line_blank_R1 : List AOper := [⟨some 3, none, .faddr 2 (.slot 1)⟩,
  ⟨some 4, none, .load false 1 (.slot 3)⟩,
  ⟨some 5, none, .build [.int .i64 0, .int .i64 0, .int .i64 0] [(2, 1, (.slot 4))]⟩,
  ⟨some 6, none, .build [.int .i32 0, .int .i32 0, .int .i32 0, .int .i64 0, .int .i64 0, .int .i64 0, .int .i64 0] [(0, 1, (.const (.int .i32 32))), (4, 3, (.slot 5))]⟩,
  ⟨none, none, .store true 7 (.slot 2) (.slot 6)⟩]
def c_line_blank : AFn := ⟨(.seq (.region c_line_blank_R0 false [1, 2]) (.seq (.region c_line_blank_R1 false [2]) .ret)), [.cell 2 true 7]⟩
/- oriel/line.Blank -/
def c_line_Blank_R0 : List AOper := [⟨some 3, none, .box 3 (.slot 1)⟩,
  ⟨some 4, none, .mov (.const (.data false 7 [] true))⟩]
def c_line_Blank_R1 : List AOper := [⟨some 5, none, .mov (.slot 0)⟩,
  ⟨some 6, none, .bin .lss (.slot 5) (.const (.int .i64 0))⟩,
  ⟨some 7, none, .mov (.slot 6)⟩,
  ⟨some 8, some (7, false), .mov (.slot 0)⟩,
  ⟨some 9, some (7, false), .bin .gtr (.slot 8) (.const (.int .i64 1000))⟩,
  ⟨some 10, none, .pick (.slot 7) (.const (.bool true)) (.slot 9)⟩,
  ⟨some 11, none, .mov (.slot 10)⟩,
  ⟨some 12, some (11, false), .load true 3 (.slot 3)⟩,
  ⟨some 13, some (11, false), .call .frz n_pen_May [(.slot 12)]⟩,
  ⟨some 14, some (11, false), .not (.slot 13)⟩,
  ⟨some 15, none, .pick (.slot 11) (.const (.bool true)) (.slot 14)⟩]
def c_line_Blank_R2 : List AOper := [⟨some 4, none, .mov (.const (.data false 7 [] true))⟩]
def c_line_Blank_R3 : List AOper := [⟨some 16, none, .load true 3 (.slot 3)⟩,
  ⟨some 17, none, .call .frz n_line_blank [(.slot 16)]⟩,
  ⟨some 18, none, .mkslice 7 1 [.int .i32 0, .int .i32 0, .int .i32 0, .int .i64 0, .int .i64 0, .int .i64 0, .int .i64 0] [(0, (.slot 17))]⟩,
  ⟨some 19, none, .mov (.slot 0)⟩,
  ⟨some 20, none, .call .frz n_slices_Repeat_Cell [(.slot 18), (.slot 19)]⟩,
  ⟨some 4, none, .mov (.slot 20)⟩]
def c_line_Blank : AFn := ⟨(.seq (.region c_line_Blank_R0 false [0, 3]) (.seq (.seq (.region c_line_Blank_R1 false [0, 3, 15]) (.cond (.slot 15) (.seq (.region c_line_Blank_R2 false [4]) .ret) .skip)) (.seq (.region c_line_Blank_R3 false [4]) .ret))), [.slot 4]⟩
/- oriel/grid.Scroll -/
def c_grid_Scroll_R0 : List AOper := [⟨some 9, none, .box 3 (.slot 4)⟩,
  ⟨some 10, none, .mov (.const (.data false 1 [] true))⟩]
def c_grid_Scroll_R1 : List AOper := [⟨some 14, none, .mov (.slot 0)⟩,
  ⟨some 15, none, .call .frz n_grid_May [(.slot 14)]⟩,
  ⟨some 16, none, .not (.slot 15)⟩,
  ⟨some 17, none, .mov (.slot 16)⟩,
  ⟨some 18, some (17, false), .load true 3 (.slot 9)⟩,
  ⟨some 19, some (17, false), .call .frz n_pen_May [(.slot 18)]⟩,
  ⟨some 20, some (17, false), .not (.slot 19)⟩,
  ⟨some 21, none, .pick (.slot 17) (.const (.bool true)) (.slot 20)⟩]
def c_grid_Scroll_R2 : List AOper := [⟨some 10, none, .mov (.const (.data false 1 [] true))⟩]
def c_grid_Scroll_R3 : List AOper := [⟨some 22, none, .mov (.slot 0)⟩,
  ⟨some 23, none, .call .adp n_grid_copied [(.slot 22)]⟩,
  ⟨some 11, none, .mov (.slot 23)⟩]
def c_grid_Scroll_R4 : List AOper := [⟨some 24, none, .mov (.slot 1)⟩,
  ⟨some 25, none, .bin .lss (.slot 24) (.const (.int .i64 0))⟩,
  ⟨some 26, none, .mov (.slot 25)⟩,
  ⟨some 27, some (26, false), .mov (.slot 1)⟩,
  ⟨some 28, some (26, false), .mov (.slot 2)⟩,
  ⟨some 29, some (26, false), .bin .gtr (.slot 27) (.slot 28)⟩,
  ⟨some 30, none, .pick (.slot 26) (.const (.bool true)) (.slot 29)⟩,
  ⟨some 31, none, .mov (.slot 30)⟩,
  ⟨some 32, some (31, false), .mov (.slot 2)⟩,
  ⟨some 33, some (31, false), .mov (.slot 0)⟩,
  ⟨some 34, some (31, false), .len false (.slot 33)⟩,
  ⟨some 35, some (31, false), .bin .geq (.slot 32) (.slot 34)⟩,
  ⟨some 36, none, .pick (.slot 31) (.const (.bool true)) (.slot 35)⟩]
def c_grid_Scroll_R5 : List AOper := [⟨some 37, none, .mov (.slot 11)⟩,
  ⟨some 10, none, .mov (.slot 37)⟩]
def c_grid_Scroll_R6 : List AOper := [⟨some 38, none, .mov (.slot 11)⟩,
  ⟨some 39, none, .mov (.slot 1)⟩,
  ⟨some 40, none, .mov (.slot 2)⟩,
  ⟨some 41, none, .bin .add (.slot 40) (.const (.int .i64 1))⟩,
  ⟨some 42, none, .sl 1 (.slot 38) (some (.slot 39)) (some (.slot 41)) none⟩,
  ⟨some 12, none, .mov (.slot 42)⟩]
def c_grid_Scroll_R7 : List AOper := [⟨some 43, none, .mov (.slot 12)⟩,
  ⟨some 44, none, .len false (.slot 43)⟩,
  ⟨some 45, none, .neg (.slot 44)⟩,
  ⟨some 46, none, .mov (.slot 3)⟩,
  ⟨some 47, none, .mov (.slot 12)⟩,
  ⟨some 48, none, .len false (.slot 47)⟩,
  ⟨some 49, none, .min (.slot 46) (.slot 48)⟩,
  ⟨some 50, none, .max (.slot 45) (.slot 49)⟩,
  ⟨some 3, none, .mov (.slot 50)⟩]
def c_grid_Scroll_R8 : List AOper := [⟨some 51, none, .mov (.slot 3)⟩,
  ⟨some 52, none, .bin .geq (.slot 51) (.const (.int .i64 0))⟩]
def c_grid_Scroll_R9 : List AOper := [⟨some 53, none, .mov (.slot 12)⟩,
  ⟨some 54, none, .mov (.slot 12)⟩,
  ⟨some 55, none, .mov (.slot 3)⟩,
  ⟨some 56, none, .sl 1 (.slot 54) (some (.slot 55)) none none⟩,
  ⟨some 57, none, .copy 1 (.slot 53) (.slot 56)⟩]
def c_grid_Scroll_R10 : List AOper := [⟨some 58, none, .mov (.slot 12)⟩,
  ⟨some 59, none, .mov (.slot 12)⟩,
  ⟨some 60, none, .len false (.slot 59)⟩,
  ⟨some 61, none, .mov (.slot 3)⟩,
  ⟨some 62, none, .bin .sub (.slot 60) (.slot 61)⟩,
  ⟨some 63, none, .sl 1 (.slot 58) (some (.slot 62)) none none⟩,
  ⟨some 12, none, .mov (.slot 63)⟩]
def c_grid_Scroll_R11 : List AOper := [⟨some 64, none, .mov (.slot 12)⟩,
  ⟨some 65, none, .mov (.slot 3)⟩,
  ⟨some 66, none, .neg (.slot 65)⟩,
  ⟨some 67, none, .sl 1 (.slot 64) (some (.slot 66)) none none⟩,
  ⟨some 68, none, .mov (.slot 12)⟩,
  ⟨some 69, none, .copy 1 (.slot 67) (.slot 68)⟩]
def c_grid_Scroll_R12 : List AOper := [⟨some 70, none, .mov (.slot 12)⟩,
  ⟨some 71, none, .mov (.slot 3)⟩,
  ⟨some 72, none, .neg (.slot 71)⟩,
  ⟨some 73, none, .sl 1 (.slot 70) none (some (.slot 72)) none⟩,
  ⟨some 12, none, .mov (.slot 73)⟩]
def c_grid_Scroll_R13 : List AOper := [⟨some 74, none, .mov (.slot 12)⟩,
  ⟨some 75, none, .len false (.slot 74)⟩,
  ⟨some 76, none, .mov (.const (.int .i64 0))⟩]
def c_grid_Scroll_R14 : List AOper := [⟨some 77, none, .bin .lss (.slot 76) (.slot 75)⟩]
def c_grid_Scroll_R15 : List AOper := [⟨some 78, none, .mov (.slot 76)⟩,
  ⟨some 13, none, .mov (.slot 78)⟩]
def c_grid_Scroll_R16 : List AOper := [⟨some 79, none, .mov (.slot 12)⟩,
  ⟨some 80, none, .mov (.slot 13)⟩,
  ⟨some 81, none, .mov (.slot 0)⟩,
  ⟨some 82, none, .idx 1 (.slot 81) (.const (.int .i64 0))⟩,
  ⟨some 83, none, .load false 1 (.slot 82)⟩,
  ⟨some 84, none, .len false (.slot 83)⟩,
  ⟨some 85, none, .load true 3 (.slot 9)⟩,
  ⟨some 86, none, .call .frz n_line_Blank [(.slot 84), (.slot 85)]⟩,
  ⟨some 87, none, .idx 1 (.slot 79) (.slot 80)⟩,
  ⟨none, none, .store false 1 (.slot 87) (.slot 86)⟩]
def c_grid_Scroll_R17 : List AOper := [⟨some 88, none, .bin .add (.slot 76) (.const (.int .i64 1))⟩,
  ⟨some 76, none, .mov (.slot 88)⟩]
def c_grid_Scroll_L0 : ACode := (.seq (.region c_grid_Scroll_R14 false [0, 9, 11, 12, 75, 76, 77]) (.seq (.cond (.slot 77) .skip (.exit 0)) (.seq (.block 1 (.seq (.region c_grid_Scroll_R15 false [0, 9, 11, 12, 13, 75, 76]) (.region c_grid_Scroll_R16 true [0, 9, 11, 12, 75, 76]))) (.region c_grid_Scroll_R17 false [0, 9, 11, 12, 75, 76]))))
def lp_grid_Scroll_0 : ACode := .loop [0, 9, 11, 12, 75, 76] c_grid_Scroll_L0
def c_grid_Scroll_R18 : List AOper := [⟨some 89, none, .mov (.slot 11)⟩,
  ⟨some 10, none, .mov (.slot 89)⟩]
def c_grid_Scroll : AFn := ⟨(.seq (.region c_grid_Scroll_R0 false [0, 1, 2, 3, 9]) (.seq (.seq (.region c_grid_Scroll_R1 false [0, 1, 2, 3, 9, 21]) (.cond (.slot 21) (.seq (.region c_grid_Scroll_R2 false [10]) .ret) .skip)) (.seq (.region c_grid_Scroll_R3 false [0, 1, 2, 3, 9, 11]) (.seq (.seq (.region c_grid_Scroll_R4 false [0, 1, 2, 3, 9, 11, 36]) (.cond (.slot 36) (.seq (.region c_grid_Scroll_R5 false [10]) .ret) .skip)) (.seq (.region c_grid_Scroll_R6 false [0, 3, 9, 11, 12]) (.seq (.region c_grid_Scroll_R7 false [0, 3, 9, 11, 12]) (.seq (.seq (.region c_grid_Scroll_R8 false [0, 3, 9, 11, 12, 52]) (.cond (.slot 52) (.seq (.region c_grid_Scroll_R9 false [0, 3, 9, 11, 12]) (.region c_grid_Scroll_R10 false [0, 9, 11, 12])) (.seq (.region c_grid_Scroll_R11 false [0, 3, 9, 11, 12]) (.region c_grid_Scroll_R12 false [0, 9, 11, 12])))) (.seq (.seq (.region c_grid_Scroll_R13 false [0, 9, 11, 12, 75, 76]) (.block 0 lp_grid_Scroll_0)) (.seq (.region c_grid_Scroll_R18 false [10]) .ret))))))))), [.slot 10]⟩
/- oriel/orielref14.Same -/
def c_ref14_Same_R0 : List AOper := [⟨some 4, none, .mov (.const (.bool false))⟩]
def c_ref14_Same_R1 : List AOper := [⟨some 6, none, .mov (.slot 0)⟩,
  ⟨some 7, none, .len false (.slot 6)⟩,
  ⟨some 8, none, .mov (.slot 1)⟩,
  ⟨some 9, none, .len false (.slot 8)⟩,
  ⟨some 10, none, .bin .neq (.slot 7) (.slot 9)⟩]
def c_ref14_Same_R2 : List AOper := [⟨some 4, none, .mov (.const (.bool false))⟩]
def c_ref14_Same_R3 : List AOper := [⟨some 5, none, .mov (.const (.int .i64 0))⟩]
def c_ref14_Same_R4 : List AOper := [⟨some 11, none, .mov (.slot 5)⟩,
  ⟨some 12, none, .mov (.slot 0)⟩,
  ⟨some 13, none, .len false (.slot 12)⟩,
  ⟨some 14, none, .bin .lss (.slot 11) (.slot 13)⟩]
def c_ref14_Same_R6 : List AOper := [⟨some 17, none, .mov (.slot 0)⟩,
  ⟨some 18, none, .mov (.slot 5)⟩,
  ⟨some 19, none, .idx 7 (.slot 17) (.slot 18)⟩,
  ⟨some 20, none, .load true 7 (.slot 19)⟩,
  ⟨some 21, none, .mov (.slot 1)⟩,
  ⟨some 22, none, .mov (.slot 5)⟩,
  ⟨some 23, none, .idx 7 (.slot 21) (.slot 22)⟩,
  ⟨some 24, none, .load true 7 (.slot 23)⟩,
  ⟨some 25, none, .eq true [.ki, .ki, .ki, .ki, .ki, .ki, .ki] true (.slot 20) (.slot 24)⟩]
def c_ref14_Same_R7 : List AOper := [⟨some 4, none, .mov (.const (.bool false))⟩]
def c_ref14_Same_R5 : List AOper := [⟨some 15, none, .mov (.slot 5)⟩,
  ⟨some 16, none, .bin .add (.slot 15) (.const (.int .i64 1))⟩,
  ⟨some 5, none, .mov (.slot 16)⟩]
def c_ref14_Same_L0 : ACode := (.seq (.seq (.region c_ref14_Same_R4 false [0, 1, 5, 14]) (.cond (.slot 14) .skip (.exit 0))) (.seq (.block 1 (.seq (.region c_ref14_Same_R6 true [0, 1, 5, 25]) (.cond (.slot 25) (.seq (.region c_ref14_Same_R7 false [4]) .ret) .skip))) (.region c_ref14_Same_R5 false [0, 1, 5])))
def lp_ref14_Same_0 : ACode := .loop [0, 1, 5] c_ref14_Same_L0
def c_ref14_Same_R8 : List AOper := [⟨some 4, none, .mov (.const (.bool true))⟩]
def c_ref14_Same : AFn := ⟨(.seq (.region c_ref14_Same_R0 false [0, 1]) (.seq (.seq (.region c_ref14_Same_R1 false [0, 1, 10]) (.cond (.slot 10) (.seq (.region c_ref14_Same_R2 false [4]) .ret) .skip)) (.seq (.seq (.region c_ref14_Same_R3 false [0, 1, 5]) (.block 0 lp_ref14_Same_0)) (.seq (.region c_ref14_Same_R8 false [4]) .ret)))), [.slot 4]⟩
/- oriel/orielref15.Same -/
def c_ref15_Same_R0 : List AOper := [⟨some 4, none, .mov (.const (.bool false))⟩]
def c_ref15_Same_R1 : List AOper := [⟨some 6, none, .mov (.slot 0)⟩,
  ⟨some 7, none, .len false (.slot 6)⟩,
  ⟨some 8, none, .mov (.slot 1)⟩,
  ⟨some 9, none, .len false (.slot 8)⟩,
  ⟨some 10, none, .bin .neq (.slot 7) (.slot 9)⟩]
def c_ref15_Same_R2 : List AOper := [⟨some 4, none, .mov (.const (.bool false))⟩]
def c_ref15_Same_R3 : List AOper := [⟨some 5, none, .mov (.const (.int .i64 0))⟩]
def c_ref15_Same_R4 : List AOper := [⟨some 11, none, .mov (.slot 5)⟩,
  ⟨some 12, none, .mov (.slot 0)⟩,
  ⟨some 13, none, .len false (.slot 12)⟩,
  ⟨some 14, none, .bin .lss (.slot 11) (.slot 13)⟩]
def c_ref15_Same_R6 : List AOper := [⟨some 17, none, .mov (.slot 0)⟩,
  ⟨some 18, none, .mov (.slot 5)⟩,
  ⟨some 19, none, .idx 1 (.slot 17) (.slot 18)⟩,
  ⟨some 20, none, .load false 1 (.slot 19)⟩,
  ⟨some 21, none, .mov (.slot 1)⟩,
  ⟨some 22, none, .mov (.slot 5)⟩,
  ⟨some 23, none, .idx 1 (.slot 21) (.slot 22)⟩,
  ⟨some 24, none, .load false 1 (.slot 23)⟩,
  ⟨some 25, none, .call .frz n_ref14_Same [(.slot 20), (.slot 24)]⟩,
  ⟨some 26, none, .not (.slot 25)⟩]
def c_ref15_Same_R7 : List AOper := [⟨some 4, none, .mov (.const (.bool false))⟩]
def c_ref15_Same_R5 : List AOper := [⟨some 15, none, .mov (.slot 5)⟩,
  ⟨some 16, none, .bin .add (.slot 15) (.const (.int .i64 1))⟩,
  ⟨some 5, none, .mov (.slot 16)⟩]
def c_ref15_Same_L0 : ACode := (.seq (.seq (.region c_ref15_Same_R4 false [0, 1, 5, 14]) (.cond (.slot 14) .skip (.exit 0))) (.seq (.block 1 (.seq (.region c_ref15_Same_R6 true [0, 1, 5, 26]) (.cond (.slot 26) (.seq (.region c_ref15_Same_R7 false [4]) .ret) .skip))) (.region c_ref15_Same_R5 false [0, 1, 5])))
def lp_ref15_Same_0 : ACode := .loop [0, 1, 5] c_ref15_Same_L0
def c_ref15_Same_R8 : List AOper := [⟨some 4, none, .mov (.const (.bool true))⟩]
def c_ref15_Same : AFn := ⟨(.seq (.region c_ref15_Same_R0 false [0, 1]) (.seq (.seq (.region c_ref15_Same_R1 false [0, 1, 10]) (.cond (.slot 10) (.seq (.region c_ref15_Same_R2 false [4]) .ret) .skip)) (.seq (.seq (.region c_ref15_Same_R3 false [0, 1, 5]) (.block 0 lp_ref15_Same_0)) (.seq (.region c_ref15_Same_R8 false [4]) .ret)))), [.slot 4]⟩
/- oriel/grid.Erase'1 -/
def c_grid_Erase_1_R0 : List AOper := [⟨some 2, none, .box 2 (.slot 0)⟩,
  ⟨some 3, none, .mov (.const (.bool false))⟩]
def c_grid_Erase_1_R1 : List AOper := [⟨some 4, none, .idxarr 1 2 (.slot 2) (.const (.int .i64 0))⟩,
  ⟨some 5, none, .load false 1 (.slot 4)⟩,
  ⟨some 6, none, .bin .geq (.slot 5) (.const (.int .i64 0))⟩,
  ⟨some 7, none, .mov (.slot 6)⟩,
  ⟨some 8, some (7, true), .idxarr 1 2 (.slot 2) (.const (.int .i64 0))⟩,
  ⟨some 9, some (7, true), .load false 1 (.slot 8)⟩,
  ⟨some 10, some (7, true), .load false 1 (.slot 1)⟩,
  ⟨some 11, some (7, true), .len false (.slot 10)⟩,
  ⟨some 12, some (7, true), .bin .lss (.slot 9) (.slot 11)⟩,
  ⟨some 13, none, .pick (.slot 7) (.slot 12) (.const (.bool false))⟩,
  ⟨some 14, none, .mov (.slot 13)⟩,
  ⟨some 15, some (14, true), .idxarr 1 2 (.slot 2) (.const (.int .i64 1))⟩,
  ⟨some 16, some (14, true), .load false 1 (.slot 15)⟩,
  ⟨some 17, some (14, true), .bin .geq (.slot 16) (.const (.int .i64 0))⟩,
  ⟨some 18, none, .pick (.slot 14) (.slot 17) (.const (.bool false))⟩,
  ⟨some 19, none, .mov (.slot 18)⟩,
  ⟨some 20, some (19, true), .idxarr 1 2 (.slot 2) (.const (.int .i64 1))⟩,
  ⟨some 21, some (19, true), .load false 1 (.slot 20)⟩,
  ⟨some 22, some (19, true), .load false 1 (.slot 1)⟩,
  ⟨some 23, some (19, true), .idx 1 (.slot 22) (.const (.int .i64 0))⟩,
  ⟨some 24, some (19, true), .load false 1 (.slot 23)⟩,
  ⟨some 25, some (19, true), .len false (.slot 24)⟩,
  ⟨some 26, some (19, true), .bin .lss (.slot 21) (.slot 25)⟩,
  ⟨some 27, none, .pick (.slot 19) (.slot 26) (.const (.bool false))⟩,
  ⟨some 3, none, .mov (.slot 27)⟩]
def c_grid_Erase_1 : AFn := ⟨(.seq (.region c_grid_Erase_1_R0 false [1, 2]) (.seq (.region c_grid_Erase_1_R1 true [3]) .ret)), [.slot 3]⟩
/- oriel/line.fine -/
def c_line_fine_R0 : List AOper := [⟨some 3, none, .box 3 (.slot 1)⟩,
  ⟨some 4, none, .mov (.const (.bool false))⟩]
def c_line_fine_R1 : List AOper := [⟨some 5, none, .mov (.slot 0)⟩,
  ⟨some 6, none, .call .frz n_line_May [(.slot 5)]⟩,
  ⟨some 7, none, .mov (.slot 6)⟩,
  ⟨some 8, some (7, true), .load true 3 (.slot 3)⟩,
  ⟨some 9, some (7, true), .call .frz n_pen_May [(.slot 8)]⟩,
  ⟨some 10, none, .pick (.slot 7) (.slot 9) (.const (.bool false))⟩,
  ⟨some 4, none, .mov (.slot 10)⟩]
def c_line_fine : AFn := ⟨(.seq (.region c_line_fine_R0 false [0, 3]) (.seq (.region c_line_fine_R1 false [4]) .ret)), [.slot 4]⟩
/- oriel/line.torn -/
def c_line_torn_R0 : List AOper := [⟨some 4, none, .mov (.slot 1)⟩,
  ⟨some 5, none, .bin .gtr (.slot 4) (.const (.int .i64 0))⟩,
  ⟨some 6, none, .mov (.slot 5)⟩,
  ⟨some 7, some (6, true), .mov (.slot 1)⟩,
  ⟨some 8, some (6, true), .mov (.slot 0)⟩,
  ⟨some 9, some (6, true), .len false (.slot 8)⟩,
  ⟨some 10, some (6, true), .bin .lss (.slot 7) (.slot 9)⟩,
  ⟨some 11, none, .pick (.slot 6) (.slot 10) (.const (.bool false))⟩,
  ⟨some 12, none, .mov (.slot 11)⟩,
  ⟨some 13, some (12, true), .mov (.slot 0)⟩,
  ⟨some 14, some (12, true), .mov (.slot 1)⟩,
  ⟨some 15, some (12, true), .idx 7 (.slot 13) (.slot 14)⟩,
  ⟨some 16, some (12, true), .faddr 3 (.slot 15)⟩,
  ⟨some 17, some (12, true), .load false 1 (.slot 16)⟩,
  ⟨some 18, some (12, true), .bin .eql (.slot 17) (.const (.int .i64 2))⟩,
  ⟨some 19, none, .pick (.slot 12) (.slot 18) (.const (.bool false))⟩]
def c_line_torn_R1 : List AOper := [⟨some 20, none, .mov (.slot 0)⟩,
  ⟨some 21, none, .mov (.slot 1)⟩,
  ⟨some 22, none, .bin .sub (.slot 21) (.const (.int .i64 1))⟩,
  ⟨some 23, none, .mov (.slot 0)⟩,
  ⟨some 24, none, .mov (.slot 1)⟩,
  ⟨some 25, none, .mov (.slot 0)⟩,
  ⟨some 26, none, .mov (.slot 1)⟩,
  ⟨some 27, none, .bin .sub (.slot 26) (.const (.int .i64 1))⟩,
  ⟨some 28, none, .idx 7 (.slot 25) (.slot 27)⟩,
  ⟨some 29, none, .faddr 4 (.slot 28)⟩,
  ⟨some 30, none, .load true 3 (.slot 29)⟩,
  ⟨some 31, none, .call .frz n_line_blank [(.slot 30)]⟩,
  ⟨some 32, none, .mov (.slot 0)⟩,
  ⟨some 33, none, .mov (.slot 1)⟩,
  ⟨some 34, none, .idx 7 (.slot 32) (.slot 33)⟩,
  ⟨some 35, none, .faddr 4 (.slot 34)⟩,
  ⟨some 36, none, .load true 3 (.slot 35)⟩,
  ⟨some 37, none, .call .frz n_line_blank [(.slot 36)]⟩,
  ⟨some 38, none, .idx 7 (.slot 20) (.slot 22)⟩,
  ⟨none, none, .store true 7 (.slot 38) (.slot 31)⟩,
  ⟨some 39, none, .idx 7 (.slot 23) (.slot 24)⟩,
  ⟨none, none, .store true 7 (.slot 39) (.slot 37)⟩]
def c_line_torn : AFn := ⟨(.seq (.region c_line_torn_R0 false [0, 1, 19]) (.cond (.slot 19) (.region c_line_torn_R1 true []) .skip)), []⟩
/- oriel/line.Erase -/
def c_line_Erase_R0 : List AOper := [⟨some 7, none, .box 3 (.slot 3)⟩,
  ⟨some 8, none, .mov (.const (.data false 7 [] true))⟩]
def c_line_Erase_R1 : List AOper := [⟨some 10, none, .mov (.slot 0)⟩,
  ⟨some 11, none, .load true 3 (.slot 7)⟩,
  ⟨some 12, none, .call .frz n_line_fine [(.slot 10), (.slot 11)]⟩,
  ⟨some 13, none, .not (.slot 12)⟩]
def c_line_Erase_R2 : List AOper := [⟨some 8, none, .mov (.const (.data false 7 [] true))⟩]
def c_line_Erase_R3 : List AOper := [⟨some 14, none, .mov (.slot 0)⟩,
  ⟨some 15, none, .call .adp n_slices_Clone_Cell [(.slot 14)]⟩,
  ⟨some 9, none, .mov (.slot 15)⟩]
def c_line_Erase_R4 : List AOper := [⟨some 16, none, .mov (.slot 1)⟩,
  ⟨some 17, none, .max (.const (.int .i64 0)) (.slot 16)⟩,
  ⟨some 18, none, .mov (.slot 2)⟩,
  ⟨some 19, none, .mov (.slot 0)⟩,
  ⟨some 20, none, .len false (.slot 19)⟩,
  ⟨some 21, none, .min (.slot 18) (.slot 20)⟩,
  ⟨some 1, none, .mov (.slot 17)⟩,
  ⟨some 2, none, .mov (.slot 21)⟩]
def c_line_Erase_R5 : List AOper := [⟨some 22, none, .mov (.slot 1)⟩,
  ⟨some 23, none, .mov (.slot 2)⟩,
  ⟨some 24, none, .bin .geq (.slot 22) (.slot 23)⟩]
def c_line_Erase_R6 : List AOper := [⟨some 25, none, .mov (.slot 9)⟩,
  ⟨some 8, none, .mov (.slot 25)⟩]
def c_line_Erase_R7 : List AOper := [⟨some 26, none, .mov (.slot 9)⟩,
  ⟨some 27, none, .mov (.slot 1)⟩,
  ⟨some 28, none, .call .inl n_line_torn [(.slot 26), (.slot 27)]⟩]
def c_line_Erase_R8 : List AOper := [⟨some 29, none, .mov (.slot 9)⟩,
  ⟨some 30, none, .mov (.slot 2)⟩,
  ⟨some 31, none, .call .inl n_line_torn [(.slot 29), (.slot 30)]⟩]
def c_line_Erase_R9 : List AOper := [⟨some 32, none, .mov (.slot 9)⟩,
  ⟨some 33, none, .mov (.slot 1)⟩,
  ⟨some 34, none, .mov (.slot 2)⟩,
  ⟨some 35, none, .sl 7 (.slot 32) (some (.slot 33)) (some (.slot 34)) none⟩,
  ⟨some 36, none, .mov (.slot 2)⟩,
  ⟨some 37, none, .mov (.slot 1)⟩,
  ⟨some 38, none, .bin .sub (.slot 36) (.slot 37)⟩,
  ⟨some 39, none, .load true 3 (.slot 7)⟩,
  ⟨some 40, none, .call .frz n_line_Blank [(.slot 38), (.slot 39)]⟩,
  ⟨some 41, none, .copy 7 (.slot 35) (.slot 40)⟩]
def c_line_Erase_R10 : List AOper := [⟨some 42, none, .mov (.slot 9)⟩,
  ⟨some 8, none, .mov (.slot 42)⟩]
def c_line_Erase : AFn := ⟨(.seq (.region c_line_Erase_R0 false [0, 1, 2, 7]) (.seq (.seq (.region c_line_Erase_R1 false [0, 1, 2, 7, 13]) (.cond (.slot 13) (.seq (.region c_line_Erase_R2 false [8]) .ret) .skip)) (.seq (.region c_line_Erase_R3 false [0, 1, 2, 7, 9]) (.seq (.region c_line_Erase_R4 false [1, 2, 7, 9]) (.seq (.seq (.region c_line_Erase_R5 false [1, 2, 7, 9, 24]) (.cond (.slot 24) (.seq (.region c_line_Erase_R6 false [8]) .ret) .skip)) (.seq (.region c_line_Erase_R7 false [1, 2, 7, 9]) (.seq (.region c_line_Erase_R8 false [1, 2, 7, 9]) (.seq (.region c_line_Erase_R9 true [9]) (.seq (.region c_line_Erase_R10 false [8]) .ret))))))))), [.slot 8]⟩
/- oriel/grid.Erase -/
def c_grid_Erase_R0 : List AOper := [⟨some 4, none, .box 1 (.slot 0)⟩,
  ⟨some 5, none, .box 2 (.slot 1)⟩,
  ⟨some 6, none, .box 2 (.slot 2)⟩,
  ⟨some 7, none, .box 3 (.slot 3)⟩,
  ⟨some 8, none, .mov (.const (.data false 1 [] true))⟩]
def c_grid_Erase_R1 : List AOper := [⟨some 14, none, .load false 1 (.slot 4)⟩,
  ⟨some 15, none, .call .frz n_grid_May [(.slot 14)]⟩,
  ⟨some 16, none, .not (.slot 15)⟩,
  ⟨some 17, none, .mov (.slot 16)⟩,
  ⟨some 18, some (17, false), .load true 3 (.slot 7)⟩,
  ⟨some 19, some (17, false), .call .frz n_pen_May [(.slot 18)]⟩,
  ⟨some 20, some (17, false), .not (.slot 19)⟩,
  ⟨some 21, none, .pick (.slot 17) (.const (.bool true)) (.slot 20)⟩]
def c_grid_Erase_R2 : List AOper := [⟨some 8, none, .mov (.const (.data false 1 [] true))⟩]
def c_grid_Erase_R3 : List AOper := [⟨some 22, none, .load false 1 (.slot 4)⟩,
  ⟨some 23, none, .call .adp n_grid_copied [(.slot 22)]⟩,
  ⟨some 9, none, .mov (.slot 23)⟩]
def c_grid_Erase_R4 : List AOper := [⟨some 24, none, .mkfn (.func n_grid_Erase_1) [] [(.slot 4)]⟩,
  ⟨some 10, none, .mov (.slot 24)⟩]
def c_grid_Erase_R5 : List AOper := [⟨some 25, none, .mov (.slot 10)⟩,
  ⟨some 26, none, .load true 2 (.slot 5)⟩,
  ⟨some 27, none, .callv (.slot 25) [(.slot 26)]⟩,
  ⟨some 28, none, .not (.slot 27)⟩,
  ⟨some 29, none, .mov (.slot 28)⟩,
  ⟨some 30, some (29, false), .mov (.slot 10)⟩,
  ⟨some 31, some (29, false), .load true 2 (.slot 6)⟩,
  ⟨some 32, some (29, false), .callv (.slot 30) [(.slot 31)]⟩,
  ⟨some 33, some (29, false), .not (.slot 32)⟩,
  ⟨some 34, none, .pick (.slot 29) (.const (.bool true)) (.slot 33)⟩]
def c_grid_Erase_R6 : List AOper := [⟨some 35, none, .mov (.slot 9)⟩,
  ⟨some 8, none, .mov (.slot 35)⟩]
def c_grid_Erase_R7 : List AOper := [⟨some 36, none, .idxarr 1 2 (.slot 5) (.const (.int .i64 0))⟩,
  ⟨some 37, none, .load false 1 (.slot 36)⟩,
  ⟨some 11, none, .mov (.slot 37)⟩]
def c_grid_Erase_R8 : List AOper := [⟨some 38, none, .mov (.slot 11)⟩,
  ⟨some 39, none, .idxarr 1 2 (.slot 6) (.const (.int .i64 0))⟩,
  ⟨some 40, none, .load false 1 (.slot 39)⟩,
  ⟨some 41, none, .bin .leq (.slot 38) (.slot 40)⟩]
def c_grid_Erase_R10 : List AOper := [⟨some 44, none, .load false 1 (.slot 4)⟩,
  ⟨some 45, none, .idx 1 (.slot 44) (.const (.int .i64 0))⟩,
  ⟨some 46, none, .load false 1 (.slot 45)⟩,
  ⟨some 47, none, .len false (.slot 46)⟩,
  ⟨some 12, none, .mov (.const (.int .i64 0))⟩,
  ⟨some 13, none, .mov (.slot 47)⟩]
def c_grid_Erase_R11 : List AOper := [⟨some 48, none, .mov (.slot 11)⟩,
  ⟨some 49, none, .idxarr 1 2 (.slot 5) (.const (.int .i64 0))⟩,
  ⟨some 50, none, .load false 1 (.slot 49)⟩,
  ⟨some 51, none, .bin .eql (.slot 48) (.slot 50)⟩]
def c_grid_Erase_R12 : List AOper := [⟨some 52, none, .idxarr 1 2 (.slot 5) (.const (.int .i64 1))⟩,
  ⟨some 53, none, .load false 1 (.slot 52)⟩,
  ⟨some 12, none, .mov (.slot 53)⟩]
def c_grid_Erase_R13 : List AOper := [⟨some 54, none, .mov (.slot 11)⟩,
  ⟨some 55, none, .idxarr 1 2 (.slot 6) (.const (.int .i64 0))⟩,
  ⟨some 56, none, .load false 1 (.slot 55)⟩,
  ⟨some 57, none, .bin .eql (.slot 54) (.slot 56)⟩]
def c_grid_Erase_R14 : List AOper := [⟨some 58, none, .idxarr 1 2 (.slot 6) (.const (.int .i64 1))⟩,
  ⟨some 59, none, .load false 1 (.slot 58)⟩,
  ⟨some 60, none, .bin .add (.slot 59) (.const (.int .i64 1))⟩,
  ⟨some 13, none, .mov (.slot 60)⟩]
def c_grid_Erase_R15 : List AOper := [⟨some 61, none, .mov (.slot 9)⟩,
  ⟨some 62, none, .mov (.slot 11)⟩,
  ⟨some 63, none, .mov (.slot 9)⟩,
  ⟨some 64, none, .mov (.slot 11)⟩,
  ⟨some 65, none, .idx 1 (.slot 63) (.slot 64)⟩,
  ⟨some 66, none, .load false 1 (.slot 65)⟩,
  ⟨some 67, none, .mov (.slot 12)⟩,
  ⟨some 68, none, .mov (.slot 13)⟩,
  ⟨some 69, none, .load true 3 (.slot 7)⟩,
  ⟨some 70, none, .call .frz n_line_Erase [(.slot 66), (.slot 67), (.slot 68), (.slot 69)]⟩,
  ⟨some 71, none, .idx 1 (.slot 61) (.slot 62)⟩,
  ⟨none, none, .store false 1 (.slot 71) (.slot 70)⟩]
def c_grid_Erase_R9 : List AOper := [⟨some 42, none, .mov (.slot 11)⟩,
  ⟨some 43, none, .bin .add (.slot 42) (.const (.int .i64 1))⟩,
  ⟨some 11, none, .mov (.slot 43)⟩]
def c_grid_Erase_L0 : ACode := (.seq (.seq (.region c_grid_Erase_R8 false [4, 5, 6, 7, 9, 11, 41]) (.cond (.slot 41) .skip (.exit 0))) (.seq (.block 1 (.seq (.region c_grid_Erase_R10 true [4, 5, 6, 7, 9, 11, 12, 13]) (.seq (.seq (.region c_grid_Erase_R11 false [4, 5, 6, 7, 9, 11, 12, 13, 51]) (.cond (.slot 51) (.region c_grid_Erase_R12 false [4, 5, 6, 7, 9, 11, 12, 13]) .skip)) (.seq (.seq (.region c_grid_Erase_R13 false [4, 5, 6, 7, 9, 11, 12, 13, 57]) (.cond (.slot 57) (.region c_grid_Erase_R14 false [4, 5, 6, 7, 9, 11, 12, 13]) .skip)) (.region c_grid_Erase_R15 true [4, 5, 6, 7, 9, 11]))))) (.region c_grid_Erase_R9 false [4, 5, 6, 7, 9, 11])))
def lp_grid_Erase_0 : ACode := .loop [4, 5, 6, 7, 9, 11] c_grid_Erase_L0
def c_grid_Erase_R16 : List AOper := [⟨some 72, none, .mov (.slot 9)⟩,
  ⟨some 8, none, .mov (.slot 72)⟩]
def c_grid_Erase : AFn := ⟨(.seq (.region c_grid_Erase_R0 false [4, 5, 6, 7]) (.seq (.seq (.region c_grid_Erase_R1 false [4, 5, 6, 7, 21]) (.cond (.slot 21) (.seq (.region c_grid_Erase_R2 false [8]) .ret) .skip)) (.seq (.region c_grid_Erase_R3 false [4, 5, 6, 7, 9]) (.seq (.region c_grid_Erase_R4 false [4, 5, 6, 7, 9, 10]) (.seq (.seq (.region c_grid_Erase_R5 false [4, 5, 6, 7, 9, 34]) (.cond (.slot 34) (.seq (.region c_grid_Erase_R6 false [8]) .ret) .skip)) (.seq (.seq (.region c_grid_Erase_R7 false [4, 5, 6, 7, 9, 11]) (.block 0 lp_grid_Erase_0)) (.seq (.region c_grid_Erase_R16 false [8]) .ret))))))), [.slot 8]⟩
/- oriel/oriellaw15.abc -/
def c_law15_abc_R0 : List AOper := [⟨some 0, none, .mov (.const (.data false 1 [] true))⟩]
def c_law15_abc_R1 : List AOper := [⟨some 1, none, .build [.int .i32 0, .int .i32 0, .int .i32 0, .int .i64 0, .int .i64 0, .int .i64 0, .int .i64 0] [(0, 1, (.const (.int .i32 97)))]⟩,
  ⟨some 2, none, .mkdata 7 1 [.int .i32 0, .int .i32 0, .int .i32 0, .int .i64 0, .int .i64 0, .int .i64 0, .int .i64 0] [(0, (.slot 1))]⟩,
  ⟨some 3, none, .build [.int .i32 0, .int .i32 0, .int .i32 0, .int .i64 0, .int .i64 0, .int .i64 0, .int .i64 0] [(0, 1, (.const (.int .i32 98)))]⟩,
  ⟨some 4, none, .mkdata 7 1 [.int .i32 0, .int .i32 0, .int .i32 0, .int .i64 0, .int .i64 0, .int .i64 0, .int .i64 0] [(0, (.slot 3))]⟩,
  ⟨some 5, none, .build [.int .i32 0, .int .i32 0, .int .i32 0, .int .i64 0, .int .i64 0, .int .i64 0, .int .i64 0] [(0, 1, (.const (.int .i32 99)))]⟩,
  ⟨some 6, none, .mkdata 7 1 [.int .i32 0, .int .i32 0, .int .i32 0, .int .i64 0, .int .i64 0, .int .i64 0, .int .i64 0] [(0, (.slot 5))]⟩,
  ⟨some 7, none, .mkslice 1 3 [.data false 7 [] true] [(0, (.slot 2)), (1, (.slot 4)), (2, (.slot 6))]⟩,
  ⟨some 0, none, .mov (.slot 7)⟩]
def c_law15_abc : AFn := ⟨(.seq (.region c_law15_abc_R0 false []) (.seq (.region c_law15_abc_R1 false [0]) .ret)), [.slot 0]⟩
/- oriel/oriellaw15.known -/
def c_law15_known_R0 : List AOper := [⟨some 0, none, .mov (.const (.bool false))⟩]
def c_law15_known_R1 : List AOper := [⟨some 3, none, .build [.int .i32 0, .int .i32 0, .int .i32 0, .int .i64 0, .int .i64 0, .int .i64 0, .int .i64 0] [(0, 1, (.const (.int .i32 32)))]⟩,
  ⟨some 4, none, .mkdata 7 1 [.int .i32 0, .int .i32 0, .int .i32 0, .int .i64 0, .int .i64 0, .int .i64 0, .int .i64 0] [(0, (.slot 3))]⟩,
  ⟨some 1, none, .mov (.slot 4)⟩]
def c_law15_known_R2 : List AOper := [⟨some 5, none, .call .frz n_law15_abc []⟩,
  ⟨some 2, none, .mov (.slot 5)⟩]
def c_law15_known_R3 : List AOper := ⟨some 6, none, .mov (.slot 2)⟩ ::
  ⟨some 7, none, .call .frz n_grid_May [(.slot 6)]⟩ ::
  ⟨some 8, none, .mov (.slot 7)⟩ ::
  ⟨some 9, some (8, true), .mov (.slot 2)⟩ ::
  ⟨some 10, some (8, true), .build [.int .i64 0, .int .i64 0, .int .i64 0] []⟩ ::
  ⟨some 11, some (8, true), .call .frz n_grid_Scroll [(.slot 9), (.const (.int .i64 0)), (.const (.int .i64 2)), (.const (.int .i64 1)), (.slot 10)]⟩ ::
  ⟨some 12, some (8, true), .mov (.slot 2)⟩ ::
  ⟨some 13, some (8, true), .idx 1 (.slot 12) (.const (.int .i64 1))⟩ ::
  ⟨some 14, some (8, true), .load false 1 (.slot 13)⟩ ::
  ⟨some 15, some (8, true), .mov (.slot 2)⟩ ::
  ⟨some 16, some (8, true), .idx 1 (.slot 15) (.const (.int .i64 2))⟩ ::
  ⟨some 17, some (8, true), .load false 1 (.slot 16)⟩ ::
  ⟨some 18, some (8, true), .mov (.slot 1)⟩ ::
  ⟨some 19, some (8, true), .mkslice 1 3 [.data false 7 [] true] [(0, (.slot 14)), (1, (.slot 17)), (2, (.slot 18))]⟩ ::
  ⟨some 20, some (8, true), .call .frz n_ref15_Same [(.slot 11), (.slot 19)]⟩ ::
  ⟨some 21, none, .pick (.slot 8) (.slot 20) (.const (.bool false))⟩ ::
  ⟨some 22, none, .mov (.slot 21)⟩ ::
  ⟨some 23, some (22, true), .mov (.slot 2)⟩ ::
  ⟨some 24, some (22, true), .build [.int .i64 0, .int .i64 0, .int .i64 0] []⟩ ::
  ⟨some 25, some (22, true), .call .frz n_grid_Scroll [(.slot 23), (.const (.int .i64 0)), (.const (.int .i64 2)), (.const (.int .i64 (-2))), (.slot 24)]⟩ ::
  ⟨some 26, some (22, true), .mov (.slot 1)⟩ ::
  ⟨some 27, some (22, true), .mov (.slot 1)⟩ ::
  ⟨some 28, some (22, true), .mov (.slot 2)⟩ ::
  ⟨some 29, some (22, true), .idx 1 (.slot 28) (.const (.int .i64 0))⟩ ::
  ⟨some 30, some (22, true), .load false 1 (.slot 29)⟩ ::
  ⟨some 31, some (22, true), .mkslice 1 3 [.data false 7 [] true] [(0, (.slot 26)), (1, (.slot 27)), (2, (.slot 30))]⟩ ::
  ⟨some 32, some (22, true), .call .frz n_ref15_Same [(.slot 25), (.slot 31)]⟩ ::
  ⟨some 33, none, .pick (.slot 22) (.slot 32) (.const (.bool false))⟩ ::
  ⟨some 34, none, .mov (.slot 33)⟩ ::
  ⟨some 35, some (34, true), .mov (.slot 2)⟩ ::
  ⟨some 36, some (34, true), .build [.int .i64 0, .int .i64 0] [(0, 1, (.const (.int .i64 0))), (1, 1, (.const (.int .i64 0)))]⟩ ::
  ⟨some 37, some (34, true), .build [.int .i64 0, .int .i64 0] [(0, 1, (.const (.int .i64 1))), (1, 1, (.const (.int .i64 0)))]⟩ ::
  ⟨some 38, some (34, true), .build [.int .i64 0, .int .i64 0, .int .i64 0] []⟩ ::
  ⟨some 39, some (34, true), .call .frz n_grid_Erase [(.slot 35), (.slot 36), (.slot 37), (.slot 38)]⟩ ::
  ⟨some 40, some (34, true), .mov (.slot 1)⟩ ::
  ⟨some 41, some (34, true), .mov (.slot 1)⟩ ::
  ⟨some 42, some (34, true), .mov (.slot 2)⟩ ::
  ⟨some 43, some (34, true), .idx 1 (.slot 42) (.const (.int .i64 2))⟩ ::
  ⟨some 44, some (34, true), .load false 1 (.slot 43)⟩ ::
  ⟨some 45, some (34, true), .mkslice 1 3 [.data false 7 [] true] [(0, (.slot 40)), (1, (.slot 41)), (2, (.slot 44))]⟩ ::
  ⟨some 46, some (34, true), .call .frz n_ref15_Same [(.slot 39), (.slot 45)]⟩ ::
  ⟨some 47, none, .pick (.slot 34) (.slot 46) (.const (.bool false))⟩ ::
  ⟨some 0, none, .mov (.slot 47)⟩ :: []
def c_law15_known : AFn := ⟨(.seq (.region c_law15_known_R0 false []) (.seq (.region c_law15_known_R1 false [1]) (.seq (.region c_law15_known_R2 false [1, 2]) (.seq (.region c_law15_known_R3 true [0]) .ret)))), [.slot 0]⟩
/- oriel/oriellaw15.great -/
def c_law15_great_R0 : List AOper := [⟨some 2, none, .mov (.const (.bool false))⟩]
def c_law15_great_R1 : List AOper := [⟨some 5, none, .mov (.slot 0)⟩,
  ⟨some 6, none, .len false (.slot 5)⟩,
  ⟨some 7, none, .bin .gtr (.slot 6) (.const (.int .i64 210))⟩]
def c_law15_great_R2 : List AOper := [⟨some 2, none, .mov (.const (.bool true))⟩]
def c_law15_great_R3 : List AOper := [⟨some 3, none, .mov (.const (.int .i64 0))⟩]
def c_law15_great_R4 : List AOper := [⟨some 4, none, .mov (.const (.int .i64 0))⟩]
def c_law15_great_R5 : List AOper := [⟨some 8, none, .mov (.slot 4)⟩,
  ⟨some 9, none, .mov (.slot 0)⟩,
  ⟨some 10, none, .len false (.slot 9)⟩,
  ⟨some 11, none, .bin .lss (.slot 8) (.slot 10)⟩]
def c_law15_great_R7 : List AOper := [⟨some 14, none, .mov (.slot 0)⟩,
  ⟨some 15, none, .mov (.slot 4)⟩,
  ⟨some 16, none, .idx 1 (.slot 14) (.slot 15)⟩,
  ⟨some 17, none, .load false 1 (.slot 16)⟩,
  ⟨some 18, none, .len false (.slot 17)⟩,
  ⟨some 19, none, .mov (.slot 3)⟩,
  ⟨some 20, none, .bin .sub (.const (.int .i64 2000)) (.slot 19)⟩,
  ⟨some 21, none, .bin .gtr (.slot 18) (.slot 20)⟩]
def c_law15_great_R8 : List AOper := [⟨some 2, none, .mov (.const (.bool true))⟩]
def c_law15_great_R9 : List AOper := [⟨some 22, none, .mov (.slot 3)⟩,
  ⟨some 23, none, .mov (.slot 0)⟩,
  ⟨some 24, none, .mov (.slot 4)⟩,
  ⟨some 25, none, .idx 1 (.slot 23) (.slot 24)⟩,
  ⟨some 26, none, .load false 1 (.slot 25)⟩,
  ⟨some 27, none, .len false (.slot 26)⟩,
  ⟨some 28, none, .bin .add (.slot 22) (.slot 27)⟩,
  ⟨some 3, none, .mov (.slot 28)⟩]
def c_law15_great_R6 : List AOper := [⟨some 12, none, .mov (.slot 4)⟩,
  ⟨some 13, none, .bin .add (.slot 12) (.const (.int .i64 1))⟩,
  ⟨some 4, none, .mov (.slot 13)⟩]
def c_law15_great_L0 : ACode := (.seq (.seq (.region c_law15_great_R5 false [0, 3, 4, 11]) (.cond (.slot 11) .skip (.exit 0))) (.seq (.block 1 (.seq (.seq (.region c_law15_great_R7 false [0, 3, 4, 21]) (.cond (.slot 21) (.seq (.region c_law15_great_R8 false [2]) .ret) .skip)) (.region c_law15_great_R9 false [0, 3, 4]))) (.region c_law15_great_R6 false [0, 3, 4])))
def lp_law15_great_0 : ACode := .loop [0, 3, 4] c_law15_great_L0
def c_law15_great_R10 : List AOper := [⟨some 2, none, .mov (.const (.bool false))⟩]
def c_law15_great : AFn := ⟨(.seq (.region c_law15_great_R0 false [0]) (.seq (.seq (.region c_law15_great_R1 false [0, 7]) (.cond (.slot 7) (.seq (.region c_law15_great_R2 false [2]) .ret) .skip)) (.seq (.region c_law15_great_R3 false [0, 3]) (.seq (.seq (.region c_law15_great_R4 false [0, 3, 4]) (.block 0 lp_law15_great_0)) (.seq (.region c_law15_great_R10 false [2]) .ret))))), [.slot 2]⟩
/- oriel/orielref15.Copy -/
def c_ref15_Copy_R0 : List AOper := [⟨some 2, none, .mov (.const (.data false 1 [] true))⟩]
def c_ref15_Copy_R1 : List AOper := [⟨some 3, none, .mknil 1⟩]
def c_ref15_Copy_R2 : List AOper := [⟨some 4, none, .mov (.const (.int .i64 0))⟩]
def c_ref15_Copy_R3 : List AOper := [⟨some 5, none, .mov (.slot 4)⟩,
  ⟨some 6, none, .mov (.slot 0)⟩,
  ⟨some 7, none, .len false (.slot 6)⟩,
  ⟨some 8, none, .bin .lss (.slot 5) (.slot 7)⟩]
def c_ref15_Copy_R5 : List AOper := [⟨some 11, none, .mov (.slot 3)⟩,
  ⟨some 12, none, .mkdata 7 0 [.int .i32 0, .int .i32 0, .int .i32 0, .int .i64 0, .int .i64 0, .int .i64 0, .int .i64 0] []⟩,
  ⟨some 13, none, .mov (.slot 0)⟩,
  ⟨some 14, none, .mov (.slot 4)⟩,
  ⟨some 15, none, .idx 1 (.slot 13) (.slot 14)⟩,
  ⟨some 16, none, .load false 1 (.slot 15)⟩,
  ⟨some 17, none, .appendD 7 48 (.slot 12) (.slot 16)⟩,
  ⟨some 18, none, .mkslice 1 1 [.data false 7 [] true] [(0, (.slot 17))]⟩,
  ⟨some 19, none, .append 1 24 (.slot 11) (.slot 18)⟩,
  ⟨some 3, none, .mov (.slot 19)⟩]
def c_ref15_Copy_R4 : List AOper := [⟨some 9, none, .mov (.slot 4)⟩,
  ⟨some 10, none, .bin .add (.slot 9) (.const (.int .i64 1))⟩,
  ⟨some 4, none, .mov (.slot 10)⟩]
def c_ref15_Copy_L0 : ACode := (.seq (.seq (.region c_ref15_Copy_R3 false [0, 3, 4, 8]) (.cond (.slot 8) .skip (.exit 0))) (.seq (.block 1 (.region c_ref15_Copy_R5 false [0, 3, 4])) (.region c_ref15_Copy_R4 false [0, 3, 4])))
def lp_ref15_Copy_0 : ACode := .loop [0, 3, 4] c_ref15_Copy_L0
def c_ref15_Copy_R6 : List AOper := [⟨some 20, none, .mov (.slot 3)⟩,
  ⟨some 2, none, .mov (.slot 20)⟩]
def c_ref15_Copy : AFn := ⟨(.seq (.region c_ref15_Copy_R0 false [0]) (.seq (.region c_ref15_Copy_R1 false [0, 3]) (.seq (.seq (.region c_ref15_Copy_R2 false [0, 3, 4]) (.block 0 lp_ref15_Copy_0)) (.seq (.region c_ref15_Copy_R6 false [2]) .ret)))), [.slot 2]⟩
/- oriel/orielref15.Side -/
def c_ref15_Side_R0 : List AOper := [⟨some 2, none, .mov (.const (.bool false))⟩]
def c_ref15_Side_R1 : List AOper := [⟨some 3, none, .mov (.slot 0)⟩,
  ⟨some 4, none, .bin .geq (.slot 3) (.const (.int .i64 1))⟩,
  ⟨some 5, none, .mov (.slot 4)⟩,
  ⟨some 6, some (5, true), .mov (.slot 0)⟩,
  ⟨some 7, some (5, true), .bin .leq (.slot 6) (.const (.int .i64 200))⟩,
  ⟨some 8, none, .pick (.slot 5) (.slot 7) (.const (.bool false))⟩,
  ⟨some 2, none, .mov (.slot 8)⟩]
def c_ref15_Side : AFn := ⟨(.seq (.region c_ref15_Side_R0 false [0]) (.seq (.region c_ref15_Side_R1 false [2]) .ret)), [.slot 2]⟩
/- oriel/orielref13.in -/
def c_ref13_in_R0 : List AOper := [⟨some 6, none, .mov (.const (.bool false))⟩]
def c_ref13_in_R1 : List AOper := [⟨some 7, none, .mov (.slot 0)⟩,
  ⟨some 8, none, .mov (.slot 1)⟩,
  ⟨some 9, none, .bin .geq (.slot 7) (.slot 8)⟩,
  ⟨some 10, none, .mov (.slot 9)⟩,
  ⟨some 11, some (10, true), .mov (.slot 0)⟩,
  ⟨some 12, some (10, true), .mov (.slot 2)⟩,
  ⟨some 13, some (10, true), .bin .leq (.slot 11) (.slot 12)⟩,
  ⟨some 14, none, .pick (.slot 10) (.slot 13) (.const (.bool false))⟩,
  ⟨some 6, none, .mov (.slot 14)⟩]
def c_ref13_in : AFn := ⟨(.seq (.region c_ref13_in_R0 false [0, 1, 2]) (.seq (.region c_ref13_in_R1 false [6]) .ret)), [.slot 6]⟩
/- oriel/orielref13.Of -/
def c_ref13_Of_R0 : List AOper := [⟨some 2, none, .mov (.const (.int .i64 0))⟩]
def c_ref13_Of_R1 : List AOper := [⟨some 4, none, .mov (.slot 0)⟩,
  ⟨some 5, none, .bin .lss (.slot 4) (.const (.int .i32 32))⟩,
  ⟨some 6, none, .mov (.slot 5)⟩,
  ⟨some 7, some (6, false), .mov (.slot 0)⟩,
  ⟨some 8, some (6, false), .call .frz n_ref13_in [(.slot 7), (.const (.int .i32 127)), (.const (.int .i32 159))]⟩,
  ⟨some 9, none, .pick (.slot 6) (.const (.bool true)) (.slot 8)⟩,
  ⟨some 10, none, .mov (.slot 9)⟩,
  ⟨some 11, some (10, false), .mov (.slot 0)⟩,
  ⟨some 12, some (10, false), .call .frz n_ref13_in [(.slot 11), (.const (.int .i32 55296)), (.const (.int .i32 57343))]⟩,
  ⟨some 13, none, .pick (.slot 10) (.const (.bool true)) (.slot 12)⟩,
  ⟨some 14, none, .mov (.slot 13)⟩,
  ⟨some 15, some (14, false), .mov (.slot 0)⟩,
  ⟨some 16, some (14, false), .bin .gtr (.slot 15) (.const (.int .i32 1114111))⟩,
  ⟨some 17, none, .pick (.slot 14) (.const (.bool true)) (.slot 16)⟩,
  ⟨some 3, none, .mov (.slot 17)⟩]
def c_ref13_Of_R2 : List AOper := [⟨some 2, none, .mov (.const (.int .i64 (-1)))⟩]
def c_ref13_Of_R3 : List AOper := [⟨some 19, none, .mov (.slot 0)⟩,
  ⟨some 20, none, .call .frz n_ref13_in [(.slot 19), (.const (.int .i32 768)), (.const (.int .i32 879))]⟩,
  ⟨some 21, none, .mov (.slot 20)⟩,
  ⟨some 22, some (21, false), .mov (.slot 0)⟩,
  ⟨some 23, some (21, false), .call .frz n_ref13_in [(.slot 22), (.const (.int .i32 1155)), (.const (.int .i32 1161))]⟩,
  ⟨some 24, none, .pick (.slot 21) (.const (.bool true)) (.slot 23)⟩,
  ⟨some 25, none, .mov (.slot 24)⟩,
  ⟨some 26, some (25, false), .mov (.slot 0)⟩,
  ⟨some 27, some (25, false), .call .frz n_ref13_in [(.slot 26), (.const (.int .i32 1425)), (.const (.int .i32 1469))]⟩,
  ⟨some 28, none, .pick (.slot 25) (.const (.bool true)) (.slot 27)⟩,
  ⟨some 29, none, .mov (.slot 28)⟩,
  ⟨some 30, some (29, false), .mov (.slot 0)⟩,
  ⟨some 31, some (29, false), .call .frz n_ref13_in [(.slot 30), (.const (.int .i32 1552)), (.const (.int .i32 1562))]⟩,
  ⟨some 32, none, .pick (.slot 29) (.const (.bool true)) (.slot 31)⟩,
  ⟨some 33, none, .mov (.slot 32)⟩,
  ⟨some 34, some (33, false), .mov (.slot 0)⟩,
  ⟨some 35, some (33, false), .call .frz n_ref13_in [(.slot 34), (.const (.int .i32 1611)), (.const (.int .i32 1631))]⟩,
  ⟨some 36, none, .pick (.slot 33) (.const (.bool true)) (.slot 35)⟩,
  ⟨some 37, none, .mov (.slot 36)⟩,
  ⟨some 38, some (37, false), .mov (.slot 0)⟩,
  ⟨some 39, some (37, false), .call .frz n_ref13_in [(.slot 38), (.const (.int .i32 6832)), (.const (.int .i32 6911))]⟩,
  ⟨some 40, none, .pick (.slot 37) (.const (.bool true)) (.slot 39)⟩,
  ⟨some 18, none, .mov (.slot 40)⟩]
def c_ref13_Of_R4 : List AOper := [⟨some 2, none, .mov (.const (.int .i64 0))⟩]
def c_ref13_Of_R5 : List AOper := [⟨some 42, none, .mov (.slot 0)⟩,
  ⟨some 43, none, .call .frz n_ref13_in [(.slot 42), (.const (.int .i32 7616)), (.const (.int .i32 7679))]⟩,
  ⟨some 44, none, .mov (.slot 43)⟩,
  ⟨some 45, some (44, false), .mov (.slot 0)⟩,
  ⟨some 46, some (44, false), .call .frz n_ref13_in [(.slot 45), (.const (.int .i32 8203)), (.const (.int .i32 8207))]⟩,
  ⟨some 47, none, .pick (.slot 44) (.const (.bool true)) (.slot 46)⟩,
  ⟨some 48, none, .mov (.slot 47)⟩,
  ⟨some 49, some (48, false), .mov (.slot 0)⟩,
  ⟨some 50, some (48, false), .call .frz n_ref13_in [(.slot 49), (.const (.int .i32 8400)), (.const (.int .i32 8447))]⟩,
  ⟨some 51, none, .pick (.slot 48) (.const (.bool true)) (.slot 50)⟩,
  ⟨some 52, none, .mov (.slot 51)⟩,
  ⟨some 53, some (52, false), .mov (.slot 0)⟩,
  ⟨some 54, some (52, false), .call .frz n_ref13_in [(.slot 53), (.const (.int .i32 65024)), (.const (.int .i32 65039))]⟩,
  ⟨some 55, none, .pick (.slot 52) (.const (.bool true)) (.slot 54)⟩,
  ⟨some 56, none, .mov (.slot 55)⟩,
  ⟨some 57, some (56, false), .mov (.slot 0)⟩,
  ⟨some 58, some (56, false), .call .frz n_ref13_in [(.slot 57), (.const (.int .i32 65056)), (.const (.int .i32 65071))]⟩,
  ⟨some 59, none, .pick (.slot 56) (.const (.bool true)) (.slot 58)⟩,
  ⟨some 41, none, .mov (.slot 59)⟩]
def c_ref13_Of_R6 : List AOper := [⟨some 2, none, .mov (.const (.int .i64 0))⟩]
def c_ref13_Of_R7 : List AOper := [⟨some 61, none, .mov (.slot 0)⟩,
  ⟨some 62, none, .call .frz n_ref13_in [(.slot 61), (.const (.int .i32 4352)), (.const (.int .i32 4447))]⟩,
  ⟨some 63, none, .mov (.slot 62)⟩,
  ⟨some 64, some (63, false), .mov (.slot 0)⟩,
  ⟨some 65, some (63, false), .call .frz n_ref13_in [(.slot 64), (.const (.int .i32 11904)), (.const (.int .i32 12350))]⟩,
  ⟨some 66, none, .pick (.slot 63) (.const (.bool true)) (.slot 65)⟩,
  ⟨some 67, none, .mov (.slot 66)⟩,
  ⟨some 68, some (67, false), .mov (.slot 0)⟩,
  ⟨some 69, some (67, false), .call .frz n_ref13_in [(.slot 68), (.const (.int .i32 12353)), (.const (.int .i32 42191))]⟩,
  ⟨some 70, none, .pick (.slot 67) (.const (.bool true)) (.slot 69)⟩,
  ⟨some 71, none, .mov (.slot 70)⟩,
  ⟨some 72, some (71, false), .mov (.slot 0)⟩,
  ⟨some 73, some (71, false), .call .frz n_ref13_in [(.slot 72), (.const (.int .i32 44032)), (.const (.int .i32 55203))]⟩,
  ⟨some 74, none, .pick (.slot 71) (.const (.bool true)) (.slot 73)⟩,
  ⟨some 75, none, .mov (.slot 74)⟩,
  ⟨some 76, some (75, false), .mov (.slot 0)⟩,
  ⟨some 77, some (75, false), .call .frz n_ref13_in [(.slot 76), (.const (.int .i32 63744)), (.const (.int .i32 64255))]⟩,
  ⟨some 78, none, .pick (.slot 75) (.const (.bool true)) (.slot 77)⟩,
  ⟨some 60, none, .mov (.slot 78)⟩]
def c_ref13_Of_R8 : List AOper := [⟨some 2, none, .mov (.const (.int .i64 2))⟩]
def c_ref13_Of_R9 : List AOper := [⟨some 80, none, .mov (.slot 0)⟩,
  ⟨some 81, none, .call .frz n_ref13_in [(.slot 80), (.const (.int .i32 65072)), (.const (.int .i32 65135))]⟩,
  ⟨some 82, none, .mov (.slot 81)⟩,
  ⟨some 83, some (82, false), .mov (.slot 0)⟩,
  ⟨some 84, some (82, false), .call .frz n_ref13_in [(.slot 83), (.const (.int .i32 65280)), (.const (.int .i32 65376))]⟩,
  ⟨some 85, none, .pick (.slot 82) (.const (.bool true)) (.slot 84)⟩,
  ⟨some 86, none, .mov (.slot 85)⟩,
  ⟨some 87, some (86, false), .mov (.slot 0)⟩,
  ⟨some 88, some (86, false), .call .frz n_ref13_in [(.slot 87), (.const (.int .i32 65504)), (.const (.int .i32 65510))]⟩,
  ⟨some 89, none, .pick (.slot 86) (.const (.bool true)) (.slot 88)⟩,
  ⟨some 90, none, .mov (.slot 89)⟩,
  ⟨some 91, some (90, false), .mov (.slot 0)⟩,
  ⟨some 92, some (90, false), .call .frz n_ref13_in [(.slot 91), (.const (.int .i32 127744)), (.const (.int .i32 128591))]⟩,
  ⟨some 93, none, .pick (.slot 90) (.const (.bool true)) (.slot 92)⟩,
  ⟨some 94, none, .mov (.slot 93)⟩,
  ⟨some 95, some (94, false), .mov (.slot 0)⟩,
  ⟨some 96, some (94, false), .call .frz n_ref13_in [(.slot 95), (.const (.int .i32 129280)), (.const (.int .i32 129535))]⟩,
  ⟨some 97, none, .pick (.slot 94) (.const (.bool true)) (.slot 96)⟩,
  ⟨some 98, none, .mov (.slot 97)⟩,
  ⟨some 99, some (98, false), .mov (.slot 0)⟩,
  ⟨some 100, some (98, false), .call .frz n_ref13_in [(.slot 99), (.const (.int .i32 131072)), (.const (.int .i32 262141))]⟩,
  ⟨some 101, none, .pick (.slot 98) (.const (.bool true)) (.slot 100)⟩,
  ⟨some 79, none, .mov (.slot 101)⟩]
def c_ref13_Of_R10 : List AOper := [⟨some 2, none, .mov (.const (.int .i64 2))⟩]
def c_ref13_Of_R11 : List AOper := [⟨some 2, none, .mov (.const (.int .i64 1))⟩]
def c_ref13_Of : AFn := ⟨(.seq (.region c_ref13_Of_R0 false [0]) (.seq (.block 0 (.seq (.region c_ref13_Of_R1 false [0, 3]) (.cond (.slot 3) (.seq (.region c_ref13_Of_R2 false [2]) .ret) (.seq (.region c_ref13_Of_R3 false [0, 18]) (.cond (.slot 18) (.seq (.region c_ref13_Of_R4 false [2]) .ret) (.seq (.region c_ref13_Of_R5 false [0, 41]) (.cond (.slot 41) (.seq (.region c_ref13_Of_R6 false [2]) .ret) (.seq (.region c_ref13_Of_R7 false [0, 60]) (.cond (.slot 60) (.seq (.region c_ref13_Of_R8 false [2]) .ret) (.seq (.region c_ref13_Of_R9 false [79]) (.cond (.slot 79) (.seq (.region c_ref13_Of_R10 false [2]) .ret) .skip))))))))))) (.seq (.region c_ref13_Of_R11 false [2]) .ret))), [.slot 2]⟩
/- oriel/orielref12.May -/
def c_ref12_May_R0 : List AOper := [⟨some 1, none, .box 3 (.slot 0)⟩,
  ⟨some 2, none, .mov (.const (.bool false))⟩]
def c_ref12_May_R1 : List AOper := ⟨some 3, none, .faddr 0 (.slot 1)⟩ ::
  ⟨some 4, none, .load false 1 (.slot 3)⟩ ::
  ⟨some 5, none, .bin .geq (.slot 4) (.const (.int .i64 0))⟩ ::
  ⟨some 6, none, .mov (.slot 5)⟩ ::
  ⟨some 7, some (6, true), .faddr 0 (.slot 1)⟩ ::
  ⟨some 8, some (6, true), .load false 1 (.slot 7)⟩ ::
  ⟨some 9, some (6, true), .bin .leq (.slot 8) (.const (.int .i64 255))⟩ ::
  ⟨some 10, none, .pick (.slot 6) (.slot 9) (.const (.bool false))⟩ ::
  ⟨some 11, none, .mov (.slot 10)⟩ ::
  ⟨some 12, some (11, true), .faddr 1 (.slot 1)⟩ ::
  ⟨some 13, some (11, true), .load false 1 (.slot 12)⟩ ::
  ⟨some 14, some (11, true), .bin .geq (.slot 13) (.const (.int .i64 0))⟩ ::
  ⟨some 15, none, .pick (.slot 11) (.slot 14) (.const (.bool false))⟩ ::
  ⟨some 16, none, .mov (.slot 15)⟩ ::
  ⟨some 17, some (16, true), .faddr 1 (.slot 1)⟩ ::
  ⟨some 18, some (16, true), .load false 1 (.slot 17)⟩ ::
  ⟨some 19, some (16, true), .bin .leq (.slot 18) (.const (.int .i64 256))⟩ ::
  ⟨some 20, none, .pick (.slot 16) (.slot 19) (.const (.bool false))⟩ ::
  ⟨some 21, none, .mov (.slot 20)⟩ ::
  ⟨some 22, some (21, true), .faddr 2 (.slot 1)⟩ ::
  ⟨some 23, some (21, true), .load false 1 (.slot 22)⟩ ::
  ⟨some 24, some (21, true), .bin .geq (.slot 23) (.const (.int .i64 0))⟩ ::
  ⟨some 25, none, .pick (.slot 21) (.slot 24) (.const (.bool false))⟩ ::
  ⟨some 26, none, .mov (.slot 25)⟩ ::
  ⟨some 27, some (26, true), .faddr 2 (.slot 1)⟩ ::
  ⟨some 28, some (26, true), .load false 1 (.slot 27)⟩ ::
  ⟨some 29, some (26, true), .bin .leq (.slot 28) (.const (.int .i64 256))⟩ ::
  ⟨some 30, none, .pick (.slot 26) (.slot 29) (.const (.bool false))⟩ ::
  ⟨some 2, none, .mov (.slot 30)⟩ :: []
def c_ref12_May : AFn := ⟨(.seq (.region c_ref12_May_R0 false [1]) (.seq (.region c_ref12_May_R1 false [2]) .ret)), [.slot 2]⟩
/- oriel/orielref14.Cell -/
def c_ref14_Cell_R0 : List AOper := [⟨some 1, none, .box 7 (.slot 0)⟩,
  ⟨some 2, none, .mov (.const (.bool false))⟩]
def c_ref14_Cell_R1 : List AOper := [⟨some 4, none, .faddr 4 (.slot 1)⟩,
  ⟨some 5, none, .load true 3 (.slot 4)⟩,
  ⟨some 6, none, .call .frz n_ref12_May [(.slot 5)]⟩,
  ⟨some 7, none, .not (.slot 6)⟩]
def c_ref14_Cell_R2 : List AOper := [⟨some 2, none, .mov (.const (.bool false))⟩]
def c_ref14_Cell_R3 : List AOper := [⟨some 8, none, .faddr 3 (.slot 1)⟩,
  ⟨some 9, none, .load false 1 (.slot 8)⟩,
  ⟨some 10, none, .bin .eql (.slot 9) (.const (.int .i64 2))⟩]
def c_ref14_Cell_R4 : List AOper := [⟨some 11, none, .faddr 0 (.slot 1)⟩,
  ⟨some 12, none, .load false 1 (.slot 11)⟩,
  ⟨some 13, none, .bin .eql (.slot 12) (.const (.int .i32 0))⟩,
  ⟨some 14, none, .mov (.slot 13)⟩,
  ⟨some 15, some (14, true), .faddr 1 (.slot 1)⟩,
  ⟨some 16, some (14, true), .idxarr 1 2 (.slot 15) (.const (.int .i64 0))⟩,
  ⟨some 17, some (14, true), .load false 1 (.slot 16)⟩,
  ⟨some 18, some (14, true), .bin .eql (.slot 17) (.const (.int .i32 0))⟩,
  ⟨some 19, none, .pick (.slot 14) (.slot 18) (.const (.bool false))⟩,
  ⟨some 20, none, .mov (.slot 19)⟩,
  ⟨some 21, some (20, true), .faddr 1 (.slot 1)⟩,
  ⟨some 22, some (20, true), .idxarr 1 2 (.slot 21) (.const (.int .i64 1))⟩,
  ⟨some 23, some (20, true), .load false 1 (.slot 22)⟩,
  ⟨some 24, some (20, true), .bin .eql (.slot 23) (.const (.int .i32 0))⟩,
  ⟨some 25, none, .pick (.slot 20) (.slot 24) (.const (.bool false))⟩,
  ⟨some 2, none, .mov (.slot 25)⟩]
def c_ref14_Cell_R5 : List AOper := [⟨some 26, none, .faddr 3 (.slot 1)⟩,
  ⟨some 27, none, .load false 1 (.slot 26)⟩,
  ⟨some 28, none, .bin .neq (.slot 27) (.const (.int .i64 0))⟩,
  ⟨some 29, none, .mov (.slot 28)⟩,
  ⟨some 30, some (29, true), .faddr 3 (.slot 1)⟩,
  ⟨some 31, some (29, true), .load false 1 (.slot 30)⟩,
  ⟨some 32, some (29, true), .bin .neq (.slot 31) (.const (.int .i64 1))⟩,
  ⟨some 33, none, .pick (.slot 29) (.slot 32) (.const (.bool false))⟩,
  ⟨some 34, none, .mov (.slot 33)⟩,
  ⟨some 35, some (34, false), .faddr 0 (.slot 1)⟩,
  ⟨some 36, some (34, false), .load false 1 (.slot 35)⟩,
  ⟨some 37, some (34, false), .call .frz n_ref13_Of [(.slot 36)]⟩,
  ⟨some 38, some (34, false), .faddr 3 (.slot 1)⟩,
  ⟨some 39, some (34, false), .load false 1 (.slot 38)⟩,
  ⟨some 40, some (34, false), .bin .add (.const (.int .i64 1)) (.slot 39)⟩,
  ⟨some 41, some (34, false), .bin .neq (.slot 37) (.slot 40)⟩,
  ⟨some 42, none, .pick (.slot 34) (.const (.bool true)) (.slot 41)⟩]
def c_ref14_Cell_R6 : List AOper := [⟨some 2, none, .mov (.const (.bool false))⟩]
def c_ref14_Cell_R7 : List AOper := [⟨some 3, none, .mov (.const (.int .i64 0))⟩]
def c_ref14_Cell_R8 : List AOper := [⟨some 43, none, .mov (.slot 3)⟩,
  ⟨some 44, none, .bin .lss (.slot 43) (.const (.int .i64 2))⟩]
def c_ref14_Cell_R10 : List AOper := [⟨some 47, none, .mov (.slot 3)⟩,
  ⟨some 48, none, .faddr 1 (.slot 1)⟩,
  ⟨some 49, none, .idxarr 1 2 (.slot 48) (.slot 47)⟩,
  ⟨some 50, none, .load false 1 (.slot 49)⟩,
  ⟨some 51, none, .bin .neq (.slot 50) (.const (.int .i32 0))⟩,
  ⟨some 52, none, .mov (.slot 51)⟩,
  ⟨some 53, some (52, true), .mov (.slot 3)⟩,
  ⟨some 54, some (52, true), .faddr 1 (.slot 1)⟩,
  ⟨some 55, some (52, true), .idxarr 1 2 (.slot 54) (.slot 53)⟩,
  ⟨some 56, some (52, true), .load false 1 (.slot 55)⟩,
  ⟨some 57, some (52, true), .call .frz n_ref13_Of [(.slot 56)]⟩,
  ⟨some 58, some (52, true), .bin .neq (.slot 57) (.const (.int .i64 0))⟩,
  ⟨some 59, some (52, true), .mov (.slot 58)⟩,
  ⟨some 60, some (59, false), .mov (.slot 3)⟩,
  ⟨some 61, some (59, false), .bin .eql (.slot 60) (.const (.int .i64 1))⟩,
  ⟨some 62, some (59, false), .mov (.slot 61)⟩,
  ⟨some 63, some (62, true), .faddr 1 (.slot 1)⟩,
  ⟨some 64, some (62, true), .idxarr 1 2 (.slot 63) (.const (.int .i64 0))⟩,
  ⟨some 65, some (62, true), .load false 1 (.slot 64)⟩,
  ⟨some 66, some (62, true), .bin .eql (.slot 65) (.const (.int .i32 0))⟩,
  ⟨some 67, some (59, false), .pick (.slot 62) (.slot 66) (.const (.bool false))⟩,
  ⟨some 68, some (52, true), .pick (.slot 59) (.const (.bool true)) (.slot 67)⟩,
  ⟨some 69, none, .pick (.slot 52) (.slot 68) (.const (.bool false))⟩]
def c_ref14_Cell_R11 : List AOper := [⟨some 2, none, .mov (.const (.bool false))⟩]
def c_ref14_Cell_R9 : List AOper := [⟨some 45, none, .mov (.slot 3)⟩,
  ⟨some 46, none, .bin .add (.slot 45) (.const (.int .i64 1))⟩,
  ⟨some 3, none, .mov (.slot 46)⟩]
def c_ref14_Cell_L0 : ACode := (.seq (.seq (.region c_ref14_Cell_R8 false [1, 3, 44]) (.cond (.slot 44) .skip (.exit 0))) (.seq (.block 1 (.seq (.region c_ref14_Cell_R10 false [1, 3, 69]) (.cond (.slot 69) (.seq (.region c_ref14_Cell_R11 false [2]) .ret) .skip))) (.region c_ref14_Cell_R9 false [1, 3])))
def lp_ref14_Cell_0 : ACode := .loop [1, 3] c_ref14_Cell_L0
def c_ref14_Cell_R12 : List AOper := [⟨some 2, none, .mov (.const (.bool true))⟩]
def c_ref14_Cell : AFn := ⟨(.seq (.region c_ref14_Cell_R0 false [1]) (.seq (.seq (.region c_ref14_Cell_R1 false [1, 7]) (.cond (.slot 7) (.seq (.region c_ref14_Cell_R2 false [2]) .ret) .skip)) (.seq (.seq (.region c_ref14_Cell_R3 false [1, 10]) (.cond (.slot 10) (.seq (.region c_ref14_Cell_R4 false [2]) .ret) .skip)) (.seq (.seq (.region c_ref14_Cell_R5 true [1, 42]) (.cond (.slot 42) (.seq (.region c_ref14_Cell_R6 false [2]) .ret) .skip)) (.seq (.seq (.region c_ref14_Cell_R7 false [1, 3]) (.block 0 lp_ref14_Cell_0)) (.seq (.region c_ref14_Cell_R12 false [2]) .ret)))))), [.slot 2]⟩
/- oriel/orielref14.May -/
def c_ref14_May_R0 : List AOper := [⟨some 2, none, .mov (.const (.bool false))⟩]
def c_ref14_May_R1 : List AOper := [⟨some 4, none, .mov (.slot 0)⟩,
  ⟨some 5, none, .len false (.slot 4)⟩,
  ⟨some 6, none, .bin .gtr (.slot 5) (.const (.int .i64 1000))⟩]
def c_ref14_May_R2 : List AOper := [⟨some 2, none, .mov (.const (.bool false))⟩]
def c_ref14_May_R3 : List AOper := [⟨some 3, none, .mov (.const (.int .i64 0))⟩]
def c_ref14_May_R4 : List AOper := [⟨some 7, none, .mov (.slot 3)⟩,
  ⟨some 8, none, .mov (.slot 0)⟩,
  ⟨some 9, none, .len false (.slot 8)⟩,
  ⟨some 10, none, .bin .lss (.slot 7) (.slot 9)⟩]
def c_ref14_May_R6 : List AOper := [⟨some 13, none, .mov (.slot 0)⟩,
  ⟨some 14, none, .mov (.slot 3)⟩,
  ⟨some 15, none, .idx 7 (.slot 13) (.slot 14)⟩,
  ⟨some 16, none, .load true 7 (.slot 15)⟩,
  ⟨some 17, none, .call .frz n_ref14_Cell [(.slot 16)]⟩,
  ⟨some 18, none, .not (.slot 17)⟩]
def c_ref14_May_R7 : List AOper := [⟨some 2, none, .mov (.const (.bool false))⟩]
def c_ref14_May_R8 : List AOper := ⟨some 19, none, .mov (.slot 0)⟩ ::
  ⟨some 20, none, .mov (.slot 3)⟩ ::
  ⟨some 21, none, .idx 7 (.slot 19) (.slot 20)⟩ ::
  ⟨some 22, none, .faddr 3 (.slot 21)⟩ ::
  ⟨some 23, none, .load false 1 (.slot 22)⟩ ::
  ⟨some 24, none, .bin .eql (.slot 23) (.const (.int .i64 1))⟩ ::
  ⟨some 25, none, .mov (.slot 24)⟩ ::
  ⟨some 26, some (25, true), .mov (.slot 3)⟩ ::
  ⟨some 27, some (25, true), .bin .add (.slot 26) (.const (.int .i64 1))⟩ ::
  ⟨some 28, some (25, true), .mov (.slot 0)⟩ ::
  ⟨some 29, some (25, true), .len false (.slot 28)⟩ ::
  ⟨some 30, some (25, true), .bin .eql (.slot 27) (.slot 29)⟩ ::
  ⟨some 31, some (25, true), .mov (.slot 30)⟩ ::
  ⟨some 32, some (31, false), .mov (.slot 0)⟩ ::
  ⟨some 33, some (31, false), .mov (.slot 3)⟩ ::
  ⟨some 34, some (31, false), .bin .add (.slot 33) (.const (.int .i64 1))⟩ ::
  ⟨some 35, some (31, false), .idx 7 (.slot 32) (.slot 34)⟩ ::
  ⟨some 36, some (31, false), .faddr 3 (.slot 35)⟩ ::
  ⟨some 37, some (31, false), .load false 1 (.slot 36)⟩ ::
  ⟨some 38, some (31, false), .bin .neq (.slot 37) (.const (.int .i64 2))⟩ ::
  ⟨some 39, some (25, true), .pick (.slot 31) (.const (.bool true)) (.slot 38)⟩ ::
  ⟨some 40, some (25, true), .mov (.slot 39)⟩ ::
  ⟨some 41, some (40, false), .mov (.slot 0)⟩ ::
  ⟨some 42, some (40, false), .mov (.slot 3)⟩ ::
  ⟨some 43, some (40, false), .bin .add (.slot 42) (.const (.int .i64 1))⟩ ::
  ⟨some 44, some (40, false), .idx 7 (.slot 41) (.slot 43)⟩ ::
  ⟨some 45, some (40, false), .faddr 4 (.slot 44)⟩ ::
  ⟨some 46, some (40, false), .load true 3 (.slot 45)⟩ ::
  ⟨some 47, some (40, false), .mov (.slot 0)⟩ ::
  ⟨some 48, some (40, false), .mov (.slot 3)⟩ ::
  ⟨some 49, some (40, false), .idx 7 (.slot 47) (.slot 48)⟩ ::
  ⟨some 50, some (40, false), .faddr 4 (.slot 49)⟩ ::
  ⟨some 51, some (40, false), .load true 3 (.slot 50)⟩ ::
  ⟨some 52, some (40, false), .eq true [.ki, .ki, .ki] true (.slot 46) (.slot 51)⟩ ::
  ⟨some 53, some (25, true), .pick (.slot 40) (.const (.bool true)) (.slot 52)⟩ ::
  ⟨some 54, none, .pick (.slot 25) (.slot 53) (.const (.bool false))⟩ :: []
def c_ref14_May_R9 : List AOper := [⟨some 2, none, .mov (.const (.bool false))⟩]
def c_ref14_May_R10 : List AOper := [⟨some 55, none, .mov (.slot 0)⟩,
  ⟨some 56, none, .mov (.slot 3)⟩,
  ⟨some 57, none, .idx 7 (.slot 55) (.slot 56)⟩,
  ⟨some 58, none, .faddr 3 (.slot 57)⟩,
  ⟨some 59, none, .load false 1 (.slot 58)⟩,
  ⟨some 60, none, .bin .eql (.slot 59) (.const (.int .i64 2))⟩,
  ⟨some 61, none, .mov (.slot 60)⟩,
  ⟨some 62, some (61, true), .mov (.slot 3)⟩,
  ⟨some 63, some (61, true), .bin .eql (.slot 62) (.const (.int .i64 0))⟩,
  ⟨some 64, some (61, true), .mov (.slot 63)⟩,
  ⟨some 65, some (64, false), .mov (.slot 0)⟩,
  ⟨some 66, some (64, false), .mov (.slot 3)⟩,
  ⟨some 67, some (64, false), .bin .sub (.slot 66) (.const (.int .i64 1))⟩,
  ⟨some 68, some (64, false), .idx 7 (.slot 65) (.slot 67)⟩,
  ⟨some 69, some (64, false), .faddr 3 (.slot 68)⟩,
  ⟨some 70, some (64, false), .load false 1 (.slot 69)⟩,
  ⟨some 71, some (64, false), .bin .neq (.slot 70) (.const (.int .i64 1))⟩,
  ⟨some 72, some (61, true), .pick (.slot 64) (.const (.bool true)) (.slot 71)⟩,
  ⟨some 73, none, .pick (.slot 61) (.slot 72) (.const (.bool false))⟩]
def c_ref14_May_R11 : List AOper := [⟨some 2, none, .mov (.const (.bool false))⟩]
def c_ref14_May_R5 : List AOper := [⟨some 11, none, .mov (.slot 3)⟩,
  ⟨some 12, none, .bin .add (.slot 11) (.const (.int .i64 1))⟩,
  ⟨some 3, none, .mov (.slot 12)⟩]
def c_ref14_May_L0 : ACode := (.seq (.seq (.region c_ref14_May_R4 false [0, 3, 10]) (.cond (.slot 10) .skip (.exit 0))) (.seq (.block 1 (.seq (.seq (.region c_ref14_May_R6 false [0, 3, 18]) (.cond (.slot 18) (.seq (.region c_ref14_May_R7 false [2]) .ret) .skip)) (.seq (.seq (.region c_ref14_May_R8 true [0, 3, 54]) (.cond (.slot 54) (.seq (.region c_ref14_May_R9 false [2]) .ret) .skip)) (.seq (.region c_ref14_May_R10 false [0, 3, 73]) (.cond (.slot 73) (.seq (.region c_ref14_May_R11 false [2]) .ret) .skip))))) (.region c_ref14_May_R5 false [0, 3])))
def lp_ref14_May_0 : ACode := .loop [0, 3] c_ref14_May_L0
def c_ref14_May_R12 : List AOper := [⟨some 2, none, .mov (.const (.bool true))⟩]
def c_ref14_May : AFn := ⟨(.seq (.region c_ref14_May_R0 false [0]) (.seq (.seq (.region c_ref14_May_R1 false [0, 6]) (.cond (.slot 6) (.seq (.region c_ref14_May_R2 false [2]) .ret) .skip)) (.seq (.seq (.region c_ref14_May_R3 false [0, 3]) (.block 0 lp_ref14_May_0)) (.seq (.region c_ref14_May_R12 false [2]) .ret)))), [.slot 2]⟩
/- oriel/orielref15.May -/
def c_ref15_May_R0 : List AOper := [⟨some 2, none, .mov (.const (.bool false))⟩]
def c_ref15_May_R1 : List AOper := [⟨some 4, none, .mov (.slot 0)⟩,
  ⟨some 5, none, .len false (.slot 4)⟩,
  ⟨some 6, none, .call .frz n_ref15_Side [(.slot 5)]⟩,
  ⟨some 7, none, .not (.slot 6)⟩,
  ⟨some 8, none, .mov (.slot 7)⟩,
  ⟨some 9, some (8, false), .mov (.slot 0)⟩,
  ⟨some 10, some (8, false), .idx 1 (.slot 9) (.const (.int .i64 0))⟩,
  ⟨some 11, some (8, false), .load false 1 (.slot 10)⟩,
  ⟨some 12, some (8, false), .len false (.slot 11)⟩,
  ⟨some 13, some (8, false), .call .frz n_ref15_Side [(.slot 12)]⟩,
  ⟨some 14, some (8, false), .not (.slot 13)⟩,
  ⟨some 15, none, .pick (.slot 8) (.const (.bool true)) (.slot 14)⟩]
def c_ref15_May_R2 : List AOper := [⟨some 2, none, .mov (.const (.bool false))⟩]
def c_ref15_May_R3 : List AOper := [⟨some 3, none, .mov (.const (.int .i64 0))⟩]
def c_ref15_May_R4 : List AOper := [⟨some 16, none, .mov (.slot 3)⟩,
  ⟨some 17, none, .mov (.slot 0)⟩,
  ⟨some 18, none, .len false (.slot 17)⟩,
  ⟨some 19, none, .bin .lss (.slot 16) (.slot 18)⟩]
def c_ref15_May_R6 : List AOper := [⟨some 22, none, .mov (.slot 0)⟩,
  ⟨some 23, none, .mov (.slot 3)⟩,
  ⟨some 24, none, .idx 1 (.slot 22) (.slot 23)⟩,
  ⟨some 25, none, .load false 1 (.slot 24)⟩,
  ⟨some 26, none, .len false (.slot 25)⟩,
  ⟨some 27, none, .mov (.slot 0)⟩,
  ⟨some 28, none, .idx 1 (.slot 27) (.const (.int .i64 0))⟩,
  ⟨some 29, none, .load false 1 (.slot 28)⟩,
  ⟨some 30, none, .len false (.slot 29)⟩,
  ⟨some 31, none, .bin .neq (.slot 26) (.slot 30)⟩,
  ⟨some 32, none, .mov (.slot 31)⟩,
  ⟨some 33, some (32, false), .mov (.slot 0)⟩,
  ⟨some 34, some (32, false), .mov (.slot 3)⟩,
  ⟨some 35, some (32, false), .idx 1 (.slot 33) (.slot 34)⟩,
  ⟨some 36, some (32, false), .load false 1 (.slot 35)⟩,
  ⟨some 37, some (32, false), .call .frz n_ref14_May [(.slot 36)]⟩,
  ⟨some 38, some (32, false), .not (.slot 37)⟩,
  ⟨some 39, none, .pick (.slot 32) (.const (.bool true)) (.slot 38)⟩]
def c_ref15_May_R7 : List AOper := [⟨some 2, none, .mov (.const (.bool false))⟩]
def c_ref15_May_R5 : List AOper := [⟨some 20, none, .mov (.slot 3)⟩,
  ⟨some 21, none, .bin .add (.slot 20) (.const (.int .i64 1))⟩,
  ⟨some 3, none, .mov (.slot 21)⟩]
def c_ref15_May_L0 : ACode := (.seq (.seq (.region c_ref15_May_R4 false [0, 3, 19]) (.cond (.slot 19) .skip (.exit 0))) (.seq (.block 1 (.seq (.region c_ref15_May_R6 true [0, 3, 39]) (.cond (.slot 39) (.seq (.region c_ref15_May_R7 false [2]) .ret) .skip))) (.region c_ref15_May_R5 false [0, 3])))
def lp_ref15_May_0 : ACode := .loop [0, 3] c_ref15_May_L0
def c_ref15_May_R8 : List AOper := [⟨some 2, none, .mov (.const (.bool true))⟩]
def c_ref15_May : AFn := ⟨(.seq (.region c_ref15_May_R0 false [0]) (.seq (.seq (.region c_ref15_May_R1 false [0, 15]) (.cond (.slot 15) (.seq (.region c_ref15_May_R2 false [2]) .ret) .skip)) (.seq (.seq (.region c_ref15_May_R3 false [0, 3]) (.block 0 lp_ref15_May_0)) (.seq (.region c_ref15_May_R8 false [2]) .ret)))), [.slot 2]⟩
/- oriel/orielref14.Pen -/
def c_ref14_Pen_R0 : List AOper := [⟨some 1, none, .box 3 (.slot 0)⟩,
  ⟨some 2, none, .mov (.const (.bool false))⟩]
def c_ref14_Pen_R1 : List AOper := [⟨some 3, none, .load true 3 (.slot 1)⟩,
  ⟨some 4, none, .call .frz n_ref12_May [(.slot 3)]⟩,
  ⟨some 2, none, .mov (.slot 4)⟩]
def c_ref14_Pen : AFn := ⟨(.seq (.region c_ref14_Pen_R0 false [1]) (.seq (.region c_ref14_Pen_R1 false [2]) .ret)), [.slot 2]⟩
/- oriel/oriellaw15.fine -/
def c_law15_fine_R0 : List AOper := [⟨some 5, none, .box 3 (.slot 1)⟩,
  ⟨some 8, none, .mov (.const (.bool false))⟩]
def c_law15_fine_R1 : List AOper := [⟨some 9, none, .mov (.slot 0)⟩,
  ⟨some 10, none, .call .frz n_ref15_May [(.slot 9)]⟩,
  ⟨some 11, none, .not (.slot 10)⟩,
  ⟨some 12, none, .mov (.slot 11)⟩,
  ⟨some 13, some (12, false), .load true 3 (.slot 5)⟩,
  ⟨some 14, some (12, false), .call .frz n_ref14_Pen [(.slot 13)]⟩,
  ⟨some 15, some (12, false), .not (.slot 14)⟩,
  ⟨some 16, none, .pick (.slot 12) (.const (.bool true)) (.slot 15)⟩]
def c_law15_fine_R2 : List AOper := [⟨some 17, none, .mov (.slot 2)⟩,
  ⟨some 18, none, .len false (.slot 17)⟩,
  ⟨some 19, none, .bin .eql (.slot 18) (.const (.int .i64 0))⟩,
  ⟨some 8, none, .mov (.slot 19)⟩]
def c_law15_fine_R3 : List AOper := [⟨some 20, none, .mov (.slot 2)⟩,
  ⟨some 21, none, .mov (.slot 3)⟩,
  ⟨some 22, none, .call .frz n_ref15_Same [(.slot 20), (.slot 21)]⟩,
  ⟨some 8, none, .mov (.slot 22)⟩]
def c_law15_fine : AFn := ⟨(.seq (.region c_law15_fine_R0 false [0, 2, 3, 5]) (.seq (.seq (.region c_law15_fine_R1 false [2, 3, 16]) (.cond (.slot 16) (.seq (.region c_law15_fine_R2 false [8]) .ret) .skip)) (.seq (.region c_law15_fine_R3 false [8]) .ret))), [.slot 8]⟩
/- oriel/orielref15.place -/
def c_ref15_place_R0 : List AOper := [⟨some 3, none, .box 2 (.slot 1)⟩,
  ⟨some 4, none, .mov (.const (.bool false))⟩]
def c_ref15_place_R1 : List AOper := [⟨some 5, none, .idxarr 1 2 (.slot 3) (.const (.int .i64 0))⟩,
  ⟨some 6, none, .load false 1 (.slot 5)⟩,
  ⟨some 7, none, .bin .geq (.slot 6) (.const (.int .i64 0))⟩,
  ⟨some 8, none, .mov (.slot 7)⟩,
  ⟨some 9, some (8, true), .idxarr 1 2 (.slot 3) (.const (.int .i64 0))⟩,
  ⟨some 10, some (8, true), .load false 1 (.slot 9)⟩,
  ⟨some 11, some (8, true), .mov (.slot 0)⟩,
  ⟨some 12, some (8, true), .len false (.slot 11)⟩,
  ⟨some 13, some (8, true), .bin .lss (.slot 10) (.slot 12)⟩,
  ⟨some 14, none, .pick (.slot 8) (.slot 13) (.const (.bool false))⟩,
  ⟨some 15, none, .mov (.slot 14)⟩,
  ⟨some 16, some (15, true), .idxarr 1 2 (.slot 3) (.const (.int .i64 1))⟩,
  ⟨some 17, some (15, true), .load false 1 (.slot 16)⟩,
  ⟨some 18, some (15, true), .bin .geq (.slot 17) (.const (.int .i64 0))⟩,
  ⟨some 19, none, .pick (.slot 15) (.slot 18) (.const (.bool false))⟩,
  ⟨some 20, none, .mov (.slot 19)⟩,
  ⟨some 21, some (20, true), .idxarr 1 2 (.slot 3) (.const (.int .i64 1))⟩,
  ⟨some 22, some (20, true), .load false 1 (.slot 21)⟩,
  ⟨some 23, some (20, true), .mov (.slot 0)⟩,
  ⟨some 24, some (20, true), .idx 1 (.slot 23) (.const (.int .i64 0))⟩,
  ⟨some 25, some (20, true), .load false 1 (.slot 24)⟩,
  ⟨some 26, some (20, true), .len false (.slot 25)⟩,
  ⟨some 27, some (20, true), .bin .lss (.slot 22) (.slot 26)⟩,
  ⟨some 28, none, .pick (.slot 20) (.slot 27) (.const (.bool false))⟩,
  ⟨some 4, none, .mov (.slot 28)⟩]
def c_ref15_place : AFn := ⟨(.seq (.region c_ref15_place_R0 false [0, 3]) (.seq (.region c_ref15_place_R1 true [4]) .ret)), [.slot 4]⟩
/- oriel/orielref14.Blank -/
def c_ref14_Blank_R0 : List AOper := [⟨some 1, none, .box 3 (.slot 0)⟩,
  ⟨some 2, none, .alloc [.int .i32 0, .int .i32 0, .int .i32 0, .int .i64 0, .int .i64 0, .int .i64 0, .int .i64 0]⟩]
def c_ref14_Blank_R1 : List AOper := [⟨some 3, none, .faddr 2 (.slot 1)⟩,
  ⟨some 4, none, .load false 1 (.slot 3)⟩,
  ⟨some 5, none, .build [.int .i64 0, .int .i64 0, .int .i64 0] [(2, 1, (.slot 4))]⟩,
  ⟨some 6, none, .build [.int .i32 0, .int .i32 0, .int .i32 0, .int .i64 0, .int .i64 0, .int .i64 0, .int .i64 0] [(0, 1, (.const (.int .i32 32))), (4, 3, (.slot 5))]⟩,
  ⟨none, none, .store true 7 (.slot 2) (.slot 6)⟩]
def c_ref14_Blank : AFn := ⟨(.seq (.region c_ref14_Blank_R0 false [1, 2]) (.seq (.region c_ref14_Blank_R1 false [2]) .ret)), [.cell 2 true 7]⟩
/- oriel/orielref14.Tear -/
def c_ref14_Tear_R0 : List AOper := [⟨some 4, none, .mov (.const (.data false 7 [] true))⟩]
def c_ref14_Tear_R1 : List AOper := [⟨some 5, none, .mknil 7⟩]
def c_ref14_Tear_R2 : List AOper := [⟨some 6, none, .mov (.const (.int .i64 0))⟩]
def c_ref14_Tear_R3 : List AOper := [⟨some 8, none, .mov (.slot 6)⟩,
  ⟨some 9, none, .mov (.slot 0)⟩,
  ⟨some 10, none, .len false (.slot 9)⟩,
  ⟨some 11, none, .bin .lss (.slot 8) (.slot 10)⟩]
def c_ref14_Tear_R5 : List AOper := [⟨some 14, none, .mov (.slot 0)⟩,
  ⟨some 15, none, .mov (.slot 6)⟩,
  ⟨some 16, none, .idx 7 (.slot 14) (.slot 15)⟩,
  ⟨some 17, none, .load true 7 (.slot 16)⟩,
  ⟨some 7, none, .alloc [.int .i32 0, .int .i32 0, .int .i32 0, .int .i64 0, .int .i64 0, .int .i64 0, .int .i64 0]⟩,
  ⟨none, none, .store true 7 (.slot 7) (.slot 17)⟩]
def c_ref14_Tear_R6 : List AOper := [⟨some 18, none, .mov (.slot 6)⟩,
  ⟨some 19, none, .mov (.slot 1)⟩,
  ⟨some 20, none, .bin .eql (.slot 18) (.slot 19)⟩,
  ⟨some 21, none, .mov (.slot 20)⟩,
  ⟨some 22, some (21, true), .faddr 3 (.slot 7)⟩,
  ⟨some 23, some (21, true), .load false 1 (.slot 22)⟩,
  ⟨some 24, some (21, true), .bin .eql (.slot 23) (.const (.int .i64 2))⟩,
  ⟨some 25, none, .pick (.slot 21) (.slot 24) (.const (.bool false))⟩,
  ⟨some 26, none, .mov (.slot 25)⟩,
  ⟨some 27, some (26, false), .mov (.slot 6)⟩,
  ⟨some 28, some (26, false), .mov (.slot 1)⟩,
  ⟨some 29, some (26, false), .bin .sub (.slot 28) (.const (.int .i64 1))⟩,
  ⟨some 30, some (26, false), .bin .eql (.slot 27) (.slot 29)⟩,
  ⟨some 31, some (26, false), .mov (.slot 30)⟩,
  ⟨some 32, some (31, true), .faddr 3 (.slot 7)⟩,
  ⟨some 33, some (31, true), .load false 1 (.slot 32)⟩,
  ⟨some 34, some (31, true), .bin .eql (.slot 33) (.const (.int .i64 1))⟩,
  ⟨some 35, some (26, false), .pick (.slot 31) (.slot 34) (.const (.bool false))⟩,
  ⟨some 36, none, .pick (.slot 26) (.const (.bool true)) (.slot 35)⟩]
def c_ref14_Tear_R7 : List AOper := [⟨some 37, none, .faddr 4 (.slot 7)⟩,
  ⟨some 38, none, .load true 3 (.slot 37)⟩,
  ⟨some 39, none, .call .frz n_ref14_Blank [(.slot 38)]⟩,
  ⟨none, none, .store true 7 (.slot 7) (.slot 39)⟩]
def c_ref14_Tear_R8 : List AOper := [⟨some 40, none, .mov (.slot 5)⟩,
  ⟨some 41, none, .load true 7 (.slot 7)⟩,
  ⟨some 42, none, .mkslice 7 1 [.int .i32 0, .int .i32 0, .int .i32 0, .int .i64 0, .int .i64 0, .int .i64 0, .int .i64 0] [(0, (.slot 41))]⟩,
  ⟨some 43, none, .append 7 48 (.slot 40) (.slot 42)⟩,
  ⟨some 5, none, .mov (.slot 43)⟩]
def c_ref14_Tear_R4 : List AOper := [⟨some 12, none, .mov (.slot 6)⟩,
  ⟨some 13, none, .bin .add (.slot 12) (.const (.int .i64 1))⟩,
  ⟨some 6, none, .mov (.slot 13)⟩]
def c_ref14_Tear_L0 : ACode := (.seq (.seq (.region c_ref14_Tear_R3 false [0, 1, 5, 6, 11]) (.cond (.slot 11) .skip (.exit 0))) (.seq (.block 1 (.seq (.region c_ref14_Tear_R5 false [0, 1, 5, 6, 7]) (.seq (.seq (.region c_ref14_Tear_R6 false [0, 1, 5, 6, 7, 36]) (.cond (.slot 36) (.region c_ref14_Tear_R7 false [0, 1, 5, 6, 7]) .skip)) (.region c_ref14_Tear_R8 false [0, 1, 5, 6])))) (.region c_ref14_Tear_R4 false [0, 1, 5, 6])))
def lp_ref14_Tear_0 : ACode := .loop [0, 1, 5, 6] c_ref14_Tear_L0
def c_ref14_Tear_R9 : List AOper := [⟨some 44, none, .mov (.slot 5)⟩,
  ⟨some 4, none, .mov (.slot 44)⟩]
def c_ref14_Tear : AFn := ⟨(.seq (.region c_ref14_Tear_R0 false [0, 1]) (.seq (.region c_ref14_Tear_R1 false [0, 1, 5]) (.seq (.seq (.region c_ref14_Tear_R2 false [0, 1, 5, 6]) (.block 0 lp_ref14_Tear_0)) (.seq (.region c_ref14_Tear_R9 false [4]) .ret)))), [.slot 4]⟩
/- oriel/orielref14.Erase -/
def c_ref14_Erase_R0 : List AOper := [⟨some 7, none, .box 3 (.slot 3)⟩,
  ⟨some 8, none, .mov (.const (.data false 7 [] true))⟩]
def c_ref14_Erase_R1 : List AOper := [⟨some 11, none, .mov (.slot 1)⟩,
  ⟨some 12, none, .bin .lss (.slot 11) (.const (.int .i64 0))⟩]
def c_ref14_Erase_R2 : List AOper := [⟨some 1, none, .mov (.const (.int .i64 0))⟩]
def c_ref14_Erase_R3 : List AOper := [⟨some 13, none, .mov (.slot 2)⟩,
  ⟨some 14, none, .mov (.slot 0)⟩,
  ⟨some 15, none, .len false (.slot 14)⟩,
  ⟨some 16, none, .bin .gtr (.slot 13) (.slot 15)⟩]
def c_ref14_Erase_R4 : List AOper := [⟨some 17, none, .mov (.slot 0)⟩,
  ⟨some 18, none, .len false (.slot 17)⟩,
  ⟨some 2, none, .mov (.slot 18)⟩]
def c_ref14_Erase_R5 : List AOper := [⟨some 19, none, .mov (.slot 2)⟩,
  ⟨some 20, none, .mov (.slot 1)⟩,
  ⟨some 21, none, .bin .leq (.slot 19) (.slot 20)⟩]
def c_ref14_Erase_R6 : List AOper := [⟨some 22, none, .mov (.slot 0)⟩,
  ⟨some 8, none, .mov (.slot 22)⟩]
def c_ref14_Erase_R7 : List AOper := [⟨some 23, none, .mov (.slot 0)⟩,
  ⟨some 24, none, .mov (.slot 1)⟩,
  ⟨some 25, none, .call .adp n_ref14_Tear [(.slot 23), (.slot 24)]⟩,
  ⟨some 26, none, .mov (.slot 2)⟩,
  ⟨some 27, none, .call .adp n_ref14_Tear [(.slot 25), (.slot 26)]⟩,
  ⟨some 9, none, .mov (.slot 27)⟩]
def c_ref14_Erase_R8 : List AOper := [⟨some 28, none, .mov (.slot 1)⟩,
  ⟨some 10, none, .mov (.slot 28)⟩]
def c_ref14_Erase_R9 : List AOper := [⟨some 29, none, .mov (.slot 10)⟩,
  ⟨some 30, none, .mov (.slot 2)⟩,
  ⟨some 31, none, .bin .lss (.slot 29) (.slot 30)⟩]
def c_ref14_Erase_R11 : List AOper := [⟨some 34, none, .mov (.slot 9)⟩,
  ⟨some 35, none, .mov (.slot 10)⟩,
  ⟨some 36, none, .load true 3 (.slot 7)⟩,
  ⟨some 37, none, .call .frz n_ref14_Blank [(.slot 36)]⟩,
  ⟨some 38, none, .idx 7 (.slot 34) (.slot 35)⟩,
  ⟨none, none, .store true 7 (.slot 38) (.slot 37)⟩]
def c_ref14_Erase_R10 : List AOper := [⟨some 32, none, .mov (.slot 10)⟩,
  ⟨some 33, none, .bin .add (.slot 32) (.const (.int .i64 1))⟩,
  ⟨some 10, none, .mov (.slot 33)⟩]
def c_ref14_Erase_L0 : ACode := (.seq (.seq (.region c_ref14_Erase_R9 false [2, 7, 9, 10, 31]) (.cond (.slot 31) .skip (.exit 0))) (.seq (.block 1 (.region c_ref14_Erase_R11 false [2, 7, 9, 10])) (.region c_ref14_Erase_R10 false [2, 7, 9, 10])))
def lp_ref14_Erase_0 : ACode := .loop [2, 7, 9, 10] c_ref14_Erase_L0
def c_ref14_Erase_R12 : List AOper := [⟨some 39, none, .mov (.slot 9)⟩,
  ⟨some 8, none, .mov (.slot 39)⟩]
def c_ref14_Erase : AFn := ⟨(.seq (.region c_ref14_Erase_R0 false [0, 1, 2, 7]) (.seq (.seq (.region c_ref14_Erase_R1 false [0, 1, 2, 7, 12]) (.cond (.slot 12) (.region c_ref14_Erase_R2 false [0, 1, 2, 7]) .skip)) (.seq (.seq (.region c_ref14_Erase_R3 false [0, 1, 2, 7, 16]) (.cond (.slot 16) (.region c_ref14_Erase_R4 false [0, 1, 2, 7]) .skip)) (.seq (.seq (.region c_ref14_Erase_R5 false [0, 1, 2, 7, 21]) (.cond (.slot 21) (.seq (.region c_ref14_Erase_R6 false [8]) .ret) .skip)) (.seq (.region c_ref14_Erase_R7 false [1, 2, 7, 9]) (.seq (.seq (.region c_ref14_Erase_R8 false [2, 7, 9, 10]) (.block 0 lp_ref14_Erase_0)) (.seq (.region c_ref14_Erase_R12 false [8]) .ret))))))), [.slot 8]⟩
/- oriel/orielref15.Erase -/
def c_ref15_Erase_R0 : List AOper := [⟨some 5, none, .box 2 (.slot 1)⟩,
  ⟨some 6, none, .box 2 (.slot 2)⟩,
  ⟨some 7, none, .box 3 (.slot 3)⟩,
  ⟨some 8, none, .mov (.const (.data false 1 [] true))⟩]
def c_ref15_Erase_R1 : List AOper := [⟨some 13, none, .mov (.slot 0)⟩,
  ⟨some 14, none, .load true 2 (.slot 5)⟩,
  ⟨some 15, none, .call .frz n_ref15_place [(.slot 13), (.slot 14)]⟩,
  ⟨some 16, none, .not (.slot 15)⟩,
  ⟨some 17, none, .mov (.slot 16)⟩,
  ⟨some 18, some (17, false), .mov (.slot 0)⟩,
  ⟨some 19, some (17, false), .load true 2 (.slot 6)⟩,
  ⟨some 20, some (17, false), .call .frz n_ref15_place [(.slot 18), (.slot 19)]⟩,
  ⟨some 21, some (17, false), .not (.slot 20)⟩,
  ⟨some 22, none, .pick (.slot 17) (.const (.bool true)) (.slot 21)⟩]
def c_ref15_Erase_R2 : List AOper := [⟨some 23, none, .mov (.slot 0)⟩,
  ⟨some 8, none, .mov (.slot 23)⟩]
def c_ref15_Erase_R3 : List AOper := [⟨some 9, none, .mknil 1⟩]
def c_ref15_Erase_R4 : List AOper := [⟨some 10, none, .mov (.const (.int .i64 0))⟩]
def c_ref15_Erase_R5 : List AOper := [⟨some 24, none, .mov (.slot 10)⟩,
  ⟨some 25, none, .mov (.slot 0)⟩,
  ⟨some 26, none, .len false (.slot 25)⟩,
  ⟨some 27, none, .bin .lss (.slot 24) (.slot 26)⟩]
def c_ref15_Erase_R7 : List AOper := [⟨some 30, none, .mov (.slot 0)⟩,
  ⟨some 31, none, .idx 1 (.slot 30) (.const (.int .i64 0))⟩,
  ⟨some 32, none, .load false 1 (.slot 31)⟩,
  ⟨some 33, none, .len false (.slot 32)⟩,
  ⟨some 11, none, .mov (.slot 33)⟩]
def c_ref15_Erase_R8 : List AOper := [⟨some 12, none, .mov (.const (.int .i64 0))⟩]
def c_ref15_Erase_R9 : List AOper := [⟨some 34, none, .mov (.slot 10)⟩,
  ⟨some 35, none, .idxarr 1 2 (.slot 5) (.const (.int .i64 0))⟩,
  ⟨some 36, none, .load false 1 (.slot 35)⟩,
  ⟨some 37, none, .bin .geq (.slot 34) (.slot 36)⟩,
  ⟨some 38, none, .mov (.slot 37)⟩,
  ⟨some 39, some (38, true), .mov (.slot 10)⟩,
  ⟨some 40, some (38, true), .idxarr 1 2 (.slot 6) (.const (.int .i64 0))⟩,
  ⟨some 41, some (38, true), .load false 1 (.slot 40)⟩,
  ⟨some 42, some (38, true), .bin .leq (.slot 39) (.slot 41)⟩,
  ⟨some 43, none, .pick (.slot 38) (.slot 42) (.const (.bool false))⟩]
def c_ref15_Erase_R10 : List AOper := [⟨some 11, none, .mov (.const (.int .i64 0))⟩]
def c_ref15_Erase_R11 : List AOper := [⟨some 44, none, .mov (.slot 0)⟩,
  ⟨some 45, none, .idx 1 (.slot 44) (.const (.int .i64 0))⟩,
  ⟨some 46, none, .load false 1 (.slot 45)⟩,
  ⟨some 47, none, .len false (.slot 46)⟩,
  ⟨some 12, none, .mov (.slot 47)⟩]
def c_ref15_Erase_R12 : List AOper := [⟨some 48, none, .mov (.slot 10)⟩,
  ⟨some 49, none, .idxarr 1 2 (.slot 5) (.const (.int .i64 0))⟩,
  ⟨some 50, none, .load false 1 (.slot 49)⟩,
  ⟨some 51, none, .bin .eql (.slot 48) (.slot 50)⟩]
def c_ref15_Erase_R13 : List AOper := [⟨some 52, none, .idxarr 1 2 (.slot 5) (.const (.int .i64 1))⟩,
  ⟨some 53, none, .load false 1 (.slot 52)⟩,
  ⟨some 11, none, .mov (.slot 53)⟩]
def c_ref15_Erase_R14 : List AOper := [⟨some 54, none, .mov (.slot 10)⟩,
  ⟨some 55, none, .idxarr 1 2 (.slot 6) (.const (.int .i64 0))⟩,
  ⟨some 56, none, .load false 1 (.slot 55)⟩,
  ⟨some 57, none, .bin .eql (.slot 54) (.slot 56)⟩]
def c_ref15_Erase_R15 : List AOper := [⟨some 58, none, .idxarr 1 2 (.slot 6) (.const (.int .i64 1))⟩,
  ⟨some 59, none, .load false 1 (.slot 58)⟩,
  ⟨some 60, none, .bin .add (.slot 59) (.const (.int .i64 1))⟩,
  ⟨some 12, none, .mov (.slot 60)⟩]
def c_ref15_Erase_R16 : List AOper := [⟨some 61, none, .mov (.slot 9)⟩,
  ⟨some 62, none, .mov (.slot 0)⟩,
  ⟨some 63, none, .mov (.slot 10)⟩,
  ⟨some 64, none, .idx 1 (.slot 62) (.slot 63)⟩,
  ⟨some 65, none, .load false 1 (.slot 64)⟩,
  ⟨some 66, none, .mov (.slot 11)⟩,
  ⟨some 67, none, .mov (.slot 12)⟩,
  ⟨some 68, none, .load true 3 (.slot 7)⟩,
  ⟨some 69, none, .call .frz n_ref14_Erase [(.slot 65), (.slot 66), (.slot 67), (.slot 68)]⟩,
  ⟨some 70, none, .mkslice 1 1 [.data false 7 [] true] [(0, (.slot 69))]⟩,
  ⟨some 71, none, .append 1 24 (.slot 61) (.slot 70)⟩,
  ⟨some 9, none, .mov (.slot 71)⟩]
def c_ref15_Erase_R6 : List AOper := [⟨some 28, none, .mov (.slot 10)⟩,
  ⟨some 29, none, .bin .add (.slot 28) (.const (.int .i64 1))⟩,
  ⟨some 10, none, .mov (.slot 29)⟩]
def c_ref15_Erase_L0 : ACode := (.seq (.seq (.region c_ref15_Erase_R5 false [0, 5, 6, 7, 9, 10, 27]) (.cond (.slot 27) .skip (.exit 0))) (.seq (.block 1 (.seq (.region c_ref15_Erase_R7 false [0, 5, 6, 7, 9, 10, 11]) (.seq (.region c_ref15_Erase_R8 false [0, 5, 6, 7, 9, 10, 11, 12]) (.seq (.seq (.region c_ref15_Erase_R9 false [0, 5, 6, 7, 9, 10, 11, 12, 43]) (.cond (.slot 43) (.seq (.region c_ref15_Erase_R10 false [0, 5, 6, 7, 9, 10, 11]) (.seq (.region c_ref15_Erase_R11 false [0, 5, 6, 7, 9, 10, 11, 12]) (.seq (.seq (.region c_ref15_Erase_R12 false [0, 5, 6, 7, 9, 10, 11, 12, 51]) (.cond (.slot 51) (.region c_ref15_Erase_R13 false [0, 5, 6, 7, 9, 10, 11, 12]) .skip)) (.seq (.region c_ref15_Erase_R14 false [0, 5, 6, 7, 9, 10, 11, 12, 57]) (.cond (.slot 57) (.region c_ref15_Erase_R15 false [0, 5, 6, 7, 9, 10, 11, 12]) .skip))))) .skip)) (.region c_ref15_Erase_R16 true [0, 5, 6, 7, 9, 10]))))) (.region c_ref15_Erase_R6 false [0, 5, 6, 7, 9, 10])))
def lp_ref15_Erase_0 : ACode := .loop [0, 5, 6, 7, 9, 10] c_ref15_Erase_L0
def c_ref15_Erase_R17 : List AOper := [⟨some 72, none, .mov (.slot 9)⟩,
  ⟨some 8, none, .mov (.slot 72)⟩]
def c_ref15_Erase : AFn := ⟨(.seq (.region c_ref15_Erase_R0 false [0, 5, 6, 7]) (.seq (.seq (.region c_ref15_Erase_R1 false [0, 5, 6, 7, 22]) (.cond (.slot 22) (.seq (.region c_ref15_Erase_R2 false [8]) .ret) .skip)) (.seq (.region c_ref15_Erase_R3 false [0, 5, 6, 7, 9]) (.seq (.seq (.region c_ref15_Erase_R4 false [0, 5, 6, 7, 9, 10]) (.block 0 lp_ref15_Erase_0)) (.seq (.region c_ref15_Erase_R17 false [8]) .ret))))), [.slot 8]⟩
/- oriel/oriellaw15.GridErases -/
def c_law15_GridErases_R0 : List AOper := [⟨some 5, none, .box 2 (.slot 1)⟩,
  ⟨some 6, none, .box 2 (.slot 2)⟩,
  ⟨some 7, none, .box 3 (.slot 3)⟩,
  ⟨some 8, none, .mov (.const (.bool false))⟩]
def c_law15_GridErases_R1 : List AOper := [⟨some 10, none, .call .frz n_law15_known []⟩,
  ⟨some 11, none, .not (.slot 10)⟩]
def c_law15_GridErases_R2 : List AOper := [⟨some 8, none, .mov (.const (.bool false))⟩]
def c_law15_GridErases_R3 : List AOper := [⟨some 12, none, .mov (.slot 0)⟩,
  ⟨some 13, none, .call .frz n_law15_great [(.slot 12)]⟩]
def c_law15_GridErases_R4 : List AOper := [⟨some 8, none, .mov (.const (.bool true))⟩]
def c_law15_GridErases_R5 : List AOper := [⟨some 14, none, .mov (.slot 0)⟩,
  ⟨some 15, none, .call .frz n_ref15_May [(.slot 14)]⟩,
  ⟨some 16, none, .not (.slot 15)⟩]
def c_law15_GridErases_R6 : List AOper := [⟨some 17, none, .mov (.slot 0)⟩,
  ⟨some 18, none, .load true 2 (.slot 5)⟩,
  ⟨some 19, none, .load true 2 (.slot 6)⟩,
  ⟨some 20, none, .load true 3 (.slot 7)⟩,
  ⟨some 21, none, .call .frz n_grid_Erase [(.slot 17), (.slot 18), (.slot 19), (.slot 20)]⟩,
  ⟨some 22, none, .len false (.slot 21)⟩,
  ⟨some 23, none, .bin .eql (.slot 22) (.const (.int .i64 0))⟩,
  ⟨some 8, none, .mov (.slot 23)⟩]
def c_law15_GridErases_R7 : List AOper := [⟨some 24, none, .mov (.slot 0)⟩,
  ⟨some 25, none, .call .frz n_ref15_Copy [(.slot 24)]⟩,
  ⟨some 9, none, .mov (.slot 25)⟩]
def c_law15_GridErases_R8 : List AOper := [⟨some 26, none, .mov (.slot 0)⟩,
  ⟨some 27, none, .load true 3 (.slot 7)⟩,
  ⟨some 28, none, .mov (.slot 9)⟩,
  ⟨some 29, none, .load true 2 (.slot 5)⟩,
  ⟨some 30, none, .load true 2 (.slot 6)⟩,
  ⟨some 31, none, .load true 3 (.slot 7)⟩,
  ⟨some 32, none, .call .frz n_grid_Erase [(.slot 28), (.slot 29), (.slot 30), (.slot 31)]⟩,
  ⟨some 33, none, .mov (.slot 0)⟩,
  ⟨some 34, none, .load true 2 (.slot 5)⟩,
  ⟨some 35, none, .load true 2 (.slot 6)⟩,
  ⟨some 36, none, .load true 3 (.slot 7)⟩,
  ⟨some 37, none, .call .frz n_ref15_Erase [(.slot 33), (.slot 34), (.slot 35), (.slot 36)]⟩,
  ⟨some 38, none, .call .frz n_law15_fine [(.slot 26), (.slot 27), (.slot 32), (.slot 37)]⟩,
  ⟨some 39, none, .mov (.slot 38)⟩,
  ⟨some 40, some (39, true), .mov (.slot 9)⟩,
  ⟨some 41, some (39, true), .mov (.slot 0)⟩,
  ⟨some 42, some (39, true), .call .frz n_ref15_Same [(.slot 40), (.slot 41)]⟩,
  ⟨some 43, none, .pick (.slot 39) (.slot 42) (.const (.bool false))⟩,
  ⟨some 8, none, .mov (.slot 43)⟩]
def c_law15_GridErases : AFn := ⟨(.seq (.region c_law15_GridErases_R0 false [0, 5, 6, 7]) (.seq (.seq (.region c_law15_GridErases_R1 false [0, 5, 6, 7, 11]) (.cond (.slot 11) (.seq (.region c_law15_GridErases_R2 false [8]) .ret) .skip)) (.seq (.seq (.region c_law15_GridErases_R3 false [0, 5, 6, 7, 13]) (.cond (.slot 13) (.seq (.region c_law15_GridErases_R4 false [8]) .ret) .skip)) (.seq (.seq (.region c_law15_GridErases_R5 false [0, 5, 6, 7, 16]) (.cond (.slot 16) (.seq (.region c_law15_GridErases_R6 false [8]) .ret) .skip)) (.seq (.region c_law15_GridErases_R7 false [0, 5, 6, 7, 9]) (.seq (.region c_law15_GridErases_R8 true [8]) .ret)))))), [.slot 8]⟩
/-- The seat's functions. -/
def FT : Nat → Option AEnt
  | 51 => some (.fn c_grid_side)
  | 72 => some (.fn c_slices_IndexFunc_LCell)
  | 52 => some (.fn c_slices_ContainsFunc_LCell)
  | 67 => some (.fn c_pen_May_1)
  | 41 => some (.fn c_pen_May)
  | 74 => some (.fn c_sort_Search)
  | 75 => some (.fn c_cols_Of_1)
  | 58 => some (.fn c_cols_Of)
  | 77 => some (.fn c_line_marked)
  | 73 => some (.fn c_line_may)
  | 54 => some (.fn c_line_May)
  | 53 => some (.fn c_grid_May_1)
  | 22 => some (.fn c_grid_May)
  | 56 => some (.ext (extClone 7))
  | 42 => some (.fn c_grid_copied)
  | 78 => some (.fn c_math_bits_Mul32)
  | 79 => some (.fn c_math_bits_Mul64)
  | 76 => some (.fn c_math_bits_Mul)
  | 68 => some (.fn c_slices_Repeat_Cell)
  | 69 => some (.fn c_line_blank)
  | 43 => some (.fn c_line_Blank)
  | 16 => some (.fn c_grid_Scroll)
  | 45 => some (.fn c_ref14_Same)
  | 18 => some (.fn c_ref15_Same)
  | 47 => some (.fn c_grid_Erase_1)
  | 57 => some (.fn c_line_fine)
  | 59 => some (.fn c_line_torn)
  | 48 => some (.fn c_line_Erase)
  | 20 => some (.fn c_grid_Erase)
  | 40 => some (.fn c_law15_abc)
  | 12 => some (.fn c_law15_known)
  | 13 => some (.fn c_law15_great)
  | 14 => some (.fn c_ref15_Copy)
  | 23 => some (.fn c_ref15_Side)
  | 61 => some (.fn c_ref13_in)
  | 33 => some (.fn c_ref13_Of)
  | 55 => some (.fn c_ref12_May)
  | 71 => some (.fn c_ref14_Cell)
  | 46 => some (.fn c_ref14_May)
  | 19 => some (.fn c_ref15_May)
  | 24 => some (.fn c_ref14_Pen)
  | 15 => some (.fn c_law15_fine)
  | 49 => some (.fn c_ref15_place)
  | 70 => some (.fn c_ref14_Blank)
  | 60 => some (.fn c_ref14_Tear)
  | 50 => some (.fn c_ref14_Erase)
  | 21 => some (.fn c_ref15_Erase)
  | 4 => some (.fn c_law15_GridErases)
  | _ => none
variable (G : Nat → Option (List AV)) (args : List AV) (h : List ARow)
theorem run_grid_side : aR G FT n_grid_side args h = (aE G FT h.length c_grid_side.body ⟨aenter args, h⟩).bind (afinish c_grid_side.res) := y_fn G FT rfl args h
theorem run_slices_IndexFunc_LCell : aR G FT n_slices_IndexFunc_LCell args h = (aE G FT h.length c_slices_IndexFunc_LCell.body ⟨aenter args, h⟩).bind (afinish c_slices_IndexFunc_LCell.res) := y_fn G FT rfl args h
theorem run_slices_ContainsFunc_LCell : aR G FT n_slices_ContainsFunc_LCell args h = (aE G FT h.length c_slices_ContainsFunc_LCell.body ⟨aenter args, h⟩).bind (afinish c_slices_ContainsFunc_LCell.res) := y_fn G FT rfl args h
theorem run_pen_May_1 : aR G FT n_pen_May_1 args h = (aE G FT h.length c_pen_May_1.body ⟨aenter args, h⟩).bind (afinish c_pen_May_1.res) := y_fn G FT rfl args h
theorem run_pen_May : aR G FT n_pen_May args h = (aE G FT h.length c_pen_May.body ⟨aenter args, h⟩).bind (afinish c_pen_May.res) := y_fn G FT rfl args h
theorem run_sort_Search : aR G FT n_sort_Search args h = (aE G FT h.length c_sort_Search.body ⟨aenter args, h⟩).bind (afinish c_sort_Search.res) := y_fn G FT rfl args h
theorem run_cols_Of_1 : aR G FT n_cols_Of_1 args h = (aE G FT h.length c_cols_Of_1.body ⟨aenter args, h⟩).bind (afinish c_cols_Of_1.res) := y_fn G FT rfl args h
theorem run_cols_Of : aR G FT n_cols_Of args h = (aE G FT h.length c_cols_Of.body ⟨aenter args, h⟩).bind (afinish c_cols_Of.res) := y_fn G FT rfl args h
theorem run_line_marked : aR G FT n_line_marked args h = (aE G FT h.length c_line_marked.body ⟨aenter args, h⟩).bind (afinish c_line_marked.res) := y_fn G FT rfl args h
theorem run_line_may : aR G FT n_line_may args h = (aE G FT h.length c_line_may.body ⟨aenter args, h⟩).bind (afinish c_line_may.res) := y_fn G FT rfl args h
theorem run_line_May : aR G FT n_line_May args h = (aE G FT h.length c_line_May.body ⟨aenter args, h⟩).bind (afinish c_line_May.res) := y_fn G FT rfl args h
theorem run_grid_May_1 : aR G FT n_grid_May_1 args h = (aE G FT h.length c_grid_May_1.body ⟨aenter args, h⟩).bind (afinish c_grid_May_1.res) := y_fn G FT rfl args h
theorem run_grid_May : aR G FT n_grid_May args h = (aE G FT h.length c_grid_May.body ⟨aenter args, h⟩).bind (afinish c_grid_May.res) := y_fn G FT rfl args h
theorem run_grid_copied : aR G FT n_grid_copied args h = (aE G FT h.length c_grid_copied.body ⟨aenter args, h⟩).bind (afinish c_grid_copied.res) := y_fn G FT rfl args h
theorem run_math_bits_Mul64 : aR G FT n_math_bits_Mul64 args h = (aE G FT h.length c_math_bits_Mul64.body ⟨aenter args, h⟩).bind (afinish c_math_bits_Mul64.res) := y_fn G FT rfl args h
theorem run_math_bits_Mul : aR G FT n_math_bits_Mul args h = (aE G FT h.length c_math_bits_Mul.body ⟨aenter args, h⟩).bind (afinish c_math_bits_Mul.res) := y_fn G FT rfl args h
theorem run_slices_Repeat_Cell : aR G FT n_slices_Repeat_Cell args h = (aE G FT h.length c_slices_Repeat_Cell.body ⟨aenter args, h⟩).bind (afinish c_slices_Repeat_Cell.res) := y_fn G FT rfl args h
theorem run_line_blank : aR G FT n_line_blank args h = (aE G FT h.length c_line_blank.body ⟨aenter args, h⟩).bind (afinish c_line_blank.res) := y_fn G FT rfl args h
theorem run_line_Blank : aR G FT n_line_Blank args h = (aE G FT h.length c_line_Blank.body ⟨aenter args, h⟩).bind (afinish c_line_Blank.res) := y_fn G FT rfl args h
theorem run_ref14_Same : aR G FT n_ref14_Same args h = (aE G FT h.length c_ref14_Same.body ⟨aenter args, h⟩).bind (afinish c_ref14_Same.res) := y_fn G FT rfl args h
theorem run_ref15_Same : aR G FT n_ref15_Same args h = (aE G FT h.length c_ref15_Same.body ⟨aenter args, h⟩).bind (afinish c_ref15_Same.res) := y_fn G FT rfl args h
theorem run_grid_Erase_1 : aR G FT n_grid_Erase_1 args h = (aE G FT h.length c_grid_Erase_1.body ⟨aenter args, h⟩).bind (afinish c_grid_Erase_1.res) := y_fn G FT rfl args h
theorem run_line_fine : aR G FT n_line_fine args h = (aE G FT h.length c_line_fine.body ⟨aenter args, h⟩).bind (afinish c_line_fine.res) := y_fn G FT rfl args h
theorem run_line_torn : aR G FT n_line_torn args h = (aE G FT h.length c_line_torn.body ⟨aenter args, h⟩).bind (afinish c_line_torn.res) := y_fn G FT rfl args h
theorem run_line_Erase : aR G FT n_line_Erase args h = (aE G FT h.length c_line_Erase.body ⟨aenter args, h⟩).bind (afinish c_line_Erase.res) := y_fn G FT rfl args h
theorem run_grid_Erase : aR G FT n_grid_Erase args h = (aE G FT h.length c_grid_Erase.body ⟨aenter args, h⟩).bind (afinish c_grid_Erase.res) := y_fn G FT rfl args h
theorem run_law15_great : aR G FT n_law15_great args h = (aE G FT h.length c_law15_great.body ⟨aenter args, h⟩).bind (afinish c_law15_great.res) := y_fn G FT rfl args h
theorem run_ref15_Copy : aR G FT n_ref15_Copy args h = (aE G FT h.length c_ref15_Copy.body ⟨aenter args, h⟩).bind (afinish c_ref15_Copy.res) := y_fn G FT rfl args h
theorem run_ref15_Side : aR G FT n_ref15_Side args h = (aE G FT h.length c_ref15_Side.body ⟨aenter args, h⟩).bind (afinish c_ref15_Side.res) := y_fn G FT rfl args h
theorem run_ref13_in : aR G FT n_ref13_in args h = (aE G FT h.length c_ref13_in.body ⟨aenter args, h⟩).bind (afinish c_ref13_in.res) := y_fn G FT rfl args h
theorem run_ref13_Of : aR G FT n_ref13_Of args h = (aE G FT h.length c_ref13_Of.body ⟨aenter args, h⟩).bind (afinish c_ref13_Of.res) := y_fn G FT rfl args h
theorem run_ref12_May : aR G FT n_ref12_May args h = (aE G FT h.length c_ref12_May.body ⟨aenter args, h⟩).bind (afinish c_ref12_May.res) := y_fn G FT rfl args h
theorem run_ref14_Cell : aR G FT n_ref14_Cell args h = (aE G FT h.length c_ref14_Cell.body ⟨aenter args, h⟩).bind (afinish c_ref14_Cell.res) := y_fn G FT rfl args h
theorem run_ref14_May : aR G FT n_ref14_May args h = (aE G FT h.length c_ref14_May.body ⟨aenter args, h⟩).bind (afinish c_ref14_May.res) := y_fn G FT rfl args h
theorem run_ref15_May : aR G FT n_ref15_May args h = (aE G FT h.length c_ref15_May.body ⟨aenter args, h⟩).bind (afinish c_ref15_May.res) := y_fn G FT rfl args h
theorem run_ref14_Pen : aR G FT n_ref14_Pen args h = (aE G FT h.length c_ref14_Pen.body ⟨aenter args, h⟩).bind (afinish c_ref14_Pen.res) := y_fn G FT rfl args h
theorem run_law15_fine : aR G FT n_law15_fine args h = (aE G FT h.length c_law15_fine.body ⟨aenter args, h⟩).bind (afinish c_law15_fine.res) := y_fn G FT rfl args h
theorem run_ref15_place : aR G FT n_ref15_place args h = (aE G FT h.length c_ref15_place.body ⟨aenter args, h⟩).bind (afinish c_ref15_place.res) := y_fn G FT rfl args h
theorem run_ref14_Blank : aR G FT n_ref14_Blank args h = (aE G FT h.length c_ref14_Blank.body ⟨aenter args, h⟩).bind (afinish c_ref14_Blank.res) := y_fn G FT rfl args h
theorem run_ref14_Tear : aR G FT n_ref14_Tear args h = (aE G FT h.length c_ref14_Tear.body ⟨aenter args, h⟩).bind (afinish c_ref14_Tear.res) := y_fn G FT rfl args h
theorem run_ref14_Erase : aR G FT n_ref14_Erase args h = (aE G FT h.length c_ref14_Erase.body ⟨aenter args, h⟩).bind (afinish c_ref14_Erase.res) := y_fn G FT rfl args h
theorem run_ref15_Erase : aR G FT n_ref15_Erase args h = (aE G FT h.length c_ref15_Erase.body ⟨aenter args, h⟩).bind (afinish c_ref15_Erase.res) := y_fn G FT rfl args h
theorem run_law15_GridErases : aR G FT n_law15_GridErases args h = (aE G FT h.length c_law15_GridErases.body ⟨aenter args, h⟩).bind (afinish c_law15_GridErases.res) := y_fn G FT rfl args h
end Go.Proofs.YtmmkjbcklghopaaDoor
