/- The small machine's code of the seat's functions. Conditions: none. -/
import Derived.Test.YtmmkjbcklghopaaDoorM3
set_option linter.unusedVariables false
set_option linter.unusedSimpArgs false
set_option linter.unusedSectionVars false
namespace Go.Proofs.YtmmkjbcklghopaaDoor
open Go

def n_cols_Of : Nat := 58
def n_cols_Of_1 : Nat := 75
def n_grid_Erase : Nat := 20
def n_grid_Erase_1 : Nat := 47
def n_grid_May : Nat := 22
def n_grid_May_1 : Nat := 53
def n_grid_Same : Nat := 34
def n_grid_Same_1 : Nat := 63
def n_grid_Scroll : Nat := 16
def n_grid_copied : Nat := 42
def n_grid_side : Nat := 51
def n_law15_GridLines : Nat := 9
def n_law15_abc : Nat := 40
def n_law15_great : Nat := 13
def n_law15_known : Nat := 12
def n_line_Blank : Nat := 43
def n_line_Erase : Nat := 48
def n_line_May : Nat := 54
def n_line_blank : Nat := 69
def n_line_fine : Nat := 57
def n_line_marked : Nat := 77
def n_line_may : Nat := 73
def n_line_torn : Nat := 59
def n_math_bits_Mul : Nat := 76
def n_math_bits_Mul32 : Nat := 78
def n_math_bits_Mul64 : Nat := 79
def n_pen_May : Nat := 41
def n_pen_May_1 : Nat := 67
def n_ref14_Same : Nat := 45
def n_ref15_Same : Nat := 18
def n_slices_Clone_Cell : Nat := 56
def n_slices_ContainsFunc_LCell : Nat := 52
def n_slices_EqualFunc_LLCell_LLCell_LCell_LCell : Nat := 62
def n_slices_Equal_Cell : Nat := 64
def n_slices_IndexFunc_LCell : Nat := 72
def n_slices_Repeat_Cell : Nat := 68
def n_sort_Search : Nat := 74
/- oriel/grid.side -/
def c_grid_side_R0 : List AOper := [⟨some 2, none, .mov (.const (.bool false))⟩]
def c_grid_side_R1 : List AOper := [⟨some 3, none, .mov (.slot 0)⟩,
  ⟨some 4, none, .bin .geq (.slot 3) (.const (.int .i64 1))⟩,
  ⟨some 5, none, .mov (.slot 4)⟩,
  ⟨some 6, some (5, true), .mov (.slot 0)⟩,
  ⟨some 7, some (5, true), .bin .leq (.slot 6) (.const (.int .i64 200))⟩,
  ⟨some 8, none, .pick (.slot 5) (.slot 7) (.const (.bool false))⟩,
  ⟨some 2, none, .mov (.slot 8)⟩]
def c_grid_side : AFn := ⟨(.seq (.region c_grid_side_R0 false [0]) (.seq (.region c_grid_side_R1 false [2]) .ret)), [.slot 2]⟩
/- slices.IndexFunc[[][]oriel/api.Cell,[]oriel/api.Cell] -/
def c_slices_IndexFunc_LCell_R0 : List AOper := [⟨some 4, none, .mov (.const (.int .i64 0))⟩]
def c_slices_IndexFunc_LCell_R1 : List AOper := [⟨some 6, none, .mov (.slot 0)⟩,
  ⟨some 7, none, .len false (.slot 6)⟩,
  ⟨some 8, none, .mov (.const (.int .i64 0))⟩]
def c_slices_IndexFunc_LCell_R2 : List AOper := [⟨some 9, none, .bin .lss (.slot 8) (.slot 7)⟩]
def c_slices_IndexFunc_LCell_R3 : List AOper := [⟨some 10, none, .mov (.slot 8)⟩,
  ⟨some 5, none, .mov (.slot 10)⟩]
def c_slices_IndexFunc_LCell_R4 : List AOper := [⟨some 11, none, .mov (.slot 1)⟩,
  ⟨some 12, none, .mov (.slot 0)⟩,
  ⟨some 13, none, .mov (.slot 5)⟩,
  ⟨some 14, none, .idx 1 (.slot 12) (.slot 13)⟩,
  ⟨some 15, none, .load false 1 (.slot 14)⟩,
  ⟨some 16, none, .callv (.slot 11) [(.slot 15)]⟩]
def c_slices_IndexFunc_LCell_R5 : List AOper := [⟨some 17, none, .mov (.slot 5)⟩,
  ⟨some 4, none, .mov (.slot 17)⟩]
def c_slices_IndexFunc_LCell_R6 : List AOper := [⟨some 18, none, .bin .add (.slot 8) (.const (.int .i64 1))⟩,
  ⟨some 8, none, .mov (.slot 18)⟩]
def c_slices_IndexFunc_LCell_L0 : ACode := (.seq (.region c_slices_IndexFunc_LCell_R2 false [0, 1, 7, 8, 9]) (.seq (.cond (.slot 9) .skip (.exit 0)) (.seq (.block 1 (.seq (.region c_slices_IndexFunc_LCell_R3 false [0, 1, 5, 7, 8]) (.seq (.region c_slices_IndexFunc_LCell_R4 false [0, 1, 5, 7, 8, 16]) (.cond (.slot 16) (.seq (.region c_slices_IndexFunc_LCell_R5 false [4]) .ret) .skip)))) (.region c_slices_IndexFunc_LCell_R6 false [0, 1, 7, 8]))))
def lp_slices_IndexFunc_LCell_0 : ACode := .loop [0, 1, 7, 8] c_slices_IndexFunc_LCell_L0
def c_slices_IndexFunc_LCell_R7 : List AOper := [⟨some 4, none, .mov (.const (.int .i64 (-1)))⟩]
def c_slices_IndexFunc_LCell : AFn := ⟨(.seq (.region c_slices_IndexFunc_LCell_R0 false [0, 1]) (.seq (.seq (.region c_slices_IndexFunc_LCell_R1 false [0, 1, 7, 8]) (.block 0 lp_slices_IndexFunc_LCell_0)) (.seq (.region c_slices_IndexFunc_LCell_R7 false [4]) .ret))), [.slot 4]⟩
/- slices.ContainsFunc[[][]oriel/api.Cell,[]oriel/api.Cell] -/
def c_slices_ContainsFunc_LCell_R0 : List AOper := [⟨some 4, none, .mov (.const (.bool false))⟩]
def c_slices_ContainsFunc_LCell_R1 : List AOper := [⟨some 5, none, .mov (.slot 0)⟩,
  ⟨some 6, none, .mov (.slot 1)⟩,
  ⟨some 7, none, .call .inl n_slices_IndexFunc_LCell [(.slot 5), (.slot 6)]⟩,
  ⟨some 8, none, .bin .geq (.slot 7) (.const (.int .i64 0))⟩,
  ⟨some 4, none, .mov (.slot 8)⟩]
def c_slices_ContainsFunc_LCell : AFn := ⟨(.seq (.region c_slices_ContainsFunc_LCell_R0 false [0, 1]) (.seq (.region c_slices_ContainsFunc_LCell_R1 false [4]) .ret)), [.slot 4]⟩
/- oriel/pen.May'1 -/
def c_pen_May_1_R0 : List AOper := [⟨some 4, none, .mov (.const (.bool false))⟩]
def c_pen_May_1_R1 : List AOper := [⟨some 5, none, .mov (.slot 0)⟩,
  ⟨some 6, none, .bin .geq (.slot 5) (.const (.int .i64 0))⟩,
  ⟨some 7, none, .mov (.slot 6)⟩,
  ⟨some 8, some (7, true), .mov (.slot 0)⟩,
  ⟨some 9, some (7, true), .mov (.slot 1)⟩,
  ⟨some 10, some (7, true), .bin .leq (.slot 8) (.slot 9)⟩,
  ⟨some 11, none, .pick (.slot 7) (.slot 10) (.const (.bool false))⟩,
  ⟨some 4, none, .mov (.slot 11)⟩]
def c_pen_May_1 : AFn := ⟨(.seq (.region c_pen_May_1_R0 false [0, 1]) (.seq (.region c_pen_May_1_R1 false [4]) .ret)), [.slot 4]⟩
/- oriel/pen.May -/
def c_pen_May_R0 : List AOper := [⟨some 1, none, .box 3 (.slot 0)⟩,
  ⟨some 2, none, .mov (.const (.bool false))⟩]
def c_pen_May_R1 : List AOper := [⟨some 3, none, .mov (.func n_pen_May_1)⟩]
def c_pen_May_R2 : List AOper := [⟨some 4, none, .mov (.slot 3)⟩,
  ⟨some 5, none, .faddr 0 (.slot 1)⟩,
  ⟨some 6, none, .load false 1 (.slot 5)⟩,
  ⟨some 7, none, .callv (.slot 4) [(.slot 6), (.const (.int .i64 255))]⟩,
  ⟨some 8, none, .mov (.slot 7)⟩,
  ⟨some 9, some (8, true), .mov (.slot 3)⟩,
  ⟨some 10, some (8, true), .faddr 1 (.slot 1)⟩,
  ⟨some 11, some (8, true), .load false 1 (.slot 10)⟩,
  ⟨some 12, some (8, true), .callv (.slot 9) [(.slot 11), (.const (.int .i64 256))]⟩,
  ⟨some 13, none, .pick (.slot 8) (.slot 12) (.const (.bool false))⟩,
  ⟨some 14, none, .mov (.slot 13)⟩,
  ⟨some 15, some (14, true), .mov (.slot 3)⟩,
  ⟨some 16, some (14, true), .faddr 2 (.slot 1)⟩,
  ⟨some 17, some (14, true), .load false 1 (.slot 16)⟩,
  ⟨some 18, some (14, true), .callv (.slot 15) [(.slot 17), (.const (.int .i64 256))]⟩,
  ⟨some 19, none, .pick (.slot 14) (.slot 18) (.const (.bool false))⟩,
  ⟨some 2, none, .mov (.slot 19)⟩]
def c_pen_May : AFn := ⟨(.seq (.region c_pen_May_R0 false [1]) (.seq (.region c_pen_May_R1 false [1, 3]) (.seq (.region c_pen_May_R2 false [2]) .ret))), [.slot 2]⟩
/- sort.Search -/
def c_sort_Search_R0 : List AOper := [⟨some 4, none, .mov (.const (.int .i64 0))⟩]
def c_sort_Search_R1 : List AOper := [⟨some 8, none, .mov (.slot 0)⟩,
  ⟨some 5, none, .mov (.const (.int .i64 0))⟩,
  ⟨some 6, none, .mov (.slot 8)⟩]
def c_sort_Search_R2 : List AOper := [⟨some 9, none, .mov (.slot 5)⟩,
  ⟨some 10, none, .mov (.slot 6)⟩,
  ⟨some 11, none, .bin .lss (.slot 9) (.slot 10)⟩]
def c_sort_Search_R3 : List AOper := [⟨some 12, none, .mov (.slot 5)⟩,
  ⟨some 13, none, .mov (.slot 6)⟩,
  ⟨some 14, none, .bin .add (.slot 12) (.slot 13)⟩,
  ⟨some 15, none, .conv .u64 (.slot 14)⟩,
  ⟨some 16, none, .bin .shr (.slot 15) (.const (.int .u64 1))⟩,
  ⟨some 17, none, .conv .i64 (.slot 16)⟩,
  ⟨some 7, none, .mov (.slot 17)⟩]
def c_sort_Search_R4 : List AOper := [⟨some 18, none, .mov (.slot 1)⟩,
  ⟨some 19, none, .mov (.slot 7)⟩,
  ⟨some 20, none, .callv (.slot 18) [(.slot 19)]⟩,
  ⟨some 21, none, .not (.slot 20)⟩]
def c_sort_Search_R5 : List AOper := [⟨some 22, none, .mov (.slot 7)⟩,
  ⟨some 23, none, .bin .add (.slot 22) (.const (.int .i64 1))⟩,
  ⟨some 5, none, .mov (.slot 23)⟩]
def c_sort_Search_R6 : List AOper := [⟨some 24, none, .mov (.slot 7)⟩,
  ⟨some 6, none, .mov (.slot 24)⟩]
def c_sort_Search_L0 : ACode := (.seq (.seq (.region c_sort_Search_R2 false [1, 5, 6, 11]) (.cond (.slot 11) .skip (.exit 0))) (.block 1 (.seq (.region c_sort_Search_R3 false [1, 5, 6, 7]) (.seq (.region c_sort_Search_R4 false [1, 5, 6, 7, 21]) (.cond (.slot 21) (.region c_sort_Search_R5 false [1, 5, 6]) (.region c_sort_Search_R6 false [1, 5, 6]))))))
def lp_sort_Search_0 : ACode := .loop [1, 5, 6] c_sort_Search_L0
def c_sort_Search_R7 : List AOper := [⟨some 25, none, .mov (.slot 5)⟩,
  ⟨some 4, none, .mov (.slot 25)⟩]
def c_sort_Search : AFn := ⟨(.seq (.region c_sort_Search_R0 false [0, 1]) (.seq (.region c_sort_Search_R1 false [1, 5, 6]) (.seq (.block 0 lp_sort_Search_0) (.seq (.region c_sort_Search_R7 false [4]) .ret)))), [.slot 4]⟩
/- oriel/cols.Of'1 -/
def c_cols_Of_1_R0 : List AOper := [⟨some 3, none, .mov (.const (.bool false))⟩]
def c_cols_Of_1_R1 : List AOper := [⟨some 4, none, .mov (.slot 0)⟩,
  ⟨some 5, none, .idxarr 3 22 (.glob 0) (.slot 4)⟩,
  ⟨some 6, none, .idxarr 1 3 (.slot 5) (.const (.int .i64 1))⟩,
  ⟨some 7, none, .load false 1 (.slot 6)⟩,
  ⟨some 8, none, .load false 1 (.slot 1)⟩,
  ⟨some 9, none, .bin .geq (.slot 7) (.slot 8)⟩,
  ⟨some 3, none, .mov (.slot 9)⟩]
def c_cols_Of_1 : AFn := ⟨(.seq (.region c_cols_Of_1_R0 false [0, 1]) (.seq (.region c_cols_Of_1_R1 true [3]) .ret)), [.slot 3]⟩
/- oriel/cols.Of -/
def c_cols_Of_R0 : List AOper := [⟨some 1, none, .box 1 (.slot 0)⟩,
  ⟨some 2, none, .mov (.const (.int .i64 0))⟩]
def c_cols_Of_R1 : List AOper := [⟨some 4, none, .load false 1 (.slot 1)⟩,
  ⟨some 5, none, .bin .lss (.slot 4) (.const (.int .i32 32))⟩,
  ⟨some 6, none, .mov (.slot 5)⟩,
  ⟨some 7, some (6, false), .load false 1 (.slot 1)⟩,
  ⟨some 8, some (6, false), .bin .geq (.slot 7) (.const (.int .i32 127))⟩,
  ⟨some 9, some (6, false), .mov (.slot 8)⟩,
  ⟨some 10, some (9, true), .load false 1 (.slot 1)⟩,
  ⟨some 11, some (9, true), .bin .lss (.slot 10) (.const (.int .i32 160))⟩,
  ⟨some 12, some (6, false), .pick (.slot 9) (.slot 11) (.const (.bool false))⟩,
  ⟨some 13, none, .pick (.slot 6) (.const (.bool true)) (.slot 12)⟩,
  ⟨some 14, none, .mov (.slot 13)⟩,
  ⟨some 15, some (14, false), .load false 1 (.slot 1)⟩,
  ⟨some 16, some (14, false), .bin .geq (.slot 15) (.const (.int .i32 55296))⟩,
  ⟨some 17, some (14, false), .mov (.slot 16)⟩,
  ⟨some 18, some (17, true), .load false 1 (.slot 1)⟩,
  ⟨some 19, some (17, true), .bin .leq (.slot 18) (.const (.int .i32 57343))⟩,
  ⟨some 20, some (14, false), .pick (.slot 17) (.slot 19) (.const (.bool false))⟩,
  ⟨some 21, none, .pick (.slot 14) (.const (.bool true)) (.slot 20)⟩,
  ⟨some 22, none, .mov (.slot 21)⟩,
  ⟨some 23, some (22, false), .load false 1 (.slot 1)⟩,
  ⟨some 24, some (22, false), .bin .gtr (.slot 23) (.const (.int .i32 1114111))⟩,
  ⟨some 25, none, .pick (.slot 22) (.const (.bool true)) (.slot 24)⟩]
def c_cols_Of_R2 : List AOper := [⟨some 2, none, .mov (.const (.int .i64 (-1)))⟩]
def c_cols_Of_R3 : List AOper := [⟨some 26, none, .mkfn (.func n_cols_Of_1) [] [(.slot 1)]⟩,
  ⟨some 27, none, .call .inl n_sort_Search [(.const (.int .i64 22)), (.slot 26)]⟩,
  ⟨some 3, none, .mov (.slot 27)⟩]
def c_cols_Of_R4 : List AOper := [⟨some 28, none, .mov (.slot 3)⟩,
  ⟨some 29, none, .bin .lss (.slot 28) (.const (.int .i64 22))⟩,
  ⟨some 30, none, .mov (.slot 29)⟩,
  ⟨some 31, some (30, true), .mov (.slot 3)⟩,
  ⟨some 32, some (30, true), .idxarr 3 22 (.glob 0) (.slot 31)⟩,
  ⟨some 33, some (30, true), .idxarr 1 3 (.slot 32) (.const (.int .i64 0))⟩,
  ⟨some 34, some (30, true), .load false 1 (.slot 33)⟩,
  ⟨some 35, some (30, true), .load false 1 (.slot 1)⟩,
  ⟨some 36, some (30, true), .bin .leq (.slot 34) (.slot 35)⟩,
  ⟨some 37, none, .pick (.slot 30) (.slot 36) (.const (.bool false))⟩]
def c_cols_Of_R5 : List AOper := [⟨some 38, none, .mov (.slot 3)⟩,
  ⟨some 39, none, .idxarr 3 22 (.glob 0) (.slot 38)⟩,
  ⟨some 40, none, .idxarr 1 3 (.slot 39) (.const (.int .i64 2))⟩,
  ⟨some 41, none, .load false 1 (.slot 40)⟩,
  ⟨some 42, none, .conv .i64 (.slot 41)⟩,
  ⟨some 2, none, .mov (.slot 42)⟩]
def c_cols_Of_R6 : List AOper := [⟨some 2, none, .mov (.const (.int .i64 1))⟩]
def c_cols_Of : AFn := ⟨(.seq (.region c_cols_Of_R0 false [1]) (.seq (.seq (.region c_cols_Of_R1 false [1, 25]) (.cond (.slot 25) (.seq (.region c_cols_Of_R2 false [2]) .ret) .skip)) (.seq (.region c_cols_Of_R3 false [1, 3]) (.seq (.seq (.region c_cols_Of_R4 true [3, 37]) (.cond (.slot 37) (.seq (.region c_cols_Of_R5 false [2]) .ret) .skip)) (.seq (.region c_cols_Of_R6 false [2]) .ret))))), [.slot 2]⟩
/- oriel/line.marked -/
def c_line_marked_R0 : List AOper := [⟨some 1, none, .box 2 (.slot 0)⟩,
  ⟨some 2, none, .mov (.const (.bool false))⟩]
def c_line_marked_R1 : List AOper := [⟨some 3, none, .idxarr 1 2 (.slot 1) (.const (.int .i64 0))⟩,
  ⟨some 4, none, .load false 1 (.slot 3)⟩,
  ⟨some 5, none, .bin .eql (.slot 4) (.const (.int .i32 0))⟩]
def c_line_marked_R2 : List AOper := [⟨some 6, none, .idxarr 1 2 (.slot 1) (.const (.int .i64 1))⟩,
  ⟨some 7, none, .load false 1 (.slot 6)⟩,
  ⟨some 8, none, .bin .eql (.slot 7) (.const (.int .i32 0))⟩,
  ⟨some 2, none, .mov (.slot 8)⟩]
def c_line_marked_R3 : List AOper := [⟨some 9, none, .idxarr 1 2 (.slot 1) (.const (.int .i64 0))⟩,
  ⟨some 10, none, .load false 1 (.slot 9)⟩,
  ⟨some 11, none, .call .frz n_cols_Of [(.slot 10)]⟩,
  ⟨some 12, none, .bin .eql (.slot 11) (.const (.int .i64 0))⟩,
  ⟨some 13, none, .mov (.slot 12)⟩,
  ⟨some 14, some (13, true), .idxarr 1 2 (.slot 1) (.const (.int .i64 1))⟩,
  ⟨some 15, some (13, true), .load false 1 (.slot 14)⟩,
  ⟨some 16, some (13, true), .bin .eql (.slot 15) (.const (.int .i32 0))⟩,
  ⟨some 17, some (13, true), .mov (.slot 16)⟩,
  ⟨some 18, some (17, false), .idxarr 1 2 (.slot 1) (.const (.int .i64 1))⟩,
  ⟨some 19, some (17, false), .load false 1 (.slot 18)⟩,
  ⟨some 20, some (17, false), .call .frz n_cols_Of [(.slot 19)]⟩,
  ⟨some 21, some (17, false), .bin .eql (.slot 20) (.const (.int .i64 0))⟩,
  ⟨some 22, some (13, true), .pick (.slot 17) (.const (.bool true)) (.slot 21)⟩,
  ⟨some 23, none, .pick (.slot 13) (.slot 22) (.const (.bool false))⟩,
  ⟨some 2, none, .mov (.slot 23)⟩]
def c_line_marked : AFn := ⟨(.seq (.region c_line_marked_R0 false [1]) (.seq (.seq (.region c_line_marked_R1 false [1, 5]) (.cond (.slot 5) (.seq (.region c_line_marked_R2 false [2]) .ret) .skip)) (.seq (.region c_line_marked_R3 false [2]) .ret))), [.slot 2]⟩
/- oriel/line.may -/
def c_line_may_R0 : List AOper := [⟨some 1, none, .box 7 (.slot 0)⟩,
  ⟨some 2, none, .mov (.const (.bool false))⟩]
def c_line_may_R1 : List AOper := [⟨some 3, none, .faddr 3 (.slot 1)⟩,
  ⟨some 4, none, .load false 1 (.slot 3)⟩]
def c_line_may_R2 : List AOper := [⟨some 6, none, .bin .eql (.slot 4) (.const (.int .i64 0))⟩,
  ⟨some 5, none, .mov (.slot 6)⟩]
def c_line_may_R3 : List AOper := [⟨some 7, none, .bin .eql (.slot 4) (.const (.int .i64 1))⟩,
  ⟨some 5, none, .mov (.slot 7)⟩]
def c_line_may_R4 : List AOper := [⟨some 8, none, .faddr 4 (.slot 1)⟩,
  ⟨some 9, none, .load true 3 (.slot 8)⟩,
  ⟨some 10, none, .call .frz n_pen_May [(.slot 9)]⟩,
  ⟨some 11, none, .mov (.slot 10)⟩,
  ⟨some 12, some (11, true), .faddr 0 (.slot 1)⟩,
  ⟨some 13, some (11, true), .load false 1 (.slot 12)⟩,
  ⟨some 14, some (11, true), .call .frz n_cols_Of [(.slot 13)]⟩,
  ⟨some 15, some (11, true), .faddr 3 (.slot 1)⟩,
  ⟨some 16, some (11, true), .load false 1 (.slot 15)⟩,
  ⟨some 17, some (11, true), .bin .add (.slot 16) (.const (.int .i64 1))⟩,
  ⟨some 18, some (11, true), .bin .eql (.slot 14) (.slot 17)⟩,
  ⟨some 19, none, .pick (.slot 11) (.slot 18) (.const (.bool false))⟩,
  ⟨some 20, none, .mov (.slot 19)⟩,
  ⟨some 21, some (20, true), .faddr 1 (.slot 1)⟩,
  ⟨some 22, some (20, true), .load true 2 (.slot 21)⟩,
  ⟨some 23, some (20, true), .call .frz n_line_marked [(.slot 22)]⟩,
  ⟨some 24, none, .pick (.slot 20) (.slot 23) (.const (.bool false))⟩,
  ⟨some 2, none, .mov (.slot 24)⟩]
def c_line_may_R5 : List AOper := [⟨some 26, none, .bin .eql (.slot 4) (.const (.int .i64 2))⟩,
  ⟨some 25, none, .mov (.slot 26)⟩]
def c_line_may_R6 : List AOper := [⟨some 27, none, .faddr 4 (.slot 1)⟩,
  ⟨some 28, none, .load true 3 (.slot 27)⟩,
  ⟨some 29, none, .call .frz n_pen_May [(.slot 28)]⟩,
  ⟨some 30, none, .mov (.slot 29)⟩,
  ⟨some 31, some (30, true), .load true 7 (.slot 1)⟩,
  ⟨some 32, some (30, true), .faddr 4 (.slot 1)⟩,
  ⟨some 33, some (30, true), .load true 3 (.slot 32)⟩,
  ⟨some 34, some (30, true), .build [.int .i32 0, .int .i32 0, .int .i32 0, .int .i64 0, .int .i64 0, .int .i64 0, .int .i64 0] [(3, 1, (.const (.int .i64 2))), (4, 3, (.slot 33))]⟩,
  ⟨some 35, some (30, true), .eq true [.ki, .ki, .ki, .ki, .ki, .ki, .ki] false (.slot 31) (.slot 34)⟩,
  ⟨some 36, none, .pick (.slot 30) (.slot 35) (.const (.bool false))⟩,
  ⟨some 2, none, .mov (.slot 36)⟩]
def c_line_may_R7 : List AOper := [⟨some 2, none, .mov (.const (.bool false))⟩]
def c_line_may : AFn := ⟨(.seq (.region c_line_may_R0 false [1]) (.seq (.seq (.region c_line_may_R1 false [1, 4]) (.block 0 (.seq (.seq (.region c_line_may_R2 false [1, 4, 5]) (.cond (.slot 5) .skip (.region c_line_may_R3 false [1, 4, 5]))) (.cond (.slot 5) (.seq (.region c_line_may_R4 true [2]) .ret) (.seq (.region c_line_may_R5 false [1, 25]) (.cond (.slot 25) (.seq (.region c_line_may_R6 false [2]) .ret) .skip)))))) (.seq (.region c_line_may_R7 false [2]) .ret))), [.slot 2]⟩
/- oriel/line.May -/
def c_line_May_R0 : List AOper := [⟨some 2, none, .mov (.const (.bool false))⟩]
def c_line_May_R1 : List AOper := [⟨some 6, none, .mov (.slot 0)⟩,
  ⟨some 7, none, .len false (.slot 6)⟩,
  ⟨some 8, none, .bin .gtr (.slot 7) (.const (.int .i64 1000))⟩]
def c_line_May_R2 : List AOper := [⟨some 2, none, .mov (.const (.bool false))⟩]
def c_line_May_R3 : List AOper := [⟨some 9, none, .mov (.slot 0)⟩,
  ⟨some 10, none, .len false (.slot 9)⟩,
  ⟨some 11, none, .mov (.const (.int .i64 0))⟩]
def c_line_May_R4 : List AOper := [⟨some 12, none, .bin .lss (.slot 11) (.slot 10)⟩]
def c_line_May_R5 : List AOper := [⟨some 13, none, .mov (.slot 11)⟩,
  ⟨some 14, none, .idx 7 (.slot 9) (.slot 11)⟩,
  ⟨some 15, none, .load true 7 (.slot 14)⟩,
  ⟨some 4, none, .alloc [.int .i32 0, .int .i32 0, .int .i32 0, .int .i64 0, .int .i64 0, .int .i64 0, .int .i64 0]⟩,
  ⟨some 3, none, .mov (.slot 13)⟩,
  ⟨none, none, .store true 7 (.slot 4) (.slot 15)⟩]
def c_line_May_R6 : List AOper := [⟨some 16, none, .mov (.slot 3)⟩,
  ⟨some 17, none, .bin .gtr (.slot 16) (.const (.int .i64 0))⟩,
  ⟨some 18, none, .mov (.slot 17)⟩,
  ⟨some 19, some (18, true), .mov (.slot 0)⟩,
  ⟨some 20, some (18, true), .mov (.slot 3)⟩,
  ⟨some 21, some (18, true), .bin .sub (.slot 20) (.const (.int .i64 1))⟩,
  ⟨some 22, some (18, true), .idx 7 (.slot 19) (.slot 21)⟩,
  ⟨some 23, some (18, true), .faddr 3 (.slot 22)⟩,
  ⟨some 24, some (18, true), .load false 1 (.slot 23)⟩,
  ⟨some 25, some (18, true), .bin .eql (.slot 24) (.const (.int .i64 1))⟩,
  ⟨some 26, none, .pick (.slot 18) (.slot 25) (.const (.bool false))⟩,
  ⟨some 5, none, .mov (.slot 26)⟩]
def c_line_May_R7 : List AOper := ⟨some 27, none, .load true 7 (.slot 4)⟩ ::
  ⟨some 28, none, .call .frz n_line_may [(.slot 27)]⟩ ::
  ⟨some 29, none, .not (.slot 28)⟩ ::
  ⟨some 30, none, .mov (.slot 29)⟩ ::
  ⟨some 31, some (30, false), .mov (.slot 5)⟩ ::
  ⟨some 32, some (30, false), .faddr 3 (.slot 4)⟩ ::
  ⟨some 33, some (30, false), .load false 1 (.slot 32)⟩ ::
  ⟨some 34, some (30, false), .bin .eql (.slot 33) (.const (.int .i64 2))⟩ ::
  ⟨some 35, some (30, false), .eq false [.kb] true (.slot 31) (.slot 34)⟩ ::
  ⟨some 36, none, .pick (.slot 30) (.const (.bool true)) (.slot 35)⟩ ::
  ⟨some 37, none, .mov (.slot 36)⟩ ::
  ⟨some 38, some (37, false), .mov (.slot 5)⟩ ::
  ⟨some 39, some (37, false), .mov (.slot 38)⟩ ::
  ⟨some 40, some (39, true), .mov (.slot 0)⟩ ::
  ⟨some 41, some (39, true), .mov (.slot 3)⟩ ::
  ⟨some 42, some (39, true), .bin .sub (.slot 41) (.const (.int .i64 1))⟩ ::
  ⟨some 43, some (39, true), .idx 7 (.slot 40) (.slot 42)⟩ ::
  ⟨some 44, some (39, true), .faddr 4 (.slot 43)⟩ ::
  ⟨some 45, some (39, true), .load true 3 (.slot 44)⟩ ::
  ⟨some 46, some (39, true), .faddr 4 (.slot 4)⟩ ::
  ⟨some 47, some (39, true), .load true 3 (.slot 46)⟩ ::
  ⟨some 48, some (39, true), .eq true [.ki, .ki, .ki] true (.slot 45) (.slot 47)⟩ ::
  ⟨some 49, some (37, false), .pick (.slot 39) (.slot 48) (.const (.bool false))⟩ ::
  ⟨some 50, none, .pick (.slot 37) (.const (.bool true)) (.slot 49)⟩ ::
  ⟨some 51, none, .mov (.slot 50)⟩ ::
  ⟨some 52, some (51, false), .faddr 3 (.slot 4)⟩ ::
  ⟨some 53, some (51, false), .load false 1 (.slot 52)⟩ ::
  ⟨some 54, some (51, false), .bin .eql (.slot 53) (.const (.int .i64 1))⟩ ::
  ⟨some 55, some (51, false), .mov (.slot 54)⟩ ::
  ⟨some 56, some (55, true), .mov (.slot 3)⟩ ::
  ⟨some 57, some (55, true), .mov (.slot 0)⟩ ::
  ⟨some 58, some (55, true), .len false (.slot 57)⟩ ::
  ⟨some 59, some (55, true), .bin .sub (.slot 58) (.const (.int .i64 1))⟩ ::
  ⟨some 60, some (55, true), .bin .eql (.slot 56) (.slot 59)⟩ ::
  ⟨some 61, some (51, false), .pick (.slot 55) (.slot 60) (.const (.bool false))⟩ ::
  ⟨some 62, none, .pick (.slot 51) (.const (.bool true)) (.slot 61)⟩ :: []
def c_line_May_R8 : List AOper := [⟨some 2, none, .mov (.const (.bool false))⟩]
def c_line_May_R9 : List AOper := [⟨some 63, none, .bin .add (.slot 11) (.const (.int .i64 1))⟩,
  ⟨some 11, none, .mov (.slot 63)⟩]
def c_line_May_L0 : ACode := (.seq (.region c_line_May_R4 false [0, 9, 10, 11, 12]) (.seq (.cond (.slot 12) .skip (.exit 0)) (.seq (.block 1 (.seq (.region c_line_May_R5 false [0, 3, 4, 9, 10, 11]) (.seq (.region c_line_May_R6 false [0, 3, 4, 5, 9, 10, 11]) (.seq (.region c_line_May_R7 true [0, 9, 10, 11, 62]) (.cond (.slot 62) (.seq (.region c_line_May_R8 false [2]) .ret) .skip))))) (.region c_line_May_R9 false [0, 9, 10, 11]))))
def lp_line_May_0 : ACode := .loop [0, 9, 10, 11] c_line_May_L0
def c_line_May_R10 : List AOper := [⟨some 2, none, .mov (.const (.bool true))⟩]
def c_line_May : AFn := ⟨(.seq (.region c_line_May_R0 false [0]) (.seq (.seq (.region c_line_May_R1 false [0, 8]) (.cond (.slot 8) (.seq (.region c_line_May_R2 false [2]) .ret) .skip)) (.seq (.seq (.region c_line_May_R3 false [0, 9, 10, 11]) (.block 0 lp_line_May_0)) (.seq (.region c_line_May_R10 false [2]) .ret)))), [.slot 2]⟩
/- oriel/grid.May'1 -/
def c_grid_May_1_R0 : List AOper := [⟨some 3, none, .mov (.const (.bool false))⟩]
def c_grid_May_1_R1 : List AOper := [⟨some 4, none, .mov (.slot 0)⟩,
  ⟨some 5, none, .len false (.slot 4)⟩,
  ⟨some 6, none, .load false 1 (.slot 1)⟩,
  ⟨some 7, none, .idx 1 (.slot 6) (.const (.int .i64 0))⟩,
  ⟨some 8, none, .load false 1 (.slot 7)⟩,
  ⟨some 9, none, .len false (.slot 8)⟩,
  ⟨some 10, none, .bin .neq (.slot 5) (.slot 9)⟩,
  ⟨some 11, none, .mov (.slot 10)⟩,
  ⟨some 12, some (11, false), .mov (.slot 0)⟩,
  ⟨some 13, some (11, false), .call .frz n_line_May [(.slot 12)]⟩,
  ⟨some 14, some (11, false), .not (.slot 13)⟩,
  ⟨some 15, none, .pick (.slot 11) (.const (.bool true)) (.slot 14)⟩,
  ⟨some 3, none, .mov (.slot 15)⟩]
def c_grid_May_1 : AFn := ⟨(.seq (.region c_grid_May_1_R0 false [0, 1]) (.seq (.region c_grid_May_1_R1 false [3]) .ret)), [.slot 3]⟩
/- oriel/grid.May -/
def c_grid_May_R0 : List AOper := [⟨some 1, none, .box 1 (.slot 0)⟩,
  ⟨some 2, none, .mov (.const (.bool false))⟩]
def c_grid_May_R1 : List AOper := [⟨some 3, none, .load false 1 (.slot 1)⟩,
  ⟨some 4, none, .len false (.slot 3)⟩,
  ⟨some 5, none, .call .frz n_grid_side [(.slot 4)]⟩,
  ⟨some 6, none, .not (.slot 5)⟩,
  ⟨some 7, none, .mov (.slot 6)⟩,
  ⟨some 8, some (7, false), .load false 1 (.slot 1)⟩,
  ⟨some 9, some (7, false), .idx 1 (.slot 8) (.const (.int .i64 0))⟩,
  ⟨some 10, some (7, false), .load false 1 (.slot 9)⟩,
  ⟨some 11, some (7, false), .len false (.slot 10)⟩,
  ⟨some 12, some (7, false), .call .frz n_grid_side [(.slot 11)]⟩,
  ⟨some 13, some (7, false), .not (.slot 12)⟩,
  ⟨some 14, none, .pick (.slot 7) (.const (.bool true)) (.slot 13)⟩]
def c_grid_May_R2 : List AOper := [⟨some 2, none, .mov (.const (.bool false))⟩]
def c_grid_May_R3 : List AOper := [⟨some 15, none, .load false 1 (.slot 1)⟩,
  ⟨some 16, none, .mkfn (.func n_grid_May_1) [] [(.slot 1)]⟩,
  ⟨some 17, none, .call .inl n_slices_ContainsFunc_LCell [(.slot 15), (.slot 16)]⟩,
  ⟨some 18, none, .not (.slot 17)⟩,
  ⟨some 2, none, .mov (.slot 18)⟩]
def c_grid_May : AFn := ⟨(.seq (.region c_grid_May_R0 false [1]) (.seq (.seq (.region c_grid_May_R1 false [1, 14]) (.cond (.slot 14) (.seq (.region c_grid_May_R2 false [2]) .ret) .skip)) (.seq (.region c_grid_May_R3 false [2]) .ret))), [.slot 2]⟩
/- slices.Clone[[]oriel/api.Cell,oriel/api.Cell] -/
def c_slices_Clone_Cell_R0 : List AOper := [⟨some 2, none, .mov (.const (.data false 7 [] true))⟩]
def c_slices_Clone_Cell_R1 : List AOper := [⟨some 3, none, .mov (.slot 0)⟩,
  ⟨some 4, none, .isnil .ks false (.slot 3)⟩]
def c_slices_Clone_Cell_R2 : List AOper := [⟨some 2, none, .mov (.const (.data false 7 [] true))⟩]
def c_slices_Clone_Cell_R3 : List AOper := [⟨some 5, none, .mkslice 7 0 [.int .i32 0, .int .i32 0, .int .i32 0, .int .i64 0, .int .i64 0, .int .i64 0, .int .i64 0] []⟩,
  ⟨some 6, none, .mov (.slot 0)⟩,
  ⟨some 7, none, .append 7 48 (.slot 5) (.slot 6)⟩,
  ⟨some 2, none, .mov (.slot 7)⟩]
def c_slices_Clone_Cell : AFn := ⟨(.seq (.region c_slices_Clone_Cell_R0 false [0]) (.seq (.seq (.region c_slices_Clone_Cell_R1 false [0, 4]) (.cond (.slot 4) (.seq (.region c_slices_Clone_Cell_R2 false [2]) .ret) .skip)) (.seq (.region c_slices_Clone_Cell_R3 false [2]) .ret))), [.slot 2]⟩
/- oriel/grid.copied -/
def c_grid_copied_R0 : List AOper := [⟨some 2, none, .mov (.const (.data false 1 [] true))⟩]
def c_grid_copied_R1 : List AOper := [⟨some 6, none, .mov (.slot 0)⟩,
  ⟨some 7, none, .len false (.slot 6)⟩,
  ⟨some 8, none, .mkrow 1 24 [.data false 7 [] true] (.slot 7) (.slot 7)⟩,
  ⟨some 3, none, .mov (.slot 8)⟩]
def c_grid_copied_R2 : List AOper := [⟨some 9, none, .mov (.slot 0)⟩,
  ⟨some 10, none, .len false (.slot 9)⟩,
  ⟨some 11, none, .mov (.const (.int .i64 0))⟩]
def c_grid_copied_R3 : List AOper := [⟨some 12, none, .bin .lss (.slot 11) (.slot 10)⟩]
def c_grid_copied_R4 : List AOper := [⟨some 13, none, .mov (.slot 11)⟩,
  ⟨some 14, none, .idx 1 (.slot 9) (.slot 11)⟩,
  ⟨some 15, none, .load false 1 (.slot 14)⟩,
  ⟨some 4, none, .mov (.slot 13)⟩,
  ⟨some 5, none, .mov (.slot 15)⟩]
def c_grid_copied_R5 : List AOper := [⟨some 16, none, .mov (.slot 3)⟩,
  ⟨some 17, none, .mov (.slot 4)⟩,
  ⟨some 18, none, .mov (.slot 5)⟩,
  ⟨some 19, none, .call .frz n_slices_Clone_Cell [(.slot 18)]⟩,
  ⟨some 20, none, .idx 1 (.slot 16) (.slot 17)⟩,
  ⟨none, none, .store false 1 (.slot 20) (.slot 19)⟩]
def c_grid_copied_R6 : List AOper := [⟨some 21, none, .bin .add (.slot 11) (.const (.int .i64 1))⟩,
  ⟨some 11, none, .mov (.slot 21)⟩]
def c_grid_copied_L0 : ACode := (.seq (.region c_grid_copied_R3 false [3, 9, 10, 11, 12]) (.seq (.cond (.slot 12) .skip (.exit 0)) (.seq (.block 1 (.seq (.region c_grid_copied_R4 false [3, 4, 5, 9, 10, 11]) (.region c_grid_copied_R5 false [3, 9, 10, 11]))) (.region c_grid_copied_R6 false [3, 9, 10, 11]))))
def lp_grid_copied_0 : ACode := .loop [3, 9, 10, 11] c_grid_copied_L0
def c_grid_copied_R7 : List AOper := [⟨some 22, none, .mov (.slot 3)⟩,
  ⟨some 2, none, .mov (.slot 22)⟩]
def c_grid_copied : AFn := ⟨(.seq (.region c_grid_copied_R0 false [0]) (.seq (.region c_grid_copied_R1 false [0, 3]) (.seq (.seq (.region c_grid_copied_R2 false [3, 9, 10, 11]) (.block 0 lp_grid_copied_0)) (.seq (.region c_grid_copied_R7 false [2]) .ret)))), [.slot 2]⟩
/- math/bits.Mul32 -/
def c_math_bits_Mul32_R0 : List AOper := [⟨some 4, none, .mov (.const (.int .u32 0))⟩,
  ⟨some 5, none, .mov (.const (.int .u32 0))⟩]
def c_math_bits_Mul32_R1 : List AOper := [⟨some 7, none, .mov (.slot 0)⟩,
  ⟨some 8, none, .conv .u64 (.slot 7)⟩,
  ⟨some 9, none, .mov (.slot 1)⟩,
  ⟨some 10, none, .conv .u64 (.slot 9)⟩,
  ⟨some 11, none, .bin .mul (.slot 8) (.slot 10)⟩,
  ⟨some 6, none, .mov (.slot 11)⟩]
def c_math_bits_Mul32_R2 : List AOper := [⟨some 12, none, .mov (.slot 6)⟩,
  ⟨some 13, none, .bin .shr (.slot 12) (.const (.int .u64 32))⟩,
  ⟨some 14, none, .conv .u32 (.slot 13)⟩,
  ⟨some 15, none, .mov (.slot 6)⟩,
  ⟨some 16, none, .conv .u32 (.slot 15)⟩,
  ⟨some 4, none, .mov (.slot 14)⟩,
  ⟨some 5, none, .mov (.slot 16)⟩]
def c_math_bits_Mul32 : AFn := ⟨(.seq (.region c_math_bits_Mul32_R0 false [0, 1]) (.seq (.region c_math_bits_Mul32_R1 false [6]) (.seq (.region c_math_bits_Mul32_R2 false [4, 5]) .ret))), [.slot 4, .slot 5]⟩
/- math/bits.Mul64 -/
def c_math_bits_Mul64_R0 : List AOper := [⟨some 4, none, .mov (.const (.int .u64 0))⟩,
  ⟨some 5, none, .mov (.const (.int .u64 0))⟩]
def c_math_bits_Mul64_R1 : List AOper := [⟨some 14, none, .mov (.slot 0)⟩,
  ⟨some 15, none, .bin .and (.slot 14) (.const (.int .u64 4294967295))⟩,
  ⟨some 6, none, .mov (.slot 15)⟩]
def c_math_bits_Mul64_R2 : List AOper := [⟨some 16, none, .mov (.slot 0)⟩,
  ⟨some 17, none, .bin .shr (.slot 16) (.const (.int .u64 32))⟩,
  ⟨some 7, none, .mov (.slot 17)⟩]
def c_math_bits_Mul64_R3 : List AOper := [⟨some 18, none, .mov (.slot 1)⟩,
  ⟨some 19, none, .bin .and (.slot 18) (.const (.int .u64 4294967295))⟩,
  ⟨some 8, none, .mov (.slot 19)⟩]
def c_math_bits_Mul64_R4 : List AOper := [⟨some 20, none, .mov (.slot 1)⟩,
  ⟨some 21, none, .bin .shr (.slot 20) (.const (.int .u64 32))⟩,
  ⟨some 9, none, .mov (.slot 21)⟩]
def c_math_bits_Mul64_R5 : List AOper := [⟨some 22, none, .mov (.slot 6)⟩,
  ⟨some 23, none, .mov (.slot 8)⟩,
  ⟨some 24, none, .bin .mul (.slot 22) (.slot 23)⟩,
  ⟨some 10, none, .mov (.slot 24)⟩]
def c_math_bits_Mul64_R6 : List AOper := [⟨some 25, none, .mov (.slot 7)⟩,
  ⟨some 26, none, .mov (.slot 8)⟩,
  ⟨some 27, none, .bin .mul (.slot 25) (.slot 26)⟩,
  ⟨some 28, none, .mov (.slot 10)⟩,
  ⟨some 29, none, .bin .shr (.slot 28) (.const (.int .u64 32))⟩,
  ⟨some 30, none, .bin .add (.slot 27) (.slot 29)⟩,
  ⟨some 11, none, .mov (.slot 30)⟩]
def c_math_bits_Mul64_R7 : List AOper := [⟨some 31, none, .mov (.slot 11)⟩,
  ⟨some 32, none, .bin .and (.slot 31) (.const (.int .u64 4294967295))⟩,
  ⟨some 12, none, .mov (.slot 32)⟩]
def c_math_bits_Mul64_R8 : List AOper := [⟨some 33, none, .mov (.slot 11)⟩,
  ⟨some 34, none, .bin .shr (.slot 33) (.const (.int .u64 32))⟩,
  ⟨some 13, none, .mov (.slot 34)⟩]
def c_math_bits_Mul64_R9 : List AOper := [⟨some 35, none, .mov (.slot 12)⟩,
  ⟨some 36, none, .mov (.slot 6)⟩,
  ⟨some 37, none, .mov (.slot 9)⟩,
  ⟨some 38, none, .bin .mul (.slot 36) (.slot 37)⟩,
  ⟨some 39, none, .bin .add (.slot 35) (.slot 38)⟩,
  ⟨some 12, none, .mov (.slot 39)⟩]
def c_math_bits_Mul64_R10 : List AOper := [⟨some 40, none, .mov (.slot 7)⟩,
  ⟨some 41, none, .mov (.slot 9)⟩,
  ⟨some 42, none, .bin .mul (.slot 40) (.slot 41)⟩,
  ⟨some 43, none, .mov (.slot 13)⟩,
  ⟨some 44, none, .bin .add (.slot 42) (.slot 43)⟩,
  ⟨some 45, none, .mov (.slot 12)⟩,
  ⟨some 46, none, .bin .shr (.slot 45) (.const (.int .u64 32))⟩,
  ⟨some 47, none, .bin .add (.slot 44) (.slot 46)⟩,
  ⟨some 4, none, .mov (.slot 47)⟩]
def c_math_bits_Mul64_R11 : List AOper := [⟨some 48, none, .mov (.slot 0)⟩,
  ⟨some 49, none, .mov (.slot 1)⟩,
  ⟨some 50, none, .bin .mul (.slot 48) (.slot 49)⟩,
  ⟨some 5, none, .mov (.slot 50)⟩]
def c_math_bits_Mul64 : AFn := ⟨(.seq (.region c_math_bits_Mul64_R0 false [0, 1]) (.seq (.region c_math_bits_Mul64_R1 false [0, 1, 6]) (.seq (.region c_math_bits_Mul64_R2 false [0, 1, 6, 7]) (.seq (.region c_math_bits_Mul64_R3 false [0, 1, 6, 7, 8]) (.seq (.region c_math_bits_Mul64_R4 false [0, 1, 6, 7, 8, 9]) (.seq (.region c_math_bits_Mul64_R5 false [0, 1, 6, 7, 8, 9, 10]) (.seq (.region c_math_bits_Mul64_R6 false [0, 1, 6, 7, 9, 11]) (.seq (.region c_math_bits_Mul64_R7 false [0, 1, 6, 7, 9, 11, 12]) (.seq (.region c_math_bits_Mul64_R8 false [0, 1, 6, 7, 9, 12, 13]) (.seq (.region c_math_bits_Mul64_R9 false [0, 1, 7, 9, 12, 13]) (.seq (.region c_math_bits_Mul64_R10 false [0, 1, 4]) (.seq (.region c_math_bits_Mul64_R11 false [4, 5]) .ret)))))))))))), [.slot 4, .slot 5]⟩
/- math/bits.Mul -/
def c_math_bits_Mul_R0 : List AOper := [⟨some 4, none, .mov (.const (.int .u64 0))⟩,
  ⟨some 5, none, .mov (.const (.int .u64 0))⟩]
def c_math_bits_Mul_R1 : List AOper := [⟨some 11, none, .mov (.slot 0)⟩,
  ⟨some 12, none, .conv .u32 (.slot 11)⟩,
  ⟨some 13, none, .mov (.slot 1)⟩,
  ⟨some 14, none, .conv .u32 (.slot 13)⟩,
  ⟨some 15, none, .call .frz n_math_bits_Mul32 [(.slot 12), (.slot 14)]⟩,
  ⟨some 10, none, .mov (.slot 15)⟩,
  ⟨some 16, none, .extract 0 (.slot 10)⟩,
  ⟨some 17, none, .extract 1 (.slot 10)⟩,
  ⟨some 6, none, .mov (.slot 16)⟩,
  ⟨some 7, none, .mov (.slot 17)⟩]
def c_math_bits_Mul_R2 : List AOper := [⟨some 18, none, .mov (.slot 6)⟩,
  ⟨some 19, none, .conv .u64 (.slot 18)⟩,
  ⟨some 20, none, .mov (.slot 7)⟩,
  ⟨some 21, none, .conv .u64 (.slot 20)⟩,
  ⟨some 4, none, .mov (.slot 19)⟩,
  ⟨some 5, none, .mov (.slot 21)⟩]
def c_math_bits_Mul_R3 : List AOper := [⟨some 23, none, .mov (.slot 0)⟩,
  ⟨some 24, none, .mov (.slot 1)⟩,
  ⟨some 25, none, .call .frz n_math_bits_Mul64 [(.slot 23), (.slot 24)]⟩,
  ⟨some 22, none, .mov (.slot 25)⟩,
  ⟨some 26, none, .extract 0 (.slot 22)⟩,
  ⟨some 27, none, .extract 1 (.slot 22)⟩,
  ⟨some 8, none, .mov (.slot 26)⟩,
  ⟨some 9, none, .mov (.slot 27)⟩]
def c_math_bits_Mul_R4 : List AOper := [⟨some 28, none, .mov (.slot 8)⟩,
  ⟨some 29, none, .mov (.slot 9)⟩,
  ⟨some 4, none, .mov (.slot 28)⟩,
  ⟨some 5, none, .mov (.slot 29)⟩]
def c_math_bits_Mul : AFn := ⟨(.seq (.region c_math_bits_Mul_R0 false [0, 1]) (.seq (.cond (.const (.bool false)) (.seq (.region c_math_bits_Mul_R1 false [6, 7]) (.seq (.region c_math_bits_Mul_R2 false [4, 5]) .ret)) .skip) (.seq (.region c_math_bits_Mul_R3 false [8, 9]) (.seq (.region c_math_bits_Mul_R4 false [4, 5]) .ret)))), [.slot 4, .slot 5]⟩
/- slices.Repeat[[]oriel/api.Cell,oriel/api.Cell] -/
def c_slices_Repeat_Cell_R0 : List AOper := [⟨some 4, none, .mov (.const (.data false 7 [] true))⟩]
def c_slices_Repeat_Cell_R1 : List AOper := [⟨some 9, none, .mov (.slot 1)⟩,
  ⟨some 10, none, .bin .lss (.slot 9) (.const (.int .i64 0))⟩]
def c_slices_Repeat_Cell_R3 : List AOper := [⟨some 13, none, .mov (.slot 0)⟩,
  ⟨some 14, none, .len false (.slot 13)⟩,
  ⟨some 15, none, .conv .u64 (.slot 14)⟩,
  ⟨some 16, none, .mov (.slot 1)⟩,
  ⟨some 17, none, .conv .u64 (.slot 16)⟩,
  ⟨some 18, none, .call .frz n_math_bits_Mul [(.slot 15), (.slot 17)]⟩,
  ⟨some 12, none, .mov (.slot 18)⟩,
  ⟨some 19, none, .extract 0 (.slot 12)⟩,
  ⟨some 20, none, .extract 1 (.slot 12)⟩,
  ⟨some 5, none, .mov (.slot 19)⟩,
  ⟨some 6, none, .mov (.slot 20)⟩]
def c_slices_Repeat_Cell_R4 : List AOper := [⟨some 21, none, .mov (.slot 5)⟩,
  ⟨some 22, none, .bin .gtr (.slot 21) (.const (.int .u64 0))⟩,
  ⟨some 23, none, .mov (.slot 22)⟩,
  ⟨some 24, some (23, false), .mov (.slot 6)⟩,
  ⟨some 25, some (23, false), .bin .gtr (.slot 24) (.const (.int .u64 9223372036854775807))⟩,
  ⟨some 26, none, .pick (.slot 23) (.const (.bool true)) (.slot 25)⟩]
def c_slices_Repeat_Cell_R6 : List AOper := [⟨some 28, none, .mov (.slot 6)⟩,
  ⟨some 29, none, .conv .i64 (.slot 28)⟩,
  ⟨some 30, none, .mkrow 7 48 [.int .i32 0, .int .i32 0, .int .i32 0, .int .i64 0, .int .i64 0, .int .i64 0, .int .i64 0] (.slot 29) (.slot 29)⟩,
  ⟨some 7, none, .mov (.slot 30)⟩]
def c_slices_Repeat_Cell_R7 : List AOper := [⟨some 31, none, .mov (.slot 7)⟩,
  ⟨some 32, none, .mov (.slot 0)⟩,
  ⟨some 33, none, .copy 7 (.slot 31) (.slot 32)⟩,
  ⟨some 8, none, .mov (.slot 33)⟩]
def c_slices_Repeat_Cell_R8 : List AOper := [⟨some 34, none, .mov (.slot 8)⟩,
  ⟨some 35, none, .mov (.slot 7)⟩,
  ⟨some 36, none, .len false (.slot 35)⟩,
  ⟨some 37, none, .bin .lss (.slot 34) (.slot 36)⟩]
def c_slices_Repeat_Cell_R9 : List AOper := [⟨some 38, none, .mov (.slot 8)⟩,
  ⟨some 39, none, .mov (.slot 7)⟩,
  ⟨some 40, none, .mov (.slot 8)⟩,
  ⟨some 41, none, .sl 7 (.slot 39) (some (.slot 40)) none none⟩,
  ⟨some 42, none, .mov (.slot 7)⟩,
  ⟨some 43, none, .mov (.slot 8)⟩,
  ⟨some 44, none, .sl 7 (.slot 42) none (some (.slot 43)) none⟩,
  ⟨some 45, none, .copy 7 (.slot 41) (.slot 44)⟩,
  ⟨some 46, none, .bin .add (.slot 38) (.slot 45)⟩,
  ⟨some 8, none, .mov (.slot 46)⟩]
def c_slices_Repeat_Cell_L0 : ACode := (.seq (.seq (.region c_slices_Repeat_Cell_R8 false [7, 8, 37]) (.cond (.slot 37) .skip (.exit 0))) (.block 1 (.region c_slices_Repeat_Cell_R9 true [7, 8])))
def lp_slices_Repeat_Cell_0 : ACode := .loop [7, 8] c_slices_Repeat_Cell_L0
def c_slices_Repeat_Cell_R10 : List AOper := [⟨some 47, none, .mov (.slot 7)⟩,
  ⟨some 4, none, .mov (.slot 47)⟩]
def c_slices_Repeat_Cell : AFn := ⟨(.seq (.region c_slices_Repeat_Cell_R0 false [0, 1]) (.seq (.seq (.region c_slices_Repeat_Cell_R1 false [0, 1, 10]) (.cond (.slot 10) .dead .skip)) (.seq (.region c_slices_Repeat_Cell_R3 false [0, 5, 6]) (.seq (.seq (.region c_slices_Repeat_Cell_R4 false [0, 6, 26]) (.cond (.slot 26) .dead .skip)) (.seq (.region c_slices_Repeat_Cell_R6 false [0, 7]) (.seq (.region c_slices_Repeat_Cell_R7 false [7, 8]) (.seq (.block 0 lp_slices_Repeat_Cell_0) (.seq (.region c_slices_Repeat_Cell_R10 false [4]) .ret)))))))), [.slot 4]⟩
/- oriel/line.blank -/
def c_line_blank_R0 : List AOper := [⟨some 1, none, .box 3 (.slot 0)⟩,
  ⟨some 2, none, .alloc [.int .i32 0, .int .i32 0, .int .i32 0, .int .i64 0, .int .i64 0, .int .i64 0, .int .i64 0]⟩]
def c_line_blank_R1 : List AOper := [⟨some 3, none, .faddr 2 (.slot 1)⟩,
  ⟨some 4, none, .load false 1 (.slot 3)⟩,
  ⟨some 5, none, .build [.int .i64 0, .int .i64 0, .int .i64 0] [(2, 1, (.slot 4))]⟩,
  ⟨some 6, none, .build [.int .i32 0, .int .i32 0, .int .i32 0, .int .i64 0, .int .i64 0, .int .i64 0, .int .i64 0] [(0, 1, (.const (.int .i32 32))), (4, 3, (.slot 5))]⟩,
  ⟨none, none, .store true 7 (.slot 2) (.slot 6)⟩]
def c_line_blank : AFn := ⟨(.seq (.region c_line_blank_R0 false [1, 2]) (.seq (.region c_line_blank_R1 false [2]) .ret)), [.cell 2 true 7]⟩
/- oriel/line.Blank -/
def c_line_Blank_R0 : List AOper := [⟨some 3, none, .box 3 (.slot 1)⟩,
  ⟨some 4, none, .mov (.const (.data false 7 [] true))⟩]
def c_line_Blank_R1 : List AOper := [⟨some 5, none, .mov (.slot 0)⟩,
  ⟨some 6, none, .bin .lss (.slot 5) (.const (.int .i64 0))⟩,
  ⟨some 7, none, .mov (.slot 6)⟩,
  ⟨some 8, some (7, false), .mov (.slot 0)⟩,
  ⟨some 9, some (7, false), .bin .gtr (.slot 8) (.const (.int .i64 1000))⟩,
  ⟨some 10, none, .pick (.slot 7) (.const (.bool true)) (.slot 9)⟩,
  ⟨some 11, none, .mov (.slot 10)⟩,
  ⟨some 12, some (11, false), .load true 3 (.slot 3)⟩,
  ⟨some 13, some (11, false), .call .frz n_pen_May [(.slot 12)]⟩,
  ⟨some 14, some (11, false), .not (.slot 13)⟩,
  ⟨some 15, none, .pick (.slot 11) (.const (.bool true)) (.slot 14)⟩]
def c_line_Blank_R2 : List AOper := [⟨some 4, none, .mov (.const (.data false 7 [] true))⟩]
def c_line_Blank_R3 : List AOper := [⟨some 16, none, .load true 3 (.slot 3)⟩,
  ⟨some 17, none, .call .frz n_line_blank [(.slot 16)]⟩,
  ⟨some 18, none, .mkslice 7 1 [.int .i32 0, .int .i32 0, .int .i32 0, .int .i64 0, .int .i64 0, .int .i64 0, .int .i64 0] [(0, (.slot 17))]⟩,
  ⟨some 19, none, .mov (.slot 0)⟩,
  ⟨some 20, none, .call .frz n_slices_Repeat_Cell [(.slot 18), (.slot 19)]⟩,
  ⟨some 4, none, .mov (.slot 20)⟩]
def c_line_Blank : AFn := ⟨(.seq (.region c_line_Blank_R0 false [0, 3]) (.seq (.seq (.region c_line_Blank_R1 false [0, 3, 15]) (.cond (.slot 15) (.seq (.region c_line_Blank_R2 false [4]) .ret) .skip)) (.seq (.region c_line_Blank_R3 false [4]) .ret))), [.slot 4]⟩
/- oriel/grid.Scroll -/
def c_grid_Scroll_R0 : List AOper := [⟨some 9, none, .box 3 (.slot 4)⟩,
  ⟨some 10, none, .mov (.const (.data false 1 [] true))⟩]
def c_grid_Scroll_R1 : List AOper := [⟨some 14, none, .mov (.slot 0)⟩,
  ⟨some 15, none, .call .frz n_grid_May [(.slot 14)]⟩,
  ⟨some 16, none, .not (.slot 15)⟩,
  ⟨some 17, none, .mov (.slot 16)⟩,
  ⟨some 18, some (17, false), .load true 3 (.slot 9)⟩,
  ⟨some 19, some (17, false), .call .frz n_pen_May [(.slot 18)]⟩,
  ⟨some 20, some (17, false), .not (.slot 19)⟩,
  ⟨some 21, none, .pick (.slot 17) (.const (.bool true)) (.slot 20)⟩]
def c_grid_Scroll_R2 : List AOper := [⟨some 10, none, .mov (.const (.data false 1 [] true))⟩]
def c_grid_Scroll_R3 : List AOper := [⟨some 22, none, .mov (.slot 0)⟩,
  ⟨some 23, none, .call .adp n_grid_copied [(.slot 22)]⟩,
  ⟨some 11, none, .mov (.slot 23)⟩]
def c_grid_Scroll_R4 : List AOper := [⟨some 24, none, .mov (.slot 1)⟩,
  ⟨some 25, none, .bin .lss (.slot 24) (.const (.int .i64 0))⟩,
  ⟨some 26, none, .mov (.slot 25)⟩,
  ⟨some 27, some (26, false), .mov (.slot 1)⟩,
  ⟨some 28, some (26, false), .mov (.slot 2)⟩,
  ⟨some 29, some (26, false), .bin .gtr (.slot 27) (.slot 28)⟩,
  ⟨some 30, none, .pick (.slot 26) (.const (.bool true)) (.slot 29)⟩,
  ⟨some 31, none, .mov (.slot 30)⟩,
  ⟨some 32, some (31, false), .mov (.slot 2)⟩,
  ⟨some 33, some (31, false), .mov (.slot 0)⟩,
  ⟨some 34, some (31, false), .len false (.slot 33)⟩,
  ⟨some 35, some (31, false), .bin .geq (.slot 32) (.slot 34)⟩,
  ⟨some 36, none, .pick (.slot 31) (.const (.bool true)) (.slot 35)⟩]
def c_grid_Scroll_R5 : List AOper := [⟨some 37, none, .mov (.slot 11)⟩,
  ⟨some 10, none, .mov (.slot 37)⟩]
def c_grid_Scroll_R6 : List AOper := [⟨some 38, none, .mov (.slot 11)⟩,
  ⟨some 39, none, .mov (.slot 1)⟩,
  ⟨some 40, none, .mov (.slot 2)⟩,
  ⟨some 41, none, .bin .add (.slot 40) (.const (.int .i64 1))⟩,
  ⟨some 42, none, .sl 1 (.slot 38) (some (.slot 39)) (some (.slot 41)) none⟩,
  ⟨some 12, none, .mov (.slot 42)⟩]
def c_grid_Scroll_R7 : List AOper := [⟨some 43, none, .mov (.slot 12)⟩,
  ⟨some 44, none, .len false (.slot 43)⟩,
  ⟨some 45, none, .neg (.slot 44)⟩,
  ⟨some 46, none, .mov (.slot 3)⟩,
  ⟨some 47, none, .mov (.slot 12)⟩,
  ⟨some 48, none, .len false (.slot 47)⟩,
  ⟨some 49, none, .min (.slot 46) (.slot 48)⟩,
  ⟨some 50, none, .max (.slot 45) (.slot 49)⟩,
  ⟨some 3, none, .mov (.slot 50)⟩]
def c_grid_Scroll_R8 : List AOper := [⟨some 51, none, .mov (.slot 3)⟩,
  ⟨some 52, none, .bin .geq (.slot 51) (.const (.int .i64 0))⟩]
def c_grid_Scroll_R9 : List AOper := [⟨some 53, none, .mov (.slot 12)⟩,
  ⟨some 54, none, .mov (.slot 12)⟩,
  ⟨some 55, none, .mov (.slot 3)⟩,
  ⟨some 56, none, .sl 1 (.slot 54) (some (.slot 55)) none none⟩,
  ⟨some 57, none, .copy 1 (.slot 53) (.slot 56)⟩]
def c_grid_Scroll_R10 : List AOper := [⟨some 58, none, .mov (.slot 12)⟩,
  ⟨some 59, none, .mov (.slot 12)⟩,
  ⟨some 60, none, .len false (.slot 59)⟩,
  ⟨some 61, none, .mov (.slot 3)⟩,
  ⟨some 62, none, .bin .sub (.slot 60) (.slot 61)⟩,
  ⟨some 63, none, .sl 1 (.slot 58) (some (.slot 62)) none none⟩,
  ⟨some 12, none, .mov (.slot 63)⟩]
def c_grid_Scroll_R11 : List AOper := [⟨some 64, none, .mov (.slot 12)⟩,
  ⟨some 65, none, .mov (.slot 3)⟩,
  ⟨some 66, none, .neg (.slot 65)⟩,
  ⟨some 67, none, .sl 1 (.slot 64) (some (.slot 66)) none none⟩,
  ⟨some 68, none, .mov (.slot 12)⟩,
  ⟨some 69, none, .copy 1 (.slot 67) (.slot 68)⟩]
def c_grid_Scroll_R12 : List AOper := [⟨some 70, none, .mov (.slot 12)⟩,
  ⟨some 71, none, .mov (.slot 3)⟩,
  ⟨some 72, none, .neg (.slot 71)⟩,
  ⟨some 73, none, .sl 1 (.slot 70) none (some (.slot 72)) none⟩,
  ⟨some 12, none, .mov (.slot 73)⟩]
def c_grid_Scroll_R13 : List AOper := [⟨some 74, none, .mov (.slot 12)⟩,
  ⟨some 75, none, .len false (.slot 74)⟩,
  ⟨some 76, none, .mov (.const (.int .i64 0))⟩]
def c_grid_Scroll_R14 : List AOper := [⟨some 77, none, .bin .lss (.slot 76) (.slot 75)⟩]
def c_grid_Scroll_R15 : List AOper := [⟨some 78, none, .mov (.slot 76)⟩,
  ⟨some 13, none, .mov (.slot 78)⟩]
def c_grid_Scroll_R16 : List AOper := [⟨some 79, none, .mov (.slot 12)⟩,
  ⟨some 80, none, .mov (.slot 13)⟩,
  ⟨some 81, none, .mov (.slot 0)⟩,
  ⟨some 82, none, .idx 1 (.slot 81) (.const (.int .i64 0))⟩,
  ⟨some 83, none, .load false 1 (.slot 82)⟩,
  ⟨some 84, none, .len false (.slot 83)⟩,
  ⟨some 85, none, .load true 3 (.slot 9)⟩,
  ⟨some 86, none, .call .frz n_line_Blank [(.slot 84), (.slot 85)]⟩,
  ⟨some 87, none, .idx 1 (.slot 79) (.slot 80)⟩,
  ⟨none, none, .store false 1 (.slot 87) (.slot 86)⟩]
def c_grid_Scroll_R17 : List AOper := [⟨some 88, none, .bin .add (.slot 76) (.const (.int .i64 1))⟩,
  ⟨some 76, none, .mov (.slot 88)⟩]
def c_grid_Scroll_L0 : ACode := (.seq (.region c_grid_Scroll_R14 false [0, 9, 11, 12, 75, 76, 77]) (.seq (.cond (.slot 77) .skip (.exit 0)) (.seq (.block 1 (.seq (.region c_grid_Scroll_R15 false [0, 9, 11, 12, 13, 75, 76]) (.region c_grid_Scroll_R16 true [0, 9, 11, 12, 75, 76]))) (.region c_grid_Scroll_R17 false [0, 9, 11, 12, 75, 76]))))
def lp_grid_Scroll_0 : ACode := .loop [0, 9, 11, 12, 75, 76] c_grid_Scroll_L0
def c_grid_Scroll_R18 : List AOper := [⟨some 89, none, .mov (.slot 11)⟩,
  ⟨some 10, none, .mov (.slot 89)⟩]
def c_grid_Scroll : AFn := ⟨(.seq (.region c_grid_Scroll_R0 false [0, 1, 2, 3, 9]) (.seq (.seq (.region c_grid_Scroll_R1 false [0, 1, 2, 3, 9, 21]) (.cond (.slot 21) (.seq (.region c_grid_Scroll_R2 false [10]) .ret) .skip)) (.seq (.region c_grid_Scroll_R3 false [0, 1, 2, 3, 9, 11]) (.seq (.seq (.region c_grid_Scroll_R4 false [0, 1, 2, 3, 9, 11, 36]) (.cond (.slot 36) (.seq (.region c_grid_Scroll_R5 false [10]) .ret) .skip)) (.seq (.region c_grid_Scroll_R6 false [0, 3, 9, 11, 12]) (.seq (.region c_grid_Scroll_R7 false [0, 3, 9, 11, 12]) (.seq (.seq (.region c_grid_Scroll_R8 false [0, 3, 9, 11, 12, 52]) (.cond (.slot 52) (.seq (.region c_grid_Scroll_R9 false [0, 3, 9, 11, 12]) (.region c_grid_Scroll_R10 false [0, 9, 11, 12])) (.seq (.region c_grid_Scroll_R11 false [0, 3, 9, 11, 12]) (.region c_grid_Scroll_R12 false [0, 9, 11, 12])))) (.seq (.seq (.region c_grid_Scroll_R13 false [0, 9, 11, 12, 75, 76]) (.block 0 lp_grid_Scroll_0)) (.seq (.region c_grid_Scroll_R18 false [10]) .ret))))))))), [.slot 10]⟩
/- oriel/orielref14.Same -/
def c_ref14_Same_R0 : List AOper := [⟨some 4, none, .mov (.const (.bool false))⟩]
def c_ref14_Same_R1 : List AOper := [⟨some 6, none, .mov (.slot 0)⟩,
  ⟨some 7, none, .len false (.slot 6)⟩,
  ⟨some 8, none, .mov (.slot 1)⟩,
  ⟨some 9, none, .len false (.slot 8)⟩,
  ⟨some 10, none, .bin .neq (.slot 7) (.slot 9)⟩]
def c_ref14_Same_R2 : List AOper := [⟨some 4, none, .mov (.const (.bool false))⟩]
def c_ref14_Same_R3 : List AOper := [⟨some 5, none, .mov (.const (.int .i64 0))⟩]
def c_ref14_Same_R4 : List AOper := [⟨some 11, none, .mov (.slot 5)⟩,
  ⟨some 12, none, .mov (.slot 0)⟩,
  ⟨some 13, none, .len false (.slot 12)⟩,
  ⟨some 14, none, .bin .lss (.slot 11) (.slot 13)⟩]
def c_ref14_Same_R6 : List AOper := [⟨some 17, none, .mov (.slot 0)⟩,
  ⟨some 18, none, .mov (.slot 5)⟩,
  ⟨some 19, none, .idx 7 (.slot 17) (.slot 18)⟩,
  ⟨some 20, none, .load true 7 (.slot 19)⟩,
  ⟨some 21, none, .mov (.slot 1)⟩,
  ⟨some 22, none, .mov (.slot 5)⟩,
  ⟨some 23, none, .idx 7 (.slot 21) (.slot 22)⟩,
  ⟨some 24, none, .load true 7 (.slot 23)⟩,
  ⟨some 25, none, .eq true [.ki, .ki, .ki, .ki, .ki, .ki, .ki] true (.slot 20) (.slot 24)⟩]
def c_ref14_Same_R7 : List AOper := [⟨some 4, none, .mov (.const (.bool false))⟩]
def c_ref14_Same_R5 : List AOper := [⟨some 15, none, .mov (.slot 5)⟩,
  ⟨some 16, none, .bin .add (.slot 15) (.const (.int .i64 1))⟩,
  ⟨some 5, none, .mov (.slot 16)⟩]
def c_ref14_Same_L0 : ACode := (.seq (.seq (.region c_ref14_Same_R4 false [0, 1, 5, 14]) (.cond (.slot 14) .skip (.exit 0))) (.seq (.block 1 (.seq (.region c_ref14_Same_R6 true [0, 1, 5, 25]) (.cond (.slot 25) (.seq (.region c_ref14_Same_R7 false [4]) .ret) .skip))) (.region c_ref14_Same_R5 false [0, 1, 5])))
def lp_ref14_Same_0 : ACode := .loop [0, 1, 5] c_ref14_Same_L0
def c_ref14_Same_R8 : List AOper := [⟨some 4, none, .mov (.const (.bool true))⟩]
def c_ref14_Same : AFn := ⟨(.seq (.region c_ref14_Same_R0 false [0, 1]) (.seq (.seq (.region c_ref14_Same_R1 false [0, 1, 10]) (.cond (.slot 10) (.seq (.region c_ref14_Same_R2 false [4]) .ret) .skip)) (.seq (.seq (.region c_ref14_Same_R3 false [0, 1, 5]) (.block 0 lp_ref14_Same_0)) (.seq (.region c_ref14_Same_R8 false [4]) .ret)))), [.slot 4]⟩
/- oriel/orielref15.Same -/
def c_ref15_Same_R0 : List AOper := [⟨some 4, none, .mov (.const (.bool false))⟩]
def c_ref15_Same_R1 : List AOper := [⟨some 6, none, .mov (.slot 0)⟩,
  ⟨some 7, none, .len false (.slot 6)⟩,
  ⟨some 8, none, .mov (.slot 1)⟩,
  ⟨some 9, none, .len false (.slot 8)⟩,
  ⟨some 10, none, .bin .neq (.slot 7) (.slot 9)⟩]
def c_ref15_Same_R2 : List AOper := [⟨some 4, none, .mov (.const (.bool false))⟩]
def c_ref15_Same_R3 : List AOper := [⟨some 5, none, .mov (.const (.int .i64 0))⟩]
def c_ref15_Same_R4 : List AOper := [⟨some 11, none, .mov (.slot 5)⟩,
  ⟨some 12, none, .mov (.slot 0)⟩,
  ⟨some 13, none, .len false (.slot 12)⟩,
  ⟨some 14, none, .bin .lss (.slot 11) (.slot 13)⟩]
def c_ref15_Same_R6 : List AOper := [⟨some 17, none, .mov (.slot 0)⟩,
  ⟨some 18, none, .mov (.slot 5)⟩,
  ⟨some 19, none, .idx 1 (.slot 17) (.slot 18)⟩,
  ⟨some 20, none, .load false 1 (.slot 19)⟩,
  ⟨some 21, none, .mov (.slot 1)⟩,
  ⟨some 22, none, .mov (.slot 5)⟩,
  ⟨some 23, none, .idx 1 (.slot 21) (.slot 22)⟩,
  ⟨some 24, none, .load false 1 (.slot 23)⟩,
  ⟨some 25, none, .call .frz n_ref14_Same [(.slot 20), (.slot 24)]⟩,
  ⟨some 26, none, .not (.slot 25)⟩]
def c_ref15_Same_R7 : List AOper := [⟨some 4, none, .mov (.const (.bool false))⟩]
def c_ref15_Same_R5 : List AOper := [⟨some 15, none, .mov (.slot 5)⟩,
  ⟨some 16, none, .bin .add (.slot 15) (.const (.int .i64 1))⟩,
  ⟨some 5, none, .mov (.slot 16)⟩]
def c_ref15_Same_L0 : ACode := (.seq (.seq (.region c_ref15_Same_R4 false [0, 1, 5, 14]) (.cond (.slot 14) .skip (.exit 0))) (.seq (.block 1 (.seq (.region c_ref15_Same_R6 true [0, 1, 5, 26]) (.cond (.slot 26) (.seq (.region c_ref15_Same_R7 false [4]) .ret) .skip))) (.region c_ref15_Same_R5 false [0, 1, 5])))
def lp_ref15_Same_0 : ACode := .loop [0, 1, 5] c_ref15_Same_L0
def c_ref15_Same_R8 : List AOper := [⟨some 4, none, .mov (.const (.bool true))⟩]
def c_ref15_Same : AFn := ⟨(.seq (.region c_ref15_Same_R0 false [0, 1]) (.seq (.seq (.region c_ref15_Same_R1 false [0, 1, 10]) (.cond (.slot 10) (.seq (.region c_ref15_Same_R2 false [4]) .ret) .skip)) (.seq (.seq (.region c_ref15_Same_R3 false [0, 1, 5]) (.block 0 lp_ref15_Same_0)) (.seq (.region c_ref15_Same_R8 false [4]) .ret)))), [.slot 4]⟩
/- oriel/grid.Erase'1 -/
def c_grid_Erase_1_R0 : List AOper := [⟨some 2, none, .box 2 (.slot 0)⟩,
  ⟨some 3, none, .mov (.const (.bool false))⟩]
def c_grid_Erase_1_R1 : List AOper := [⟨some 4, none, .idxarr 1 2 (.slot 2) (.const (.int .i64 0))⟩,
  ⟨some 5, none, .load false 1 (.slot 4)⟩,
  ⟨some 6, none, .bin .geq (.slot 5) (.const (.int .i64 0))⟩,
  ⟨some 7, none, .mov (.slot 6)⟩,
  ⟨some 8, some (7, true), .idxarr 1 2 (.slot 2) (.const (.int .i64 0))⟩,
  ⟨some 9, some (7, true), .load false 1 (.slot 8)⟩,
  ⟨some 10, some (7, true), .load false 1 (.slot 1)⟩,
  ⟨some 11, some (7, true), .len false (.slot 10)⟩,
  ⟨some 12, some (7, true), .bin .lss (.slot 9) (.slot 11)⟩,
  ⟨some 13, none, .pick (.slot 7) (.slot 12) (.const (.bool false))⟩,
  ⟨some 14, none, .mov (.slot 13)⟩,
  ⟨some 15, some (14, true), .idxarr 1 2 (.slot 2) (.const (.int .i64 1))⟩,
  ⟨some 16, some (14, true), .load false 1 (.slot 15)⟩,
  ⟨some 17, some (14, true), .bin .geq (.slot 16) (.const (.int .i64 0))⟩,
  ⟨some 18, none, .pick (.slot 14) (.slot 17) (.const (.bool false))⟩,
  ⟨some 19, none, .mov (.slot 18)⟩,
  ⟨some 20, some (19, true), .idxarr 1 2 (.slot 2) (.const (.int .i64 1))⟩,
  ⟨some 21, some (19, true), .load false 1 (.slot 20)⟩,
  ⟨some 22, some (19, true), .load false 1 (.slot 1)⟩,
  ⟨some 23, some (19, true), .idx 1 (.slot 22) (.const (.int .i64 0))⟩,
  ⟨some 24, some (19, true), .load false 1 (.slot 23)⟩,
  ⟨some 25, some (19, true), .len false (.slot 24)⟩,
  ⟨some 26, some (19, true), .bin .lss (.slot 21) (.slot 25)⟩,
  ⟨some 27, none, .pick (.slot 19) (.slot 26) (.const (.bool false))⟩,
  ⟨some 3, none, .mov (.slot 27)⟩]
def c_grid_Erase_1 : AFn := ⟨(.seq (.region c_grid_Erase_1_R0 false [1, 2]) (.seq (.region c_grid_Erase_1_R1 true [3]) .ret)), [.slot 3]⟩
/- oriel/line.fine -/
def c_line_fine_R0 : List AOper := [⟨some 3, none, .box 3 (.slot 1)⟩,
  ⟨some 4, none, .mov (.const (.bool false))⟩]
def c_line_fine_R1 : List AOper := [⟨some 5, none, .mov (.slot 0)⟩,
  ⟨some 6, none, .call .frz n_line_May [(.slot 5)]⟩,
  ⟨some 7, none, .mov (.slot 6)⟩,
  ⟨some 8, some (7, true), .load true 3 (.slot 3)⟩,
  ⟨some 9, some (7, true), .call .frz n_pen_May [(.slot 8)]⟩,
  ⟨some 10, none, .pick (.slot 7) (.slot 9) (.const (.bool false))⟩,
  ⟨some 4, none, .mov (.slot 10)⟩]
def c_line_fine : AFn := ⟨(.seq (.region c_line_fine_R0 false [0, 3]) (.seq (.region c_line_fine_R1 false [4]) .ret)), [.slot 4]⟩
/- oriel/line.torn -/
def c_line_torn_R0 : List AOper := [⟨some 4, none, .mov (.slot 1)⟩,
  ⟨some 5, none, .bin .gtr (.slot 4) (.const (.int .i64 0))⟩,
  ⟨some 6, none, .mov (.slot 5)⟩,
  ⟨some 7, some (6, true), .mov (.slot 1)⟩,
  ⟨some 8, some (6, true), .mov (.slot 0)⟩,
  ⟨some 9, some (6, true), .len false (.slot 8)⟩,
  ⟨some 10, some (6, true), .bin .lss (.slot 7) (.slot 9)⟩,
  ⟨some 11, none, .pick (.slot 6) (.slot 10) (.const (.bool false))⟩,
  ⟨some 12, none, .mov (.slot 11)⟩,
  ⟨some 13, some (12, true), .mov (.slot 0)⟩,
  ⟨some 14, some (12, true), .mov (.slot 1)⟩,
  ⟨some 15, some (12, true), .idx 7 (.slot 13) (.slot 14)⟩,
  ⟨some 16, some (12, true), .faddr 3 (.slot 15)⟩,
  ⟨some 17, some (12, true), .load false 1 (.slot 16)⟩,
  ⟨some 18, some (12, true), .bin .eql (.slot 17) (.const (.int .i64 2))⟩,
  ⟨some 19, none, .pick (.slot 12) (.slot 18) (.const (.bool false))⟩]
def c_line_torn_R1 : List AOper := [⟨some 20, none, .mov (.slot 0)⟩,
  ⟨some 21, none, .mov (.slot 1)⟩,
  ⟨some 22, none, .bin .sub (.slot 21) (.const (.int .i64 1))⟩,
  ⟨some 23, none, .mov (.slot 0)⟩,
  ⟨some 24, none, .mov (.slot 1)⟩,
  ⟨some 25, none, .mov (.slot 0)⟩,
  ⟨some 26, none, .mov (.slot 1)⟩,
  ⟨some 27, none, .bin .sub (.slot 26) (.const (.int .i64 1))⟩,
  ⟨some 28, none, .idx 7 (.slot 25) (.slot 27)⟩,
  ⟨some 29, none, .faddr 4 (.slot 28)⟩,
  ⟨some 30, none, .load true 3 (.slot 29)⟩,
  ⟨some 31, none, .call .frz n_line_blank [(.slot 30)]⟩,
  ⟨some 32, none, .mov (.slot 0)⟩,
  ⟨some 33, none, .mov (.slot 1)⟩,
  ⟨some 34, none, .idx 7 (.slot 32) (.slot 33)⟩,
  ⟨some 35, none, .faddr 4 (.slot 34)⟩,
  ⟨some 36, none, .load true 3 (.slot 35)⟩,
  ⟨some 37, none, .call .frz n_line_blank [(.slot 36)]⟩,
  ⟨some 38, none, .idx 7 (.slot 20) (.slot 22)⟩,
  ⟨none, none, .store true 7 (.slot 38) (.slot 31)⟩,
  ⟨some 39, none, .idx 7 (.slot 23) (.slot 24)⟩,
  ⟨none, none, .store true 7 (.slot 39) (.slot 37)⟩]
def c_line_torn : AFn := ⟨(.seq (.region c_line_torn_R0 false [0, 1, 19]) (.cond (.slot 19) (.region c_line_torn_R1 true []) .skip)), []⟩
/- oriel/line.Erase -/
def c_line_Erase_R0 : List AOper := [⟨some 7, none, .box 3 (.slot 3)⟩,
  ⟨some 8, none, .mov (.const (.data false 7 [] true))⟩]
def c_line_Erase_R1 : List AOper := [⟨some 10, none, .mov (.slot 0)⟩,
  ⟨some 11, none, .load true 3 (.slot 7)⟩,
  ⟨some 12, none, .call .frz n_line_fine [(.slot 10), (.slot 11)]⟩,
  ⟨some 13, none, .not (.slot 12)⟩]
def c_line_Erase_R2 : List AOper := [⟨some 8, none, .mov (.const (.data false 7 [] true))⟩]
def c_line_Erase_R3 : List AOper := [⟨some 14, none, .mov (.slot 0)⟩,
  ⟨some 15, none, .call .adp n_slices_Clone_Cell [(.slot 14)]⟩,
  ⟨some 9, none, .mov (.slot 15)⟩]
def c_line_Erase_R4 : List AOper := [⟨some 16, none, .mov (.slot 1)⟩,
  ⟨some 17, none, .max (.const (.int .i64 0)) (.slot 16)⟩,
  ⟨some 18, none, .mov (.slot 2)⟩,
  ⟨some 19, none, .mov (.slot 0)⟩,
  ⟨some 20, none, .len false (.slot 19)⟩,
  ⟨some 21, none, .min (.slot 18) (.slot 20)⟩,
  ⟨some 1, none, .mov (.slot 17)⟩,
  ⟨some 2, none, .mov (.slot 21)⟩]
def c_line_Erase_R5 : List AOper := [⟨some 22, none, .mov (.slot 1)⟩,
  ⟨some 23, none, .mov (.slot 2)⟩,
  ⟨some 24, none, .bin .geq (.slot 22) (.slot 23)⟩]
def c_line_Erase_R6 : List AOper := [⟨some 25, none, .mov (.slot 9)⟩,
  ⟨some 8, none, .mov (.slot 25)⟩]
def c_line_Erase_R7 : List AOper := [⟨some 26, none, .mov (.slot 9)⟩,
  ⟨some 27, none, .mov (.slot 1)⟩,
  ⟨some 28, none, .call .inl n_line_torn [(.slot 26), (.slot 27)]⟩]
def c_line_Erase_R8 : List AOper := [⟨some 29, none, .mov (.slot 9)⟩,
  ⟨some 30, none, .mov (.slot 2)⟩,
  ⟨some 31, none, .call .inl n_line_torn [(.slot 29), (.slot 30)]⟩]
def c_line_Erase_R9 : List AOper := [⟨some 32, none, .mov (.slot 9)⟩,
  ⟨some 33, none, .mov (.slot 1)⟩,
  ⟨some 34, none, .mov (.slot 2)⟩,
  ⟨some 35, none, .sl 7 (.slot 32) (some (.slot 33)) (some (.slot 34)) none⟩,
  ⟨some 36, none, .mov (.slot 2)⟩,
  ⟨some 37, none, .mov (.slot 1)⟩,
  ⟨some 38, none, .bin .sub (.slot 36) (.slot 37)⟩,
  ⟨some 39, none, .load true 3 (.slot 7)⟩,
  ⟨some 40, none, .call .frz n_line_Blank [(.slot 38), (.slot 39)]⟩,
  ⟨some 41, none, .copy 7 (.slot 35) (.slot 40)⟩]
def c_line_Erase_R10 : List AOper := [⟨some 42, none, .mov (.slot 9)⟩,
  ⟨some 8, none, .mov (.slot 42)⟩]
def c_line_Erase : AFn := ⟨(.seq (.region c_line_Erase_R0 false [0, 1, 2, 7]) (.seq (.seq (.region c_line_Erase_R1 false [0, 1, 2, 7, 13]) (.cond (.slot 13) (.seq (.region c_line_Erase_R2 false [8]) .ret) .skip)) (.seq (.region c_line_Erase_R3 false [0, 1, 2, 7, 9]) (.seq (.region c_line_Erase_R4 false [1, 2, 7, 9]) (.seq (.seq (.region c_line_Erase_R5 false [1, 2, 7, 9, 24]) (.cond (.slot 24) (.seq (.region c_line_Erase_R6 false [8]) .ret) .skip)) (.seq (.region c_line_Erase_R7 false [1, 2, 7, 9]) (.seq (.region c_line_Erase_R8 false [1, 2, 7, 9]) (.seq (.region c_line_Erase_R9 true [9]) (.seq (.region c_line_Erase_R10 false [8]) .ret))))))))), [.slot 8]⟩
/- oriel/grid.Erase -/
def c_grid_Erase_R0 : List AOper := [⟨some 4, none, .box 1 (.slot 0)⟩,
  ⟨some 5, none, .box 2 (.slot 1)⟩,
  ⟨some 6, none, .box 2 (.slot 2)⟩,
  ⟨some 7, none, .box 3 (.slot 3)⟩,
  ⟨some 8, none, .mov (.const (.data false 1 [] true))⟩]
def c_grid_Erase_R1 : List AOper := [⟨some 14, none, .load false 1 (.slot 4)⟩,
  ⟨some 15, none, .call .frz n_grid_May [(.slot 14)]⟩,
  ⟨some 16, none, .not (.slot 15)⟩,
  ⟨some 17, none, .mov (.slot 16)⟩,
  ⟨some 18, some (17, false), .load true 3 (.slot 7)⟩,
  ⟨some 19, some (17, false), .call .frz n_pen_May [(.slot 18)]⟩,
  ⟨some 20, some (17, false), .not (.slot 19)⟩,
  ⟨some 21, none, .pick (.slot 17) (.const (.bool true)) (.slot 20)⟩]
def c_grid_Erase_R2 : List AOper := [⟨some 8, none, .mov (.const (.data false 1 [] true))⟩]
def c_grid_Erase_R3 : List AOper := [⟨some 22, none, .load false 1 (.slot 4)⟩,
  ⟨some 23, none, .call .adp n_grid_copied [(.slot 22)]⟩,
  ⟨some 9, none, .mov (.slot 23)⟩]
def c_grid_Erase_R4 : List AOper := [⟨some 24, none, .mkfn (.func n_grid_Erase_1) [] [(.slot 4)]⟩,
  ⟨some 10, none, .mov (.slot 24)⟩]
def c_grid_Erase_R5 : List AOper := [⟨some 25, none, .mov (.slot 10)⟩,
  ⟨some 26, none, .load true 2 (.slot 5)⟩,
  ⟨some 27, none, .callv (.slot 25) [(.slot 26)]⟩,
  ⟨some 28, none, .not (.slot 27)⟩,
  ⟨some 29, none, .mov (.slot 28)⟩,
  ⟨some 30, some (29, false), .mov (.slot 10)⟩,
  ⟨some 31, some (29, false), .load true 2 (.slot 6)⟩,
  ⟨some 32, some (29, false), .callv (.slot 30) [(.slot 31)]⟩,
  ⟨some 33, some (29, false), .not (.slot 32)⟩,
  ⟨some 34, none, .pick (.slot 29) (.const (.bool true)) (.slot 33)⟩]
def c_grid_Erase_R6 : List AOper := [⟨some 35, none, .mov (.slot 9)⟩,
  ⟨some 8, none, .mov (.slot 35)⟩]
def c_grid_Erase_R7 : List AOper := [⟨some 36, none, .idxarr 1 2 (.slot 5) (.const (.int .i64 0))⟩,
  ⟨some 37, none, .load false 1 (.slot 36)⟩,
  ⟨some 11, none, .mov (.slot 37)⟩]
def c_grid_Erase_R8 : List AOper := [⟨some 38, none, .mov (.slot 11)⟩,
  ⟨some 39, none, .idxarr 1 2 (.slot 6) (.const (.int .i64 0))⟩,
  ⟨some 40, none, .load false 1 (.slot 39)⟩,
  ⟨some 41, none, .bin .leq (.slot 38) (.slot 40)⟩]
def c_grid_Erase_R10 : List AOper := [⟨some 44, none, .load false 1 (.slot 4)⟩,
  ⟨some 45, none, .idx 1 (.slot 44) (.const (.int .i64 0))⟩,
  ⟨some 46, none, .load false 1 (.slot 45)⟩,
  ⟨some 47, none, .len false (.slot 46)⟩,
  ⟨some 12, none, .mov (.const (.int .i64 0))⟩,
  ⟨some 13, none, .mov (.slot 47)⟩]
def c_grid_Erase_R11 : List AOper := [⟨some 48, none, .mov (.slot 11)⟩,
  ⟨some 49, none, .idxarr 1 2 (.slot 5) (.const (.int .i64 0))⟩,
  ⟨some 50, none, .load false 1 (.slot 49)⟩,
  ⟨some 51, none, .bin .eql (.slot 48) (.slot 50)⟩]
def c_grid_Erase_R12 : List AOper := [⟨some 52, none, .idxarr 1 2 (.slot 5) (.const (.int .i64 1))⟩,
  ⟨some 53, none, .load false 1 (.slot 52)⟩,
  ⟨some 12, none, .mov (.slot 53)⟩]
def c_grid_Erase_R13 : List AOper := [⟨some 54, none, .mov (.slot 11)⟩,
  ⟨some 55, none, .idxarr 1 2 (.slot 6) (.const (.int .i64 0))⟩,
  ⟨some 56, none, .load false 1 (.slot 55)⟩,
  ⟨some 57, none, .bin .eql (.slot 54) (.slot 56)⟩]
def c_grid_Erase_R14 : List AOper := [⟨some 58, none, .idxarr 1 2 (.slot 6) (.const (.int .i64 1))⟩,
  ⟨some 59, none, .load false 1 (.slot 58)⟩,
  ⟨some 60, none, .bin .add (.slot 59) (.const (.int .i64 1))⟩,
  ⟨some 13, none, .mov (.slot 60)⟩]
def c_grid_Erase_R15 : List AOper := [⟨some 61, none, .mov (.slot 9)⟩,
  ⟨some 62, none, .mov (.slot 11)⟩,
  ⟨some 63, none, .mov (.slot 9)⟩,
  ⟨some 64, none, .mov (.slot 11)⟩,
  ⟨some 65, none, .idx 1 (.slot 63) (.slot 64)⟩,
  ⟨some 66, none, .load false 1 (.slot 65)⟩,
  ⟨some 67, none, .mov (.slot 12)⟩,
  ⟨some 68, none, .mov (.slot 13)⟩,
  ⟨some 69, none, .load true 3 (.slot 7)⟩,
  ⟨some 70, none, .call .frz n_line_Erase [(.slot 66), (.slot 67), (.slot 68), (.slot 69)]⟩,
  ⟨some 71, none, .idx 1 (.slot 61) (.slot 62)⟩,
  ⟨none, none, .store false 1 (.slot 71) (.slot 70)⟩]
def c_grid_Erase_R9 : List AOper := [⟨some 42, none, .mov (.slot 11)⟩,
  ⟨some 43, none, .bin .add (.slot 42) (.const (.int .i64 1))⟩,
  ⟨some 11, none, .mov (.slot 43)⟩]
def c_grid_Erase_L0 : ACode := (.seq (.seq (.region c_grid_Erase_R8 false [4, 5, 6, 7, 9, 11, 41]) (.cond (.slot 41) .skip (.exit 0))) (.seq (.block 1 (.seq (.region c_grid_Erase_R10 true [4, 5, 6, 7, 9, 11, 12, 13]) (.seq (.seq (.region c_grid_Erase_R11 false [4, 5, 6, 7, 9, 11, 12, 13, 51]) (.cond (.slot 51) (.region c_grid_Erase_R12 false [4, 5, 6, 7, 9, 11, 12, 13]) .skip)) (.seq (.seq (.region c_grid_Erase_R13 false [4, 5, 6, 7, 9, 11, 12, 13, 57]) (.cond (.slot 57) (.region c_grid_Erase_R14 false [4, 5, 6, 7, 9, 11, 12, 13]) .skip)) (.region c_grid_Erase_R15 true [4, 5, 6, 7, 9, 11]))))) (.region c_grid_Erase_R9 false [4, 5, 6, 7, 9, 11])))
def lp_grid_Erase_0 : ACode := .loop [4, 5, 6, 7, 9, 11] c_grid_Erase_L0
def c_grid_Erase_R16 : List AOper := [⟨some 72, none, .mov (.slot 9)⟩,
  ⟨some 8, none, .mov (.slot 72)⟩]
def c_grid_Erase : AFn := ⟨(.seq (.region c_grid_Erase_R0 false [4, 5, 6, 7]) (.seq (.seq (.region c_grid_Erase_R1 false [4, 5, 6, 7, 21]) (.cond (.slot 21) (.seq (.region c_grid_Erase_R2 false [8]) .ret) .skip)) (.seq (.region c_grid_Erase_R3 false [4, 5, 6, 7, 9]) (.seq (.region c_grid_Erase_R4 false [4, 5, 6, 7, 9, 10]) (.seq (.seq (.region c_grid_Erase_R5 false [4, 5, 6, 7, 9, 34]) (.cond (.slot 34) (.seq (.region c_grid_Erase_R6 false [8]) .ret) .skip)) (.seq (.seq (.region c_grid_Erase_R7 false [4, 5, 6, 7, 9, 11]) (.block 0 lp_grid_Erase_0)) (.seq (.region c_grid_Erase_R16 false [8]) .ret))))))), [.slot 8]⟩
/- oriel/oriellaw15.abc -/
def c_law15_abc_R0 : List AOper := [⟨some 0, none, .mov (.const (.data false 1 [] true))⟩]
def c_law15_abc_R1 : List AOper := [⟨some 1, none, .build [.int .i32 0, .int .i32 0, .int .i32 0, .int .i64 0, .int .i64 0, .int .i64 0, .int .i64 0] [(0, 1, (.const (.int .i32 97)))]⟩,
  ⟨some 2, none, .mkdata 7 1 [.int .i32 0, .int .i32 0, .int .i32 0, .int .i64 0, .int .i64 0, .int .i64 0, .int .i64 0] [(0, (.slot 1))]⟩,
  ⟨some 3, none, .build [.int .i32 0, .int .i32 0, .int .i32 0, .int .i64 0, .int .i64 0, .int .i64 0, .int .i64 0] [(0, 1, (.const (.int .i32 98)))]⟩,
  ⟨some 4, none, .mkdata 7 1 [.int .i32 0, .int .i32 0, .int .i32 0, .int .i64 0, .int .i64 0, .int .i64 0, .int .i64 0] [(0, (.slot 3))]⟩,
  ⟨some 5, none, .build [.int .i32 0, .int .i32 0, .int .i32 0, .int .i64 0, .int .i64 0, .int .i64 0, .int .i64 0] [(0, 1, (.const (.int .i32 99)))]⟩,
  ⟨some 6, none, .mkdata 7 1 [.int .i32 0, .int .i32 0, .int .i32 0, .int .i64 0, .int .i64 0, .int .i64 0, .int .i64 0] [(0, (.slot 5))]⟩,
  ⟨some 7, none, .mkslice 1 3 [.data false 7 [] true] [(0, (.slot 2)), (1, (.slot 4)), (2, (.slot 6))]⟩,
  ⟨some 0, none, .mov (.slot 7)⟩]
def c_law15_abc : AFn := ⟨(.seq (.region c_law15_abc_R0 false []) (.seq (.region c_law15_abc_R1 false [0]) .ret)), [.slot 0]⟩
/- oriel/oriellaw15.known -/
def c_law15_known_R0 : List AOper := [⟨some 0, none, .mov (.const (.bool false))⟩]
def c_law15_known_R1 : List AOper := [⟨some 3, none, .build [.int .i32 0, .int .i32 0, .int .i32 0, .int .i64 0, .int .i64 0, .int .i64 0, .int .i64 0] [(0, 1, (.const (.int .i32 32)))]⟩,
  ⟨some 4, none, .mkdata 7 1 [.int .i32 0, .int .i32 0, .int .i32 0, .int .i64 0, .int .i64 0, .int .i64 0, .int .i64 0] [(0, (.slot 3))]⟩,
  ⟨some 1, none, .mov (.slot 4)⟩]
def c_law15_known_R2 : List AOper := [⟨some 5, none, .call .frz n_law15_abc []⟩,
  ⟨some 2, none, .mov (.slot 5)⟩]
def c_law15_known_R3 : List AOper := ⟨some 6, none, .mov (.slot 2)⟩ ::
  ⟨some 7, none, .call .frz n_grid_May [(.slot 6)]⟩ ::
  ⟨some 8, none, .mov (.slot 7)⟩ ::
  ⟨some 9, some (8, true), .mov (.slot 2)⟩ ::
  ⟨some 10, some (8, true), .build [.int .i64 0, .int .i64 0, .int .i64 0] []⟩ ::
  ⟨some 11, some (8, true), .call .frz n_grid_Scroll [(.slot 9), (.const (.int .i64 0)), (.const (.int .i64 2)), (.const (.int .i64 1)), (.slot 10)]⟩ ::
  ⟨some 12, some (8, true), .mov (.slot 2)⟩ ::
  ⟨some 13, some (8, true), .idx 1 (.slot 12) (.const (.int .i64 1))⟩ ::
  ⟨some 14, some (8, true), .load false 1 (.slot 13)⟩ ::
  ⟨some 15, some (8, true), .mov (.slot 2)⟩ ::
  ⟨some 16, some (8, true), .idx 1 (.slot 15) (.const (.int .i64 2))⟩ ::
  ⟨some 17, some (8, true), .load false 1 (.slot 16)⟩ ::
  ⟨some 18, some (8, true), .mov (.slot 1)⟩ ::
  ⟨some 19, some (8, true), .mkslice 1 3 [.data false 7 [] true] [(0, (.slot 14)), (1, (.slot 17)), (2, (.slot 18))]⟩ ::
  ⟨some 20, some (8, true), .call .frz n_ref15_Same [(.slot 11), (.slot 19)]⟩ ::
  ⟨some 21, none, .pick (.slot 8) (.slot 20) (.const (.bool false))⟩ ::
  ⟨some 22, none, .mov (.slot 21)⟩ ::
  ⟨some 23, some (22, true), .mov (.slot 2)⟩ ::
  ⟨some 24, some (22, true), .build [.int .i64 0, .int .i64 0, .int .i64 0] []⟩ ::
  ⟨some 25, some (22, true), .call .frz n_grid_Scroll [(.slot 23), (.const (.int .i64 0)), (.const (.int .i64 2)), (.const (.int .i64 (-2))), (.slot 24)]⟩ ::
  ⟨some 26, some (22, true), .mov (.slot 1)⟩ ::
  ⟨some 27, some (22, true), .mov (.slot 1)⟩ ::
  ⟨some 28, some (22, true), .mov (.slot 2)⟩ ::
  ⟨some 29, some (22, true), .idx 1 (.slot 28) (.const (.int .i64 0))⟩ ::
  ⟨some 30, some (22, true), .load false 1 (.slot 29)⟩ ::
  ⟨some 31, some (22, true), .mkslice 1 3 [.data false 7 [] true] [(0, (.slot 26)), (1, (.slot 27)), (2, (.slot 30))]⟩ ::
  ⟨some 32, some (22, true), .call .frz n_ref15_Same [(.slot 25), (.slot 31)]⟩ ::
  ⟨some 33, none, .pick (.slot 22) (.slot 32) (.const (.bool false))⟩ ::
  ⟨some 34, none, .mov (.slot 33)⟩ ::
  ⟨some 35, some (34, true), .mov (.slot 2)⟩ ::
  ⟨some 36, some (34, true), .build [.int .i64 0, .int .i64 0] [(0, 1, (.const (.int .i64 0))), (1, 1, (.const (.int .i64 0)))]⟩ ::
  ⟨some 37, some (34, true), .build [.int .i64 0, .int .i64 0] [(0, 1, (.const (.int .i64 1))), (1, 1, (.const (.int .i64 0)))]⟩ ::
  ⟨some 38, some (34, true), .build [.int .i64 0, .int .i64 0, .int .i64 0] []⟩ ::
  ⟨some 39, some (34, true), .call .frz n_grid_Erase [(.slot 35), (.slot 36), (.slot 37), (.slot 38)]⟩ ::
  ⟨some 40, some (34, true), .mov (.slot 1)⟩ ::
  ⟨some 41, some (34, true), .mov (.slot 1)⟩ ::
  ⟨some 42, some (34, true), .mov (.slot 2)⟩ ::
  ⟨some 43, some (34, true), .idx 1 (.slot 42) (.const (.int .i64 2))⟩ ::
  ⟨some 44, some (34, true), .load false 1 (.slot 43)⟩ ::
  ⟨some 45, some (34, true), .mkslice 1 3 [.data false 7 [] true] [(0, (.slot 40)), (1, (.slot 41)), (2, (.slot 44))]⟩ ::
  ⟨some 46, some (34, true), .call .frz n_ref15_Same [(.slot 39), (.slot 45)]⟩ ::
  ⟨some 47, none, .pick (.slot 34) (.slot 46) (.const (.bool false))⟩ ::
  ⟨some 0, none, .mov (.slot 47)⟩ :: []
def c_law15_known : AFn := ⟨(.seq (.region c_law15_known_R0 false []) (.seq (.region c_law15_known_R1 false [1]) (.seq (.region c_law15_known_R2 false [1, 2]) (.seq (.region c_law15_known_R3 true [0]) .ret)))), [.slot 0]⟩
/- oriel/oriellaw15.great -/
def c_law15_great_R0 : List AOper := [⟨some 2, none, .mov (.const (.bool false))⟩]
def c_law15_great_R1 : List AOper := [⟨some 5, none, .mov (.slot 0)⟩,
  ⟨some 6, none, .len false (.slot 5)⟩,
  ⟨some 7, none, .bin .gtr (.slot 6) (.const (.int .i64 210))⟩]
def c_law15_great_R2 : List AOper := [⟨some 2, none, .mov (.const (.bool true))⟩]
def c_law15_great_R3 : List AOper := [⟨some 3, none, .mov (.const (.int .i64 0))⟩]
def c_law15_great_R4 : List AOper := [⟨some 4, none, .mov (.const (.int .i64 0))⟩]
def c_law15_great_R5 : List AOper := [⟨some 8, none, .mov (.slot 4)⟩,
  ⟨some 9, none, .mov (.slot 0)⟩,
  ⟨some 10, none, .len false (.slot 9)⟩,
  ⟨some 11, none, .bin .lss (.slot 8) (.slot 10)⟩]
def c_law15_great_R7 : List AOper := [⟨some 14, none, .mov (.slot 0)⟩,
  ⟨some 15, none, .mov (.slot 4)⟩,
  ⟨some 16, none, .idx 1 (.slot 14) (.slot 15)⟩,
  ⟨some 17, none, .load false 1 (.slot 16)⟩,
  ⟨some 18, none, .len false (.slot 17)⟩,
  ⟨some 19, none, .mov (.slot 3)⟩,
  ⟨some 20, none, .bin .sub (.const (.int .i64 2000)) (.slot 19)⟩,
  ⟨some 21, none, .bin .gtr (.slot 18) (.slot 20)⟩]
def c_law15_great_R8 : List AOper := [⟨some 2, none, .mov (.const (.bool true))⟩]
def c_law15_great_R9 : List AOper := [⟨some 22, none, .mov (.slot 3)⟩,
  ⟨some 23, none, .mov (.slot 0)⟩,
  ⟨some 24, none, .mov (.slot 4)⟩,
  ⟨some 25, none, .idx 1 (.slot 23) (.slot 24)⟩,
  ⟨some 26, none, .load false 1 (.slot 25)⟩,
  ⟨some 27, none, .len false (.slot 26)⟩,
  ⟨some 28, none, .bin .add (.slot 22) (.slot 27)⟩,
  ⟨some 3, none, .mov (.slot 28)⟩]
def c_law15_great_R6 : List AOper := [⟨some 12, none, .mov (.slot 4)⟩,
  ⟨some 13, none, .bin .add (.slot 12) (.const (.int .i64 1))⟩,
  ⟨some 4, none, .mov (.slot 13)⟩]
def c_law15_great_L0 : ACode := (.seq (.seq (.region c_law15_great_R5 false [0, 3, 4, 11]) (.cond (.slot 11) .skip (.exit 0))) (.seq (.block 1 (.seq (.seq (.region c_law15_great_R7 false [0, 3, 4, 21]) (.cond (.slot 21) (.seq (.region c_law15_great_R8 false [2]) .ret) .skip)) (.region c_law15_great_R9 false [0, 3, 4]))) (.region c_law15_great_R6 false [0, 3, 4])))
def lp_law15_great_0 : ACode := .loop [0, 3, 4] c_law15_great_L0
def c_law15_great_R10 : List AOper := [⟨some 2, none, .mov (.const (.bool false))⟩]
def c_law15_great : AFn := ⟨(.seq (.region c_law15_great_R0 false [0]) (.seq (.seq (.region c_law15_great_R1 false [0, 7]) (.cond (.slot 7) (.seq (.region c_law15_great_R2 false [2]) .ret) .skip)) (.seq (.region c_law15_great_R3 false [0, 3]) (.seq (.seq (.region c_law15_great_R4 false [0, 3, 4]) (.block 0 lp_law15_great_0)) (.seq (.region c_law15_great_R10 false [2]) .ret))))), [.slot 2]⟩
/- slices.EqualFunc[[][]oriel/api.Cell,[][]oriel/api.Cell,[]oriel/api.Cell,[]oriel/api.Cell] -/
def c_slices_EqualFunc_LLCell_LLCell_LCell_LCell_R0 : List AOper := [⟨some 6, none, .mov (.const (.bool false))⟩]
def c_slices_EqualFunc_LLCell_LLCell_LCell_LCell_R1 : List AOper := [⟨some 10, none, .mov (.slot 0)⟩,
  ⟨some 11, none, .len false (.slot 10)⟩,
  ⟨some 12, none, .mov (.slot 1)⟩,
  ⟨some 13, none, .len false (.slot 12)⟩,
  ⟨some 14, none, .bin .neq (.slot 11) (.slot 13)⟩]
def c_slices_EqualFunc_LLCell_LLCell_LCell_LCell_R2 : List AOper := [⟨some 6, none, .mov (.const (.bool false))⟩]
def c_slices_EqualFunc_LLCell_LLCell_LCell_LCell_R3 : List AOper := [⟨some 15, none, .mov (.slot 0)⟩,
  ⟨some 16, none, .len false (.slot 15)⟩,
  ⟨some 17, none, .mov (.const (.int .i64 0))⟩]
def c_slices_EqualFunc_LLCell_LLCell_LCell_LCell_R4 : List AOper := [⟨some 18, none, .bin .lss (.slot 17) (.slot 16)⟩]
def c_slices_EqualFunc_LLCell_LLCell_LCell_LCell_R5 : List AOper := [⟨some 19, none, .mov (.slot 17)⟩,
  ⟨some 20, none, .idx 1 (.slot 15) (.slot 17)⟩,
  ⟨some 21, none, .load false 1 (.slot 20)⟩,
  ⟨some 7, none, .mov (.slot 19)⟩,
  ⟨some 8, none, .mov (.slot 21)⟩]
def c_slices_EqualFunc_LLCell_LLCell_LCell_LCell_R6 : List AOper := [⟨some 22, none, .mov (.slot 1)⟩,
  ⟨some 23, none, .mov (.slot 7)⟩,
  ⟨some 24, none, .idx 1 (.slot 22) (.slot 23)⟩,
  ⟨some 25, none, .load false 1 (.slot 24)⟩,
  ⟨some 9, none, .mov (.slot 25)⟩]
def c_slices_EqualFunc_LLCell_LLCell_LCell_LCell_R7 : List AOper := [⟨some 26, none, .mov (.slot 2)⟩,
  ⟨some 27, none, .mov (.slot 8)⟩,
  ⟨some 28, none, .mov (.slot 9)⟩,
  ⟨some 29, none, .callv (.slot 26) [(.slot 27), (.slot 28)]⟩,
  ⟨some 30, none, .not (.slot 29)⟩]
def c_slices_EqualFunc_LLCell_LLCell_LCell_LCell_R8 : List AOper := [⟨some 6, none, .mov (.const (.bool false))⟩]
def c_slices_EqualFunc_LLCell_LLCell_LCell_LCell_R9 : List AOper := [⟨some 31, none, .bin .add (.slot 17) (.const (.int .i64 1))⟩,
  ⟨some 17, none, .mov (.slot 31)⟩]
def c_slices_EqualFunc_LLCell_LLCell_LCell_LCell_L0 : ACode := (.seq (.region c_slices_EqualFunc_LLCell_LLCell_LCell_LCell_R4 false [1, 2, 15, 16, 17, 18]) (.seq (.cond (.slot 18) .skip (.exit 0)) (.seq (.block 1 (.seq (.region c_slices_EqualFunc_LLCell_LLCell_LCell_LCell_R5 false [1, 2, 7, 8, 15, 16, 17]) (.seq (.region c_slices_EqualFunc_LLCell_LLCell_LCell_LCell_R6 false [1, 2, 8, 9, 15, 16, 17]) (.seq (.region c_slices_EqualFunc_LLCell_LLCell_LCell_LCell_R7 false [1, 2, 15, 16, 17, 30]) (.cond (.slot 30) (.seq (.region c_slices_EqualFunc_LLCell_LLCell_LCell_LCell_R8 false [6]) .ret) .skip))))) (.region c_slices_EqualFunc_LLCell_LLCell_LCell_LCell_R9 false [1, 2, 15, 16, 17]))))
def lp_slices_EqualFunc_LLCell_LLCell_LCell_LCell_0 : ACode := .loop [1, 2, 15, 16, 17] c_slices_EqualFunc_LLCell_LLCell_LCell_LCell_L0
def c_slices_EqualFunc_LLCell_LLCell_LCell_LCell_R10 : List AOper := [⟨some 6, none, .mov (.const (.bool true))⟩]
def c_slices_EqualFunc_LLCell_LLCell_LCell_LCell : AFn := ⟨(.seq (.region c_slices_EqualFunc_LLCell_LLCell_LCell_LCell_R0 false [0, 1, 2]) (.seq (.seq (.region c_slices_EqualFunc_LLCell_LLCell_LCell_LCell_R1 false [0, 1, 2, 14]) (.cond (.slot 14) (.seq (.region c_slices_EqualFunc_LLCell_LLCell_LCell_LCell_R2 false [6]) .ret) .skip)) (.seq (.seq (.region c_slices_EqualFunc_LLCell_LLCell_LCell_LCell_R3 false [1, 2, 15, 16, 17]) (.block 0 lp_slices_EqualFunc_LLCell_LLCell_LCell_LCell_0)) (.seq (.region c_slices_EqualFunc_LLCell_LLCell_LCell_LCell_R10 false [6]) .ret)))), [.slot 6]⟩
/- slices.Equal[[]oriel/api.Cell,oriel/api.Cell] -/
def c_slices_Equal_Cell_R0 : List AOper := [⟨some 4, none, .mov (.const (.bool false))⟩]
def c_slices_Equal_Cell_R1 : List AOper := [⟨some 6, none, .mov (.slot 0)⟩,
  ⟨some 7, none, .len false (.slot 6)⟩,
  ⟨some 8, none, .mov (.slot 1)⟩,
  ⟨some 9, none, .len false (.slot 8)⟩,
  ⟨some 10, none, .bin .neq (.slot 7) (.slot 9)⟩]
def c_slices_Equal_Cell_R2 : List AOper := [⟨some 4, none, .mov (.const (.bool false))⟩]
def c_slices_Equal_Cell_R3 : List AOper := [⟨some 11, none, .mov (.slot 0)⟩,
  ⟨some 12, none, .len false (.slot 11)⟩,
  ⟨some 13, none, .mov (.const (.int .i64 0))⟩]
def c_slices_Equal_Cell_R4 : List AOper := [⟨some 14, none, .bin .lss (.slot 13) (.slot 12)⟩]
def c_slices_Equal_Cell_R5 : List AOper := [⟨some 15, none, .mov (.slot 13)⟩,
  ⟨some 5, none, .mov (.slot 15)⟩]
def c_slices_Equal_Cell_R6 : List AOper := [⟨some 16, none, .mov (.slot 0)⟩,
  ⟨some 17, none, .mov (.slot 5)⟩,
  ⟨some 18, none, .idx 7 (.slot 16) (.slot 17)⟩,
  ⟨some 19, none, .load true 7 (.slot 18)⟩,
  ⟨some 20, none, .mov (.slot 1)⟩,
  ⟨some 21, none, .mov (.slot 5)⟩,
  ⟨some 22, none, .idx 7 (.slot 20) (.slot 21)⟩,
  ⟨some 23, none, .load true 7 (.slot 22)⟩,
  ⟨some 24, none, .eq true [.ki, .ki, .ki, .ki, .ki, .ki, .ki] true (.slot 19) (.slot 23)⟩]
def c_slices_Equal_Cell_R7 : List AOper := [⟨some 4, none, .mov (.const (.bool false))⟩]
def c_slices_Equal_Cell_R8 : List AOper := [⟨some 25, none, .bin .add (.slot 13) (.const (.int .i64 1))⟩,
  ⟨some 13, none, .mov (.slot 25)⟩]
def c_slices_Equal_Cell_L0 : ACode := (.seq (.region c_slices_Equal_Cell_R4 false [0, 1, 12, 13, 14]) (.seq (.cond (.slot 14) .skip (.exit 0)) (.seq (.block 1 (.seq (.region c_slices_Equal_Cell_R5 false [0, 1, 5, 12, 13]) (.seq (.region c_slices_Equal_Cell_R6 true [0, 1, 12, 13, 24]) (.cond (.slot 24) (.seq (.region c_slices_Equal_Cell_R7 false [4]) .ret) .skip)))) (.region c_slices_Equal_Cell_R8 false [0, 1, 12, 13]))))
def lp_slices_Equal_Cell_0 : ACode := .loop [0, 1, 12, 13] c_slices_Equal_Cell_L0
def c_slices_Equal_Cell_R9 : List AOper := [⟨some 4, none, .mov (.const (.bool true))⟩]
def c_slices_Equal_Cell : AFn := ⟨(.seq (.region c_slices_Equal_Cell_R0 false [0, 1]) (.seq (.seq (.region c_slices_Equal_Cell_R1 false [0, 1, 10]) (.cond (.slot 10) (.seq (.region c_slices_Equal_Cell_R2 false [4]) .ret) .skip)) (.seq (.seq (.region c_slices_Equal_Cell_R3 false [0, 1, 12, 13]) (.block 0 lp_slices_Equal_Cell_0)) (.seq (.region c_slices_Equal_Cell_R9 false [4]) .ret)))), [.slot 4]⟩
/- oriel/grid.Same'1 -/
def c_grid_Same_1_R0 : List AOper := [⟨some 4, none, .mov (.const (.bool false))⟩]
def c_grid_Same_1_R1 : List AOper := [⟨some 5, none, .mov (.slot 0)⟩,
  ⟨some 6, none, .mov (.slot 1)⟩,
  ⟨some 7, none, .call .frz n_slices_Equal_Cell [(.slot 5), (.slot 6)]⟩,
  ⟨some 4, none, .mov (.slot 7)⟩]
def c_grid_Same_1 : AFn := ⟨(.seq (.region c_grid_Same_1_R0 false [0, 1]) (.seq (.region c_grid_Same_1_R1 false [4]) .ret)), [.slot 4]⟩
/- oriel/grid.Same -/
def c_grid_Same_R0 : List AOper := [⟨some 2, none, .mov (.const (.bool false))⟩]
def c_grid_Same_R1 : List AOper := [⟨some 3, none, .mov (.const (.int .i64 1))⟩]
def c_grid_Same_R2 : List AOper := [⟨some 4, none, .mov (.slot 3)⟩,
  ⟨some 5, none, .mov (.slot 0)⟩,
  ⟨some 6, none, .len false (.slot 5)⟩,
  ⟨some 7, none, .bin .lss (.slot 4) (.slot 6)⟩]
def c_grid_Same_R4 : List AOper := [⟨some 10, none, .mov (.slot 0)⟩,
  ⟨some 11, none, .idx 1 (.slot 10) (.const (.int .i64 0))⟩,
  ⟨some 12, none, .load false 1 (.slot 11)⟩,
  ⟨some 13, none, .mov (.slot 0)⟩,
  ⟨some 14, none, .mov (.slot 3)⟩,
  ⟨some 15, none, .idx 1 (.slot 13) (.slot 14)⟩,
  ⟨some 16, none, .load false 1 (.slot 15)⟩,
  ⟨some 17, none, .call .inl n_slices_EqualFunc_LLCell_LLCell_LCell_LCell [(.slot 12), (.slot 16), (.func n_grid_Same_1)]⟩,
  ⟨some 18, none, .not (.slot 17)⟩]
def c_grid_Same_R5 : List AOper := [⟨some 2, none, .mov (.const (.bool false))⟩]
def c_grid_Same_R3 : List AOper := [⟨some 8, none, .mov (.slot 3)⟩,
  ⟨some 9, none, .bin .add (.slot 8) (.const (.int .i64 1))⟩,
  ⟨some 3, none, .mov (.slot 9)⟩]
def c_grid_Same_L0 : ACode := (.seq (.seq (.region c_grid_Same_R2 false [0, 3, 7]) (.cond (.slot 7) .skip (.exit 0))) (.seq (.block 1 (.seq (.region c_grid_Same_R4 true [0, 3, 18]) (.cond (.slot 18) (.seq (.region c_grid_Same_R5 false [2]) .ret) .skip))) (.region c_grid_Same_R3 false [0, 3])))
def lp_grid_Same_0 : ACode := .loop [0, 3] c_grid_Same_L0
def c_grid_Same_R6 : List AOper := [⟨some 2, none, .mov (.const (.bool true))⟩]
def c_grid_Same : AFn := ⟨(.seq (.region c_grid_Same_R0 false [0]) (.seq (.seq (.region c_grid_Same_R1 false [0, 3]) (.block 0 lp_grid_Same_0)) (.seq (.region c_grid_Same_R6 false [2]) .ret))), [.slot 2]⟩
/- oriel/oriellaw15.GridLines -/
def c_law15_GridLines_R0 : List AOper := [⟨some 5, none, .box 2 (.slot 1)⟩,
  ⟨some 6, none, .box 2 (.slot 2)⟩,
  ⟨some 7, none, .box 3 (.slot 3)⟩,
  ⟨some 8, none, .mov (.const (.bool false))⟩]
def c_law15_GridLines_R1 : List AOper := [⟨some 14, none, .call .frz n_law15_known []⟩,
  ⟨some 15, none, .not (.slot 14)⟩]
def c_law15_GridLines_R2 : List AOper := [⟨some 8, none, .mov (.const (.bool false))⟩]
def c_law15_GridLines_R3 : List AOper := ⟨some 16, none, .mov (.slot 0)⟩ ::
  ⟨some 17, none, .call .frz n_law15_great [(.slot 16)]⟩ ::
  ⟨some 18, none, .mov (.slot 17)⟩ ::
  ⟨some 19, some (18, false), .mov (.slot 0)⟩ ::
  ⟨some 20, some (18, false), .call .frz n_grid_May [(.slot 19)]⟩ ::
  ⟨some 21, some (18, false), .not (.slot 20)⟩ ::
  ⟨some 22, none, .pick (.slot 18) (.const (.bool true)) (.slot 21)⟩ ::
  ⟨some 23, none, .mov (.slot 22)⟩ ::
  ⟨some 24, some (23, false), .idxarr 1 2 (.slot 5) (.const (.int .i64 0))⟩ ::
  ⟨some 25, some (23, false), .load false 1 (.slot 24)⟩ ::
  ⟨some 26, some (23, false), .bin .lss (.slot 25) (.const (.int .i64 0))⟩ ::
  ⟨some 27, none, .pick (.slot 23) (.const (.bool true)) (.slot 26)⟩ ::
  ⟨some 28, none, .mov (.slot 27)⟩ ::
  ⟨some 29, some (28, false), .idxarr 1 2 (.slot 6) (.const (.int .i64 0))⟩ ::
  ⟨some 30, some (28, false), .load false 1 (.slot 29)⟩ ::
  ⟨some 31, some (28, false), .mov (.slot 0)⟩ ::
  ⟨some 32, some (28, false), .len false (.slot 31)⟩ ::
  ⟨some 33, some (28, false), .bin .geq (.slot 30) (.slot 32)⟩ ::
  ⟨some 34, none, .pick (.slot 28) (.const (.bool true)) (.slot 33)⟩ ::
  ⟨some 35, none, .mov (.slot 34)⟩ ::
  ⟨some 36, some (35, false), .idxarr 1 2 (.slot 5) (.const (.int .i64 0))⟩ ::
  ⟨some 37, some (35, false), .load false 1 (.slot 36)⟩ ::
  ⟨some 38, some (35, false), .idxarr 1 2 (.slot 6) (.const (.int .i64 0))⟩ ::
  ⟨some 39, some (35, false), .load false 1 (.slot 38)⟩ ::
  ⟨some 40, some (35, false), .bin .geq (.slot 37) (.slot 39)⟩ ::
  ⟨some 41, none, .pick (.slot 35) (.const (.bool true)) (.slot 40)⟩ ::
  ⟨some 42, none, .mov (.slot 41)⟩ ::
  ⟨some 43, some (42, false), .idxarr 1 2 (.slot 5) (.const (.int .i64 1))⟩ ::
  ⟨some 44, some (42, false), .load false 1 (.slot 43)⟩ ::
  ⟨some 45, some (42, false), .bin .lss (.slot 44) (.const (.int .i64 0))⟩ ::
  ⟨some 46, none, .pick (.slot 42) (.const (.bool true)) (.slot 45)⟩ ::
  ⟨some 47, none, .mov (.slot 46)⟩ ::
  ⟨some 48, some (47, false), .idxarr 1 2 (.slot 5) (.const (.int .i64 1))⟩ ::
  ⟨some 49, some (47, false), .load false 1 (.slot 48)⟩ ::
  ⟨some 50, some (47, false), .mov (.slot 0)⟩ ::
  ⟨some 51, some (47, false), .idx 1 (.slot 50) (.const (.int .i64 0))⟩ ::
  ⟨some 52, some (47, false), .load false 1 (.slot 51)⟩ ::
  ⟨some 53, some (47, false), .len false (.slot 52)⟩ ::
  ⟨some 54, some (47, false), .bin .geq (.slot 49) (.slot 53)⟩ ::
  ⟨some 55, none, .pick (.slot 47) (.const (.bool true)) (.slot 54)⟩ ::
  ⟨some 56, none, .mov (.slot 55)⟩ ::
  ⟨some 57, some (56, false), .idxarr 1 2 (.slot 6) (.const (.int .i64 1))⟩ ::
  ⟨some 58, some (56, false), .load false 1 (.slot 57)⟩ ::
  ⟨some 59, some (56, false), .bin .lss (.slot 58) (.const (.int .i64 0))⟩ ::
  ⟨some 60, none, .pick (.slot 56) (.const (.bool true)) (.slot 59)⟩ ::
  ⟨some 61, none, .mov (.slot 60)⟩ ::
  ⟨some 62, some (61, false), .idxarr 1 2 (.slot 6) (.const (.int .i64 1))⟩ ::
  ⟨some 63, some (61, false), .load false 1 (.slot 62)⟩ ::
  ⟨some 64, some (61, false), .mov (.slot 0)⟩ ::
  ⟨some 65, some (61, false), .idx 1 (.slot 64) (.const (.int .i64 0))⟩ ::
  ⟨some 66, some (61, false), .load false 1 (.slot 65)⟩ ::
  ⟨some 67, some (61, false), .len false (.slot 66)⟩ ::
  ⟨some 68, some (61, false), .bin .geq (.slot 63) (.slot 67)⟩ ::
  ⟨some 69, none, .pick (.slot 61) (.const (.bool true)) (.slot 68)⟩ :: []
def c_law15_GridLines_R4 : List AOper := [⟨some 8, none, .mov (.const (.bool true))⟩]
def c_law15_GridLines_R5 : List AOper := [⟨some 70, none, .mov (.slot 0)⟩,
  ⟨some 71, none, .load true 2 (.slot 5)⟩,
  ⟨some 72, none, .load true 2 (.slot 6)⟩,
  ⟨some 73, none, .load true 3 (.slot 7)⟩,
  ⟨some 74, none, .call .frz n_grid_Erase [(.slot 70), (.slot 71), (.slot 72), (.slot 73)]⟩,
  ⟨some 9, none, .mov (.slot 74)⟩]
def c_law15_GridLines_R6 : List AOper := [⟨some 75, none, .mov (.slot 0)⟩,
  ⟨some 10, none, .mov (.slot 75)⟩]
def c_law15_GridLines_R7 : List AOper := [⟨some 76, none, .idxarr 1 2 (.slot 5) (.const (.int .i64 0))⟩,
  ⟨some 77, none, .load false 1 (.slot 76)⟩,
  ⟨some 11, none, .mov (.slot 77)⟩]
def c_law15_GridLines_R8 : List AOper := [⟨some 78, none, .mov (.slot 11)⟩,
  ⟨some 79, none, .idxarr 1 2 (.slot 6) (.const (.int .i64 0))⟩,
  ⟨some 80, none, .load false 1 (.slot 79)⟩,
  ⟨some 81, none, .bin .leq (.slot 78) (.slot 80)⟩]
def c_law15_GridLines_R10 : List AOper := [⟨some 84, none, .mov (.slot 11)⟩,
  ⟨some 85, none, .build [.int .i64 0, .int .i64 0] [(0, 1, (.slot 84)), (1, 1, (.const (.int .i64 0)))]⟩,
  ⟨some 86, none, .mov (.slot 11)⟩,
  ⟨some 87, none, .mov (.slot 0)⟩,
  ⟨some 88, none, .idxd 1 (.slot 87) (.const (.int .i64 0))⟩,
  ⟨some 89, none, .loadd false 1 (.slot 88)⟩,
  ⟨some 90, none, .len false (.slot 89)⟩,
  ⟨some 91, none, .bin .sub (.slot 90) (.const (.int .i64 1))⟩,
  ⟨some 92, none, .build [.int .i64 0, .int .i64 0] [(0, 1, (.slot 86)), (1, 1, (.slot 91))]⟩,
  ⟨some 12, none, .alloc [.int .i64 0, .int .i64 0]⟩,
  ⟨some 13, none, .alloc [.int .i64 0, .int .i64 0]⟩,
  ⟨none, none, .store true 2 (.slot 12) (.slot 85)⟩,
  ⟨none, none, .store true 2 (.slot 13) (.slot 92)⟩]
def c_law15_GridLines_R11 : List AOper := [⟨some 93, none, .mov (.slot 11)⟩,
  ⟨some 94, none, .idxarr 1 2 (.slot 5) (.const (.int .i64 0))⟩,
  ⟨some 95, none, .load false 1 (.slot 94)⟩,
  ⟨some 96, none, .bin .eql (.slot 93) (.slot 95)⟩]
def c_law15_GridLines_R12 : List AOper := [⟨some 97, none, .load true 2 (.slot 5)⟩,
  ⟨none, none, .store true 2 (.slot 12) (.slot 97)⟩]
def c_law15_GridLines_R13 : List AOper := [⟨some 98, none, .mov (.slot 11)⟩,
  ⟨some 99, none, .idxarr 1 2 (.slot 6) (.const (.int .i64 0))⟩,
  ⟨some 100, none, .load false 1 (.slot 99)⟩,
  ⟨some 101, none, .bin .eql (.slot 98) (.slot 100)⟩]
def c_law15_GridLines_R14 : List AOper := [⟨some 102, none, .load true 2 (.slot 6)⟩,
  ⟨none, none, .store true 2 (.slot 13) (.slot 102)⟩]
def c_law15_GridLines_R15 : List AOper := [⟨some 103, none, .mov (.slot 10)⟩,
  ⟨some 104, none, .load true 2 (.slot 12)⟩,
  ⟨some 105, none, .load true 2 (.slot 13)⟩,
  ⟨some 106, none, .load true 3 (.slot 7)⟩,
  ⟨some 107, none, .call .frz n_grid_Erase [(.slot 103), (.slot 104), (.slot 105), (.slot 106)]⟩,
  ⟨some 10, none, .mov (.slot 107)⟩]
def c_law15_GridLines_R9 : List AOper := [⟨some 82, none, .mov (.slot 11)⟩,
  ⟨some 83, none, .bin .add (.slot 82) (.const (.int .i64 1))⟩,
  ⟨some 11, none, .mov (.slot 83)⟩]
def c_law15_GridLines_L0 : ACode := (.seq (.seq (.region c_law15_GridLines_R8 false [0, 5, 6, 7, 9, 10, 11, 81]) (.cond (.slot 81) .skip (.exit 0))) (.seq (.block 1 (.seq (.region c_law15_GridLines_R10 true [0, 5, 6, 7, 9, 10, 11, 12, 13]) (.seq (.seq (.region c_law15_GridLines_R11 false [0, 5, 6, 7, 9, 10, 11, 12, 13, 96]) (.cond (.slot 96) (.region c_law15_GridLines_R12 false [0, 5, 6, 7, 9, 10, 11, 12, 13]) .skip)) (.seq (.seq (.region c_law15_GridLines_R13 false [0, 5, 6, 7, 9, 10, 11, 12, 13, 101]) (.cond (.slot 101) (.region c_law15_GridLines_R14 false [0, 5, 6, 7, 9, 10, 11, 12, 13]) .skip)) (.region c_law15_GridLines_R15 false [0, 5, 6, 7, 9, 10, 11]))))) (.region c_law15_GridLines_R9 false [0, 5, 6, 7, 9, 10, 11])))
def lp_law15_GridLines_0 : ACode := .loop [0, 5, 6, 7, 9, 10, 11] c_law15_GridLines_L0
def c_law15_GridLines_R16 : List AOper := [⟨some 108, none, .mov (.slot 9)⟩,
  ⟨some 109, none, .mov (.slot 10)⟩,
  ⟨some 110, none, .mkslice 1 2 [.data false 1 [] true] [(0, (.slot 108)), (1, (.slot 109))]⟩,
  ⟨some 111, none, .call .frz n_grid_Same [(.slot 110)]⟩,
  ⟨some 8, none, .mov (.slot 111)⟩]
def c_law15_GridLines : AFn := ⟨(.seq (.region c_law15_GridLines_R0 false [0, 5, 6, 7]) (.seq (.seq (.region c_law15_GridLines_R1 false [0, 5, 6, 7, 15]) (.cond (.slot 15) (.seq (.region c_law15_GridLines_R2 false [8]) .ret) .skip)) (.seq (.seq (.region c_law15_GridLines_R3 true [0, 5, 6, 7, 69]) (.cond (.slot 69) (.seq (.region c_law15_GridLines_R4 false [8]) .ret) .skip)) (.seq (.region c_law15_GridLines_R5 false [0, 5, 6, 7, 9]) (.seq (.region c_law15_GridLines_R6 false [0, 5, 6, 7, 9, 10]) (.seq (.seq (.region c_law15_GridLines_R7 false [0, 5, 6, 7, 9, 10, 11]) (.block 0 lp_law15_GridLines_0)) (.seq (.region c_law15_GridLines_R16 false [8]) .ret))))))), [.slot 8]⟩
/-- The seat's functions. -/
def FT : Nat → Option AEnt
  | 51 => some (.fn c_grid_side)
  | 72 => some (.fn c_slices_IndexFunc_LCell)
  | 52 => some (.fn c_slices_ContainsFunc_LCell)
  | 67 => some (.fn c_pen_May_1)
  | 41 => some (.fn c_pen_May)
  | 74 => some (.fn c_sort_Search)
  | 75 => some (.fn c_cols_Of_1)
  | 58 => some (.fn c_cols_Of)
  | 77 => some (.fn c_line_marked)
  | 73 => some (.fn c_line_may)
  | 54 => some (.fn c_line_May)
  | 53 => some (.fn c_grid_May_1)
  | 22 => some (.fn c_grid_May)
  | 56 => some (.ext (extClone 7))
  | 42 => some (.fn c_grid_copied)
  | 78 => some (.fn c_math_bits_Mul32)
  | 79 => some (.fn c_math_bits_Mul64)
  | 76 => some (.fn c_math_bits_Mul)
  | 68 => some (.fn c_slices_Repeat_Cell)
  | 69 => some (.fn c_line_blank)
  | 43 => some (.fn c_line_Blank)
  | 16 => some (.fn c_grid_Scroll)
  | 45 => some (.fn c_ref14_Same)
  | 18 => some (.fn c_ref15_Same)
  | 47 => some (.fn c_grid_Erase_1)
  | 57 => some (.fn c_line_fine)
  | 59 => some (.fn c_line_torn)
  | 48 => some (.fn c_line_Erase)
  | 20 => some (.fn c_grid_Erase)
  | 40 => some (.fn c_law15_abc)
  | 12 => some (.fn c_law15_known)
  | 13 => some (.fn c_law15_great)
  | 62 => some (.fn c_slices_EqualFunc_LLCell_LLCell_LCell_LCell)
  | 64 => some (.fn c_slices_Equal_Cell)
  | 63 => some (.fn c_grid_Same_1)
  | 34 => some (.fn c_grid_Same)
  | 9 => some (.fn c_law15_GridLines)
  | _ => none
variable (G : Nat → Option (List AV)) (args : List AV) (h : List ARow)
theorem run_grid_side : aR G FT n_grid_side args h = (aE G FT h.length c_grid_side.body ⟨aenter args, h⟩).bind (afinish c_grid_side.res) := y_fn G FT rfl args h
theorem run_slices_IndexFunc_LCell : aR G FT n_slices_IndexFunc_LCell args h = (aE G FT h.length c_slices_IndexFunc_LCell.body ⟨aenter args, h⟩).bind (afinish c_slices_IndexFunc_LCell.res) := y_fn G FT rfl args h
theorem run_slices_ContainsFunc_LCell : aR G FT n_slices_ContainsFunc_LCell args h = (aE G FT h.length c_slices_ContainsFunc_LCell.body ⟨aenter args, h⟩).bind (afinish c_slices_ContainsFunc_LCell.res) := y_fn G FT rfl args h
theorem run_pen_May_1 : aR G FT n_pen_May_1 args h = (aE G FT h.length c_pen_May_1.body ⟨aenter args, h⟩).bind (afinish c_pen_May_1.res) := y_fn G FT rfl args h
theorem run_pen_May : aR G FT n_pen_May args h = (aE G FT h.length c_pen_May.body ⟨aenter args, h⟩).bind (afinish c_pen_May.res) := y_fn G FT rfl args h
theorem run_sort_Search : aR G FT n_sort_Search args h = (aE G FT h.length c_sort_Search.body ⟨aenter args, h⟩).bind (afinish c_sort_Search.res) := y_fn G FT rfl args h
theorem run_cols_Of_1 : aR G FT n_cols_Of_1 args h = (aE G FT h.length c_cols_Of_1.body ⟨aenter args, h⟩).bind (afinish c_cols_Of_1.res) := y_fn G FT rfl args h
theorem run_cols_Of : aR G FT n_cols_Of args h = (aE G FT h.length c_cols_Of.body ⟨aenter args, h⟩).bind (afinish c_cols_Of.res) := y_fn G FT rfl args h
theorem run_line_marked : aR G FT n_line_marked args h = (aE G FT h.length c_line_marked.body ⟨aenter args, h⟩).bind (afinish c_line_marked.res) := y_fn G FT rfl args h
theorem run_line_may : aR G FT n_line_may args h = (aE G FT h.length c_line_may.body ⟨aenter args, h⟩).bind (afinish c_line_may.res) := y_fn G FT rfl args h
theorem run_line_May : aR G FT n_line_May args h = (aE G FT h.length c_line_May.body ⟨aenter args, h⟩).bind (afinish c_line_May.res) := y_fn G FT rfl args h
theorem run_grid_May_1 : aR G FT n_grid_May_1 args h = (aE G FT h.length c_grid_May_1.body ⟨aenter args, h⟩).bind (afinish c_grid_May_1.res) := y_fn G FT rfl args h
theorem run_grid_May : aR G FT n_grid_May args h = (aE G FT h.length c_grid_May.body ⟨aenter args, h⟩).bind (afinish c_grid_May.res) := y_fn G FT rfl args h
theorem run_grid_copied : aR G FT n_grid_copied args h = (aE G FT h.length c_grid_copied.body ⟨aenter args, h⟩).bind (afinish c_grid_copied.res) := y_fn G FT rfl args h
theorem run_math_bits_Mul64 : aR G FT n_math_bits_Mul64 args h = (aE G FT h.length c_math_bits_Mul64.body ⟨aenter args, h⟩).bind (afinish c_math_bits_Mul64.res) := y_fn G FT rfl args h
theorem run_math_bits_Mul : aR G FT n_math_bits_Mul args h = (aE G FT h.length c_math_bits_Mul.body ⟨aenter args, h⟩).bind (afinish c_math_bits_Mul.res) := y_fn G FT rfl args h
theorem run_slices_Repeat_Cell : aR G FT n_slices_Repeat_Cell args h = (aE G FT h.length c_slices_Repeat_Cell.body ⟨aenter args, h⟩).bind (afinish c_slices_Repeat_Cell.res) := y_fn G FT rfl args h
theorem run_line_blank : aR G FT n_line_blank args h = (aE G FT h.length c_line_blank.body ⟨aenter args, h⟩).bind (afinish c_line_blank.res) := y_fn G FT rfl args h
theorem run_line_Blank : aR G FT n_line_Blank args h = (aE G FT h.length c_line_Blank.body ⟨aenter args, h⟩).bind (afinish c_line_Blank.res) := y_fn G FT rfl args h
theorem run_grid_Erase_1 : aR G FT n_grid_Erase_1 args h = (aE G FT h.length c_grid_Erase_1.body ⟨aenter args, h⟩).bind (afinish c_grid_Erase_1.res) := y_fn G FT rfl args h
theorem run_line_fine : aR G FT n_line_fine args h = (aE G FT h.length c_line_fine.body ⟨aenter args, h⟩).bind (afinish c_line_fine.res) := y_fn G FT rfl args h
theorem run_line_torn : aR G FT n_line_torn args h = (aE G FT h.length c_line_torn.body ⟨aenter args, h⟩).bind (afinish c_line_torn.res) := y_fn G FT rfl args h
theorem run_line_Erase : aR G FT n_line_Erase args h = (aE G FT h.length c_line_Erase.body ⟨aenter args, h⟩).bind (afinish c_line_Erase.res) := y_fn G FT rfl args h
theorem run_grid_Erase : aR G FT n_grid_Erase args h = (aE G FT h.length c_grid_Erase.body ⟨aenter args, h⟩).bind (afinish c_grid_Erase.res) := y_fn G FT rfl args h
theorem run_law15_great : aR G FT n_law15_great args h = (aE G FT h.length c_law15_great.body ⟨aenter args, h⟩).bind (afinish c_law15_great.res) := y_fn G FT rfl args h
theorem run_slices_EqualFunc_LLCell_LLCell_LCell_LCell : aR G FT n_slices_EqualFunc_LLCell_LLCell_LCell_LCell args h = (aE G FT h.length c_slices_EqualFunc_LLCell_LLCell_LCell_LCell.body ⟨aenter args, h⟩).bind (afinish c_slices_EqualFunc_LLCell_LLCell_LCell_LCell.res) := y_fn G FT rfl args h
theorem run_slices_Equal_Cell : aR G FT n_slices_Equal_Cell args h = (aE G FT h.length c_slices_Equal_Cell.body ⟨aenter args, h⟩).bind (afinish c_slices_Equal_Cell.res) := y_fn G FT rfl args h
theorem run_grid_Same_1 : aR G FT n_grid_Same_1 args h = (aE G FT h.length c_grid_Same_1.body ⟨aenter args, h⟩).bind (afinish c_grid_Same_1.res) := y_fn G FT rfl args h
theorem run_grid_Same : aR G FT n_grid_Same args h = (aE G FT h.length c_grid_Same.body ⟨aenter args, h⟩).bind (afinish c_grid_Same.res) := y_fn G FT rfl args h
theorem run_law15_GridLines : aR G FT n_law15_GridLines args h = (aE G FT h.length c_law15_GridLines.body ⟨aenter args, h⟩).bind (afinish c_law15_GridLines.res) := y_fn G FT rfl args h
end Go.Proofs.YtmmkjbcklghopaaDoor
