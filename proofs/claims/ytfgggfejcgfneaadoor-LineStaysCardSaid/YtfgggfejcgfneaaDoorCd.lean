/- The small machine's code of the seat's functions. Conditions: none. -/
import Derived.Test.YtfgggfejcgfneaaDoorM3
set_option linter.unusedVariables false
set_option linter.unusedSimpArgs false
set_option linter.unusedSectionVars false
namespace Go.Proofs.YtfgggfejcgfneaaDoor
open Go

def n_cols_Of : Nat := 39
def n_cols_Of_1 : Nat := 45
def n_law14_LineEdits : Nat := 5
def n_law14_LineMay : Nat := 3
def n_law14_LineStays : Nat := 7
def n_law14_LineThere : Nat := 4
def n_law14_LineWhole : Nat := 6
def n_law14_does : Nat := 24
def n_law14_fine : Nat := 19
def n_law14_known : Nat := 8
def n_line_Blank : Nat := 9
def n_line_Delete : Nat := 16
def n_line_Erase : Nat := 17
def n_line_Fit : Nat := 18
def n_line_Insert : Nat := 15
def n_line_Mark : Nat := 37
def n_line_May : Nat := 13
def n_line_Put : Nat := 25
def n_line_Tear : Nat := 38
def n_line_blank : Nat := 28
def n_line_fine : Nat := 33
def n_line_marked : Nat := 42
def n_line_may : Nat := 31
def n_line_torn : Nat := 35
def n_math_bits_Mul : Nat := 41
def n_math_bits_Mul32 : Nat := 46
def n_math_bits_Mul64 : Nat := 47
def n_pen_May : Nat := 26
def n_pen_May_1 : Nat := 40
def n_ref12_May : Nat := 29
def n_ref13_Of : Nat := 43
def n_ref13_in : Nat := 48
def n_ref14_Blank : Nat := 30
def n_ref14_Blanks : Nat := 12
def n_ref14_Cell : Nat := 32
def n_ref14_Delete : Nat := 22
def n_ref14_Erase : Nat := 20
def n_ref14_Fit : Nat := 23
def n_ref14_Insert : Nat := 21
def n_ref14_May : Nat := 14
def n_ref14_Pen : Nat := 10
def n_ref14_Same : Nat := 11
def n_ref14_Tear : Nat := 36
def n_slices_Clone_Cell : Nat := 34
def n_slices_Repeat_Cell : Nat := 27
def n_sort_Search : Nat := 44
/- oriel/pen.May'1 -/
def c_pen_May_1_R0 : List AOper := [⟨some 4, none, .mov (.const (.bool false))⟩]
def c_pen_May_1_R1 : List AOper := [⟨some 5, none, .mov (.slot 0)⟩,
  ⟨some 6, none, .bin .geq (.slot 5) (.const (.int .i64 0))⟩,
  ⟨some 7, none, .mov (.slot 6)⟩,
  ⟨some 8, some (7, true), .mov (.slot 0)⟩,
  ⟨some 9, some (7, true), .mov (.slot 1)⟩,
  ⟨some 10, some (7, true), .bin .leq (.slot 8) (.slot 9)⟩,
  ⟨some 11, none, .pick (.slot 7) (.slot 10) (.const (.bool false))⟩,
  ⟨some 4, none, .mov (.slot 11)⟩]
def c_pen_May_1 : AFn := ⟨(.seq (.region c_pen_May_1_R0 false [0, 1]) (.seq (.region c_pen_May_1_R1 false [4]) .ret)), [.slot 4]⟩
/- oriel/pen.May -/
def c_pen_May_R0 : List AOper := [⟨some 1, none, .box 3 (.slot 0)⟩,
  ⟨some 2, none, .mov (.const (.bool false))⟩]
def c_pen_May_R1 : List AOper := [⟨some 3, none, .mov (.func n_pen_May_1)⟩]
def c_pen_May_R2 : List AOper := [⟨some 4, none, .mov (.slot 3)⟩,
  ⟨some 5, none, .faddr 0 (.slot 1)⟩,
  ⟨some 6, none, .load false 1 (.slot 5)⟩,
  ⟨some 7, none, .callv (.slot 4) [(.slot 6), (.const (.int .i64 255))]⟩,
  ⟨some 8, none, .mov (.slot 7)⟩,
  ⟨some 9, some (8, true), .mov (.slot 3)⟩,
  ⟨some 10, some (8, true), .faddr 1 (.slot 1)⟩,
  ⟨some 11, some (8, true), .load false 1 (.slot 10)⟩,
  ⟨some 12, some (8, true), .callv (.slot 9) [(.slot 11), (.const (.int .i64 256))]⟩,
  ⟨some 13, none, .pick (.slot 8) (.slot 12) (.const (.bool false))⟩,
  ⟨some 14, none, .mov (.slot 13)⟩,
  ⟨some 15, some (14, true), .mov (.slot 3)⟩,
  ⟨some 16, some (14, true), .faddr 2 (.slot 1)⟩,
  ⟨some 17, some (14, true), .load false 1 (.slot 16)⟩,
  ⟨some 18, some (14, true), .callv (.slot 15) [(.slot 17), (.const (.int .i64 256))]⟩,
  ⟨some 19, none, .pick (.slot 14) (.slot 18) (.const (.bool false))⟩,
  ⟨some 2, none, .mov (.slot 19)⟩]
def c_pen_May : AFn := ⟨(.seq (.region c_pen_May_R0 false [1]) (.seq (.region c_pen_May_R1 false [1, 3]) (.seq (.region c_pen_May_R2 false [2]) .ret))), [.slot 2]⟩
/- math/bits.Mul32 -/
def c_math_bits_Mul32_R0 : List AOper := [⟨some 4, none, .mov (.const (.int .u32 0))⟩,
  ⟨some 5, none, .mov (.const (.int .u32 0))⟩]
def c_math_bits_Mul32_R1 : List AOper := [⟨some 7, none, .mov (.slot 0)⟩,
  ⟨some 8, none, .conv .u64 (.slot 7)⟩,
  ⟨some 9, none, .mov (.slot 1)⟩,
  ⟨some 10, none, .conv .u64 (.slot 9)⟩,
  ⟨some 11, none, .bin .mul (.slot 8) (.slot 10)⟩,
  ⟨some 6, none, .mov (.slot 11)⟩]
def c_math_bits_Mul32_R2 : List AOper := [⟨some 12, none, .mov (.slot 6)⟩,
  ⟨some 13, none, .bin .shr (.slot 12) (.const (.int .u64 32))⟩,
  ⟨some 14, none, .conv .u32 (.slot 13)⟩,
  ⟨some 15, none, .mov (.slot 6)⟩,
  ⟨some 16, none, .conv .u32 (.slot 15)⟩,
  ⟨some 4, none, .mov (.slot 14)⟩,
  ⟨some 5, none, .mov (.slot 16)⟩]
def c_math_bits_Mul32 : AFn := ⟨(.seq (.region c_math_bits_Mul32_R0 false [0, 1]) (.seq (.region c_math_bits_Mul32_R1 false [6]) (.seq (.region c_math_bits_Mul32_R2 false [4, 5]) .ret))), [.slot 4, .slot 5]⟩
/- math/bits.Mul64 -/
def c_math_bits_Mul64_R0 : List AOper := [⟨some 4, none, .mov (.const (.int .u64 0))⟩,
  ⟨some 5, none, .mov (.const (.int .u64 0))⟩]
def c_math_bits_Mul64_R1 : List AOper := [⟨some 14, none, .mov (.slot 0)⟩,
  ⟨some 15, none, .bin .and (.slot 14) (.const (.int .u64 4294967295))⟩,
  ⟨some 6, none, .mov (.slot 15)⟩]
def c_math_bits_Mul64_R2 : List AOper := [⟨some 16, none, .mov (.slot 0)⟩,
  ⟨some 17, none, .bin .shr (.slot 16) (.const (.int .u64 32))⟩,
  ⟨some 7, none, .mov (.slot 17)⟩]
def c_math_bits_Mul64_R3 : List AOper := [⟨some 18, none, .mov (.slot 1)⟩,
  ⟨some 19, none, .bin .and (.slot 18) (.const (.int .u64 4294967295))⟩,
  ⟨some 8, none, .mov (.slot 19)⟩]
def c_math_bits_Mul64_R4 : List AOper := [⟨some 20, none, .mov (.slot 1)⟩,
  ⟨some 21, none, .bin .shr (.slot 20) (.const (.int .u64 32))⟩,
  ⟨some 9, none, .mov (.slot 21)⟩]
def c_math_bits_Mul64_R5 : List AOper := [⟨some 22, none, .mov (.slot 6)⟩,
  ⟨some 23, none, .mov (.slot 8)⟩,
  ⟨some 24, none, .bin .mul (.slot 22) (.slot 23)⟩,
  ⟨some 10, none, .mov (.slot 24)⟩]
def c_math_bits_Mul64_R6 : List AOper := [⟨some 25, none, .mov (.slot 7)⟩,
  ⟨some 26, none, .mov (.slot 8)⟩,
  ⟨some 27, none, .bin .mul (.slot 25) (.slot 26)⟩,
  ⟨some 28, none, .mov (.slot 10)⟩,
  ⟨some 29, none, .bin .shr (.slot 28) (.const (.int .u64 32))⟩,
  ⟨some 30, none, .bin .add (.slot 27) (.slot 29)⟩,
  ⟨some 11, none, .mov (.slot 30)⟩]
def c_math_bits_Mul64_R7 : List AOper := [⟨some 31, none, .mov (.slot 11)⟩,
  ⟨some 32, none, .bin .and (.slot 31) (.const (.int .u64 4294967295))⟩,
  ⟨some 12, none, .mov (.slot 32)⟩]
def c_math_bits_Mul64_R8 : List AOper := [⟨some 33, none, .mov (.slot 11)⟩,
  ⟨some 34, none, .bin .shr (.slot 33) (.const (.int .u64 32))⟩,
  ⟨some 13, none, .mov (.slot 34)⟩]
def c_math_bits_Mul64_R9 : List AOper := [⟨some 35, none, .mov (.slot 12)⟩,
  ⟨some 36, none, .mov (.slot 6)⟩,
  ⟨some 37, none, .mov (.slot 9)⟩,
  ⟨some 38, none, .bin .mul (.slot 36) (.slot 37)⟩,
  ⟨some 39, none, .bin .add (.slot 35) (.slot 38)⟩,
  ⟨some 12, none, .mov (.slot 39)⟩]
def c_math_bits_Mul64_R10 : List AOper := [⟨some 40, none, .mov (.slot 7)⟩,
  ⟨some 41, none, .mov (.slot 9)⟩,
  ⟨some 42, none, .bin .mul (.slot 40) (.slot 41)⟩,
  ⟨some 43, none, .mov (.slot 13)⟩,
  ⟨some 44, none, .bin .add (.slot 42) (.slot 43)⟩,
  ⟨some 45, none, .mov (.slot 12)⟩,
  ⟨some 46, none, .bin .shr (.slot 45) (.const (.int .u64 32))⟩,
  ⟨some 47, none, .bin .add (.slot 44) (.slot 46)⟩,
  ⟨some 4, none, .mov (.slot 47)⟩]
def c_math_bits_Mul64_R11 : List AOper := [⟨some 48, none, .mov (.slot 0)⟩,
  ⟨some 49, none, .mov (.slot 1)⟩,
  ⟨some 50, none, .bin .mul (.slot 48) (.slot 49)⟩,
  ⟨some 5, none, .mov (.slot 50)⟩]
def c_math_bits_Mul64 : AFn := ⟨(.seq (.region c_math_bits_Mul64_R0 false [0, 1]) (.seq (.region c_math_bits_Mul64_R1 false [0, 1, 6]) (.seq (.region c_math_bits_Mul64_R2 false [0, 1, 6, 7]) (.seq (.region c_math_bits_Mul64_R3 false [0, 1, 6, 7, 8]) (.seq (.region c_math_bits_Mul64_R4 false [0, 1, 6, 7, 8, 9]) (.seq (.region c_math_bits_Mul64_R5 false [0, 1, 6, 7, 8, 9, 10]) (.seq (.region c_math_bits_Mul64_R6 false [0, 1, 6, 7, 9, 11]) (.seq (.region c_math_bits_Mul64_R7 false [0, 1, 6, 7, 9, 11, 12]) (.seq (.region c_math_bits_Mul64_R8 false [0, 1, 6, 7, 9, 12, 13]) (.seq (.region c_math_bits_Mul64_R9 false [0, 1, 7, 9, 12, 13]) (.seq (.region c_math_bits_Mul64_R10 false [0, 1, 4]) (.seq (.region c_math_bits_Mul64_R11 false [4, 5]) .ret)))))))))))), [.slot 4, .slot 5]⟩
/- math/bits.Mul -/
def c_math_bits_Mul_R0 : List AOper := [⟨some 4, none, .mov (.const (.int .u64 0))⟩,
  ⟨some 5, none, .mov (.const (.int .u64 0))⟩]
def c_math_bits_Mul_R1 : List AOper := [⟨some 11, none, .mov (.slot 0)⟩,
  ⟨some 12, none, .conv .u32 (.slot 11)⟩,
  ⟨some 13, none, .mov (.slot 1)⟩,
  ⟨some 14, none, .conv .u32 (.slot 13)⟩,
  ⟨some 15, none, .call .frz n_math_bits_Mul32 [(.slot 12), (.slot 14)]⟩,
  ⟨some 10, none, .mov (.slot 15)⟩,
  ⟨some 16, none, .extract 0 (.slot 10)⟩,
  ⟨some 17, none, .extract 1 (.slot 10)⟩,
  ⟨some 6, none, .mov (.slot 16)⟩,
  ⟨some 7, none, .mov (.slot 17)⟩]
def c_math_bits_Mul_R2 : List AOper := [⟨some 18, none, .mov (.slot 6)⟩,
  ⟨some 19, none, .conv .u64 (.slot 18)⟩,
  ⟨some 20, none, .mov (.slot 7)⟩,
  ⟨some 21, none, .conv .u64 (.slot 20)⟩,
  ⟨some 4, none, .mov (.slot 19)⟩,
  ⟨some 5, none, .mov (.slot 21)⟩]
def c_math_bits_Mul_R3 : List AOper := [⟨some 23, none, .mov (.slot 0)⟩,
  ⟨some 24, none, .mov (.slot 1)⟩,
  ⟨some 25, none, .call .frz n_math_bits_Mul64 [(.slot 23), (.slot 24)]⟩,
  ⟨some 22, none, .mov (.slot 25)⟩,
  ⟨some 26, none, .extract 0 (.slot 22)⟩,
  ⟨some 27, none, .extract 1 (.slot 22)⟩,
  ⟨some 8, none, .mov (.slot 26)⟩,
  ⟨some 9, none, .mov (.slot 27)⟩]
def c_math_bits_Mul_R4 : List AOper := [⟨some 28, none, .mov (.slot 8)⟩,
  ⟨some 29, none, .mov (.slot 9)⟩,
  ⟨some 4, none, .mov (.slot 28)⟩,
  ⟨some 5, none, .mov (.slot 29)⟩]
def c_math_bits_Mul : AFn := ⟨(.seq (.region c_math_bits_Mul_R0 false [0, 1]) (.seq (.cond (.const (.bool false)) (.seq (.region c_math_bits_Mul_R1 false [6, 7]) (.seq (.region c_math_bits_Mul_R2 false [4, 5]) .ret)) .skip) (.seq (.region c_math_bits_Mul_R3 false [8, 9]) (.seq (.region c_math_bits_Mul_R4 false [4, 5]) .ret)))), [.slot 4, .slot 5]⟩
/- slices.Repeat[[]oriel/api.Cell,oriel/api.Cell] -/
def c_slices_Repeat_Cell_R0 : List AOper := [⟨some 4, none, .mov (.const (.data false 7 [] true))⟩]
def c_slices_Repeat_Cell_R1 : List AOper := [⟨some 9, none, .mov (.slot 1)⟩,
  ⟨some 10, none, .bin .lss (.slot 9) (.const (.int .i64 0))⟩]
def c_slices_Repeat_Cell_R3 : List AOper := [⟨some 13, none, .mov (.slot 0)⟩,
  ⟨some 14, none, .len false (.slot 13)⟩,
  ⟨some 15, none, .conv .u64 (.slot 14)⟩,
  ⟨some 16, none, .mov (.slot 1)⟩,
  ⟨some 17, none, .conv .u64 (.slot 16)⟩,
  ⟨some 18, none, .call .frz n_math_bits_Mul [(.slot 15), (.slot 17)]⟩,
  ⟨some 12, none, .mov (.slot 18)⟩,
  ⟨some 19, none, .extract 0 (.slot 12)⟩,
  ⟨some 20, none, .extract 1 (.slot 12)⟩,
  ⟨some 5, none, .mov (.slot 19)⟩,
  ⟨some 6, none, .mov (.slot 20)⟩]
def c_slices_Repeat_Cell_R4 : List AOper := [⟨some 21, none, .mov (.slot 5)⟩,
  ⟨some 22, none, .bin .gtr (.slot 21) (.const (.int .u64 0))⟩,
  ⟨some 23, none, .mov (.slot 22)⟩,
  ⟨some 24, some (23, false), .mov (.slot 6)⟩,
  ⟨some 25, some (23, false), .bin .gtr (.slot 24) (.const (.int .u64 9223372036854775807))⟩,
  ⟨some 26, none, .pick (.slot 23) (.const (.bool true)) (.slot 25)⟩]
def c_slices_Repeat_Cell_R6 : List AOper := [⟨some 28, none, .mov (.slot 6)⟩,
  ⟨some 29, none, .conv .i64 (.slot 28)⟩,
  ⟨some 30, none, .mkrow 7 48 [.int .i32 0, .int .i32 0, .int .i32 0, .int .i64 0, .int .i64 0, .int .i64 0, .int .i64 0] (.slot 29) (.slot 29)⟩,
  ⟨some 7, none, .mov (.slot 30)⟩]
def c_slices_Repeat_Cell_R7 : List AOper := [⟨some 31, none, .mov (.slot 7)⟩,
  ⟨some 32, none, .mov (.slot 0)⟩,
  ⟨some 33, none, .copy 7 (.slot 31) (.slot 32)⟩,
  ⟨some 8, none, .mov (.slot 33)⟩]
def c_slices_Repeat_Cell_R8 : List AOper := [⟨some 34, none, .mov (.slot 8)⟩,
  ⟨some 35, none, .mov (.slot 7)⟩,
  ⟨some 36, none, .len false (.slot 35)⟩,
  ⟨some 37, none, .bin .lss (.slot 34) (.slot 36)⟩]
def c_slices_Repeat_Cell_R9 : List AOper := [⟨some 38, none, .mov (.slot 8)⟩,
  ⟨some 39, none, .mov (.slot 7)⟩,
  ⟨some 40, none, .mov (.slot 8)⟩,
  ⟨some 41, none, .sl 7 (.slot 39) (some (.slot 40)) none none⟩,
  ⟨some 42, none, .mov (.slot 7)⟩,
  ⟨some 43, none, .mov (.slot 8)⟩,
  ⟨some 44, none, .sl 7 (.slot 42) none (some (.slot 43)) none⟩,
  ⟨some 45, none, .copy 7 (.slot 41) (.slot 44)⟩,
  ⟨some 46, none, .bin .add (.slot 38) (.slot 45)⟩,
  ⟨some 8, none, .mov (.slot 46)⟩]
def c_slices_Repeat_Cell_L0 : ACode := (.seq (.seq (.region c_slices_Repeat_Cell_R8 false [7, 8, 37]) (.cond (.slot 37) .skip (.exit 0))) (.block 1 (.region c_slices_Repeat_Cell_R9 true [7, 8])))
def lp_slices_Repeat_Cell_0 : ACode := .loop [7, 8] c_slices_Repeat_Cell_L0
def c_slices_Repeat_Cell_R10 : List AOper := [⟨some 47, none, .mov (.slot 7)⟩,
  ⟨some 4, none, .mov (.slot 47)⟩]
def c_slices_Repeat_Cell : AFn := ⟨(.seq (.region c_slices_Repeat_Cell_R0 false [0, 1]) (.seq (.seq (.region c_slices_Repeat_Cell_R1 false [0, 1, 10]) (.cond (.slot 10) .dead .skip)) (.seq (.region c_slices_Repeat_Cell_R3 false [0, 5, 6]) (.seq (.seq (.region c_slices_Repeat_Cell_R4 false [0, 6, 26]) (.cond (.slot 26) .dead .skip)) (.seq (.region c_slices_Repeat_Cell_R6 false [0, 7]) (.seq (.region c_slices_Repeat_Cell_R7 false [7, 8]) (.seq (.block 0 lp_slices_Repeat_Cell_0) (.seq (.region c_slices_Repeat_Cell_R10 false [4]) .ret)))))))), [.slot 4]⟩
/- oriel/line.blank -/
def c_line_blank_R0 : List AOper := [⟨some 1, none, .box 3 (.slot 0)⟩,
  ⟨some 2, none, .alloc [.int .i32 0, .int .i32 0, .int .i32 0, .int .i64 0, .int .i64 0, .int .i64 0, .int .i64 0]⟩]
def c_line_blank_R1 : List AOper := [⟨some 3, none, .faddr 2 (.slot 1)⟩,
  ⟨some 4, none, .load false 1 (.slot 3)⟩,
  ⟨some 5, none, .build [.int .i64 0, .int .i64 0, .int .i64 0] [(2, 1, (.slot 4))]⟩,
  ⟨some 6, none, .build [.int .i32 0, .int .i32 0, .int .i32 0, .int .i64 0, .int .i64 0, .int .i64 0, .int .i64 0] [(0, 1, (.const (.int .i32 32))), (4, 3, (.slot 5))]⟩,
  ⟨none, none, .store true 7 (.slot 2) (.slot 6)⟩]
def c_line_blank : AFn := ⟨(.seq (.region c_line_blank_R0 false [1, 2]) (.seq (.region c_line_blank_R1 false [2]) .ret)), [.cell 2 true 7]⟩
/- oriel/line.Blank -/
def c_line_Blank_R0 : List AOper := [⟨some 3, none, .box 3 (.slot 1)⟩,
  ⟨some 4, none, .mov (.const (.data false 7 [] true))⟩]
def c_line_Blank_R1 : List AOper := [⟨some 5, none, .mov (.slot 0)⟩,
  ⟨some 6, none, .bin .lss (.slot 5) (.const (.int .i64 0))⟩,
  ⟨some 7, none, .mov (.slot 6)⟩,
  ⟨some 8, some (7, false), .mov (.slot 0)⟩,
  ⟨some 9, some (7, false), .bin .gtr (.slot 8) (.const (.int .i64 1000))⟩,
  ⟨some 10, none, .pick (.slot 7) (.const (.bool true)) (.slot 9)⟩,
  ⟨some 11, none, .mov (.slot 10)⟩,
  ⟨some 12, some (11, false), .load true 3 (.slot 3)⟩,
  ⟨some 13, some (11, false), .call .frz n_pen_May [(.slot 12)]⟩,
  ⟨some 14, some (11, false), .not (.slot 13)⟩,
  ⟨some 15, none, .pick (.slot 11) (.const (.bool true)) (.slot 14)⟩]
def c_line_Blank_R2 : List AOper := [⟨some 4, none, .mov (.const (.data false 7 [] true))⟩]
def c_line_Blank_R3 : List AOper := [⟨some 16, none, .load true 3 (.slot 3)⟩,
  ⟨some 17, none, .call .frz n_line_blank [(.slot 16)]⟩,
  ⟨some 18, none, .mkslice 7 1 [.int .i32 0, .int .i32 0, .int .i32 0, .int .i64 0, .int .i64 0, .int .i64 0, .int .i64 0] [(0, (.slot 17))]⟩,
  ⟨some 19, none, .mov (.slot 0)⟩,
  ⟨some 20, none, .call .frz n_slices_Repeat_Cell [(.slot 18), (.slot 19)]⟩,
  ⟨some 4, none, .mov (.slot 20)⟩]
def c_line_Blank : AFn := ⟨(.seq (.region c_line_Blank_R0 false [0, 3]) (.seq (.seq (.region c_line_Blank_R1 false [0, 3, 15]) (.cond (.slot 15) (.seq (.region c_line_Blank_R2 false [4]) .ret) .skip)) (.seq (.region c_line_Blank_R3 false [4]) .ret))), [.slot 4]⟩
/- sort.Search -/
def c_sort_Search_R0 : List AOper := [⟨some 4, none, .mov (.const (.int .i64 0))⟩]
def c_sort_Search_R1 : List AOper := [⟨some 8, none, .mov (.slot 0)⟩,
  ⟨some 5, none, .mov (.const (.int .i64 0))⟩,
  ⟨some 6, none, .mov (.slot 8)⟩]
def c_sort_Search_R2 : List AOper := [⟨some 9, none, .mov (.slot 5)⟩,
  ⟨some 10, none, .mov (.slot 6)⟩,
  ⟨some 11, none, .bin .lss (.slot 9) (.slot 10)⟩]
def c_sort_Search_R3 : List AOper := [⟨some 12, none, .mov (.slot 5)⟩,
  ⟨some 13, none, .mov (.slot 6)⟩,
  ⟨some 14, none, .bin .add (.slot 12) (.slot 13)⟩,
  ⟨some 15, none, .conv .u64 (.slot 14)⟩,
  ⟨some 16, none, .bin .shr (.slot 15) (.const (.int .u64 1))⟩,
  ⟨some 17, none, .conv .i64 (.slot 16)⟩,
  ⟨some 7, none, .mov (.slot 17)⟩]
def c_sort_Search_R4 : List AOper := [⟨some 18, none, .mov (.slot 1)⟩,
  ⟨some 19, none, .mov (.slot 7)⟩,
  ⟨some 20, none, .callv (.slot 18) [(.slot 19)]⟩,
  ⟨some 21, none, .not (.slot 20)⟩]
def c_sort_Search_R5 : List AOper := [⟨some 22, none, .mov (.slot 7)⟩,
  ⟨some 23, none, .bin .add (.slot 22) (.const (.int .i64 1))⟩,
  ⟨some 5, none, .mov (.slot 23)⟩]
def c_sort_Search_R6 : List AOper := [⟨some 24, none, .mov (.slot 7)⟩,
  ⟨some 6, none, .mov (.slot 24)⟩]
def c_sort_Search_L0 : ACode := (.seq (.seq (.region c_sort_Search_R2 false [1, 5, 6, 11]) (.cond (.slot 11) .skip (.exit 0))) (.block 1 (.seq (.region c_sort_Search_R3 false [1, 5, 6, 7]) (.seq (.region c_sort_Search_R4 false [1, 5, 6, 7, 21]) (.cond (.slot 21) (.region c_sort_Search_R5 false [1, 5, 6]) (.region c_sort_Search_R6 false [1, 5, 6]))))))
def lp_sort_Search_0 : ACode := .loop [1, 5, 6] c_sort_Search_L0
def c_sort_Search_R7 : List AOper := [⟨some 25, none, .mov (.slot 5)⟩,
  ⟨some 4, none, .mov (.slot 25)⟩]
def c_sort_Search : AFn := ⟨(.seq (.region c_sort_Search_R0 false [0, 1]) (.seq (.region c_sort_Search_R1 false [1, 5, 6]) (.seq (.block 0 lp_sort_Search_0) (.seq (.region c_sort_Search_R7 false [4]) .ret)))), [.slot 4]⟩
/- oriel/cols.Of'1 -/
def c_cols_Of_1_R0 : List AOper := [⟨some 3, none, .mov (.const (.bool false))⟩]
def c_cols_Of_1_R1 : List AOper := [⟨some 4, none, .mov (.slot 0)⟩,
  ⟨some 5, none, .idxarr 3 22 (.glob 0) (.slot 4)⟩,
  ⟨some 6, none, .idxarr 1 3 (.slot 5) (.const (.int .i64 1))⟩,
  ⟨some 7, none, .load false 1 (.slot 6)⟩,
  ⟨some 8, none, .load false 1 (.slot 1)⟩,
  ⟨some 9, none, .bin .geq (.slot 7) (.slot 8)⟩,
  ⟨some 3, none, .mov (.slot 9)⟩]
def c_cols_Of_1 : AFn := ⟨(.seq (.region c_cols_Of_1_R0 false [0, 1]) (.seq (.region c_cols_Of_1_R1 true [3]) .ret)), [.slot 3]⟩
/- oriel/cols.Of -/
def c_cols_Of_R0 : List AOper := [⟨some 1, none, .box 1 (.slot 0)⟩,
  ⟨some 2, none, .mov (.const (.int .i64 0))⟩]
def c_cols_Of_R1 : List AOper := [⟨some 4, none, .load false 1 (.slot 1)⟩,
  ⟨some 5, none, .bin .lss (.slot 4) (.const (.int .i32 32))⟩,
  ⟨some 6, none, .mov (.slot 5)⟩,
  ⟨some 7, some (6, false), .load false 1 (.slot 1)⟩,
  ⟨some 8, some (6, false), .bin .geq (.slot 7) (.const (.int .i32 127))⟩,
  ⟨some 9, some (6, false), .mov (.slot 8)⟩,
  ⟨some 10, some (9, true), .load false 1 (.slot 1)⟩,
  ⟨some 11, some (9, true), .bin .lss (.slot 10) (.const (.int .i32 160))⟩,
  ⟨some 12, some (6, false), .pick (.slot 9) (.slot 11) (.const (.bool false))⟩,
  ⟨some 13, none, .pick (.slot 6) (.const (.bool true)) (.slot 12)⟩,
  ⟨some 14, none, .mov (.slot 13)⟩,
  ⟨some 15, some (14, false), .load false 1 (.slot 1)⟩,
  ⟨some 16, some (14, false), .bin .geq (.slot 15) (.const (.int .i32 55296))⟩,
  ⟨some 17, some (14, false), .mov (.slot 16)⟩,
  ⟨some 18, some (17, true), .load false 1 (.slot 1)⟩,
  ⟨some 19, some (17, true), .bin .leq (.slot 18) (.const (.int .i32 57343))⟩,
  ⟨some 20, some (14, false), .pick (.slot 17) (.slot 19) (.const (.bool false))⟩,
  ⟨some 21, none, .pick (.slot 14) (.const (.bool true)) (.slot 20)⟩,
  ⟨some 22, none, .mov (.slot 21)⟩,
  ⟨some 23, some (22, false), .load false 1 (.slot 1)⟩,
  ⟨some 24, some (22, false), .bin .gtr (.slot 23) (.const (.int .i32 1114111))⟩,
  ⟨some 25, none, .pick (.slot 22) (.const (.bool true)) (.slot 24)⟩]
def c_cols_Of_R2 : List AOper := [⟨some 2, none, .mov (.const (.int .i64 (-1)))⟩]
def c_cols_Of_R3 : List AOper := [⟨some 26, none, .mkfn (.func n_cols_Of_1) [] [(.slot 1)]⟩,
  ⟨some 27, none, .call .inl n_sort_Search [(.const (.int .i64 22)), (.slot 26)]⟩,
  ⟨some 3, none, .mov (.slot 27)⟩]
def c_cols_Of_R4 : List AOper := [⟨some 28, none, .mov (.slot 3)⟩,
  ⟨some 29, none, .bin .lss (.slot 28) (.const (.int .i64 22))⟩,
  ⟨some 30, none, .mov (.slot 29)⟩,
  ⟨some 31, some (30, true), .mov (.slot 3)⟩,
  ⟨some 32, some (30, true), .idxarr 3 22 (.glob 0) (.slot 31)⟩,
  ⟨some 33, some (30, true), .idxarr 1 3 (.slot 32) (.const (.int .i64 0))⟩,
  ⟨some 34, some (30, true), .load false 1 (.slot 33)⟩,
  ⟨some 35, some (30, true), .load false 1 (.slot 1)⟩,
  ⟨some 36, some (30, true), .bin .leq (.slot 34) (.slot 35)⟩,
  ⟨some 37, none, .pick (.slot 30) (.slot 36) (.const (.bool false))⟩]
def c_cols_Of_R5 : List AOper := [⟨some 38, none, .mov (.slot 3)⟩,
  ⟨some 39, none, .idxarr 3 22 (.glob 0) (.slot 38)⟩,
  ⟨some 40, none, .idxarr 1 3 (.slot 39) (.const (.int .i64 2))⟩,
  ⟨some 41, none, .load false 1 (.slot 40)⟩,
  ⟨some 42, none, .conv .i64 (.slot 41)⟩,
  ⟨some 2, none, .mov (.slot 42)⟩]
def c_cols_Of_R6 : List AOper := [⟨some 2, none, .mov (.const (.int .i64 1))⟩]
def c_cols_Of : AFn := ⟨(.seq (.region c_cols_Of_R0 false [1]) (.seq (.seq (.region c_cols_Of_R1 false [1, 25]) (.cond (.slot 25) (.seq (.region c_cols_Of_R2 false [2]) .ret) .skip)) (.seq (.region c_cols_Of_R3 false [1, 3]) (.seq (.seq (.region c_cols_Of_R4 true [3, 37]) (.cond (.slot 37) (.seq (.region c_cols_Of_R5 false [2]) .ret) .skip)) (.seq (.region c_cols_Of_R6 false [2]) .ret))))), [.slot 2]⟩
/- oriel/line.marked -/
def c_line_marked_R0 : List AOper := [⟨some 1, none, .box 2 (.slot 0)⟩,
  ⟨some 2, none, .mov (.const (.bool false))⟩]
def c_line_marked_R1 : List AOper := [⟨some 3, none, .idxarr 1 2 (.slot 1) (.const (.int .i64 0))⟩,
  ⟨some 4, none, .load false 1 (.slot 3)⟩,
  ⟨some 5, none, .bin .eql (.slot 4) (.const (.int .i32 0))⟩]
def c_line_marked_R2 : List AOper := [⟨some 6, none, .idxarr 1 2 (.slot 1) (.const (.int .i64 1))⟩,
  ⟨some 7, none, .load false 1 (.slot 6)⟩,
  ⟨some 8, none, .bin .eql (.slot 7) (.const (.int .i32 0))⟩,
  ⟨some 2, none, .mov (.slot 8)⟩]
def c_line_marked_R3 : List AOper := [⟨some 9, none, .idxarr 1 2 (.slot 1) (.const (.int .i64 0))⟩,
  ⟨some 10, none, .load false 1 (.slot 9)⟩,
  ⟨some 11, none, .call .frz n_cols_Of [(.slot 10)]⟩,
  ⟨some 12, none, .bin .eql (.slot 11) (.const (.int .i64 0))⟩,
  ⟨some 13, none, .mov (.slot 12)⟩,
  ⟨some 14, some (13, true), .idxarr 1 2 (.slot 1) (.const (.int .i64 1))⟩,
  ⟨some 15, some (13, true), .load false 1 (.slot 14)⟩,
  ⟨some 16, some (13, true), .bin .eql (.slot 15) (.const (.int .i32 0))⟩,
  ⟨some 17, some (13, true), .mov (.slot 16)⟩,
  ⟨some 18, some (17, false), .idxarr 1 2 (.slot 1) (.const (.int .i64 1))⟩,
  ⟨some 19, some (17, false), .load false 1 (.slot 18)⟩,
  ⟨some 20, some (17, false), .call .frz n_cols_Of [(.slot 19)]⟩,
  ⟨some 21, some (17, false), .bin .eql (.slot 20) (.const (.int .i64 0))⟩,
  ⟨some 22, some (13, true), .pick (.slot 17) (.const (.bool true)) (.slot 21)⟩,
  ⟨some 23, none, .pick (.slot 13) (.slot 22) (.const (.bool false))⟩,
  ⟨some 2, none, .mov (.slot 23)⟩]
def c_line_marked : AFn := ⟨(.seq (.region c_line_marked_R0 false [1]) (.seq (.seq (.region c_line_marked_R1 false [1, 5]) (.cond (.slot 5) (.seq (.region c_line_marked_R2 false [2]) .ret) .skip)) (.seq (.region c_line_marked_R3 false [2]) .ret))), [.slot 2]⟩
/- oriel/line.may -/
def c_line_may_R0 : List AOper := [⟨some 1, none, .box 7 (.slot 0)⟩,
  ⟨some 2, none, .mov (.const (.bool false))⟩]
def c_line_may_R1 : List AOper := [⟨some 3, none, .faddr 3 (.slot 1)⟩,
  ⟨some 4, none, .load false 1 (.slot 3)⟩]
def c_line_may_R2 : List AOper := [⟨some 6, none, .bin .eql (.slot 4) (.const (.int .i64 0))⟩,
  ⟨some 5, none, .mov (.slot 6)⟩]
def c_line_may_R3 : List AOper := [⟨some 7, none, .bin .eql (.slot 4) (.const (.int .i64 1))⟩,
  ⟨some 5, none, .mov (.slot 7)⟩]
def c_line_may_R4 : List AOper := [⟨some 8, none, .faddr 4 (.slot 1)⟩,
  ⟨some 9, none, .load true 3 (.slot 8)⟩,
  ⟨some 10, none, .call .frz n_pen_May [(.slot 9)]⟩,
  ⟨some 11, none, .mov (.slot 10)⟩,
  ⟨some 12, some (11, true), .faddr 0 (.slot 1)⟩,
  ⟨some 13, some (11, true), .load false 1 (.slot 12)⟩,
  ⟨some 14, some (11, true), .call .frz n_cols_Of [(.slot 13)]⟩,
  ⟨some 15, some (11, true), .faddr 3 (.slot 1)⟩,
  ⟨some 16, some (11, true), .load false 1 (.slot 15)⟩,
  ⟨some 17, some (11, true), .bin .add (.slot 16) (.const (.int .i64 1))⟩,
  ⟨some 18, some (11, true), .bin .eql (.slot 14) (.slot 17)⟩,
  ⟨some 19, none, .pick (.slot 11) (.slot 18) (.const (.bool false))⟩,
  ⟨some 20, none, .mov (.slot 19)⟩,
  ⟨some 21, some (20, true), .faddr 1 (.slot 1)⟩,
  ⟨some 22, some (20, true), .load true 2 (.slot 21)⟩,
  ⟨some 23, some (20, true), .call .frz n_line_marked [(.slot 22)]⟩,
  ⟨some 24, none, .pick (.slot 20) (.slot 23) (.const (.bool false))⟩,
  ⟨some 2, none, .mov (.slot 24)⟩]
def c_line_may_R5 : List AOper := [⟨some 26, none, .bin .eql (.slot 4) (.const (.int .i64 2))⟩,
  ⟨some 25, none, .mov (.slot 26)⟩]
def c_line_may_R6 : List AOper := [⟨some 27, none, .faddr 4 (.slot 1)⟩,
  ⟨some 28, none, .load true 3 (.slot 27)⟩,
  ⟨some 29, none, .call .frz n_pen_May [(.slot 28)]⟩,
  ⟨some 30, none, .mov (.slot 29)⟩,
  ⟨some 31, some (30, true), .load true 7 (.slot 1)⟩,
  ⟨some 32, some (30, true), .faddr 4 (.slot 1)⟩,
  ⟨some 33, some (30, true), .load true 3 (.slot 32)⟩,
  ⟨some 34, some (30, true), .build [.int .i32 0, .int .i32 0, .int .i32 0, .int .i64 0, .int .i64 0, .int .i64 0, .int .i64 0] [(3, 1, (.const (.int .i64 2))), (4, 3, (.slot 33))]⟩,
  ⟨some 35, some (30, true), .eq true [.ki, .ki, .ki, .ki, .ki, .ki, .ki] false (.slot 31) (.slot 34)⟩,
  ⟨some 36, none, .pick (.slot 30) (.slot 35) (.const (.bool false))⟩,
  ⟨some 2, none, .mov (.slot 36)⟩]
def c_line_may_R7 : List AOper := [⟨some 2, none, .mov (.const (.bool false))⟩]
def c_line_may : AFn := ⟨(.seq (.region c_line_may_R0 false [1]) (.seq (.seq (.region c_line_may_R1 false [1, 4]) (.block 0 (.seq (.seq (.region c_line_may_R2 false [1, 4, 5]) (.cond (.slot 5) .skip (.region c_line_may_R3 false [1, 4, 5]))) (.cond (.slot 5) (.seq (.region c_line_may_R4 true [2]) .ret) (.seq (.region c_line_may_R5 false [1, 25]) (.cond (.slot 25) (.seq (.region c_line_may_R6 false [2]) .ret) .skip)))))) (.seq (.region c_line_may_R7 false [2]) .ret))), [.slot 2]⟩
/- oriel/line.May -/
def c_line_May_R0 : List AOper := [⟨some 2, none, .mov (.const (.bool false))⟩]
def c_line_May_R1 : List AOper := [⟨some 6, none, .mov (.slot 0)⟩,
  ⟨some 7, none, .len false (.slot 6)⟩,
  ⟨some 8, none, .bin .gtr (.slot 7) (.const (.int .i64 1000))⟩]
def c_line_May_R2 : List AOper := [⟨some 2, none, .mov (.const (.bool false))⟩]
def c_line_May_R3 : List AOper := [⟨some 9, none, .mov (.slot 0)⟩,
  ⟨some 10, none, .len false (.slot 9)⟩,
  ⟨some 11, none, .mov (.const (.int .i64 0))⟩]
def c_line_May_R4 : List AOper := [⟨some 12, none, .bin .lss (.slot 11) (.slot 10)⟩]
def c_line_May_R5 : List AOper := [⟨some 13, none, .mov (.slot 11)⟩,
  ⟨some 14, none, .idx 7 (.slot 9) (.slot 11)⟩,
  ⟨some 15, none, .load true 7 (.slot 14)⟩,
  ⟨some 4, none, .alloc [.int .i32 0, .int .i32 0, .int .i32 0, .int .i64 0, .int .i64 0, .int .i64 0, .int .i64 0]⟩,
  ⟨some 3, none, .mov (.slot 13)⟩,
  ⟨none, none, .store true 7 (.slot 4) (.slot 15)⟩]
def c_line_May_R6 : List AOper := [⟨some 16, none, .mov (.slot 3)⟩,
  ⟨some 17, none, .bin .gtr (.slot 16) (.const (.int .i64 0))⟩,
  ⟨some 18, none, .mov (.slot 17)⟩,
  ⟨some 19, some (18, true), .mov (.slot 0)⟩,
  ⟨some 20, some (18, true), .mov (.slot 3)⟩,
  ⟨some 21, some (18, true), .bin .sub (.slot 20) (.const (.int .i64 1))⟩,
  ⟨some 22, some (18, true), .idx 7 (.slot 19) (.slot 21)⟩,
  ⟨some 23, some (18, true), .faddr 3 (.slot 22)⟩,
  ⟨some 24, some (18, true), .load false 1 (.slot 23)⟩,
  ⟨some 25, some (18, true), .bin .eql (.slot 24) (.const (.int .i64 1))⟩,
  ⟨some 26, none, .pick (.slot 18) (.slot 25) (.const (.bool false))⟩,
  ⟨some 5, none, .mov (.slot 26)⟩]
def c_line_May_R7 : List AOper := ⟨some 27, none, .load true 7 (.slot 4)⟩ ::
  ⟨some 28, none, .call .frz n_line_may [(.slot 27)]⟩ ::
  ⟨some 29, none, .not (.slot 28)⟩ ::
  ⟨some 30, none, .mov (.slot 29)⟩ ::
  ⟨some 31, some (30, false), .mov (.slot 5)⟩ ::
  ⟨some 32, some (30, false), .faddr 3 (.slot 4)⟩ ::
  ⟨some 33, some (30, false), .load false 1 (.slot 32)⟩ ::
  ⟨some 34, some (30, false), .bin .eql (.slot 33) (.const (.int .i64 2))⟩ ::
  ⟨some 35, some (30, false), .eq false [.kb] true (.slot 31) (.slot 34)⟩ ::
  ⟨some 36, none, .pick (.slot 30) (.const (.bool true)) (.slot 35)⟩ ::
  ⟨some 37, none, .mov (.slot 36)⟩ ::
  ⟨some 38, some (37, false), .mov (.slot 5)⟩ ::
  ⟨some 39, some (37, false), .mov (.slot 38)⟩ ::
  ⟨some 40, some (39, true), .mov (.slot 0)⟩ ::
  ⟨some 41, some (39, true), .mov (.slot 3)⟩ ::
  ⟨some 42, some (39, true), .bin .sub (.slot 41) (.const (.int .i64 1))⟩ ::
  ⟨some 43, some (39, true), .idx 7 (.slot 40) (.slot 42)⟩ ::
  ⟨some 44, some (39, true), .faddr 4 (.slot 43)⟩ ::
  ⟨some 45, some (39, true), .load true 3 (.slot 44)⟩ ::
  ⟨some 46, some (39, true), .faddr 4 (.slot 4)⟩ ::
  ⟨some 47, some (39, true), .load true 3 (.slot 46)⟩ ::
  ⟨some 48, some (39, true), .eq true [.ki, .ki, .ki] true (.slot 45) (.slot 47)⟩ ::
  ⟨some 49, some (37, false), .pick (.slot 39) (.slot 48) (.const (.bool false))⟩ ::
  ⟨some 50, none, .pick (.slot 37) (.const (.bool true)) (.slot 49)⟩ ::
  ⟨some 51, none, .mov (.slot 50)⟩ ::
  ⟨some 52, some (51, false), .faddr 3 (.slot 4)⟩ ::
  ⟨some 53, some (51, false), .load false 1 (.slot 52)⟩ ::
  ⟨some 54, some (51, false), .bin .eql (.slot 53) (.const (.int .i64 1))⟩ ::
  ⟨some 55, some (51, false), .mov (.slot 54)⟩ ::
  ⟨some 56, some (55, true), .mov (.slot 3)⟩ ::
  ⟨some 57, some (55, true), .mov (.slot 0)⟩ ::
  ⟨some 58, some (55, true), .len false (.slot 57)⟩ ::
  ⟨some 59, some (55, true), .bin .sub (.slot 58) (.const (.int .i64 1))⟩ ::
  ⟨some 60, some (55, true), .bin .eql (.slot 56) (.slot 59)⟩ ::
  ⟨some 61, some (51, false), .pick (.slot 55) (.slot 60) (.const (.bool false))⟩ ::
  ⟨some 62, none, .pick (.slot 51) (.const (.bool true)) (.slot 61)⟩ :: []
def c_line_May_R8 : List AOper := [⟨some 2, none, .mov (.const (.bool false))⟩]
def c_line_May_R9 : List AOper := [⟨some 63, none, .bin .add (.slot 11) (.const (.int .i64 1))⟩,
  ⟨some 11, none, .mov (.slot 63)⟩]
def c_line_May_L0 : ACode := (.seq (.region c_line_May_R4 false [0, 9, 10, 11, 12]) (.seq (.cond (.slot 12) .skip (.exit 0)) (.seq (.block 1 (.seq (.region c_line_May_R5 false [0, 3, 4, 9, 10, 11]) (.seq (.region c_line_May_R6 false [0, 3, 4, 5, 9, 10, 11]) (.seq (.region c_line_May_R7 true [0, 9, 10, 11, 62]) (.cond (.slot 62) (.seq (.region c_line_May_R8 false [2]) .ret) .skip))))) (.region c_line_May_R9 false [0, 9, 10, 11]))))
def lp_line_May_0 : ACode := .loop [0, 9, 10, 11] c_line_May_L0
def c_line_May_R10 : List AOper := [⟨some 2, none, .mov (.const (.bool true))⟩]
def c_line_May : AFn := ⟨(.seq (.region c_line_May_R0 false [0]) (.seq (.seq (.region c_line_May_R1 false [0, 8]) (.cond (.slot 8) (.seq (.region c_line_May_R2 false [2]) .ret) .skip)) (.seq (.seq (.region c_line_May_R3 false [0, 9, 10, 11]) (.block 0 lp_line_May_0)) (.seq (.region c_line_May_R10 false [2]) .ret)))), [.slot 2]⟩
/- oriel/line.fine -/
def c_line_fine_R0 : List AOper := [⟨some 3, none, .box 3 (.slot 1)⟩,
  ⟨some 4, none, .mov (.const (.bool false))⟩]
def c_line_fine_R1 : List AOper := [⟨some 5, none, .mov (.slot 0)⟩,
  ⟨some 6, none, .call .frz n_line_May [(.slot 5)]⟩,
  ⟨some 7, none, .mov (.slot 6)⟩,
  ⟨some 8, some (7, true), .load true 3 (.slot 3)⟩,
  ⟨some 9, some (7, true), .call .frz n_pen_May [(.slot 8)]⟩,
  ⟨some 10, none, .pick (.slot 7) (.slot 9) (.const (.bool false))⟩,
  ⟨some 4, none, .mov (.slot 10)⟩]
def c_line_fine : AFn := ⟨(.seq (.region c_line_fine_R0 false [0, 3]) (.seq (.region c_line_fine_R1 false [4]) .ret)), [.slot 4]⟩
/- slices.Clone[[]oriel/api.Cell,oriel/api.Cell] -/
def c_slices_Clone_Cell_R0 : List AOper := [⟨some 2, none, .mov (.const (.data false 7 [] true))⟩]
def c_slices_Clone_Cell_R1 : List AOper := [⟨some 3, none, .mov (.slot 0)⟩,
  ⟨some 4, none, .isnil .ks false (.slot 3)⟩]
def c_slices_Clone_Cell_R2 : List AOper := [⟨some 2, none, .mov (.const (.data false 7 [] true))⟩]
def c_slices_Clone_Cell_R3 : List AOper := [⟨some 5, none, .mkslice 7 0 [.int .i32 0, .int .i32 0, .int .i32 0, .int .i64 0, .int .i64 0, .int .i64 0, .int .i64 0] []⟩,
  ⟨some 6, none, .mov (.slot 0)⟩,
  ⟨some 7, none, .append 7 48 (.slot 5) (.slot 6)⟩,
  ⟨some 2, none, .mov (.slot 7)⟩]
def c_slices_Clone_Cell : AFn := ⟨(.seq (.region c_slices_Clone_Cell_R0 false [0]) (.seq (.seq (.region c_slices_Clone_Cell_R1 false [0, 4]) (.cond (.slot 4) (.seq (.region c_slices_Clone_Cell_R2 false [2]) .ret) .skip)) (.seq (.region c_slices_Clone_Cell_R3 false [2]) .ret))), [.slot 2]⟩
/- oriel/line.torn -/
def c_line_torn_R0 : List AOper := [⟨some 4, none, .mov (.slot 1)⟩,
  ⟨some 5, none, .bin .gtr (.slot 4) (.const (.int .i64 0))⟩,
  ⟨some 6, none, .mov (.slot 5)⟩,
  ⟨some 7, some (6, true), .mov (.slot 1)⟩,
  ⟨some 8, some (6, true), .mov (.slot 0)⟩,
  ⟨some 9, some (6, true), .len false (.slot 8)⟩,
  ⟨some 10, some (6, true), .bin .lss (.slot 7) (.slot 9)⟩,
  ⟨some 11, none, .pick (.slot 6) (.slot 10) (.const (.bool false))⟩,
  ⟨some 12, none, .mov (.slot 11)⟩,
  ⟨some 13, some (12, true), .mov (.slot 0)⟩,
  ⟨some 14, some (12, true), .mov (.slot 1)⟩,
  ⟨some 15, some (12, true), .idx 7 (.slot 13) (.slot 14)⟩,
  ⟨some 16, some (12, true), .faddr 3 (.slot 15)⟩,
  ⟨some 17, some (12, true), .load false 1 (.slot 16)⟩,
  ⟨some 18, some (12, true), .bin .eql (.slot 17) (.const (.int .i64 2))⟩,
  ⟨some 19, none, .pick (.slot 12) (.slot 18) (.const (.bool false))⟩]
def c_line_torn_R1 : List AOper := [⟨some 20, none, .mov (.slot 0)⟩,
  ⟨some 21, none, .mov (.slot 1)⟩,
  ⟨some 22, none, .bin .sub (.slot 21) (.const (.int .i64 1))⟩,
  ⟨some 23, none, .mov (.slot 0)⟩,
  ⟨some 24, none, .mov (.slot 1)⟩,
  ⟨some 25, none, .mov (.slot 0)⟩,
  ⟨some 26, none, .mov (.slot 1)⟩,
  ⟨some 27, none, .bin .sub (.slot 26) (.const (.int .i64 1))⟩,
  ⟨some 28, none, .idx 7 (.slot 25) (.slot 27)⟩,
  ⟨some 29, none, .faddr 4 (.slot 28)⟩,
  ⟨some 30, none, .load true 3 (.slot 29)⟩,
  ⟨some 31, none, .call .frz n_line_blank [(.slot 30)]⟩,
  ⟨some 32, none, .mov (.slot 0)⟩,
  ⟨some 33, none, .mov (.slot 1)⟩,
  ⟨some 34, none, .idx 7 (.slot 32) (.slot 33)⟩,
  ⟨some 35, none, .faddr 4 (.slot 34)⟩,
  ⟨some 36, none, .load true 3 (.slot 35)⟩,
  ⟨some 37, none, .call .frz n_line_blank [(.slot 36)]⟩,
  ⟨some 38, none, .idx 7 (.slot 20) (.slot 22)⟩,
  ⟨none, none, .store true 7 (.slot 38) (.slot 31)⟩,
  ⟨some 39, none, .idx 7 (.slot 23) (.slot 24)⟩,
  ⟨none, none, .store true 7 (.slot 39) (.slot 37)⟩]
def c_line_torn : AFn := ⟨(.seq (.region c_line_torn_R0 false [0, 1, 19]) (.cond (.slot 19) (.region c_line_torn_R1 true []) .skip)), []⟩
/- oriel/line.Put -/
def c_line_Put_R0 : List AOper := [⟨some 7, none, .box 3 (.slot 3)⟩,
  ⟨some 8, none, .mov (.const (.data false 7 [] true))⟩]
def c_line_Put_R1 : List AOper := [⟨some 11, none, .mov (.slot 0)⟩,
  ⟨some 12, none, .load true 3 (.slot 7)⟩,
  ⟨some 13, none, .call .frz n_line_fine [(.slot 11), (.slot 12)]⟩,
  ⟨some 14, none, .not (.slot 13)⟩]
def c_line_Put_R2 : List AOper := [⟨some 8, none, .mov (.const (.data false 7 [] true))⟩]
def c_line_Put_R3 : List AOper := [⟨some 15, none, .mov (.slot 2)⟩,
  ⟨some 16, none, .call .frz n_cols_Of [(.slot 15)]⟩,
  ⟨some 9, none, .mov (.slot 16)⟩]
def c_line_Put_R4 : List AOper := [⟨some 17, none, .mov (.slot 0)⟩,
  ⟨some 18, none, .call .adp n_slices_Clone_Cell [(.slot 17)]⟩,
  ⟨some 10, none, .mov (.slot 18)⟩]
def c_line_Put_R5 : List AOper := [⟨some 19, none, .mov (.slot 9)⟩,
  ⟨some 20, none, .bin .lss (.slot 19) (.const (.int .i64 1))⟩,
  ⟨some 21, none, .mov (.slot 20)⟩,
  ⟨some 22, some (21, false), .mov (.slot 1)⟩,
  ⟨some 23, some (21, false), .bin .lss (.slot 22) (.const (.int .i64 0))⟩,
  ⟨some 24, none, .pick (.slot 21) (.const (.bool true)) (.slot 23)⟩,
  ⟨some 25, none, .mov (.slot 24)⟩,
  ⟨some 26, some (25, false), .mov (.slot 1)⟩,
  ⟨some 27, some (25, false), .mov (.slot 0)⟩,
  ⟨some 28, some (25, false), .len false (.slot 27)⟩,
  ⟨some 29, some (25, false), .mov (.slot 9)⟩,
  ⟨some 30, some (25, false), .bin .sub (.slot 28) (.slot 29)⟩,
  ⟨some 31, some (25, false), .bin .gtr (.slot 26) (.slot 30)⟩,
  ⟨some 32, none, .pick (.slot 25) (.const (.bool true)) (.slot 31)⟩]
def c_line_Put_R6 : List AOper := [⟨some 33, none, .mov (.slot 10)⟩,
  ⟨some 8, none, .mov (.slot 33)⟩]
def c_line_Put_R7 : List AOper := [⟨some 34, none, .mov (.slot 10)⟩,
  ⟨some 35, none, .mov (.slot 1)⟩,
  ⟨some 36, none, .call .inl n_line_torn [(.slot 34), (.slot 35)]⟩]
def c_line_Put_R8 : List AOper := [⟨some 37, none, .mov (.slot 10)⟩,
  ⟨some 38, none, .mov (.slot 1)⟩,
  ⟨some 39, none, .mov (.slot 9)⟩,
  ⟨some 40, none, .bin .add (.slot 38) (.slot 39)⟩,
  ⟨some 41, none, .call .inl n_line_torn [(.slot 37), (.slot 40)]⟩]
def c_line_Put_R9 : List AOper := [⟨some 42, none, .mov (.slot 10)⟩,
  ⟨some 43, none, .mov (.slot 1)⟩,
  ⟨some 44, none, .mov (.slot 2)⟩,
  ⟨some 45, none, .mov (.slot 9)⟩,
  ⟨some 46, none, .bin .sub (.slot 45) (.const (.int .i64 1))⟩,
  ⟨some 47, none, .load true 3 (.slot 7)⟩,
  ⟨some 48, none, .build [.int .i32 0, .int .i32 0, .int .i32 0, .int .i64 0, .int .i64 0, .int .i64 0, .int .i64 0] [(0, 1, (.slot 44)), (3, 1, (.slot 46)), (4, 3, (.slot 47))]⟩,
  ⟨some 49, none, .idx 7 (.slot 42) (.slot 43)⟩,
  ⟨none, none, .store true 7 (.slot 49) (.slot 48)⟩]
def c_line_Put_R10 : List AOper := [⟨some 50, none, .mov (.slot 9)⟩,
  ⟨some 51, none, .bin .eql (.slot 50) (.const (.int .i64 2))⟩]
def c_line_Put_R11 : List AOper := [⟨some 52, none, .mov (.slot 10)⟩,
  ⟨some 53, none, .mov (.slot 1)⟩,
  ⟨some 54, none, .bin .add (.slot 53) (.const (.int .i64 1))⟩,
  ⟨some 55, none, .load true 3 (.slot 7)⟩,
  ⟨some 56, none, .build [.int .i32 0, .int .i32 0, .int .i32 0, .int .i64 0, .int .i64 0, .int .i64 0, .int .i64 0] [(3, 1, (.const (.int .i64 2))), (4, 3, (.slot 55))]⟩,
  ⟨some 57, none, .idx 7 (.slot 52) (.slot 54)⟩,
  ⟨none, none, .store true 7 (.slot 57) (.slot 56)⟩]
def c_line_Put_R12 : List AOper := [⟨some 58, none, .mov (.slot 10)⟩,
  ⟨some 8, none, .mov (.slot 58)⟩]
def c_line_Put : AFn := ⟨(.seq (.region c_line_Put_R0 false [0, 1, 2, 7]) (.seq (.seq (.region c_line_Put_R1 false [0, 1, 2, 7, 14]) (.cond (.slot 14) (.seq (.region c_line_Put_R2 false [8]) .ret) .skip)) (.seq (.region c_line_Put_R3 false [0, 1, 2, 7, 9]) (.seq (.region c_line_Put_R4 false [0, 1, 2, 7, 9, 10]) (.seq (.seq (.region c_line_Put_R5 false [1, 2, 7, 9, 10, 32]) (.cond (.slot 32) (.seq (.region c_line_Put_R6 false [8]) .ret) .skip)) (.seq (.region c_line_Put_R7 false [1, 2, 7, 9, 10]) (.seq (.region c_line_Put_R8 false [1, 2, 7, 9, 10]) (.seq (.region c_line_Put_R9 false [1, 7, 9, 10]) (.seq (.seq (.region c_line_Put_R10 false [1, 7, 10, 51]) (.cond (.slot 51) (.region c_line_Put_R11 false [10]) .skip)) (.seq (.region c_line_Put_R12 false [8]) .ret)))))))))), [.slot 8]⟩
/- oriel/oriellaw14.known -/
def c_law14_known_R0 : List AOper := [⟨some 0, none, .mov (.const (.bool false))⟩]
def c_law14_known_R1 : List AOper := [⟨some 2, none, .build [.int .i64 0, .int .i64 0, .int .i64 0] []⟩,
  ⟨some 3, none, .call .frz n_line_Blank [(.const (.int .i64 3)), (.slot 2)]⟩,
  ⟨some 4, none, .build [.int .i64 0, .int .i64 0, .int .i64 0] []⟩,
  ⟨some 5, none, .call .frz n_line_Put [(.slot 3), (.const (.int .i64 0)), (.const (.int .i32 65)), (.slot 4)]⟩,
  ⟨some 6, none, .build [.int .i64 0, .int .i64 0, .int .i64 0] [(1, 1, (.const (.int .i64 3)))]⟩,
  ⟨some 7, none, .call .frz n_line_Put [(.slot 5), (.const (.int .i64 1)), (.const (.int .i32 20013)), (.slot 6)]⟩,
  ⟨some 1, none, .mov (.slot 7)⟩]
def c_law14_known_R2 : List AOper := ⟨some 8, none, .mov (.slot 1)⟩ ::
  ⟨some 9, none, .len false (.slot 8)⟩ ::
  ⟨some 10, none, .bin .neq (.slot 9) (.const (.int .i64 3))⟩ ::
  ⟨some 11, none, .mov (.slot 10)⟩ ::
  ⟨some 12, some (11, false), .mov (.slot 1)⟩ ::
  ⟨some 13, some (11, false), .idx 7 (.slot 12) (.const (.int .i64 0))⟩ ::
  ⟨some 14, some (11, false), .faddr 0 (.slot 13)⟩ ::
  ⟨some 15, some (11, false), .load false 1 (.slot 14)⟩ ::
  ⟨some 16, some (11, false), .bin .neq (.slot 15) (.const (.int .i32 65))⟩ ::
  ⟨some 17, none, .pick (.slot 11) (.const (.bool true)) (.slot 16)⟩ ::
  ⟨some 18, none, .mov (.slot 17)⟩ ::
  ⟨some 19, some (18, false), .mov (.slot 1)⟩ ::
  ⟨some 20, some (18, false), .idx 7 (.slot 19) (.const (.int .i64 1))⟩ ::
  ⟨some 21, some (18, false), .load true 7 (.slot 20)⟩ ::
  ⟨some 22, some (18, false), .build [.int .i64 0, .int .i64 0, .int .i64 0] [(1, 1, (.const (.int .i64 3)))]⟩ ::
  ⟨some 23, some (18, false), .build [.int .i32 0, .int .i32 0, .int .i32 0, .int .i64 0, .int .i64 0, .int .i64 0, .int .i64 0] [(0, 1, (.const (.int .i32 20013))), (3, 1, (.const (.int .i64 1))), (4, 3, (.slot 22))]⟩ ::
  ⟨some 24, some (18, false), .eq true [.ki, .ki, .ki, .ki, .ki, .ki, .ki] true (.slot 21) (.slot 23)⟩ ::
  ⟨some 25, none, .pick (.slot 18) (.const (.bool true)) (.slot 24)⟩ ::
  ⟨some 26, none, .mov (.slot 25)⟩ ::
  ⟨some 27, some (26, false), .mov (.slot 1)⟩ ::
  ⟨some 28, some (26, false), .idx 7 (.slot 27) (.const (.int .i64 2))⟩ ::
  ⟨some 29, some (26, false), .load true 7 (.slot 28)⟩ ::
  ⟨some 30, some (26, false), .build [.int .i64 0, .int .i64 0, .int .i64 0] [(1, 1, (.const (.int .i64 3)))]⟩ ::
  ⟨some 31, some (26, false), .build [.int .i32 0, .int .i32 0, .int .i32 0, .int .i64 0, .int .i64 0, .int .i64 0, .int .i64 0] [(3, 1, (.const (.int .i64 2))), (4, 3, (.slot 30))]⟩ ::
  ⟨some 32, some (26, false), .eq true [.ki, .ki, .ki, .ki, .ki, .ki, .ki] true (.slot 29) (.slot 31)⟩ ::
  ⟨some 33, none, .pick (.slot 26) (.const (.bool true)) (.slot 32)⟩ ::
  ⟨some 34, none, .mov (.slot 33)⟩ ::
  ⟨some 35, some (34, false), .mov (.slot 1)⟩ ::
  ⟨some 36, some (34, false), .call .frz n_line_May [(.slot 35)]⟩ ::
  ⟨some 37, some (34, false), .not (.slot 36)⟩ ::
  ⟨some 38, none, .pick (.slot 34) (.const (.bool true)) (.slot 37)⟩ :: []
def c_law14_known_R3 : List AOper := [⟨some 0, none, .mov (.const (.bool false))⟩]
def c_law14_known_R4 : List AOper := [⟨some 39, none, .mov (.slot 1)⟩,
  ⟨some 40, none, .build [.int .i64 0, .int .i64 0, .int .i64 0] []⟩,
  ⟨some 41, none, .call .frz n_line_Put [(.slot 39), (.const (.int .i64 2)), (.const (.int .i32 66)), (.slot 40)]⟩,
  ⟨some 1, none, .mov (.slot 41)⟩]
def c_law14_known_R5 : List AOper := [⟨some 42, none, .mov (.slot 1)⟩,
  ⟨some 43, none, .len false (.slot 42)⟩,
  ⟨some 44, none, .bin .eql (.slot 43) (.const (.int .i64 3))⟩,
  ⟨some 45, none, .mov (.slot 44)⟩,
  ⟨some 46, some (45, true), .mov (.slot 1)⟩,
  ⟨some 47, some (45, true), .idx 7 (.slot 46) (.const (.int .i64 1))⟩,
  ⟨some 48, some (45, true), .load true 7 (.slot 47)⟩,
  ⟨some 49, some (45, true), .build [.int .i32 0, .int .i32 0, .int .i32 0, .int .i64 0, .int .i64 0, .int .i64 0, .int .i64 0] [(0, 1, (.const (.int .i32 32)))]⟩,
  ⟨some 50, some (45, true), .eq true [.ki, .ki, .ki, .ki, .ki, .ki, .ki] false (.slot 48) (.slot 49)⟩,
  ⟨some 51, none, .pick (.slot 45) (.slot 50) (.const (.bool false))⟩,
  ⟨some 52, none, .mov (.slot 51)⟩,
  ⟨some 53, some (52, true), .mov (.slot 1)⟩,
  ⟨some 54, some (52, true), .idx 7 (.slot 53) (.const (.int .i64 2))⟩,
  ⟨some 55, some (52, true), .faddr 0 (.slot 54)⟩,
  ⟨some 56, some (52, true), .load false 1 (.slot 55)⟩,
  ⟨some 57, some (52, true), .bin .eql (.slot 56) (.const (.int .i32 66))⟩,
  ⟨some 58, none, .pick (.slot 52) (.slot 57) (.const (.bool false))⟩,
  ⟨some 0, none, .mov (.slot 58)⟩]
def c_law14_known : AFn := ⟨(.seq (.region c_law14_known_R0 false []) (.seq (.region c_law14_known_R1 false [1]) (.seq (.seq (.region c_law14_known_R2 false [1, 38]) (.cond (.slot 38) (.seq (.region c_law14_known_R3 false [0]) .ret) .skip)) (.seq (.region c_law14_known_R4 false [1]) (.seq (.region c_law14_known_R5 false [0]) .ret))))), [.slot 0]⟩
/- oriel/orielref12.May -/
def c_ref12_May_R0 : List AOper := [⟨some 1, none, .box 3 (.slot 0)⟩,
  ⟨some 2, none, .mov (.const (.bool false))⟩]
def c_ref12_May_R1 : List AOper := ⟨some 3, none, .faddr 0 (.slot 1)⟩ ::
  ⟨some 4, none, .load false 1 (.slot 3)⟩ ::
  ⟨some 5, none, .bin .geq (.slot 4) (.const (.int .i64 0))⟩ ::
  ⟨some 6, none, .mov (.slot 5)⟩ ::
  ⟨some 7, some (6, true), .faddr 0 (.slot 1)⟩ ::
  ⟨some 8, some (6, true), .load false 1 (.slot 7)⟩ ::
  ⟨some 9, some (6, true), .bin .leq (.slot 8) (.const (.int .i64 255))⟩ ::
  ⟨some 10, none, .pick (.slot 6) (.slot 9) (.const (.bool false))⟩ ::
  ⟨some 11, none, .mov (.slot 10)⟩ ::
  ⟨some 12, some (11, true), .faddr 1 (.slot 1)⟩ ::
  ⟨some 13, some (11, true), .load false 1 (.slot 12)⟩ ::
  ⟨some 14, some (11, true), .bin .geq (.slot 13) (.const (.int .i64 0))⟩ ::
  ⟨some 15, none, .pick (.slot 11) (.slot 14) (.const (.bool false))⟩ ::
  ⟨some 16, none, .mov (.slot 15)⟩ ::
  ⟨some 17, some (16, true), .faddr 1 (.slot 1)⟩ ::
  ⟨some 18, some (16, true), .load false 1 (.slot 17)⟩ ::
  ⟨some 19, some (16, true), .bin .leq (.slot 18) (.const (.int .i64 256))⟩ ::
  ⟨some 20, none, .pick (.slot 16) (.slot 19) (.const (.bool false))⟩ ::
  ⟨some 21, none, .mov (.slot 20)⟩ ::
  ⟨some 22, some (21, true), .faddr 2 (.slot 1)⟩ ::
  ⟨some 23, some (21, true), .load false 1 (.slot 22)⟩ ::
  ⟨some 24, some (21, true), .bin .geq (.slot 23) (.const (.int .i64 0))⟩ ::
  ⟨some 25, none, .pick (.slot 21) (.slot 24) (.const (.bool false))⟩ ::
  ⟨some 26, none, .mov (.slot 25)⟩ ::
  ⟨some 27, some (26, true), .faddr 2 (.slot 1)⟩ ::
  ⟨some 28, some (26, true), .load false 1 (.slot 27)⟩ ::
  ⟨some 29, some (26, true), .bin .leq (.slot 28) (.const (.int .i64 256))⟩ ::
  ⟨some 30, none, .pick (.slot 26) (.slot 29) (.const (.bool false))⟩ ::
  ⟨some 2, none, .mov (.slot 30)⟩ :: []
def c_ref12_May : AFn := ⟨(.seq (.region c_ref12_May_R0 false [1]) (.seq (.region c_ref12_May_R1 false [2]) .ret)), [.slot 2]⟩
/- oriel/orielref14.Pen -/
def c_ref14_Pen_R0 : List AOper := [⟨some 1, none, .box 3 (.slot 0)⟩,
  ⟨some 2, none, .mov (.const (.bool false))⟩]
def c_ref14_Pen_R1 : List AOper := [⟨some 3, none, .load true 3 (.slot 1)⟩,
  ⟨some 4, none, .call .frz n_ref12_May [(.slot 3)]⟩,
  ⟨some 2, none, .mov (.slot 4)⟩]
def c_ref14_Pen : AFn := ⟨(.seq (.region c_ref14_Pen_R0 false [1]) (.seq (.region c_ref14_Pen_R1 false [2]) .ret)), [.slot 2]⟩
/- oriel/orielref14.Same -/
def c_ref14_Same_R0 : List AOper := [⟨some 4, none, .mov (.const (.bool false))⟩]
def c_ref14_Same_R1 : List AOper := [⟨some 6, none, .mov (.slot 0)⟩,
  ⟨some 7, none, .len false (.slot 6)⟩,
  ⟨some 8, none, .mov (.slot 1)⟩,
  ⟨some 9, none, .len false (.slot 8)⟩,
  ⟨some 10, none, .bin .neq (.slot 7) (.slot 9)⟩]
def c_ref14_Same_R2 : List AOper := [⟨some 4, none, .mov (.const (.bool false))⟩]
def c_ref14_Same_R3 : List AOper := [⟨some 5, none, .mov (.const (.int .i64 0))⟩]
def c_ref14_Same_R4 : List AOper := [⟨some 11, none, .mov (.slot 5)⟩,
  ⟨some 12, none, .mov (.slot 0)⟩,
  ⟨some 13, none, .len false (.slot 12)⟩,
  ⟨some 14, none, .bin .lss (.slot 11) (.slot 13)⟩]
def c_ref14_Same_R6 : List AOper := [⟨some 17, none, .mov (.slot 0)⟩,
  ⟨some 18, none, .mov (.slot 5)⟩,
  ⟨some 19, none, .idx 7 (.slot 17) (.slot 18)⟩,
  ⟨some 20, none, .load true 7 (.slot 19)⟩,
  ⟨some 21, none, .mov (.slot 1)⟩,
  ⟨some 22, none, .mov (.slot 5)⟩,
  ⟨some 23, none, .idx 7 (.slot 21) (.slot 22)⟩,
  ⟨some 24, none, .load true 7 (.slot 23)⟩,
  ⟨some 25, none, .eq true [.ki, .ki, .ki, .ki, .ki, .ki, .ki] true (.slot 20) (.slot 24)⟩]
def c_ref14_Same_R7 : List AOper := [⟨some 4, none, .mov (.const (.bool false))⟩]
def c_ref14_Same_R5 : List AOper := [⟨some 15, none, .mov (.slot 5)⟩,
  ⟨some 16, none, .bin .add (.slot 15) (.const (.int .i64 1))⟩,
  ⟨some 5, none, .mov (.slot 16)⟩]
def c_ref14_Same_L0 : ACode := (.seq (.seq (.region c_ref14_Same_R4 false [0, 1, 5, 14]) (.cond (.slot 14) .skip (.exit 0))) (.seq (.block 1 (.seq (.region c_ref14_Same_R6 true [0, 1, 5, 25]) (.cond (.slot 25) (.seq (.region c_ref14_Same_R7 false [4]) .ret) .skip))) (.region c_ref14_Same_R5 false [0, 1, 5])))
def lp_ref14_Same_0 : ACode := .loop [0, 1, 5] c_ref14_Same_L0
def c_ref14_Same_R8 : List AOper := [⟨some 4, none, .mov (.const (.bool true))⟩]
def c_ref14_Same : AFn := ⟨(.seq (.region c_ref14_Same_R0 false [0, 1]) (.seq (.seq (.region c_ref14_Same_R1 false [0, 1, 10]) (.cond (.slot 10) (.seq (.region c_ref14_Same_R2 false [4]) .ret) .skip)) (.seq (.seq (.region c_ref14_Same_R3 false [0, 1, 5]) (.block 0 lp_ref14_Same_0)) (.seq (.region c_ref14_Same_R8 false [4]) .ret)))), [.slot 4]⟩
/- oriel/orielref14.Blank -/
def c_ref14_Blank_R0 : List AOper := [⟨some 1, none, .box 3 (.slot 0)⟩,
  ⟨some 2, none, .alloc [.int .i32 0, .int .i32 0, .int .i32 0, .int .i64 0, .int .i64 0, .int .i64 0, .int .i64 0]⟩]
def c_ref14_Blank_R1 : List AOper := [⟨some 3, none, .faddr 2 (.slot 1)⟩,
  ⟨some 4, none, .load false 1 (.slot 3)⟩,
  ⟨some 5, none, .build [.int .i64 0, .int .i64 0, .int .i64 0] [(2, 1, (.slot 4))]⟩,
  ⟨some 6, none, .build [.int .i32 0, .int .i32 0, .int .i32 0, .int .i64 0, .int .i64 0, .int .i64 0, .int .i64 0] [(0, 1, (.const (.int .i32 32))), (4, 3, (.slot 5))]⟩,
  ⟨none, none, .store true 7 (.slot 2) (.slot 6)⟩]
def c_ref14_Blank : AFn := ⟨(.seq (.region c_ref14_Blank_R0 false [1, 2]) (.seq (.region c_ref14_Blank_R1 false [2]) .ret)), [.cell 2 true 7]⟩
/- oriel/orielref14.Blanks -/
def c_ref14_Blanks_R0 : List AOper := [⟨some 3, none, .box 3 (.slot 1)⟩,
  ⟨some 4, none, .mov (.const (.data false 7 [] true))⟩]
def c_ref14_Blanks_R1 : List AOper := [⟨some 5, none, .mknil 7⟩]
def c_ref14_Blanks_R2 : List AOper := [⟨some 6, none, .mov (.const (.int .i64 0))⟩]
def c_ref14_Blanks_R3 : List AOper := [⟨some 7, none, .mov (.slot 6)⟩,
  ⟨some 8, none, .mov (.slot 0)⟩,
  ⟨some 9, none, .bin .lss (.slot 7) (.slot 8)⟩]
def c_ref14_Blanks_R5 : List AOper := [⟨some 12, none, .mov (.slot 5)⟩,
  ⟨some 13, none, .load true 3 (.slot 3)⟩,
  ⟨some 14, none, .call .frz n_ref14_Blank [(.slot 13)]⟩,
  ⟨some 15, none, .mkslice 7 1 [.int .i32 0, .int .i32 0, .int .i32 0, .int .i64 0, .int .i64 0, .int .i64 0, .int .i64 0] [(0, (.slot 14))]⟩,
  ⟨some 16, none, .append 7 48 (.slot 12) (.slot 15)⟩,
  ⟨some 5, none, .mov (.slot 16)⟩]
def c_ref14_Blanks_R4 : List AOper := [⟨some 10, none, .mov (.slot 6)⟩,
  ⟨some 11, none, .bin .add (.slot 10) (.const (.int .i64 1))⟩,
  ⟨some 6, none, .mov (.slot 11)⟩]
def c_ref14_Blanks_L0 : ACode := (.seq (.seq (.region c_ref14_Blanks_R3 false [0, 3, 5, 6, 9]) (.cond (.slot 9) .skip (.exit 0))) (.seq (.block 1 (.region c_ref14_Blanks_R5 false [0, 3, 5, 6])) (.region c_ref14_Blanks_R4 false [0, 3, 5, 6])))
def lp_ref14_Blanks_0 : ACode := .loop [0, 3, 5, 6] c_ref14_Blanks_L0
def c_ref14_Blanks_R6 : List AOper := [⟨some 17, none, .mov (.slot 5)⟩,
  ⟨some 4, none, .mov (.slot 17)⟩]
def c_ref14_Blanks : AFn := ⟨(.seq (.region c_ref14_Blanks_R0 false [0, 3]) (.seq (.region c_ref14_Blanks_R1 false [0, 3, 5]) (.seq (.seq (.region c_ref14_Blanks_R2 false [0, 3, 5, 6]) (.block 0 lp_ref14_Blanks_0)) (.seq (.region c_ref14_Blanks_R6 false [4]) .ret)))), [.slot 4]⟩
/- oriel/orielref13.in -/
def c_ref13_in_R0 : List AOper := [⟨some 6, none, .mov (.const (.bool false))⟩]
def c_ref13_in_R1 : List AOper := [⟨some 7, none, .mov (.slot 0)⟩,
  ⟨some 8, none, .mov (.slot 1)⟩,
  ⟨some 9, none, .bin .geq (.slot 7) (.slot 8)⟩,
  ⟨some 10, none, .mov (.slot 9)⟩,
  ⟨some 11, some (10, true), .mov (.slot 0)⟩,
  ⟨some 12, some (10, true), .mov (.slot 2)⟩,
  ⟨some 13, some (10, true), .bin .leq (.slot 11) (.slot 12)⟩,
  ⟨some 14, none, .pick (.slot 10) (.slot 13) (.const (.bool false))⟩,
  ⟨some 6, none, .mov (.slot 14)⟩]
def c_ref13_in : AFn := ⟨(.seq (.region c_ref13_in_R0 false [0, 1, 2]) (.seq (.region c_ref13_in_R1 false [6]) .ret)), [.slot 6]⟩
/- oriel/orielref13.Of -/
def c_ref13_Of_R0 : List AOper := [⟨some 2, none, .mov (.const (.int .i64 0))⟩]
def c_ref13_Of_R1 : List AOper := [⟨some 4, none, .mov (.slot 0)⟩,
  ⟨some 5, none, .bin .lss (.slot 4) (.const (.int .i32 32))⟩,
  ⟨some 6, none, .mov (.slot 5)⟩,
  ⟨some 7, some (6, false), .mov (.slot 0)⟩,
  ⟨some 8, some (6, false), .call .frz n_ref13_in [(.slot 7), (.const (.int .i32 127)), (.const (.int .i32 159))]⟩,
  ⟨some 9, none, .pick (.slot 6) (.const (.bool true)) (.slot 8)⟩,
  ⟨some 10, none, .mov (.slot 9)⟩,
  ⟨some 11, some (10, false), .mov (.slot 0)⟩,
  ⟨some 12, some (10, false), .call .frz n_ref13_in [(.slot 11), (.const (.int .i32 55296)), (.const (.int .i32 57343))]⟩,
  ⟨some 13, none, .pick (.slot 10) (.const (.bool true)) (.slot 12)⟩,
  ⟨some 14, none, .mov (.slot 13)⟩,
  ⟨some 15, some (14, false), .mov (.slot 0)⟩,
  ⟨some 16, some (14, false), .bin .gtr (.slot 15) (.const (.int .i32 1114111))⟩,
  ⟨some 17, none, .pick (.slot 14) (.const (.bool true)) (.slot 16)⟩,
  ⟨some 3, none, .mov (.slot 17)⟩]
def c_ref13_Of_R2 : List AOper := [⟨some 2, none, .mov (.const (.int .i64 (-1)))⟩]
def c_ref13_Of_R3 : List AOper := [⟨some 19, none, .mov (.slot 0)⟩,
  ⟨some 20, none, .call .frz n_ref13_in [(.slot 19), (.const (.int .i32 768)), (.const (.int .i32 879))]⟩,
  ⟨some 21, none, .mov (.slot 20)⟩,
  ⟨some 22, some (21, false), .mov (.slot 0)⟩,
  ⟨some 23, some (21, false), .call .frz n_ref13_in [(.slot 22), (.const (.int .i32 1155)), (.const (.int .i32 1161))]⟩,
  ⟨some 24, none, .pick (.slot 21) (.const (.bool true)) (.slot 23)⟩,
  ⟨some 25, none, .mov (.slot 24)⟩,
  ⟨some 26, some (25, false), .mov (.slot 0)⟩,
  ⟨some 27, some (25, false), .call .frz n_ref13_in [(.slot 26), (.const (.int .i32 1425)), (.const (.int .i32 1469))]⟩,
  ⟨some 28, none, .pick (.slot 25) (.const (.bool true)) (.slot 27)⟩,
  ⟨some 29, none, .mov (.slot 28)⟩,
  ⟨some 30, some (29, false), .mov (.slot 0)⟩,
  ⟨some 31, some (29, false), .call .frz n_ref13_in [(.slot 30), (.const (.int .i32 1552)), (.const (.int .i32 1562))]⟩,
  ⟨some 32, none, .pick (.slot 29) (.const (.bool true)) (.slot 31)⟩,
  ⟨some 33, none, .mov (.slot 32)⟩,
  ⟨some 34, some (33, false), .mov (.slot 0)⟩,
  ⟨some 35, some (33, false), .call .frz n_ref13_in [(.slot 34), (.const (.int .i32 1611)), (.const (.int .i32 1631))]⟩,
  ⟨some 36, none, .pick (.slot 33) (.const (.bool true)) (.slot 35)⟩,
  ⟨some 37, none, .mov (.slot 36)⟩,
  ⟨some 38, some (37, false), .mov (.slot 0)⟩,
  ⟨some 39, some (37, false), .call .frz n_ref13_in [(.slot 38), (.const (.int .i32 6832)), (.const (.int .i32 6911))]⟩,
  ⟨some 40, none, .pick (.slot 37) (.const (.bool true)) (.slot 39)⟩,
  ⟨some 18, none, .mov (.slot 40)⟩]
def c_ref13_Of_R4 : List AOper := [⟨some 2, none, .mov (.const (.int .i64 0))⟩]
def c_ref13_Of_R5 : List AOper := [⟨some 42, none, .mov (.slot 0)⟩,
  ⟨some 43, none, .call .frz n_ref13_in [(.slot 42), (.const (.int .i32 7616)), (.const (.int .i32 7679))]⟩,
  ⟨some 44, none, .mov (.slot 43)⟩,
  ⟨some 45, some (44, false), .mov (.slot 0)⟩,
  ⟨some 46, some (44, false), .call .frz n_ref13_in [(.slot 45), (.const (.int .i32 8203)), (.const (.int .i32 8207))]⟩,
  ⟨some 47, none, .pick (.slot 44) (.const (.bool true)) (.slot 46)⟩,
  ⟨some 48, none, .mov (.slot 47)⟩,
  ⟨some 49, some (48, false), .mov (.slot 0)⟩,
  ⟨some 50, some (48, false), .call .frz n_ref13_in [(.slot 49), (.const (.int .i32 8400)), (.const (.int .i32 8447))]⟩,
  ⟨some 51, none, .pick (.slot 48) (.const (.bool true)) (.slot 50)⟩,
  ⟨some 52, none, .mov (.slot 51)⟩,
  ⟨some 53, some (52, false), .mov (.slot 0)⟩,
  ⟨some 54, some (52, false), .call .frz n_ref13_in [(.slot 53), (.const (.int .i32 65024)), (.const (.int .i32 65039))]⟩,
  ⟨some 55, none, .pick (.slot 52) (.const (.bool true)) (.slot 54)⟩,
  ⟨some 56, none, .mov (.slot 55)⟩,
  ⟨some 57, some (56, false), .mov (.slot 0)⟩,
  ⟨some 58, some (56, false), .call .frz n_ref13_in [(.slot 57), (.const (.int .i32 65056)), (.const (.int .i32 65071))]⟩,
  ⟨some 59, none, .pick (.slot 56) (.const (.bool true)) (.slot 58)⟩,
  ⟨some 41, none, .mov (.slot 59)⟩]
def c_ref13_Of_R6 : List AOper := [⟨some 2, none, .mov (.const (.int .i64 0))⟩]
def c_ref13_Of_R7 : List AOper := [⟨some 61, none, .mov (.slot 0)⟩,
  ⟨some 62, none, .call .frz n_ref13_in [(.slot 61), (.const (.int .i32 4352)), (.const (.int .i32 4447))]⟩,
  ⟨some 63, none, .mov (.slot 62)⟩,
  ⟨some 64, some (63, false), .mov (.slot 0)⟩,
  ⟨some 65, some (63, false), .call .frz n_ref13_in [(.slot 64), (.const (.int .i32 11904)), (.const (.int .i32 12350))]⟩,
  ⟨some 66, none, .pick (.slot 63) (.const (.bool true)) (.slot 65)⟩,
  ⟨some 67, none, .mov (.slot 66)⟩,
  ⟨some 68, some (67, false), .mov (.slot 0)⟩,
  ⟨some 69, some (67, false), .call .frz n_ref13_in [(.slot 68), (.const (.int .i32 12353)), (.const (.int .i32 42191))]⟩,
  ⟨some 70, none, .pick (.slot 67) (.const (.bool true)) (.slot 69)⟩,
  ⟨some 71, none, .mov (.slot 70)⟩,
  ⟨some 72, some (71, false), .mov (.slot 0)⟩,
  ⟨some 73, some (71, false), .call .frz n_ref13_in [(.slot 72), (.const (.int .i32 44032)), (.const (.int .i32 55203))]⟩,
  ⟨some 74, none, .pick (.slot 71) (.const (.bool true)) (.slot 73)⟩,
  ⟨some 75, none, .mov (.slot 74)⟩,
  ⟨some 76, some (75, false), .mov (.slot 0)⟩,
  ⟨some 77, some (75, false), .call .frz n_ref13_in [(.slot 76), (.const (.int .i32 63744)), (.const (.int .i32 64255))]⟩,
  ⟨some 78, none, .pick (.slot 75) (.const (.bool true)) (.slot 77)⟩,
  ⟨some 60, none, .mov (.slot 78)⟩]
def c_ref13_Of_R8 : List AOper := [⟨some 2, none, .mov (.const (.int .i64 2))⟩]
def c_ref13_Of_R9 : List AOper := [⟨some 80, none, .mov (.slot 0)⟩,
  ⟨some 81, none, .call .frz n_ref13_in [(.slot 80), (.const (.int .i32 65072)), (.const (.int .i32 65135))]⟩,
  ⟨some 82, none, .mov (.slot 81)⟩,
  ⟨some 83, some (82, false), .mov (.slot 0)⟩,
  ⟨some 84, some (82, false), .call .frz n_ref13_in [(.slot 83), (.const (.int .i32 65280)), (.const (.int .i32 65376))]⟩,
  ⟨some 85, none, .pick (.slot 82) (.const (.bool true)) (.slot 84)⟩,
  ⟨some 86, none, .mov (.slot 85)⟩,
  ⟨some 87, some (86, false), .mov (.slot 0)⟩,
  ⟨some 88, some (86, false), .call .frz n_ref13_in [(.slot 87), (.const (.int .i32 65504)), (.const (.int .i32 65510))]⟩,
  ⟨some 89, none, .pick (.slot 86) (.const (.bool true)) (.slot 88)⟩,
  ⟨some 90, none, .mov (.slot 89)⟩,
  ⟨some 91, some (90, false), .mov (.slot 0)⟩,
  ⟨some 92, some (90, false), .call .frz n_ref13_in [(.slot 91), (.const (.int .i32 127744)), (.const (.int .i32 128591))]⟩,
  ⟨some 93, none, .pick (.slot 90) (.const (.bool true)) (.slot 92)⟩,
  ⟨some 94, none, .mov (.slot 93)⟩,
  ⟨some 95, some (94, false), .mov (.slot 0)⟩,
  ⟨some 96, some (94, false), .call .frz n_ref13_in [(.slot 95), (.const (.int .i32 129280)), (.const (.int .i32 129535))]⟩,
  ⟨some 97, none, .pick (.slot 94) (.const (.bool true)) (.slot 96)⟩,
  ⟨some 98, none, .mov (.slot 97)⟩,
  ⟨some 99, some (98, false), .mov (.slot 0)⟩,
  ⟨some 100, some (98, false), .call .frz n_ref13_in [(.slot 99), (.const (.int .i32 131072)), (.const (.int .i32 262141))]⟩,
  ⟨some 101, none, .pick (.slot 98) (.const (.bool true)) (.slot 100)⟩,
  ⟨some 79, none, .mov (.slot 101)⟩]
def c_ref13_Of_R10 : List AOper := [⟨some 2, none, .mov (.const (.int .i64 2))⟩]
def c_ref13_Of_R11 : List AOper := [⟨some 2, none, .mov (.const (.int .i64 1))⟩]
def c_ref13_Of : AFn := ⟨(.seq (.region c_ref13_Of_R0 false [0]) (.seq (.block 0 (.seq (.region c_ref13_Of_R1 false [0, 3]) (.cond (.slot 3) (.seq (.region c_ref13_Of_R2 false [2]) .ret) (.seq (.region c_ref13_Of_R3 false [0, 18]) (.cond (.slot 18) (.seq (.region c_ref13_Of_R4 false [2]) .ret) (.seq (.region c_ref13_Of_R5 false [0, 41]) (.cond (.slot 41) (.seq (.region c_ref13_Of_R6 false [2]) .ret) (.seq (.region c_ref13_Of_R7 false [0, 60]) (.cond (.slot 60) (.seq (.region c_ref13_Of_R8 false [2]) .ret) (.seq (.region c_ref13_Of_R9 false [79]) (.cond (.slot 79) (.seq (.region c_ref13_Of_R10 false [2]) .ret) .skip))))))))))) (.seq (.region c_ref13_Of_R11 false [2]) .ret))), [.slot 2]⟩
/- oriel/orielref14.Cell -/
def c_ref14_Cell_R0 : List AOper := [⟨some 1, none, .box 7 (.slot 0)⟩,
  ⟨some 2, none, .mov (.const (.bool false))⟩]
def c_ref14_Cell_R1 : List AOper := [⟨some 4, none, .faddr 4 (.slot 1)⟩,
  ⟨some 5, none, .load true 3 (.slot 4)⟩,
  ⟨some 6, none, .call .frz n_ref12_May [(.slot 5)]⟩,
  ⟨some 7, none, .not (.slot 6)⟩]
def c_ref14_Cell_R2 : List AOper := [⟨some 2, none, .mov (.const (.bool false))⟩]
def c_ref14_Cell_R3 : List AOper := [⟨some 8, none, .faddr 3 (.slot 1)⟩,
  ⟨some 9, none, .load false 1 (.slot 8)⟩,
  ⟨some 10, none, .bin .eql (.slot 9) (.const (.int .i64 2))⟩]
def c_ref14_Cell_R4 : List AOper := [⟨some 11, none, .faddr 0 (.slot 1)⟩,
  ⟨some 12, none, .load false 1 (.slot 11)⟩,
  ⟨some 13, none, .bin .eql (.slot 12) (.const (.int .i32 0))⟩,
  ⟨some 14, none, .mov (.slot 13)⟩,
  ⟨some 15, some (14, true), .faddr 1 (.slot 1)⟩,
  ⟨some 16, some (14, true), .idxarr 1 2 (.slot 15) (.const (.int .i64 0))⟩,
  ⟨some 17, some (14, true), .load false 1 (.slot 16)⟩,
  ⟨some 18, some (14, true), .bin .eql (.slot 17) (.const (.int .i32 0))⟩,
  ⟨some 19, none, .pick (.slot 14) (.slot 18) (.const (.bool false))⟩,
  ⟨some 20, none, .mov (.slot 19)⟩,
  ⟨some 21, some (20, true), .faddr 1 (.slot 1)⟩,
  ⟨some 22, some (20, true), .idxarr 1 2 (.slot 21) (.const (.int .i64 1))⟩,
  ⟨some 23, some (20, true), .load false 1 (.slot 22)⟩,
  ⟨some 24, some (20, true), .bin .eql (.slot 23) (.const (.int .i32 0))⟩,
  ⟨some 25, none, .pick (.slot 20) (.slot 24) (.const (.bool false))⟩,
  ⟨some 2, none, .mov (.slot 25)⟩]
def c_ref14_Cell_R5 : List AOper := [⟨some 26, none, .faddr 3 (.slot 1)⟩,
  ⟨some 27, none, .load false 1 (.slot 26)⟩,
  ⟨some 28, none, .bin .neq (.slot 27) (.const (.int .i64 0))⟩,
  ⟨some 29, none, .mov (.slot 28)⟩,
  ⟨some 30, some (29, true), .faddr 3 (.slot 1)⟩,
  ⟨some 31, some (29, true), .load false 1 (.slot 30)⟩,
  ⟨some 32, some (29, true), .bin .neq (.slot 31) (.const (.int .i64 1))⟩,
  ⟨some 33, none, .pick (.slot 29) (.slot 32) (.const (.bool false))⟩,
  ⟨some 34, none, .mov (.slot 33)⟩,
  ⟨some 35, some (34, false), .faddr 0 (.slot 1)⟩,
  ⟨some 36, some (34, false), .load false 1 (.slot 35)⟩,
  ⟨some 37, some (34, false), .call .frz n_ref13_Of [(.slot 36)]⟩,
  ⟨some 38, some (34, false), .faddr 3 (.slot 1)⟩,
  ⟨some 39, some (34, false), .load false 1 (.slot 38)⟩,
  ⟨some 40, some (34, false), .bin .add (.const (.int .i64 1)) (.slot 39)⟩,
  ⟨some 41, some (34, false), .bin .neq (.slot 37) (.slot 40)⟩,
  ⟨some 42, none, .pick (.slot 34) (.const (.bool true)) (.slot 41)⟩]
def c_ref14_Cell_R6 : List AOper := [⟨some 2, none, .mov (.const (.bool false))⟩]
def c_ref14_Cell_R7 : List AOper := [⟨some 3, none, .mov (.const (.int .i64 0))⟩]
def c_ref14_Cell_R8 : List AOper := [⟨some 43, none, .mov (.slot 3)⟩,
  ⟨some 44, none, .bin .lss (.slot 43) (.const (.int .i64 2))⟩]
def c_ref14_Cell_R10 : List AOper := [⟨some 47, none, .mov (.slot 3)⟩,
  ⟨some 48, none, .faddr 1 (.slot 1)⟩,
  ⟨some 49, none, .idxarr 1 2 (.slot 48) (.slot 47)⟩,
  ⟨some 50, none, .load false 1 (.slot 49)⟩,
  ⟨some 51, none, .bin .neq (.slot 50) (.const (.int .i32 0))⟩,
  ⟨some 52, none, .mov (.slot 51)⟩,
  ⟨some 53, some (52, true), .mov (.slot 3)⟩,
  ⟨some 54, some (52, true), .faddr 1 (.slot 1)⟩,
  ⟨some 55, some (52, true), .idxarr 1 2 (.slot 54) (.slot 53)⟩,
  ⟨some 56, some (52, true), .load false 1 (.slot 55)⟩,
  ⟨some 57, some (52, true), .call .frz n_ref13_Of [(.slot 56)]⟩,
  ⟨some 58, some (52, true), .bin .neq (.slot 57) (.const (.int .i64 0))⟩,
  ⟨some 59, some (52, true), .mov (.slot 58)⟩,
  ⟨some 60, some (59, false), .mov (.slot 3)⟩,
  ⟨some 61, some (59, false), .bin .eql (.slot 60) (.const (.int .i64 1))⟩,
  ⟨some 62, some (59, false), .mov (.slot 61)⟩,
  ⟨some 63, some (62, true), .faddr 1 (.slot 1)⟩,
  ⟨some 64, some (62, true), .idxarr 1 2 (.slot 63) (.const (.int .i64 0))⟩,
  ⟨some 65, some (62, true), .load false 1 (.slot 64)⟩,
  ⟨some 66, some (62, true), .bin .eql (.slot 65) (.const (.int .i32 0))⟩,
  ⟨some 67, some (59, false), .pick (.slot 62) (.slot 66) (.const (.bool false))⟩,
  ⟨some 68, some (52, true), .pick (.slot 59) (.const (.bool true)) (.slot 67)⟩,
  ⟨some 69, none, .pick (.slot 52) (.slot 68) (.const (.bool false))⟩]
def c_ref14_Cell_R11 : List AOper := [⟨some 2, none, .mov (.const (.bool false))⟩]
def c_ref14_Cell_R9 : List AOper := [⟨some 45, none, .mov (.slot 3)⟩,
  ⟨some 46, none, .bin .add (.slot 45) (.const (.int .i64 1))⟩,
  ⟨some 3, none, .mov (.slot 46)⟩]
def c_ref14_Cell_L0 : ACode := (.seq (.seq (.region c_ref14_Cell_R8 false [1, 3, 44]) (.cond (.slot 44) .skip (.exit 0))) (.seq (.block 1 (.seq (.region c_ref14_Cell_R10 false [1, 3, 69]) (.cond (.slot 69) (.seq (.region c_ref14_Cell_R11 false [2]) .ret) .skip))) (.region c_ref14_Cell_R9 false [1, 3])))
def lp_ref14_Cell_0 : ACode := .loop [1, 3] c_ref14_Cell_L0
def c_ref14_Cell_R12 : List AOper := [⟨some 2, none, .mov (.const (.bool true))⟩]
def c_ref14_Cell : AFn := ⟨(.seq (.region c_ref14_Cell_R0 false [1]) (.seq (.seq (.region c_ref14_Cell_R1 false [1, 7]) (.cond (.slot 7) (.seq (.region c_ref14_Cell_R2 false [2]) .ret) .skip)) (.seq (.seq (.region c_ref14_Cell_R3 false [1, 10]) (.cond (.slot 10) (.seq (.region c_ref14_Cell_R4 false [2]) .ret) .skip)) (.seq (.seq (.region c_ref14_Cell_R5 true [1, 42]) (.cond (.slot 42) (.seq (.region c_ref14_Cell_R6 false [2]) .ret) .skip)) (.seq (.seq (.region c_ref14_Cell_R7 false [1, 3]) (.block 0 lp_ref14_Cell_0)) (.seq (.region c_ref14_Cell_R12 false [2]) .ret)))))), [.slot 2]⟩
/- oriel/orielref14.May -/
def c_ref14_May_R0 : List AOper := [⟨some 2, none, .mov (.const (.bool false))⟩]
def c_ref14_May_R1 : List AOper := [⟨some 4, none, .mov (.slot 0)⟩,
  ⟨some 5, none, .len false (.slot 4)⟩,
  ⟨some 6, none, .bin .gtr (.slot 5) (.const (.int .i64 1000))⟩]
def c_ref14_May_R2 : List AOper := [⟨some 2, none, .mov (.const (.bool false))⟩]
def c_ref14_May_R3 : List AOper := [⟨some 3, none, .mov (.const (.int .i64 0))⟩]
def c_ref14_May_R4 : List AOper := [⟨some 7, none, .mov (.slot 3)⟩,
  ⟨some 8, none, .mov (.slot 0)⟩,
  ⟨some 9, none, .len false (.slot 8)⟩,
  ⟨some 10, none, .bin .lss (.slot 7) (.slot 9)⟩]
def c_ref14_May_R6 : List AOper := [⟨some 13, none, .mov (.slot 0)⟩,
  ⟨some 14, none, .mov (.slot 3)⟩,
  ⟨some 15, none, .idx 7 (.slot 13) (.slot 14)⟩,
  ⟨some 16, none, .load true 7 (.slot 15)⟩,
  ⟨some 17, none, .call .frz n_ref14_Cell [(.slot 16)]⟩,
  ⟨some 18, none, .not (.slot 17)⟩]
def c_ref14_May_R7 : List AOper := [⟨some 2, none, .mov (.const (.bool false))⟩]
def c_ref14_May_R8 : List AOper := ⟨some 19, none, .mov (.slot 0)⟩ ::
  ⟨some 20, none, .mov (.slot 3)⟩ ::
  ⟨some 21, none, .idx 7 (.slot 19) (.slot 20)⟩ ::
  ⟨some 22, none, .faddr 3 (.slot 21)⟩ ::
  ⟨some 23, none, .load false 1 (.slot 22)⟩ ::
  ⟨some 24, none, .bin .eql (.slot 23) (.const (.int .i64 1))⟩ ::
  ⟨some 25, none, .mov (.slot 24)⟩ ::
  ⟨some 26, some (25, true), .mov (.slot 3)⟩ ::
  ⟨some 27, some (25, true), .bin .add (.slot 26) (.const (.int .i64 1))⟩ ::
  ⟨some 28, some (25, true), .mov (.slot 0)⟩ ::
  ⟨some 29, some (25, true), .len false (.slot 28)⟩ ::
  ⟨some 30, some (25, true), .bin .eql (.slot 27) (.slot 29)⟩ ::
  ⟨some 31, some (25, true), .mov (.slot 30)⟩ ::
  ⟨some 32, some (31, false), .mov (.slot 0)⟩ ::
  ⟨some 33, some (31, false), .mov (.slot 3)⟩ ::
  ⟨some 34, some (31, false), .bin .add (.slot 33) (.const (.int .i64 1))⟩ ::
  ⟨some 35, some (31, false), .idx 7 (.slot 32) (.slot 34)⟩ ::
  ⟨some 36, some (31, false), .faddr 3 (.slot 35)⟩ ::
  ⟨some 37, some (31, false), .load false 1 (.slot 36)⟩ ::
  ⟨some 38, some (31, false), .bin .neq (.slot 37) (.const (.int .i64 2))⟩ ::
  ⟨some 39, some (25, true), .pick (.slot 31) (.const (.bool true)) (.slot 38)⟩ ::
  ⟨some 40, some (25, true), .mov (.slot 39)⟩ ::
  ⟨some 41, some (40, false), .mov (.slot 0)⟩ ::
  ⟨some 42, some (40, false), .mov (.slot 3)⟩ ::
  ⟨some 43, some (40, false), .bin .add (.slot 42) (.const (.int .i64 1))⟩ ::
  ⟨some 44, some (40, false), .idx 7 (.slot 41) (.slot 43)⟩ ::
  ⟨some 45, some (40, false), .faddr 4 (.slot 44)⟩ ::
  ⟨some 46, some (40, false), .load true 3 (.slot 45)⟩ ::
  ⟨some 47, some (40, false), .mov (.slot 0)⟩ ::
  ⟨some 48, some (40, false), .mov (.slot 3)⟩ ::
  ⟨some 49, some (40, false), .idx 7 (.slot 47) (.slot 48)⟩ ::
  ⟨some 50, some (40, false), .faddr 4 (.slot 49)⟩ ::
  ⟨some 51, some (40, false), .load true 3 (.slot 50)⟩ ::
  ⟨some 52, some (40, false), .eq true [.ki, .ki, .ki] true (.slot 46) (.slot 51)⟩ ::
  ⟨some 53, some (25, true), .pick (.slot 40) (.const (.bool true)) (.slot 52)⟩ ::
  ⟨some 54, none, .pick (.slot 25) (.slot 53) (.const (.bool false))⟩ :: []
def c_ref14_May_R9 : List AOper := [⟨some 2, none, .mov (.const (.bool false))⟩]
def c_ref14_May_R10 : List AOper := [⟨some 55, none, .mov (.slot 0)⟩,
  ⟨some 56, none, .mov (.slot 3)⟩,
  ⟨some 57, none, .idx 7 (.slot 55) (.slot 56)⟩,
  ⟨some 58, none, .faddr 3 (.slot 57)⟩,
  ⟨some 59, none, .load false 1 (.slot 58)⟩,
  ⟨some 60, none, .bin .eql (.slot 59) (.const (.int .i64 2))⟩,
  ⟨some 61, none, .mov (.slot 60)⟩,
  ⟨some 62, some (61, true), .mov (.slot 3)⟩,
  ⟨some 63, some (61, true), .bin .eql (.slot 62) (.const (.int .i64 0))⟩,
  ⟨some 64, some (61, true), .mov (.slot 63)⟩,
  ⟨some 65, some (64, false), .mov (.slot 0)⟩,
  ⟨some 66, some (64, false), .mov (.slot 3)⟩,
  ⟨some 67, some (64, false), .bin .sub (.slot 66) (.const (.int .i64 1))⟩,
  ⟨some 68, some (64, false), .idx 7 (.slot 65) (.slot 67)⟩,
  ⟨some 69, some (64, false), .faddr 3 (.slot 68)⟩,
  ⟨some 70, some (64, false), .load false 1 (.slot 69)⟩,
  ⟨some 71, some (64, false), .bin .neq (.slot 70) (.const (.int .i64 1))⟩,
  ⟨some 72, some (61, true), .pick (.slot 64) (.const (.bool true)) (.slot 71)⟩,
  ⟨some 73, none, .pick (.slot 61) (.slot 72) (.const (.bool false))⟩]
def c_ref14_May_R11 : List AOper := [⟨some 2, none, .mov (.const (.bool false))⟩]
def c_ref14_May_R5 : List AOper := [⟨some 11, none, .mov (.slot 3)⟩,
  ⟨some 12, none, .bin .add (.slot 11) (.const (.int .i64 1))⟩,
  ⟨some 3, none, .mov (.slot 12)⟩]
def c_ref14_May_L0 : ACode := (.seq (.seq (.region c_ref14_May_R4 false [0, 3, 10]) (.cond (.slot 10) .skip (.exit 0))) (.seq (.block 1 (.seq (.seq (.region c_ref14_May_R6 false [0, 3, 18]) (.cond (.slot 18) (.seq (.region c_ref14_May_R7 false [2]) .ret) .skip)) (.seq (.seq (.region c_ref14_May_R8 true [0, 3, 54]) (.cond (.slot 54) (.seq (.region c_ref14_May_R9 false [2]) .ret) .skip)) (.seq (.region c_ref14_May_R10 false [0, 3, 73]) (.cond (.slot 73) (.seq (.region c_ref14_May_R11 false [2]) .ret) .skip))))) (.region c_ref14_May_R5 false [0, 3])))
def lp_ref14_May_0 : ACode := .loop [0, 3] c_ref14_May_L0
def c_ref14_May_R12 : List AOper := [⟨some 2, none, .mov (.const (.bool true))⟩]
def c_ref14_May : AFn := ⟨(.seq (.region c_ref14_May_R0 false [0]) (.seq (.seq (.region c_ref14_May_R1 false [0, 6]) (.cond (.slot 6) (.seq (.region c_ref14_May_R2 false [2]) .ret) .skip)) (.seq (.seq (.region c_ref14_May_R3 false [0, 3]) (.block 0 lp_ref14_May_0)) (.seq (.region c_ref14_May_R12 false [2]) .ret)))), [.slot 2]⟩
/- oriel/oriellaw14.LineMay -/
def c_law14_LineMay_R0 : List AOper := [⟨some 5, none, .box 3 (.slot 2)⟩,
  ⟨some 6, none, .mov (.const (.bool false))⟩]
def c_law14_LineMay_R1 : List AOper := [⟨some 8, none, .call .frz n_law14_known []⟩,
  ⟨some 9, none, .not (.slot 8)⟩]
def c_law14_LineMay_R2 : List AOper := [⟨some 6, none, .mov (.const (.bool false))⟩]
def c_law14_LineMay_R3 : List AOper := [⟨some 10, none, .mov (.slot 0)⟩,
  ⟨some 11, none, .len false (.slot 10)⟩,
  ⟨some 12, none, .bin .gtr (.slot 11) (.const (.int .i64 1100))⟩]
def c_law14_LineMay_R4 : List AOper := [⟨some 6, none, .mov (.const (.bool true))⟩]
def c_law14_LineMay_R5 : List AOper := [⟨some 13, none, .mov (.slot 1)⟩,
  ⟨some 14, none, .load true 3 (.slot 5)⟩,
  ⟨some 15, none, .call .frz n_line_Blank [(.slot 13), (.slot 14)]⟩,
  ⟨some 7, none, .mov (.slot 15)⟩]
def c_law14_LineMay_R6 : List AOper := [⟨some 16, none, .mov (.slot 1)⟩,
  ⟨some 17, none, .bin .lss (.slot 16) (.const (.int .i64 0))⟩,
  ⟨some 18, none, .mov (.slot 17)⟩,
  ⟨some 19, some (18, false), .mov (.slot 1)⟩,
  ⟨some 20, some (18, false), .bin .gtr (.slot 19) (.const (.int .i64 1000))⟩,
  ⟨some 21, none, .pick (.slot 18) (.const (.bool true)) (.slot 20)⟩,
  ⟨some 22, none, .mov (.slot 21)⟩,
  ⟨some 23, some (22, false), .load true 3 (.slot 5)⟩,
  ⟨some 24, some (22, false), .call .frz n_ref14_Pen [(.slot 23)]⟩,
  ⟨some 25, some (22, false), .not (.slot 24)⟩,
  ⟨some 26, none, .pick (.slot 22) (.const (.bool true)) (.slot 25)⟩]
def c_law14_LineMay_R7 : List AOper := [⟨some 27, none, .mov (.slot 7)⟩,
  ⟨some 28, none, .len false (.slot 27)⟩,
  ⟨some 29, none, .bin .neq (.slot 28) (.const (.int .i64 0))⟩]
def c_law14_LineMay_R8 : List AOper := [⟨some 6, none, .mov (.const (.bool false))⟩]
def c_law14_LineMay_R9 : List AOper := [⟨some 30, none, .mov (.slot 7)⟩,
  ⟨some 31, none, .mov (.slot 1)⟩,
  ⟨some 32, none, .load true 3 (.slot 5)⟩,
  ⟨some 33, none, .call .frz n_ref14_Blanks [(.slot 31), (.slot 32)]⟩,
  ⟨some 34, none, .call .frz n_ref14_Same [(.slot 30), (.slot 33)]⟩,
  ⟨some 35, none, .not (.slot 34)⟩]
def c_law14_LineMay_R10 : List AOper := [⟨some 6, none, .mov (.const (.bool false))⟩]
def c_law14_LineMay_R11 : List AOper := [⟨some 36, none, .mov (.slot 0)⟩,
  ⟨some 37, none, .call .frz n_line_May [(.slot 36)]⟩,
  ⟨some 38, none, .mov (.slot 0)⟩,
  ⟨some 39, none, .call .frz n_ref14_May [(.slot 38)]⟩,
  ⟨some 40, none, .eq false [.kb] false (.slot 37) (.slot 39)⟩,
  ⟨some 6, none, .mov (.slot 40)⟩]
def c_law14_LineMay : AFn := ⟨(.seq (.region c_law14_LineMay_R0 false [0, 1, 5]) (.seq (.seq (.region c_law14_LineMay_R1 false [0, 1, 5, 9]) (.cond (.slot 9) (.seq (.region c_law14_LineMay_R2 false [6]) .ret) .skip)) (.seq (.seq (.region c_law14_LineMay_R3 false [0, 1, 5, 12]) (.cond (.slot 12) (.seq (.region c_law14_LineMay_R4 false [6]) .ret) .skip)) (.seq (.region c_law14_LineMay_R5 false [0, 1, 5, 7]) (.seq (.seq (.region c_law14_LineMay_R6 false [0, 1, 5, 7, 26]) (.cond (.slot 26) (.seq (.region c_law14_LineMay_R7 false [0, 29]) (.cond (.slot 29) (.seq (.region c_law14_LineMay_R8 false [6]) .ret) .skip)) (.seq (.region c_law14_LineMay_R9 false [0, 35]) (.cond (.slot 35) (.seq (.region c_law14_LineMay_R10 false [6]) .ret) .skip)))) (.seq (.region c_law14_LineMay_R11 false [6]) .ret)))))), [.slot 6]⟩
/- oriel/line.Insert -/
def c_line_Insert_R0 : List AOper := [⟨some 7, none, .box 3 (.slot 3)⟩,
  ⟨some 8, none, .mov (.const (.data false 7 [] true))⟩]
def c_line_Insert_R1 : List AOper := [⟨some 10, none, .mov (.slot 0)⟩,
  ⟨some 11, none, .load true 3 (.slot 7)⟩,
  ⟨some 12, none, .call .frz n_line_fine [(.slot 10), (.slot 11)]⟩,
  ⟨some 13, none, .not (.slot 12)⟩]
def c_line_Insert_R2 : List AOper := [⟨some 8, none, .mov (.const (.data false 7 [] true))⟩]
def c_line_Insert_R3 : List AOper := [⟨some 14, none, .mov (.slot 0)⟩,
  ⟨some 15, none, .call .adp n_slices_Clone_Cell [(.slot 14)]⟩,
  ⟨some 9, none, .mov (.slot 15)⟩]
def c_line_Insert_R4 : List AOper := [⟨some 16, none, .mov (.slot 2)⟩,
  ⟨some 17, none, .bin .lss (.slot 16) (.const (.int .i64 1))⟩,
  ⟨some 18, none, .mov (.slot 17)⟩,
  ⟨some 19, some (18, false), .mov (.slot 1)⟩,
  ⟨some 20, some (18, false), .bin .lss (.slot 19) (.const (.int .i64 0))⟩,
  ⟨some 21, none, .pick (.slot 18) (.const (.bool true)) (.slot 20)⟩,
  ⟨some 22, none, .mov (.slot 21)⟩,
  ⟨some 23, some (22, false), .mov (.slot 1)⟩,
  ⟨some 24, some (22, false), .mov (.slot 0)⟩,
  ⟨some 25, some (22, false), .len false (.slot 24)⟩,
  ⟨some 26, some (22, false), .bin .geq (.slot 23) (.slot 25)⟩,
  ⟨some 27, none, .pick (.slot 22) (.const (.bool true)) (.slot 26)⟩]
def c_line_Insert_R5 : List AOper := [⟨some 28, none, .mov (.slot 9)⟩,
  ⟨some 8, none, .mov (.slot 28)⟩]
def c_line_Insert_R6 : List AOper := [⟨some 29, none, .mov (.slot 2)⟩,
  ⟨some 30, none, .mov (.slot 0)⟩,
  ⟨some 31, none, .len false (.slot 30)⟩,
  ⟨some 32, none, .mov (.slot 1)⟩,
  ⟨some 33, none, .bin .sub (.slot 31) (.slot 32)⟩,
  ⟨some 34, none, .min (.slot 29) (.slot 33)⟩,
  ⟨some 2, none, .mov (.slot 34)⟩]
def c_line_Insert_R7 : List AOper := [⟨some 35, none, .mov (.slot 9)⟩,
  ⟨some 36, none, .mov (.slot 1)⟩,
  ⟨some 37, none, .call .inl n_line_torn [(.slot 35), (.slot 36)]⟩]
def c_line_Insert_R8 : List AOper := [⟨some 38, none, .mov (.slot 9)⟩,
  ⟨some 39, none, .mov (.slot 0)⟩,
  ⟨some 40, none, .len false (.slot 39)⟩,
  ⟨some 41, none, .mov (.slot 2)⟩,
  ⟨some 42, none, .bin .sub (.slot 40) (.slot 41)⟩,
  ⟨some 43, none, .call .inl n_line_torn [(.slot 38), (.slot 42)]⟩]
def c_line_Insert_R9 : List AOper := [⟨some 44, none, .mov (.slot 9)⟩,
  ⟨some 45, none, .mov (.slot 1)⟩,
  ⟨some 46, none, .mov (.slot 2)⟩,
  ⟨some 47, none, .bin .add (.slot 45) (.slot 46)⟩,
  ⟨some 48, none, .sl 7 (.slot 44) (some (.slot 47)) none none⟩,
  ⟨some 49, none, .mov (.slot 9)⟩,
  ⟨some 50, none, .mov (.slot 1)⟩,
  ⟨some 51, none, .sl 7 (.slot 49) (some (.slot 50)) none none⟩,
  ⟨some 52, none, .copy 7 (.slot 48) (.slot 51)⟩]
def c_line_Insert_R10 : List AOper := [⟨some 53, none, .mov (.slot 9)⟩,
  ⟨some 54, none, .mov (.slot 1)⟩,
  ⟨some 55, none, .sl 7 (.slot 53) (some (.slot 54)) none none⟩,
  ⟨some 56, none, .mov (.slot 2)⟩,
  ⟨some 57, none, .load true 3 (.slot 7)⟩,
  ⟨some 58, none, .call .frz n_line_Blank [(.slot 56), (.slot 57)]⟩,
  ⟨some 59, none, .copy 7 (.slot 55) (.slot 58)⟩]
def c_line_Insert_R11 : List AOper := [⟨some 60, none, .mov (.slot 9)⟩,
  ⟨some 8, none, .mov (.slot 60)⟩]
def c_line_Insert : AFn := ⟨(.seq (.region c_line_Insert_R0 false [0, 1, 2, 7]) (.seq (.seq (.region c_line_Insert_R1 false [0, 1, 2, 7, 13]) (.cond (.slot 13) (.seq (.region c_line_Insert_R2 false [8]) .ret) .skip)) (.seq (.region c_line_Insert_R3 false [0, 1, 2, 7, 9]) (.seq (.seq (.region c_line_Insert_R4 false [0, 1, 2, 7, 9, 27]) (.cond (.slot 27) (.seq (.region c_line_Insert_R5 false [8]) .ret) .skip)) (.seq (.region c_line_Insert_R6 false [0, 1, 2, 7, 9]) (.seq (.region c_line_Insert_R7 false [0, 1, 2, 7, 9]) (.seq (.region c_line_Insert_R8 false [1, 2, 7, 9]) (.seq (.region c_line_Insert_R9 true [1, 2, 7, 9]) (.seq (.region c_line_Insert_R10 true [9]) (.seq (.region c_line_Insert_R11 false [8]) .ret)))))))))), [.slot 8]⟩
/- oriel/line.Delete -/
def c_line_Delete_R0 : List AOper := [⟨some 7, none, .box 3 (.slot 3)⟩,
  ⟨some 8, none, .mov (.const (.data false 7 [] true))⟩]
def c_line_Delete_R1 : List AOper := [⟨some 10, none, .mov (.slot 0)⟩,
  ⟨some 11, none, .load true 3 (.slot 7)⟩,
  ⟨some 12, none, .call .frz n_line_fine [(.slot 10), (.slot 11)]⟩,
  ⟨some 13, none, .not (.slot 12)⟩]
def c_line_Delete_R2 : List AOper := [⟨some 8, none, .mov (.const (.data false 7 [] true))⟩]
def c_line_Delete_R3 : List AOper := [⟨some 14, none, .mov (.slot 0)⟩,
  ⟨some 15, none, .call .adp n_slices_Clone_Cell [(.slot 14)]⟩,
  ⟨some 9, none, .mov (.slot 15)⟩]
def c_line_Delete_R4 : List AOper := [⟨some 16, none, .mov (.slot 2)⟩,
  ⟨some 17, none, .bin .lss (.slot 16) (.const (.int .i64 1))⟩,
  ⟨some 18, none, .mov (.slot 17)⟩,
  ⟨some 19, some (18, false), .mov (.slot 1)⟩,
  ⟨some 20, some (18, false), .bin .lss (.slot 19) (.const (.int .i64 0))⟩,
  ⟨some 21, none, .pick (.slot 18) (.const (.bool true)) (.slot 20)⟩,
  ⟨some 22, none, .mov (.slot 21)⟩,
  ⟨some 23, some (22, false), .mov (.slot 1)⟩,
  ⟨some 24, some (22, false), .mov (.slot 0)⟩,
  ⟨some 25, some (22, false), .len false (.slot 24)⟩,
  ⟨some 26, some (22, false), .bin .geq (.slot 23) (.slot 25)⟩,
  ⟨some 27, none, .pick (.slot 22) (.const (.bool true)) (.slot 26)⟩]
def c_line_Delete_R5 : List AOper := [⟨some 28, none, .mov (.slot 9)⟩,
  ⟨some 8, none, .mov (.slot 28)⟩]
def c_line_Delete_R6 : List AOper := [⟨some 29, none, .mov (.slot 2)⟩,
  ⟨some 30, none, .mov (.slot 0)⟩,
  ⟨some 31, none, .len false (.slot 30)⟩,
  ⟨some 32, none, .mov (.slot 1)⟩,
  ⟨some 33, none, .bin .sub (.slot 31) (.slot 32)⟩,
  ⟨some 34, none, .min (.slot 29) (.slot 33)⟩,
  ⟨some 2, none, .mov (.slot 34)⟩]
def c_line_Delete_R7 : List AOper := [⟨some 35, none, .mov (.slot 9)⟩,
  ⟨some 36, none, .mov (.slot 1)⟩,
  ⟨some 37, none, .call .inl n_line_torn [(.slot 35), (.slot 36)]⟩]
def c_line_Delete_R8 : List AOper := [⟨some 38, none, .mov (.slot 9)⟩,
  ⟨some 39, none, .mov (.slot 1)⟩,
  ⟨some 40, none, .mov (.slot 2)⟩,
  ⟨some 41, none, .bin .add (.slot 39) (.slot 40)⟩,
  ⟨some 42, none, .call .inl n_line_torn [(.slot 38), (.slot 41)]⟩]
def c_line_Delete_R9 : List AOper := [⟨some 43, none, .mov (.slot 9)⟩,
  ⟨some 44, none, .mov (.slot 1)⟩,
  ⟨some 45, none, .sl 7 (.slot 43) (some (.slot 44)) none none⟩,
  ⟨some 46, none, .mov (.slot 9)⟩,
  ⟨some 47, none, .mov (.slot 1)⟩,
  ⟨some 48, none, .mov (.slot 2)⟩,
  ⟨some 49, none, .bin .add (.slot 47) (.slot 48)⟩,
  ⟨some 50, none, .sl 7 (.slot 46) (some (.slot 49)) none none⟩,
  ⟨some 51, none, .copy 7 (.slot 45) (.slot 50)⟩]
def c_line_Delete_R10 : List AOper := [⟨some 52, none, .mov (.slot 9)⟩,
  ⟨some 53, none, .mov (.slot 0)⟩,
  ⟨some 54, none, .len false (.slot 53)⟩,
  ⟨some 55, none, .mov (.slot 2)⟩,
  ⟨some 56, none, .bin .sub (.slot 54) (.slot 55)⟩,
  ⟨some 57, none, .sl 7 (.slot 52) (some (.slot 56)) none none⟩,
  ⟨some 58, none, .mov (.slot 2)⟩,
  ⟨some 59, none, .load true 3 (.slot 7)⟩,
  ⟨some 60, none, .call .frz n_line_Blank [(.slot 58), (.slot 59)]⟩,
  ⟨some 61, none, .copy 7 (.slot 57) (.slot 60)⟩]
def c_line_Delete_R11 : List AOper := [⟨some 62, none, .mov (.slot 9)⟩,
  ⟨some 8, none, .mov (.slot 62)⟩]
def c_line_Delete : AFn := ⟨(.seq (.region c_line_Delete_R0 false [0, 1, 2, 7]) (.seq (.seq (.region c_line_Delete_R1 false [0, 1, 2, 7, 13]) (.cond (.slot 13) (.seq (.region c_line_Delete_R2 false [8]) .ret) .skip)) (.seq (.region c_line_Delete_R3 false [0, 1, 2, 7, 9]) (.seq (.seq (.region c_line_Delete_R4 false [0, 1, 2, 7, 9, 27]) (.cond (.slot 27) (.seq (.region c_line_Delete_R5 false [8]) .ret) .skip)) (.seq (.region c_line_Delete_R6 false [0, 1, 2, 7, 9]) (.seq (.region c_line_Delete_R7 false [0, 1, 2, 7, 9]) (.seq (.region c_line_Delete_R8 false [0, 1, 2, 7, 9]) (.seq (.region c_line_Delete_R9 true [0, 2, 7, 9]) (.seq (.region c_line_Delete_R10 true [9]) (.seq (.region c_line_Delete_R11 false [8]) .ret)))))))))), [.slot 8]⟩
/- oriel/oriellaw14.LineThere -/
def c_law14_LineThere_R0 : List AOper := [⟨some 6, none, .mov (.const (.bool false))⟩]
def c_law14_LineThere_R1 : List AOper := [⟨some 12, none, .call .frz n_law14_known []⟩,
  ⟨some 13, none, .not (.slot 12)⟩]
def c_law14_LineThere_R2 : List AOper := [⟨some 6, none, .mov (.const (.bool false))⟩]
def c_law14_LineThere_R3 : List AOper := ⟨some 14, none, .mov (.slot 0)⟩ ::
  ⟨some 15, none, .len false (.slot 14)⟩ ::
  ⟨some 16, none, .bin .gtr (.slot 15) (.const (.int .i64 100))⟩ ::
  ⟨some 17, none, .mov (.slot 16)⟩ ::
  ⟨some 18, some (17, false), .mov (.slot 0)⟩ ::
  ⟨some 19, some (17, false), .call .frz n_line_May [(.slot 18)]⟩ ::
  ⟨some 20, some (17, false), .not (.slot 19)⟩ ::
  ⟨some 21, none, .pick (.slot 17) (.const (.bool true)) (.slot 20)⟩ ::
  ⟨some 22, none, .mov (.slot 21)⟩ ::
  ⟨some 23, some (22, false), .mov (.slot 1)⟩ ::
  ⟨some 24, some (22, false), .bin .lss (.slot 23) (.const (.int .i64 0))⟩ ::
  ⟨some 25, none, .pick (.slot 22) (.const (.bool true)) (.slot 24)⟩ ::
  ⟨some 26, none, .mov (.slot 25)⟩ ::
  ⟨some 27, some (26, false), .mov (.slot 1)⟩ ::
  ⟨some 28, some (26, false), .mov (.slot 0)⟩ ::
  ⟨some 29, some (26, false), .len false (.slot 28)⟩ ::
  ⟨some 30, some (26, false), .bin .geq (.slot 27) (.slot 29)⟩ ::
  ⟨some 31, none, .pick (.slot 26) (.const (.bool true)) (.slot 30)⟩ ::
  ⟨some 32, none, .mov (.slot 31)⟩ ::
  ⟨some 33, some (32, false), .mov (.slot 2)⟩ ::
  ⟨some 34, some (32, false), .bin .lss (.slot 33) (.const (.int .i64 1))⟩ ::
  ⟨some 35, none, .pick (.slot 32) (.const (.bool true)) (.slot 34)⟩ ::
  ⟨some 36, none, .mov (.slot 35)⟩ ::
  ⟨some 37, some (36, false), .mov (.slot 2)⟩ ::
  ⟨some 38, some (36, false), .mov (.slot 0)⟩ ::
  ⟨some 39, some (36, false), .len false (.slot 38)⟩ ::
  ⟨some 40, some (36, false), .mov (.slot 1)⟩ ::
  ⟨some 41, some (36, false), .bin .sub (.slot 39) (.slot 40)⟩ ::
  ⟨some 42, some (36, false), .bin .gtr (.slot 37) (.slot 41)⟩ ::
  ⟨some 43, none, .pick (.slot 36) (.const (.bool true)) (.slot 42)⟩ :: []
def c_law14_LineThere_R4 : List AOper := [⟨some 6, none, .mov (.const (.bool true))⟩]
def c_law14_LineThere_R5 : List AOper := [⟨some 44, none, .mov (.slot 0)⟩,
  ⟨some 45, none, .len false (.slot 44)⟩,
  ⟨some 46, none, .mov (.slot 2)⟩,
  ⟨some 47, none, .bin .sub (.slot 45) (.slot 46)⟩,
  ⟨some 7, none, .mov (.slot 47)⟩]
def c_law14_LineThere_R6 : List AOper := [⟨some 48, none, .mov (.slot 7)⟩,
  ⟨some 49, none, .mov (.slot 0)⟩,
  ⟨some 50, none, .len false (.slot 49)⟩,
  ⟨some 51, none, .bin .lss (.slot 48) (.slot 50)⟩]
def c_law14_LineThere_R8 : List AOper := [⟨some 54, none, .mov (.slot 0)⟩,
  ⟨some 55, none, .mov (.slot 7)⟩,
  ⟨some 56, none, .idx 7 (.slot 54) (.slot 55)⟩,
  ⟨some 57, none, .load true 7 (.slot 56)⟩,
  ⟨some 58, none, .build [.int .i32 0, .int .i32 0, .int .i32 0, .int .i64 0, .int .i64 0, .int .i64 0, .int .i64 0] [(0, 1, (.const (.int .i32 32)))]⟩,
  ⟨some 59, none, .eq true [.ki, .ki, .ki, .ki, .ki, .ki, .ki] true (.slot 57) (.slot 58)⟩]
def c_law14_LineThere_R9 : List AOper := [⟨some 6, none, .mov (.const (.bool true))⟩]
def c_law14_LineThere_R7 : List AOper := [⟨some 52, none, .mov (.slot 7)⟩,
  ⟨some 53, none, .bin .add (.slot 52) (.const (.int .i64 1))⟩,
  ⟨some 7, none, .mov (.slot 53)⟩]
def c_law14_LineThere_L0 : ACode := (.seq (.seq (.region c_law14_LineThere_R6 false [0, 1, 2, 7, 51]) (.cond (.slot 51) .skip (.exit 0))) (.seq (.block 1 (.seq (.region c_law14_LineThere_R8 false [0, 1, 2, 7, 59]) (.cond (.slot 59) (.seq (.region c_law14_LineThere_R9 false [6]) .ret) .skip))) (.region c_law14_LineThere_R7 false [0, 1, 2, 7])))
def lp_law14_LineThere_0 : ACode := .loop [0, 1, 2, 7] c_law14_LineThere_L0
def c_law14_LineThere_R10 : List AOper := [⟨some 60, none, .mov (.slot 0)⟩,
  ⟨some 61, none, .mov (.slot 1)⟩,
  ⟨some 62, none, .idx 7 (.slot 60) (.slot 61)⟩,
  ⟨some 63, none, .faddr 3 (.slot 62)⟩,
  ⟨some 64, none, .load false 1 (.slot 63)⟩,
  ⟨some 65, none, .bin .eql (.slot 64) (.const (.int .i64 2))⟩]
def c_law14_LineThere_R11 : List AOper := [⟨some 6, none, .mov (.const (.bool true))⟩]
def c_law14_LineThere_R12 : List AOper := [⟨some 66, none, .mov (.slot 0)⟩,
  ⟨some 67, none, .mov (.slot 1)⟩,
  ⟨some 68, none, .mov (.slot 2)⟩,
  ⟨some 69, none, .build [.int .i64 0, .int .i64 0, .int .i64 0] [(2, 1, (.const (.int .i64 5)))]⟩,
  ⟨some 70, none, .call .frz n_line_Insert [(.slot 66), (.slot 67), (.slot 68), (.slot 69)]⟩,
  ⟨some 8, none, .mov (.slot 70)⟩]
def c_law14_LineThere_R13 : List AOper := [⟨some 71, none, .mov (.slot 8)⟩,
  ⟨some 72, none, .len false (.slot 71)⟩,
  ⟨some 73, none, .mov (.slot 0)⟩,
  ⟨some 74, none, .len false (.slot 73)⟩,
  ⟨some 75, none, .bin .neq (.slot 72) (.slot 74)⟩]
def c_law14_LineThere_R14 : List AOper := [⟨some 6, none, .mov (.const (.bool false))⟩]
def c_law14_LineThere_R15 : List AOper := [⟨some 9, none, .mov (.const (.int .i64 0))⟩]
def c_law14_LineThere_R16 : List AOper := [⟨some 76, none, .mov (.slot 9)⟩,
  ⟨some 77, none, .mov (.slot 2)⟩,
  ⟨some 78, none, .bin .lss (.slot 76) (.slot 77)⟩]
def c_law14_LineThere_R18 : List AOper := [⟨some 81, none, .mov (.slot 8)⟩,
  ⟨some 82, none, .mov (.slot 1)⟩,
  ⟨some 83, none, .mov (.slot 9)⟩,
  ⟨some 84, none, .bin .add (.slot 82) (.slot 83)⟩,
  ⟨some 85, none, .idx 7 (.slot 81) (.slot 84)⟩,
  ⟨some 86, none, .load true 7 (.slot 85)⟩,
  ⟨some 87, none, .build [.int .i64 0, .int .i64 0, .int .i64 0] [(2, 1, (.const (.int .i64 5)))]⟩,
  ⟨some 88, none, .build [.int .i32 0, .int .i32 0, .int .i32 0, .int .i64 0, .int .i64 0, .int .i64 0, .int .i64 0] [(0, 1, (.const (.int .i32 32))), (4, 3, (.slot 87))]⟩,
  ⟨some 89, none, .eq true [.ki, .ki, .ki, .ki, .ki, .ki, .ki] true (.slot 86) (.slot 88)⟩]
def c_law14_LineThere_R19 : List AOper := [⟨some 6, none, .mov (.const (.bool false))⟩]
def c_law14_LineThere_R17 : List AOper := [⟨some 79, none, .mov (.slot 9)⟩,
  ⟨some 80, none, .bin .add (.slot 79) (.const (.int .i64 1))⟩,
  ⟨some 9, none, .mov (.slot 80)⟩]
def c_law14_LineThere_L1 : ACode := (.seq (.seq (.region c_law14_LineThere_R16 false [0, 1, 2, 8, 9, 78]) (.cond (.slot 78) .skip (.exit 2))) (.seq (.block 3 (.seq (.region c_law14_LineThere_R18 false [0, 1, 2, 8, 9, 89]) (.cond (.slot 89) (.seq (.region c_law14_LineThere_R19 false [6]) .ret) .skip))) (.region c_law14_LineThere_R17 false [0, 1, 2, 8, 9])))
def lp_law14_LineThere_1 : ACode := .loop [0, 1, 2, 8, 9] c_law14_LineThere_L1
def c_law14_LineThere_R20 : List AOper := [⟨some 90, none, .mov (.slot 8)⟩,
  ⟨some 91, none, .mov (.slot 1)⟩,
  ⟨some 92, none, .mov (.slot 2)⟩,
  ⟨some 93, none, .build [.int .i64 0, .int .i64 0, .int .i64 0] []⟩,
  ⟨some 94, none, .call .frz n_line_Delete [(.slot 90), (.slot 91), (.slot 92), (.slot 93)]⟩,
  ⟨some 10, none, .mov (.slot 94)⟩]
def c_law14_LineThere_R21 : List AOper := [⟨some 95, none, .mov (.slot 10)⟩,
  ⟨some 96, none, .len false (.slot 95)⟩,
  ⟨some 97, none, .mov (.slot 0)⟩,
  ⟨some 98, none, .len false (.slot 97)⟩,
  ⟨some 99, none, .bin .neq (.slot 96) (.slot 98)⟩]
def c_law14_LineThere_R22 : List AOper := [⟨some 6, none, .mov (.const (.bool false))⟩]
def c_law14_LineThere_R23 : List AOper := [⟨some 11, none, .mov (.const (.int .i64 0))⟩]
def c_law14_LineThere_R24 : List AOper := [⟨some 100, none, .mov (.slot 11)⟩,
  ⟨some 101, none, .mov (.slot 0)⟩,
  ⟨some 102, none, .len false (.slot 101)⟩,
  ⟨some 103, none, .bin .lss (.slot 100) (.slot 102)⟩]
def c_law14_LineThere_R26 : List AOper := [⟨some 106, none, .mov (.slot 10)⟩,
  ⟨some 107, none, .mov (.slot 11)⟩,
  ⟨some 108, none, .idx 7 (.slot 106) (.slot 107)⟩,
  ⟨some 109, none, .load true 7 (.slot 108)⟩,
  ⟨some 110, none, .mov (.slot 0)⟩,
  ⟨some 111, none, .mov (.slot 11)⟩,
  ⟨some 112, none, .idx 7 (.slot 110) (.slot 111)⟩,
  ⟨some 113, none, .load true 7 (.slot 112)⟩,
  ⟨some 114, none, .eq true [.ki, .ki, .ki, .ki, .ki, .ki, .ki] true (.slot 109) (.slot 113)⟩]
def c_law14_LineThere_R27 : List AOper := [⟨some 6, none, .mov (.const (.bool false))⟩]
def c_law14_LineThere_R25 : List AOper := [⟨some 104, none, .mov (.slot 11)⟩,
  ⟨some 105, none, .bin .add (.slot 104) (.const (.int .i64 1))⟩,
  ⟨some 11, none, .mov (.slot 105)⟩]
def c_law14_LineThere_L2 : ACode := (.seq (.seq (.region c_law14_LineThere_R24 false [0, 10, 11, 103]) (.cond (.slot 103) .skip (.exit 4))) (.seq (.block 5 (.seq (.region c_law14_LineThere_R26 true [0, 10, 11, 114]) (.cond (.slot 114) (.seq (.region c_law14_LineThere_R27 false [6]) .ret) .skip))) (.region c_law14_LineThere_R25 false [0, 10, 11])))
def lp_law14_LineThere_2 : ACode := .loop [0, 10, 11] c_law14_LineThere_L2
def c_law14_LineThere_R28 : List AOper := [⟨some 6, none, .mov (.const (.bool true))⟩]
def c_law14_LineThere : AFn := ⟨(.seq (.region c_law14_LineThere_R0 false [0, 1, 2]) (.seq (.seq (.region c_law14_LineThere_R1 false [0, 1, 2, 13]) (.cond (.slot 13) (.seq (.region c_law14_LineThere_R2 false [6]) .ret) .skip)) (.seq (.seq (.region c_law14_LineThere_R3 false [0, 1, 2, 43]) (.cond (.slot 43) (.seq (.region c_law14_LineThere_R4 false [6]) .ret) .skip)) (.seq (.seq (.region c_law14_LineThere_R5 false [0, 1, 2, 7]) (.block 0 lp_law14_LineThere_0)) (.seq (.seq (.region c_law14_LineThere_R10 false [0, 1, 2, 65]) (.cond (.slot 65) (.seq (.region c_law14_LineThere_R11 false [6]) .ret) .skip)) (.seq (.region c_law14_LineThere_R12 false [0, 1, 2, 8]) (.seq (.seq (.region c_law14_LineThere_R13 false [0, 1, 2, 8, 75]) (.cond (.slot 75) (.seq (.region c_law14_LineThere_R14 false [6]) .ret) .skip)) (.seq (.seq (.region c_law14_LineThere_R15 false [0, 1, 2, 8, 9]) (.block 2 lp_law14_LineThere_1)) (.seq (.region c_law14_LineThere_R20 false [0, 10]) (.seq (.seq (.region c_law14_LineThere_R21 false [0, 10, 99]) (.cond (.slot 99) (.seq (.region c_law14_LineThere_R22 false [6]) .ret) .skip)) (.seq (.seq (.region c_law14_LineThere_R23 false [0, 10, 11]) (.block 4 lp_law14_LineThere_2)) (.seq (.region c_law14_LineThere_R28 false [6]) .ret)))))))))))), [.slot 6]⟩
/- oriel/line.Erase -/
def c_line_Erase_R0 : List AOper := [⟨some 7, none, .box 3 (.slot 3)⟩,
  ⟨some 8, none, .mov (.const (.data false 7 [] true))⟩]
def c_line_Erase_R1 : List AOper := [⟨some 10, none, .mov (.slot 0)⟩,
  ⟨some 11, none, .load true 3 (.slot 7)⟩,
  ⟨some 12, none, .call .frz n_line_fine [(.slot 10), (.slot 11)]⟩,
  ⟨some 13, none, .not (.slot 12)⟩]
def c_line_Erase_R2 : List AOper := [⟨some 8, none, .mov (.const (.data false 7 [] true))⟩]
def c_line_Erase_R3 : List AOper := [⟨some 14, none, .mov (.slot 0)⟩,
  ⟨some 15, none, .call .adp n_slices_Clone_Cell [(.slot 14)]⟩,
  ⟨some 9, none, .mov (.slot 15)⟩]
def c_line_Erase_R4 : List AOper := [⟨some 16, none, .mov (.slot 1)⟩,
  ⟨some 17, none, .max (.const (.int .i64 0)) (.slot 16)⟩,
  ⟨some 18, none, .mov (.slot 2)⟩,
  ⟨some 19, none, .mov (.slot 0)⟩,
  ⟨some 20, none, .len false (.slot 19)⟩,
  ⟨some 21, none, .min (.slot 18) (.slot 20)⟩,
  ⟨some 1, none, .mov (.slot 17)⟩,
  ⟨some 2, none, .mov (.slot 21)⟩]
def c_line_Erase_R5 : List AOper := [⟨some 22, none, .mov (.slot 1)⟩,
  ⟨some 23, none, .mov (.slot 2)⟩,
  ⟨some 24, none, .bin .geq (.slot 22) (.slot 23)⟩]
def c_line_Erase_R6 : List AOper := [⟨some 25, none, .mov (.slot 9)⟩,
  ⟨some 8, none, .mov (.slot 25)⟩]
def c_line_Erase_R7 : List AOper := [⟨some 26, none, .mov (.slot 9)⟩,
  ⟨some 27, none, .mov (.slot 1)⟩,
  ⟨some 28, none, .call .inl n_line_torn [(.slot 26), (.slot 27)]⟩]
def c_line_Erase_R8 : List AOper := [⟨some 29, none, .mov (.slot 9)⟩,
  ⟨some 30, none, .mov (.slot 2)⟩,
  ⟨some 31, none, .call .inl n_line_torn [(.slot 29), (.slot 30)]⟩]
def c_line_Erase_R9 : List AOper := [⟨some 32, none, .mov (.slot 9)⟩,
  ⟨some 33, none, .mov (.slot 1)⟩,
  ⟨some 34, none, .mov (.slot 2)⟩,
  ⟨some 35, none, .sl 7 (.slot 32) (some (.slot 33)) (some (.slot 34)) none⟩,
  ⟨some 36, none, .mov (.slot 2)⟩,
  ⟨some 37, none, .mov (.slot 1)⟩,
  ⟨some 38, none, .bin .sub (.slot 36) (.slot 37)⟩,
  ⟨some 39, none, .load true 3 (.slot 7)⟩,
  ⟨some 40, none, .call .frz n_line_Blank [(.slot 38), (.slot 39)]⟩,
  ⟨some 41, none, .copy 7 (.slot 35) (.slot 40)⟩]
def c_line_Erase_R10 : List AOper := [⟨some 42, none, .mov (.slot 9)⟩,
  ⟨some 8, none, .mov (.slot 42)⟩]
def c_line_Erase : AFn := ⟨(.seq (.region c_line_Erase_R0 false [0, 1, 2, 7]) (.seq (.seq (.region c_line_Erase_R1 false [0, 1, 2, 7, 13]) (.cond (.slot 13) (.seq (.region c_line_Erase_R2 false [8]) .ret) .skip)) (.seq (.region c_line_Erase_R3 false [0, 1, 2, 7, 9]) (.seq (.region c_line_Erase_R4 false [1, 2, 7, 9]) (.seq (.seq (.region c_line_Erase_R5 false [1, 2, 7, 9, 24]) (.cond (.slot 24) (.seq (.region c_line_Erase_R6 false [8]) .ret) .skip)) (.seq (.region c_line_Erase_R7 false [1, 2, 7, 9]) (.seq (.region c_line_Erase_R8 false [1, 2, 7, 9]) (.seq (.region c_line_Erase_R9 true [9]) (.seq (.region c_line_Erase_R10 false [8]) .ret))))))))), [.slot 8]⟩
/- oriel/line.Fit -/
def c_line_Fit_R0 : List AOper := [⟨some 4, none, .mov (.const (.data false 7 [] true))⟩]
def c_line_Fit_R1 : List AOper := [⟨some 6, none, .mov (.slot 0)⟩,
  ⟨some 7, none, .call .frz n_line_May [(.slot 6)]⟩,
  ⟨some 8, none, .not (.slot 7)⟩,
  ⟨some 9, none, .mov (.slot 8)⟩,
  ⟨some 10, some (9, false), .mov (.slot 1)⟩,
  ⟨some 11, some (9, false), .bin .lss (.slot 10) (.const (.int .i64 0))⟩,
  ⟨some 12, none, .pick (.slot 9) (.const (.bool true)) (.slot 11)⟩,
  ⟨some 13, none, .mov (.slot 12)⟩,
  ⟨some 14, some (13, false), .mov (.slot 1)⟩,
  ⟨some 15, some (13, false), .bin .gtr (.slot 14) (.const (.int .i64 1000))⟩,
  ⟨some 16, none, .pick (.slot 13) (.const (.bool true)) (.slot 15)⟩]
def c_line_Fit_R2 : List AOper := [⟨some 4, none, .mov (.const (.data false 7 [] true))⟩]
def c_line_Fit_R3 : List AOper := [⟨some 17, none, .mov (.slot 0)⟩,
  ⟨some 18, none, .call .adp n_slices_Clone_Cell [(.slot 17)]⟩,
  ⟨some 5, none, .mov (.slot 18)⟩]
def c_line_Fit_R4 : List AOper := [⟨some 19, none, .mov (.slot 5)⟩,
  ⟨some 20, none, .mov (.slot 1)⟩,
  ⟨some 21, none, .call .inl n_line_torn [(.slot 19), (.slot 20)]⟩]
def c_line_Fit_R5 : List AOper := [⟨some 22, none, .mov (.slot 5)⟩,
  ⟨some 23, none, .mov (.slot 1)⟩,
  ⟨some 24, none, .mov (.slot 0)⟩,
  ⟨some 25, none, .len false (.slot 24)⟩,
  ⟨some 26, none, .min (.slot 23) (.slot 25)⟩,
  ⟨some 27, none, .sl 7 (.slot 22) none (some (.slot 26)) none⟩,
  ⟨some 28, none, .mov (.slot 1)⟩,
  ⟨some 29, none, .mov (.slot 1)⟩,
  ⟨some 30, none, .mov (.slot 0)⟩,
  ⟨some 31, none, .len false (.slot 30)⟩,
  ⟨some 32, none, .min (.slot 29) (.slot 31)⟩,
  ⟨some 33, none, .bin .sub (.slot 28) (.slot 32)⟩,
  ⟨some 34, none, .build [.int .i64 0, .int .i64 0, .int .i64 0] []⟩,
  ⟨some 35, none, .call .frz n_line_Blank [(.slot 33), (.slot 34)]⟩,
  ⟨some 36, none, .append 7 48 (.slot 27) (.slot 35)⟩,
  ⟨some 4, none, .mov (.slot 36)⟩]
def c_line_Fit : AFn := ⟨(.seq (.region c_line_Fit_R0 false [0, 1]) (.seq (.seq (.region c_line_Fit_R1 false [0, 1, 16]) (.cond (.slot 16) (.seq (.region c_line_Fit_R2 false [4]) .ret) .skip)) (.seq (.region c_line_Fit_R3 false [0, 1, 5]) (.seq (.region c_line_Fit_R4 false [0, 1, 5]) (.seq (.region c_line_Fit_R5 true [4]) .ret))))), [.slot 4]⟩
/- oriel/oriellaw14.fine -/
def c_law14_fine_R0 : List AOper := [⟨some 5, none, .box 3 (.slot 1)⟩,
  ⟨some 8, none, .mov (.const (.bool false))⟩]
def c_law14_fine_R1 : List AOper := [⟨some 9, none, .mov (.slot 0)⟩,
  ⟨some 10, none, .call .frz n_ref14_May [(.slot 9)]⟩,
  ⟨some 11, none, .not (.slot 10)⟩,
  ⟨some 12, none, .mov (.slot 11)⟩,
  ⟨some 13, some (12, false), .load true 3 (.slot 5)⟩,
  ⟨some 14, some (12, false), .call .frz n_ref14_Pen [(.slot 13)]⟩,
  ⟨some 15, some (12, false), .not (.slot 14)⟩,
  ⟨some 16, none, .pick (.slot 12) (.const (.bool true)) (.slot 15)⟩]
def c_law14_fine_R2 : List AOper := [⟨some 17, none, .mov (.slot 2)⟩,
  ⟨some 18, none, .len false (.slot 17)⟩,
  ⟨some 19, none, .bin .eql (.slot 18) (.const (.int .i64 0))⟩,
  ⟨some 8, none, .mov (.slot 19)⟩]
def c_law14_fine_R3 : List AOper := [⟨some 20, none, .mov (.slot 2)⟩,
  ⟨some 21, none, .mov (.slot 3)⟩,
  ⟨some 22, none, .call .frz n_ref14_Same [(.slot 20), (.slot 21)]⟩,
  ⟨some 8, none, .mov (.slot 22)⟩]
def c_law14_fine : AFn := ⟨(.seq (.region c_law14_fine_R0 false [0, 2, 3, 5]) (.seq (.seq (.region c_law14_fine_R1 false [2, 3, 16]) (.cond (.slot 16) (.seq (.region c_law14_fine_R2 false [8]) .ret) .skip)) (.seq (.region c_law14_fine_R3 false [8]) .ret))), [.slot 8]⟩
/- oriel/orielref14.Tear -/
def c_ref14_Tear_R0 : List AOper := [⟨some 4, none, .mov (.const (.data false 7 [] true))⟩]
def c_ref14_Tear_R1 : List AOper := [⟨some 5, none, .mknil 7⟩]
def c_ref14_Tear_R2 : List AOper := [⟨some 6, none, .mov (.const (.int .i64 0))⟩]
def c_ref14_Tear_R3 : List AOper := [⟨some 8, none, .mov (.slot 6)⟩,
  ⟨some 9, none, .mov (.slot 0)⟩,
  ⟨some 10, none, .len false (.slot 9)⟩,
  ⟨some 11, none, .bin .lss (.slot 8) (.slot 10)⟩]
def c_ref14_Tear_R5 : List AOper := [⟨some 14, none, .mov (.slot 0)⟩,
  ⟨some 15, none, .mov (.slot 6)⟩,
  ⟨some 16, none, .idx 7 (.slot 14) (.slot 15)⟩,
  ⟨some 17, none, .load true 7 (.slot 16)⟩,
  ⟨some 7, none, .alloc [.int .i32 0, .int .i32 0, .int .i32 0, .int .i64 0, .int .i64 0, .int .i64 0, .int .i64 0]⟩,
  ⟨none, none, .store true 7 (.slot 7) (.slot 17)⟩]
def c_ref14_Tear_R6 : List AOper := [⟨some 18, none, .mov (.slot 6)⟩,
  ⟨some 19, none, .mov (.slot 1)⟩,
  ⟨some 20, none, .bin .eql (.slot 18) (.slot 19)⟩,
  ⟨some 21, none, .mov (.slot 20)⟩,
  ⟨some 22, some (21, true), .faddr 3 (.slot 7)⟩,
  ⟨some 23, some (21, true), .load false 1 (.slot 22)⟩,
  ⟨some 24, some (21, true), .bin .eql (.slot 23) (.const (.int .i64 2))⟩,
  ⟨some 25, none, .pick (.slot 21) (.slot 24) (.const (.bool false))⟩,
  ⟨some 26, none, .mov (.slot 25)⟩,
  ⟨some 27, some (26, false), .mov (.slot 6)⟩,
  ⟨some 28, some (26, false), .mov (.slot 1)⟩,
  ⟨some 29, some (26, false), .bin .sub (.slot 28) (.const (.int .i64 1))⟩,
  ⟨some 30, some (26, false), .bin .eql (.slot 27) (.slot 29)⟩,
  ⟨some 31, some (26, false), .mov (.slot 30)⟩,
  ⟨some 32, some (31, true), .faddr 3 (.slot 7)⟩,
  ⟨some 33, some (31, true), .load false 1 (.slot 32)⟩,
  ⟨some 34, some (31, true), .bin .eql (.slot 33) (.const (.int .i64 1))⟩,
  ⟨some 35, some (26, false), .pick (.slot 31) (.slot 34) (.const (.bool false))⟩,
  ⟨some 36, none, .pick (.slot 26) (.const (.bool true)) (.slot 35)⟩]
def c_ref14_Tear_R7 : List AOper := [⟨some 37, none, .faddr 4 (.slot 7)⟩,
  ⟨some 38, none, .load true 3 (.slot 37)⟩,
  ⟨some 39, none, .call .frz n_ref14_Blank [(.slot 38)]⟩,
  ⟨none, none, .store true 7 (.slot 7) (.slot 39)⟩]
def c_ref14_Tear_R8 : List AOper := [⟨some 40, none, .mov (.slot 5)⟩,
  ⟨some 41, none, .load true 7 (.slot 7)⟩,
  ⟨some 42, none, .mkslice 7 1 [.int .i32 0, .int .i32 0, .int .i32 0, .int .i64 0, .int .i64 0, .int .i64 0, .int .i64 0] [(0, (.slot 41))]⟩,
  ⟨some 43, none, .append 7 48 (.slot 40) (.slot 42)⟩,
  ⟨some 5, none, .mov (.slot 43)⟩]
def c_ref14_Tear_R4 : List AOper := [⟨some 12, none, .mov (.slot 6)⟩,
  ⟨some 13, none, .bin .add (.slot 12) (.const (.int .i64 1))⟩,
  ⟨some 6, none, .mov (.slot 13)⟩]
def c_ref14_Tear_L0 : ACode := (.seq (.seq (.region c_ref14_Tear_R3 false [0, 1, 5, 6, 11]) (.cond (.slot 11) .skip (.exit 0))) (.seq (.block 1 (.seq (.region c_ref14_Tear_R5 false [0, 1, 5, 6, 7]) (.seq (.seq (.region c_ref14_Tear_R6 false [0, 1, 5, 6, 7, 36]) (.cond (.slot 36) (.region c_ref14_Tear_R7 false [0, 1, 5, 6, 7]) .skip)) (.region c_ref14_Tear_R8 false [0, 1, 5, 6])))) (.region c_ref14_Tear_R4 false [0, 1, 5, 6])))
def lp_ref14_Tear_0 : ACode := .loop [0, 1, 5, 6] c_ref14_Tear_L0
def c_ref14_Tear_R9 : List AOper := [⟨some 44, none, .mov (.slot 5)⟩,
  ⟨some 4, none, .mov (.slot 44)⟩]
def c_ref14_Tear : AFn := ⟨(.seq (.region c_ref14_Tear_R0 false [0, 1]) (.seq (.region c_ref14_Tear_R1 false [0, 1, 5]) (.seq (.seq (.region c_ref14_Tear_R2 false [0, 1, 5, 6]) (.block 0 lp_ref14_Tear_0)) (.seq (.region c_ref14_Tear_R9 false [4]) .ret)))), [.slot 4]⟩
/- oriel/orielref14.Erase -/
def c_ref14_Erase_R0 : List AOper := [⟨some 7, none, .box 3 (.slot 3)⟩,
  ⟨some 8, none, .mov (.const (.data false 7 [] true))⟩]
def c_ref14_Erase_R1 : List AOper := [⟨some 11, none, .mov (.slot 1)⟩,
  ⟨some 12, none, .bin .lss (.slot 11) (.const (.int .i64 0))⟩]
def c_ref14_Erase_R2 : List AOper := [⟨some 1, none, .mov (.const (.int .i64 0))⟩]
def c_ref14_Erase_R3 : List AOper := [⟨some 13, none, .mov (.slot 2)⟩,
  ⟨some 14, none, .mov (.slot 0)⟩,
  ⟨some 15, none, .len false (.slot 14)⟩,
  ⟨some 16, none, .bin .gtr (.slot 13) (.slot 15)⟩]
def c_ref14_Erase_R4 : List AOper := [⟨some 17, none, .mov (.slot 0)⟩,
  ⟨some 18, none, .len false (.slot 17)⟩,
  ⟨some 2, none, .mov (.slot 18)⟩]
def c_ref14_Erase_R5 : List AOper := [⟨some 19, none, .mov (.slot 2)⟩,
  ⟨some 20, none, .mov (.slot 1)⟩,
  ⟨some 21, none, .bin .leq (.slot 19) (.slot 20)⟩]
def c_ref14_Erase_R6 : List AOper := [⟨some 22, none, .mov (.slot 0)⟩,
  ⟨some 8, none, .mov (.slot 22)⟩]
def c_ref14_Erase_R7 : List AOper := [⟨some 23, none, .mov (.slot 0)⟩,
  ⟨some 24, none, .mov (.slot 1)⟩,
  ⟨some 25, none, .call .adp n_ref14_Tear [(.slot 23), (.slot 24)]⟩,
  ⟨some 26, none, .mov (.slot 2)⟩,
  ⟨some 27, none, .call .adp n_ref14_Tear [(.slot 25), (.slot 26)]⟩,
  ⟨some 9, none, .mov (.slot 27)⟩]
def c_ref14_Erase_R8 : List AOper := [⟨some 28, none, .mov (.slot 1)⟩,
  ⟨some 10, none, .mov (.slot 28)⟩]
def c_ref14_Erase_R9 : List AOper := [⟨some 29, none, .mov (.slot 10)⟩,
  ⟨some 30, none, .mov (.slot 2)⟩,
  ⟨some 31, none, .bin .lss (.slot 29) (.slot 30)⟩]
def c_ref14_Erase_R11 : List AOper := [⟨some 34, none, .mov (.slot 9)⟩,
  ⟨some 35, none, .mov (.slot 10)⟩,
  ⟨some 36, none, .load true 3 (.slot 7)⟩,
  ⟨some 37, none, .call .frz n_ref14_Blank [(.slot 36)]⟩,
  ⟨some 38, none, .idx 7 (.slot 34) (.slot 35)⟩,
  ⟨none, none, .store true 7 (.slot 38) (.slot 37)⟩]
def c_ref14_Erase_R10 : List AOper := [⟨some 32, none, .mov (.slot 10)⟩,
  ⟨some 33, none, .bin .add (.slot 32) (.const (.int .i64 1))⟩,
  ⟨some 10, none, .mov (.slot 33)⟩]
def c_ref14_Erase_L0 : ACode := (.seq (.seq (.region c_ref14_Erase_R9 false [2, 7, 9, 10, 31]) (.cond (.slot 31) .skip (.exit 0))) (.seq (.block 1 (.region c_ref14_Erase_R11 false [2, 7, 9, 10])) (.region c_ref14_Erase_R10 false [2, 7, 9, 10])))
def lp_ref14_Erase_0 : ACode := .loop [2, 7, 9, 10] c_ref14_Erase_L0
def c_ref14_Erase_R12 : List AOper := [⟨some 39, none, .mov (.slot 9)⟩,
  ⟨some 8, none, .mov (.slot 39)⟩]
def c_ref14_Erase : AFn := ⟨(.seq (.region c_ref14_Erase_R0 false [0, 1, 2, 7]) (.seq (.seq (.region c_ref14_Erase_R1 false [0, 1, 2, 7, 12]) (.cond (.slot 12) (.region c_ref14_Erase_R2 false [0, 1, 2, 7]) .skip)) (.seq (.seq (.region c_ref14_Erase_R3 false [0, 1, 2, 7, 16]) (.cond (.slot 16) (.region c_ref14_Erase_R4 false [0, 1, 2, 7]) .skip)) (.seq (.seq (.region c_ref14_Erase_R5 false [0, 1, 2, 7, 21]) (.cond (.slot 21) (.seq (.region c_ref14_Erase_R6 false [8]) .ret) .skip)) (.seq (.region c_ref14_Erase_R7 false [1, 2, 7, 9]) (.seq (.seq (.region c_ref14_Erase_R8 false [2, 7, 9, 10]) (.block 0 lp_ref14_Erase_0)) (.seq (.region c_ref14_Erase_R12 false [8]) .ret))))))), [.slot 8]⟩
/- oriel/orielref14.Insert -/
def c_ref14_Insert_R0 : List AOper := [⟨some 7, none, .box 3 (.slot 3)⟩,
  ⟨some 8, none, .mov (.const (.data false 7 [] true))⟩]
def c_ref14_Insert_R1 : List AOper := [⟨some 11, none, .mov (.slot 2)⟩,
  ⟨some 12, none, .bin .lss (.slot 11) (.const (.int .i64 1))⟩,
  ⟨some 13, none, .mov (.slot 12)⟩,
  ⟨some 14, some (13, false), .mov (.slot 1)⟩,
  ⟨some 15, some (13, false), .bin .lss (.slot 14) (.const (.int .i64 0))⟩,
  ⟨some 16, none, .pick (.slot 13) (.const (.bool true)) (.slot 15)⟩,
  ⟨some 17, none, .mov (.slot 16)⟩,
  ⟨some 18, some (17, false), .mov (.slot 1)⟩,
  ⟨some 19, some (17, false), .mov (.slot 0)⟩,
  ⟨some 20, some (17, false), .len false (.slot 19)⟩,
  ⟨some 21, some (17, false), .bin .geq (.slot 18) (.slot 20)⟩,
  ⟨some 22, none, .pick (.slot 17) (.const (.bool true)) (.slot 21)⟩]
def c_ref14_Insert_R2 : List AOper := [⟨some 23, none, .mov (.slot 0)⟩,
  ⟨some 8, none, .mov (.slot 23)⟩]
def c_ref14_Insert_R3 : List AOper := [⟨some 24, none, .mov (.slot 2)⟩,
  ⟨some 25, none, .mov (.slot 0)⟩,
  ⟨some 26, none, .len false (.slot 25)⟩,
  ⟨some 27, none, .mov (.slot 1)⟩,
  ⟨some 28, none, .bin .sub (.slot 26) (.slot 27)⟩,
  ⟨some 29, none, .bin .gtr (.slot 24) (.slot 28)⟩]
def c_ref14_Insert_R4 : List AOper := [⟨some 30, none, .mov (.slot 0)⟩,
  ⟨some 31, none, .len false (.slot 30)⟩,
  ⟨some 32, none, .mov (.slot 1)⟩,
  ⟨some 33, none, .bin .sub (.slot 31) (.slot 32)⟩,
  ⟨some 2, none, .mov (.slot 33)⟩]
def c_ref14_Insert_R5 : List AOper := [⟨some 34, none, .mov (.slot 0)⟩,
  ⟨some 35, none, .mov (.slot 1)⟩,
  ⟨some 36, none, .call .adp n_ref14_Tear [(.slot 34), (.slot 35)]⟩,
  ⟨some 37, none, .mov (.slot 0)⟩,
  ⟨some 38, none, .len false (.slot 37)⟩,
  ⟨some 39, none, .mov (.slot 2)⟩,
  ⟨some 40, none, .bin .sub (.slot 38) (.slot 39)⟩,
  ⟨some 41, none, .call .adp n_ref14_Tear [(.slot 36), (.slot 40)]⟩,
  ⟨some 9, none, .mov (.slot 41)⟩]
def c_ref14_Insert_R6 : List AOper := [⟨some 42, none, .mkslice 7 0 [.int .i32 0, .int .i32 0, .int .i32 0, .int .i64 0, .int .i64 0, .int .i64 0, .int .i64 0] []⟩,
  ⟨some 43, none, .mov (.slot 9)⟩,
  ⟨some 44, none, .mov (.slot 1)⟩,
  ⟨some 45, none, .sl 7 (.slot 43) none (some (.slot 44)) none⟩,
  ⟨some 46, none, .append 7 48 (.slot 42) (.slot 45)⟩,
  ⟨some 10, none, .mov (.slot 46)⟩]
def c_ref14_Insert_R7 : List AOper := [⟨some 47, none, .mov (.slot 10)⟩,
  ⟨some 48, none, .mov (.slot 2)⟩,
  ⟨some 49, none, .load true 3 (.slot 7)⟩,
  ⟨some 50, none, .call .frz n_ref14_Blanks [(.slot 48), (.slot 49)]⟩,
  ⟨some 51, none, .append 7 48 (.slot 47) (.slot 50)⟩,
  ⟨some 10, none, .mov (.slot 51)⟩]
def c_ref14_Insert_R8 : List AOper := [⟨some 52, none, .mov (.slot 10)⟩,
  ⟨some 53, none, .mov (.slot 9)⟩,
  ⟨some 54, none, .mov (.slot 1)⟩,
  ⟨some 55, none, .mov (.slot 0)⟩,
  ⟨some 56, none, .len false (.slot 55)⟩,
  ⟨some 57, none, .mov (.slot 2)⟩,
  ⟨some 58, none, .bin .sub (.slot 56) (.slot 57)⟩,
  ⟨some 59, none, .sl 7 (.slot 53) (some (.slot 54)) (some (.slot 58)) none⟩,
  ⟨some 60, none, .append 7 48 (.slot 52) (.slot 59)⟩,
  ⟨some 8, none, .mov (.slot 60)⟩]
def c_ref14_Insert : AFn := ⟨(.seq (.region c_ref14_Insert_R0 false [0, 1, 2, 7]) (.seq (.seq (.region c_ref14_Insert_R1 false [0, 1, 2, 7, 22]) (.cond (.slot 22) (.seq (.region c_ref14_Insert_R2 false [8]) .ret) .skip)) (.seq (.seq (.region c_ref14_Insert_R3 false [0, 1, 2, 7, 29]) (.cond (.slot 29) (.region c_ref14_Insert_R4 false [0, 1, 2, 7]) .skip)) (.seq (.region c_ref14_Insert_R5 false [0, 1, 2, 7, 9]) (.seq (.region c_ref14_Insert_R6 false [0, 1, 2, 7, 9, 10]) (.seq (.region c_ref14_Insert_R7 false [0, 1, 2, 9, 10]) (.seq (.region c_ref14_Insert_R8 false [8]) .ret))))))), [.slot 8]⟩
/- oriel/orielref14.Delete -/
def c_ref14_Delete_R0 : List AOper := [⟨some 7, none, .box 3 (.slot 3)⟩,
  ⟨some 8, none, .mov (.const (.data false 7 [] true))⟩]
def c_ref14_Delete_R1 : List AOper := [⟨some 11, none, .mov (.slot 2)⟩,
  ⟨some 12, none, .bin .lss (.slot 11) (.const (.int .i64 1))⟩,
  ⟨some 13, none, .mov (.slot 12)⟩,
  ⟨some 14, some (13, false), .mov (.slot 1)⟩,
  ⟨some 15, some (13, false), .bin .lss (.slot 14) (.const (.int .i64 0))⟩,
  ⟨some 16, none, .pick (.slot 13) (.const (.bool true)) (.slot 15)⟩,
  ⟨some 17, none, .mov (.slot 16)⟩,
  ⟨some 18, some (17, false), .mov (.slot 1)⟩,
  ⟨some 19, some (17, false), .mov (.slot 0)⟩,
  ⟨some 20, some (17, false), .len false (.slot 19)⟩,
  ⟨some 21, some (17, false), .bin .geq (.slot 18) (.slot 20)⟩,
  ⟨some 22, none, .pick (.slot 17) (.const (.bool true)) (.slot 21)⟩]
def c_ref14_Delete_R2 : List AOper := [⟨some 23, none, .mov (.slot 0)⟩,
  ⟨some 8, none, .mov (.slot 23)⟩]
def c_ref14_Delete_R3 : List AOper := [⟨some 24, none, .mov (.slot 2)⟩,
  ⟨some 25, none, .mov (.slot 0)⟩,
  ⟨some 26, none, .len false (.slot 25)⟩,
  ⟨some 27, none, .mov (.slot 1)⟩,
  ⟨some 28, none, .bin .sub (.slot 26) (.slot 27)⟩,
  ⟨some 29, none, .bin .gtr (.slot 24) (.slot 28)⟩]
def c_ref14_Delete_R4 : List AOper := [⟨some 30, none, .mov (.slot 0)⟩,
  ⟨some 31, none, .len false (.slot 30)⟩,
  ⟨some 32, none, .mov (.slot 1)⟩,
  ⟨some 33, none, .bin .sub (.slot 31) (.slot 32)⟩,
  ⟨some 2, none, .mov (.slot 33)⟩]
def c_ref14_Delete_R5 : List AOper := [⟨some 34, none, .mov (.slot 0)⟩,
  ⟨some 35, none, .mov (.slot 1)⟩,
  ⟨some 36, none, .call .adp n_ref14_Tear [(.slot 34), (.slot 35)]⟩,
  ⟨some 37, none, .mov (.slot 1)⟩,
  ⟨some 38, none, .mov (.slot 2)⟩,
  ⟨some 39, none, .bin .add (.slot 37) (.slot 38)⟩,
  ⟨some 40, none, .call .adp n_ref14_Tear [(.slot 36), (.slot 39)]⟩,
  ⟨some 9, none, .mov (.slot 40)⟩]
def c_ref14_Delete_R6 : List AOper := [⟨some 41, none, .mkslice 7 0 [.int .i32 0, .int .i32 0, .int .i32 0, .int .i64 0, .int .i64 0, .int .i64 0, .int .i64 0] []⟩,
  ⟨some 42, none, .mov (.slot 9)⟩,
  ⟨some 43, none, .mov (.slot 1)⟩,
  ⟨some 44, none, .sl 7 (.slot 42) none (some (.slot 43)) none⟩,
  ⟨some 45, none, .append 7 48 (.slot 41) (.slot 44)⟩,
  ⟨some 10, none, .mov (.slot 45)⟩]
def c_ref14_Delete_R7 : List AOper := [⟨some 46, none, .mov (.slot 10)⟩,
  ⟨some 47, none, .mov (.slot 9)⟩,
  ⟨some 48, none, .mov (.slot 1)⟩,
  ⟨some 49, none, .mov (.slot 2)⟩,
  ⟨some 50, none, .bin .add (.slot 48) (.slot 49)⟩,
  ⟨some 51, none, .sl 7 (.slot 47) (some (.slot 50)) none none⟩,
  ⟨some 52, none, .append 7 48 (.slot 46) (.slot 51)⟩,
  ⟨some 10, none, .mov (.slot 52)⟩]
def c_ref14_Delete_R8 : List AOper := [⟨some 53, none, .mov (.slot 10)⟩,
  ⟨some 54, none, .mov (.slot 2)⟩,
  ⟨some 55, none, .load true 3 (.slot 7)⟩,
  ⟨some 56, none, .call .frz n_ref14_Blanks [(.slot 54), (.slot 55)]⟩,
  ⟨some 57, none, .append 7 48 (.slot 53) (.slot 56)⟩,
  ⟨some 8, none, .mov (.slot 57)⟩]
def c_ref14_Delete : AFn := ⟨(.seq (.region c_ref14_Delete_R0 false [0, 1, 2, 7]) (.seq (.seq (.region c_ref14_Delete_R1 false [0, 1, 2, 7, 22]) (.cond (.slot 22) (.seq (.region c_ref14_Delete_R2 false [8]) .ret) .skip)) (.seq (.seq (.region c_ref14_Delete_R3 false [0, 1, 2, 7, 29]) (.cond (.slot 29) (.region c_ref14_Delete_R4 false [0, 1, 2, 7]) .skip)) (.seq (.region c_ref14_Delete_R5 false [1, 2, 7, 9]) (.seq (.region c_ref14_Delete_R6 false [1, 2, 7, 9, 10]) (.seq (.region c_ref14_Delete_R7 false [2, 7, 10]) (.seq (.region c_ref14_Delete_R8 false [8]) .ret))))))), [.slot 8]⟩
/- oriel/orielref14.Fit -/
def c_ref14_Fit_R0 : List AOper := [⟨some 4, none, .mov (.const (.data false 7 [] true))⟩]
def c_ref14_Fit_R1 : List AOper := [⟨some 5, none, .mov (.slot 1)⟩,
  ⟨some 6, none, .mov (.slot 0)⟩,
  ⟨some 7, none, .len false (.slot 6)⟩,
  ⟨some 8, none, .bin .leq (.slot 5) (.slot 7)⟩]
def c_ref14_Fit_R2 : List AOper := [⟨some 9, none, .mov (.slot 0)⟩,
  ⟨some 10, none, .mov (.slot 1)⟩,
  ⟨some 11, none, .call .adp n_ref14_Tear [(.slot 9), (.slot 10)]⟩,
  ⟨some 12, none, .mov (.slot 1)⟩,
  ⟨some 13, none, .sl 7 (.slot 11) none (some (.slot 12)) none⟩,
  ⟨some 4, none, .mov (.slot 13)⟩]
def c_ref14_Fit_R3 : List AOper := [⟨some 14, none, .mkslice 7 0 [.int .i32 0, .int .i32 0, .int .i32 0, .int .i64 0, .int .i64 0, .int .i64 0, .int .i64 0] []⟩,
  ⟨some 15, none, .mov (.slot 0)⟩,
  ⟨some 16, none, .append 7 48 (.slot 14) (.slot 15)⟩,
  ⟨some 17, none, .mov (.slot 1)⟩,
  ⟨some 18, none, .mov (.slot 0)⟩,
  ⟨some 19, none, .len false (.slot 18)⟩,
  ⟨some 20, none, .bin .sub (.slot 17) (.slot 19)⟩,
  ⟨some 21, none, .build [.int .i64 0, .int .i64 0, .int .i64 0] []⟩,
  ⟨some 22, none, .call .frz n_ref14_Blanks [(.slot 20), (.slot 21)]⟩,
  ⟨some 23, none, .append 7 48 (.slot 16) (.slot 22)⟩,
  ⟨some 4, none, .mov (.slot 23)⟩]
def c_ref14_Fit : AFn := ⟨(.seq (.region c_ref14_Fit_R0 false [0, 1]) (.seq (.seq (.region c_ref14_Fit_R1 false [0, 1, 8]) (.cond (.slot 8) (.seq (.region c_ref14_Fit_R2 false [4]) .ret) .skip)) (.seq (.region c_ref14_Fit_R3 false [4]) .ret))), [.slot 4]⟩
/- oriel/oriellaw14.LineEdits -/
def c_law14_LineEdits_R0 : List AOper := [⟨some 7, none, .box 3 (.slot 3)⟩,
  ⟨some 8, none, .mov (.const (.bool false))⟩]
def c_law14_LineEdits_R1 : List AOper := [⟨some 14, none, .call .frz n_law14_known []⟩,
  ⟨some 15, none, .not (.slot 14)⟩]
def c_law14_LineEdits_R2 : List AOper := [⟨some 8, none, .mov (.const (.bool false))⟩]
def c_law14_LineEdits_R3 : List AOper := [⟨some 16, none, .mov (.slot 0)⟩,
  ⟨some 17, none, .len false (.slot 16)⟩,
  ⟨some 18, none, .bin .gtr (.slot 17) (.const (.int .i64 300))⟩]
def c_law14_LineEdits_R4 : List AOper := [⟨some 8, none, .mov (.const (.bool true))⟩]
def c_law14_LineEdits_R5 : List AOper := [⟨some 19, none, .mkslice 7 0 [.int .i32 0, .int .i32 0, .int .i32 0, .int .i64 0, .int .i64 0, .int .i64 0, .int .i64 0] []⟩,
  ⟨some 20, none, .mov (.slot 0)⟩,
  ⟨some 21, none, .append 7 48 (.slot 19) (.slot 20)⟩,
  ⟨some 22, none, .build [.int .i32 0, .int .i32 0, .int .i32 0, .int .i64 0, .int .i64 0, .int .i64 0, .int .i64 0] [(0, 1, (.const (.int .i32 122)))]⟩,
  ⟨some 23, none, .mkslice 7 1 [.int .i32 0, .int .i32 0, .int .i32 0, .int .i64 0, .int .i64 0, .int .i64 0, .int .i64 0] [(0, (.slot 22))]⟩,
  ⟨some 24, none, .append 7 48 (.slot 21) (.slot 23)⟩,
  ⟨some 25, none, .mov (.slot 0)⟩,
  ⟨some 26, none, .len false (.slot 25)⟩,
  ⟨some 27, none, .sl 7 (.slot 24) none (some (.slot 26)) none⟩,
  ⟨some 9, none, .mov (.slot 27)⟩]
def c_law14_LineEdits_R6 : List AOper := [⟨some 28, none, .mov (.slot 9)⟩,
  ⟨some 29, none, .mov (.slot 1)⟩,
  ⟨some 30, none, .mov (.slot 2)⟩,
  ⟨some 31, none, .load true 3 (.slot 7)⟩,
  ⟨some 32, none, .call .frz n_line_Erase [(.slot 28), (.slot 29), (.slot 30), (.slot 31)]⟩,
  ⟨some 33, none, .mov (.slot 9)⟩,
  ⟨some 34, none, .mov (.slot 1)⟩,
  ⟨some 35, none, .mov (.slot 2)⟩,
  ⟨some 36, none, .load true 3 (.slot 7)⟩,
  ⟨some 37, none, .call .frz n_line_Insert [(.slot 33), (.slot 34), (.slot 35), (.slot 36)]⟩,
  ⟨some 38, none, .mov (.slot 9)⟩,
  ⟨some 39, none, .mov (.slot 1)⟩,
  ⟨some 40, none, .mov (.slot 2)⟩,
  ⟨some 41, none, .load true 3 (.slot 7)⟩,
  ⟨some 42, none, .call .frz n_line_Delete [(.slot 38), (.slot 39), (.slot 40), (.slot 41)]⟩,
  ⟨some 43, none, .mov (.slot 9)⟩,
  ⟨some 44, none, .mov (.slot 2)⟩,
  ⟨some 45, none, .call .frz n_line_Fit [(.slot 43), (.slot 44)]⟩,
  ⟨some 10, none, .mov (.slot 32)⟩,
  ⟨some 11, none, .mov (.slot 37)⟩,
  ⟨some 12, none, .mov (.slot 42)⟩,
  ⟨some 13, none, .mov (.slot 45)⟩]
def c_law14_LineEdits_R7 : List AOper := ⟨some 46, none, .mov (.slot 0)⟩ ::
  ⟨some 47, none, .load true 3 (.slot 7)⟩ ::
  ⟨some 48, none, .mov (.slot 10)⟩ ::
  ⟨some 49, none, .mov (.slot 0)⟩ ::
  ⟨some 50, none, .mov (.slot 1)⟩ ::
  ⟨some 51, none, .mov (.slot 2)⟩ ::
  ⟨some 52, none, .load true 3 (.slot 7)⟩ ::
  ⟨some 53, none, .call .frz n_ref14_Erase [(.slot 49), (.slot 50), (.slot 51), (.slot 52)]⟩ ::
  ⟨some 54, none, .call .frz n_law14_fine [(.slot 46), (.slot 47), (.slot 48), (.slot 53)]⟩ ::
  ⟨some 55, none, .not (.slot 54)⟩ ::
  ⟨some 56, none, .mov (.slot 55)⟩ ::
  ⟨some 57, some (56, false), .mov (.slot 0)⟩ ::
  ⟨some 58, some (56, false), .load true 3 (.slot 7)⟩ ::
  ⟨some 59, some (56, false), .mov (.slot 11)⟩ ::
  ⟨some 60, some (56, false), .mov (.slot 0)⟩ ::
  ⟨some 61, some (56, false), .mov (.slot 1)⟩ ::
  ⟨some 62, some (56, false), .mov (.slot 2)⟩ ::
  ⟨some 63, some (56, false), .load true 3 (.slot 7)⟩ ::
  ⟨some 64, some (56, false), .call .frz n_ref14_Insert [(.slot 60), (.slot 61), (.slot 62), (.slot 63)]⟩ ::
  ⟨some 65, some (56, false), .call .frz n_law14_fine [(.slot 57), (.slot 58), (.slot 59), (.slot 64)]⟩ ::
  ⟨some 66, some (56, false), .not (.slot 65)⟩ ::
  ⟨some 67, none, .pick (.slot 56) (.const (.bool true)) (.slot 66)⟩ ::
  ⟨some 68, none, .mov (.slot 67)⟩ ::
  ⟨some 69, some (68, false), .mov (.slot 0)⟩ ::
  ⟨some 70, some (68, false), .load true 3 (.slot 7)⟩ ::
  ⟨some 71, some (68, false), .mov (.slot 12)⟩ ::
  ⟨some 72, some (68, false), .mov (.slot 0)⟩ ::
  ⟨some 73, some (68, false), .mov (.slot 1)⟩ ::
  ⟨some 74, some (68, false), .mov (.slot 2)⟩ ::
  ⟨some 75, some (68, false), .load true 3 (.slot 7)⟩ ::
  ⟨some 76, some (68, false), .call .frz n_ref14_Delete [(.slot 72), (.slot 73), (.slot 74), (.slot 75)]⟩ ::
  ⟨some 77, some (68, false), .call .frz n_law14_fine [(.slot 69), (.slot 70), (.slot 71), (.slot 76)]⟩ ::
  ⟨some 78, some (68, false), .not (.slot 77)⟩ ::
  ⟨some 79, none, .pick (.slot 68) (.const (.bool true)) (.slot 78)⟩ :: []
def c_law14_LineEdits_R8 : List AOper := [⟨some 8, none, .mov (.const (.bool false))⟩]
def c_law14_LineEdits_R9 : List AOper := [⟨some 80, none, .mov (.slot 2)⟩,
  ⟨some 81, none, .bin .lss (.slot 80) (.const (.int .i64 0))⟩,
  ⟨some 82, none, .mov (.slot 81)⟩,
  ⟨some 83, some (82, false), .mov (.slot 2)⟩,
  ⟨some 84, some (82, false), .bin .gtr (.slot 83) (.const (.int .i64 1000))⟩,
  ⟨some 85, none, .pick (.slot 82) (.const (.bool true)) (.slot 84)⟩,
  ⟨some 86, none, .mov (.slot 85)⟩,
  ⟨some 87, some (86, false), .mov (.slot 0)⟩,
  ⟨some 88, some (86, false), .call .frz n_ref14_May [(.slot 87)]⟩,
  ⟨some 89, some (86, false), .not (.slot 88)⟩,
  ⟨some 90, none, .pick (.slot 86) (.const (.bool true)) (.slot 89)⟩]
def c_law14_LineEdits_R10 : List AOper := [⟨some 91, none, .mov (.slot 13)⟩,
  ⟨some 92, none, .len false (.slot 91)⟩,
  ⟨some 93, none, .bin .neq (.slot 92) (.const (.int .i64 0))⟩]
def c_law14_LineEdits_R11 : List AOper := [⟨some 8, none, .mov (.const (.bool false))⟩]
def c_law14_LineEdits_R12 : List AOper := [⟨some 94, none, .mov (.slot 13)⟩,
  ⟨some 95, none, .mov (.slot 0)⟩,
  ⟨some 96, none, .mov (.slot 2)⟩,
  ⟨some 97, none, .call .frz n_ref14_Fit [(.slot 95), (.slot 96)]⟩,
  ⟨some 98, none, .call .frz n_ref14_Same [(.slot 94), (.slot 97)]⟩,
  ⟨some 99, none, .not (.slot 98)⟩]
def c_law14_LineEdits_R13 : List AOper := [⟨some 8, none, .mov (.const (.bool false))⟩]
def c_law14_LineEdits_R14 : List AOper := [⟨some 100, none, .mov (.slot 9)⟩,
  ⟨some 101, none, .mov (.slot 0)⟩,
  ⟨some 102, none, .call .frz n_ref14_Same [(.slot 100), (.slot 101)]⟩,
  ⟨some 103, none, .mov (.slot 102)⟩,
  ⟨some 104, some (103, true), .mov (.slot 9)⟩,
  ⟨some 105, some (103, true), .mov (.slot 0)⟩,
  ⟨some 106, some (103, true), .len false (.slot 105)⟩,
  ⟨some 107, some (103, true), .bin .add (.slot 106) (.const (.int .i64 1))⟩,
  ⟨some 108, some (103, true), .sl 7 (.slot 104) none (some (.slot 107)) none⟩,
  ⟨some 109, some (103, true), .mov (.slot 0)⟩,
  ⟨some 110, some (103, true), .len false (.slot 109)⟩,
  ⟨some 111, some (103, true), .idx 7 (.slot 108) (.slot 110)⟩,
  ⟨some 112, some (103, true), .load true 7 (.slot 111)⟩,
  ⟨some 113, some (103, true), .build [.int .i32 0, .int .i32 0, .int .i32 0, .int .i64 0, .int .i64 0, .int .i64 0, .int .i64 0] [(0, 1, (.const (.int .i32 122)))]⟩,
  ⟨some 114, some (103, true), .eq true [.ki, .ki, .ki, .ki, .ki, .ki, .ki] false (.slot 112) (.slot 113)⟩,
  ⟨some 115, none, .pick (.slot 103) (.slot 114) (.const (.bool false))⟩,
  ⟨some 8, none, .mov (.slot 115)⟩]
def c_law14_LineEdits : AFn := ⟨(.seq (.region c_law14_LineEdits_R0 false [0, 1, 2, 7]) (.seq (.seq (.region c_law14_LineEdits_R1 false [0, 1, 2, 7, 15]) (.cond (.slot 15) (.seq (.region c_law14_LineEdits_R2 false [8]) .ret) .skip)) (.seq (.seq (.region c_law14_LineEdits_R3 false [0, 1, 2, 7, 18]) (.cond (.slot 18) (.seq (.region c_law14_LineEdits_R4 false [8]) .ret) .skip)) (.seq (.region c_law14_LineEdits_R5 false [0, 1, 2, 7, 9]) (.seq (.region c_law14_LineEdits_R6 true [0, 1, 2, 7, 9, 10, 11, 12, 13]) (.seq (.seq (.region c_law14_LineEdits_R7 true [0, 2, 9, 13, 79]) (.cond (.slot 79) (.seq (.region c_law14_LineEdits_R8 false [8]) .ret) .skip)) (.seq (.seq (.region c_law14_LineEdits_R9 false [0, 2, 9, 13, 90]) (.cond (.slot 90) (.seq (.region c_law14_LineEdits_R10 false [0, 9, 93]) (.cond (.slot 93) (.seq (.region c_law14_LineEdits_R11 false [8]) .ret) .skip)) (.seq (.region c_law14_LineEdits_R12 false [0, 9, 99]) (.cond (.slot 99) (.seq (.region c_law14_LineEdits_R13 false [8]) .ret) .skip)))) (.seq (.region c_law14_LineEdits_R14 false [8]) .ret)))))))), [.slot 8]⟩
/- oriel/line.Mark -/
def c_line_Mark_R0 : List AOper := [⟨some 6, none, .mov (.const (.data false 7 [] true))⟩]
def c_line_Mark_R1 : List AOper := [⟨some 10, none, .mov (.slot 0)⟩,
  ⟨some 11, none, .call .frz n_line_May [(.slot 10)]⟩,
  ⟨some 12, none, .not (.slot 11)⟩]
def c_line_Mark_R2 : List AOper := [⟨some 6, none, .mov (.const (.data false 7 [] true))⟩]
def c_line_Mark_R3 : List AOper := [⟨some 13, none, .mov (.slot 0)⟩,
  ⟨some 14, none, .call .adp n_slices_Clone_Cell [(.slot 13)]⟩,
  ⟨some 7, none, .mov (.slot 14)⟩]
def c_line_Mark_R4 : List AOper := [⟨some 15, none, .mov (.slot 1)⟩,
  ⟨some 16, none, .bin .lss (.slot 15) (.const (.int .i64 0))⟩,
  ⟨some 17, none, .mov (.slot 16)⟩,
  ⟨some 18, some (17, false), .mov (.slot 1)⟩,
  ⟨some 19, some (17, false), .mov (.slot 0)⟩,
  ⟨some 20, some (17, false), .len false (.slot 19)⟩,
  ⟨some 21, some (17, false), .bin .geq (.slot 18) (.slot 20)⟩,
  ⟨some 22, none, .pick (.slot 17) (.const (.bool true)) (.slot 21)⟩,
  ⟨some 23, none, .mov (.slot 22)⟩,
  ⟨some 24, some (23, false), .mov (.slot 2)⟩,
  ⟨some 25, some (23, false), .call .frz n_cols_Of [(.slot 24)]⟩,
  ⟨some 26, some (23, false), .bin .neq (.slot 25) (.const (.int .i64 0))⟩,
  ⟨some 27, none, .pick (.slot 23) (.const (.bool true)) (.slot 26)⟩]
def c_line_Mark_R5 : List AOper := [⟨some 28, none, .mov (.slot 7)⟩,
  ⟨some 6, none, .mov (.slot 28)⟩]
def c_line_Mark_R6 : List AOper := [⟨some 29, none, .mov (.slot 0)⟩,
  ⟨some 30, none, .mov (.slot 1)⟩,
  ⟨some 31, none, .idx 7 (.slot 29) (.slot 30)⟩,
  ⟨some 32, none, .faddr 3 (.slot 31)⟩,
  ⟨some 33, none, .load false 1 (.slot 32)⟩,
  ⟨some 34, none, .bin .eql (.slot 33) (.const (.int .i64 2))⟩]
def c_line_Mark_R7 : List AOper := [⟨some 35, none, .mov (.slot 1)⟩,
  ⟨some 36, none, .bin .sub (.slot 35) (.const (.int .i64 1))⟩,
  ⟨some 1, none, .mov (.slot 36)⟩]
def c_line_Mark_R8 : List AOper := [⟨some 37, none, .mov (.slot 7)⟩,
  ⟨some 38, none, .mov (.slot 1)⟩,
  ⟨some 39, none, .idx 7 (.slot 37) (.slot 38)⟩,
  ⟨some 40, none, .faddr 1 (.slot 39)⟩,
  ⟨some 41, none, .load true 2 (.slot 40)⟩,
  ⟨some 42, none, .mov (.const (.int .i64 0))⟩]
def c_line_Mark_R9 : List AOper := [⟨some 43, none, .bin .lss (.slot 42) (.const (.int .i64 2))⟩]
def c_line_Mark_R10 : List AOper := [⟨some 44, none, .mov (.slot 42)⟩,
  ⟨some 45, none, .idxv false 1 2 (.slot 41) (.slot 42)⟩,
  ⟨some 8, none, .mov (.slot 44)⟩,
  ⟨some 9, none, .mov (.slot 45)⟩]
def c_line_Mark_R11 : List AOper := [⟨some 46, none, .mov (.slot 9)⟩,
  ⟨some 47, none, .bin .eql (.slot 46) (.const (.int .i32 0))⟩]
def c_line_Mark_R12 : List AOper := [⟨some 48, none, .mov (.slot 7)⟩,
  ⟨some 49, none, .mov (.slot 1)⟩,
  ⟨some 50, none, .mov (.slot 8)⟩,
  ⟨some 51, none, .mov (.slot 2)⟩,
  ⟨some 52, none, .idx 7 (.slot 48) (.slot 49)⟩,
  ⟨some 53, none, .faddr 1 (.slot 52)⟩,
  ⟨some 54, none, .idxarr 1 2 (.slot 53) (.slot 50)⟩,
  ⟨none, none, .store false 1 (.slot 54) (.slot 51)⟩]
def c_line_Mark_R13 : List AOper := [⟨some 55, none, .bin .add (.slot 42) (.const (.int .i64 1))⟩,
  ⟨some 42, none, .mov (.slot 55)⟩]
def c_line_Mark_L0 : ACode := (.seq (.region c_line_Mark_R9 false [1, 2, 7, 41, 42, 43]) (.seq (.cond (.slot 43) .skip (.exit 0)) (.seq (.block 1 (.seq (.region c_line_Mark_R10 false [1, 2, 7, 8, 9, 41, 42]) (.seq (.region c_line_Mark_R11 false [1, 2, 7, 8, 41, 42, 47]) (.cond (.slot 47) (.seq (.region c_line_Mark_R12 false [7]) (.exit 0)) .skip)))) (.region c_line_Mark_R13 false [1, 2, 7, 41, 42]))))
def lp_line_Mark_0 : ACode := .loop [1, 2, 7, 41, 42] c_line_Mark_L0
def c_line_Mark_R14 : List AOper := [⟨some 56, none, .mov (.slot 7)⟩,
  ⟨some 6, none, .mov (.slot 56)⟩]
def c_line_Mark : AFn := ⟨(.seq (.region c_line_Mark_R0 false [0, 1, 2]) (.seq (.seq (.region c_line_Mark_R1 false [0, 1, 2, 12]) (.cond (.slot 12) (.seq (.region c_line_Mark_R2 false [6]) .ret) .skip)) (.seq (.region c_line_Mark_R3 false [0, 1, 2, 7]) (.seq (.seq (.region c_line_Mark_R4 false [0, 1, 2, 7, 27]) (.cond (.slot 27) (.seq (.region c_line_Mark_R5 false [6]) .ret) .skip)) (.seq (.seq (.region c_line_Mark_R6 false [1, 2, 7, 34]) (.cond (.slot 34) (.region c_line_Mark_R7 false [1, 2, 7]) .skip)) (.seq (.seq (.region c_line_Mark_R8 false [1, 2, 7, 41, 42]) (.block 0 lp_line_Mark_0)) (.seq (.region c_line_Mark_R14 false [6]) .ret))))))), [.slot 6]⟩
/- oriel/line.Tear -/
def c_line_Tear_R0 : List AOper := [⟨some 4, none, .mov (.const (.data false 7 [] true))⟩]
def c_line_Tear_R1 : List AOper := [⟨some 6, none, .mov (.slot 0)⟩,
  ⟨some 7, none, .call .frz n_line_May [(.slot 6)]⟩,
  ⟨some 8, none, .not (.slot 7)⟩]
def c_line_Tear_R2 : List AOper := [⟨some 4, none, .mov (.const (.data false 7 [] true))⟩]
def c_line_Tear_R3 : List AOper := [⟨some 9, none, .mov (.slot 0)⟩,
  ⟨some 10, none, .call .adp n_slices_Clone_Cell [(.slot 9)]⟩,
  ⟨some 5, none, .mov (.slot 10)⟩]
def c_line_Tear_R4 : List AOper := [⟨some 11, none, .mov (.slot 5)⟩,
  ⟨some 12, none, .mov (.slot 1)⟩,
  ⟨some 13, none, .call .inl n_line_torn [(.slot 11), (.slot 12)]⟩]
def c_line_Tear_R5 : List AOper := [⟨some 14, none, .mov (.slot 5)⟩,
  ⟨some 4, none, .mov (.slot 14)⟩]
def c_line_Tear : AFn := ⟨(.seq (.region c_line_Tear_R0 false [0, 1]) (.seq (.seq (.region c_line_Tear_R1 false [0, 1, 8]) (.cond (.slot 8) (.seq (.region c_line_Tear_R2 false [4]) .ret) .skip)) (.seq (.region c_line_Tear_R3 false [1, 5]) (.seq (.region c_line_Tear_R4 false [5]) (.seq (.region c_line_Tear_R5 false [4]) .ret))))), [.slot 4]⟩
/- oriel/oriellaw14.does -/
def c_law14_does_R0 : List AOper := [⟨some 3, none, .box 7 (.slot 1)⟩,
  ⟨some 4, none, .mov (.const (.data false 7 [] true))⟩]
def c_law14_does_R1 : List AOper := [⟨some 5, none, .faddr 0 (.slot 3)⟩,
  ⟨some 6, none, .load false 1 (.slot 5)⟩]
def c_law14_does_R2 : List AOper := [⟨some 8, none, .bin .eql (.slot 6) (.const (.int .i64 0))⟩,
  ⟨some 7, none, .mov (.slot 8)⟩]
def c_law14_does_R3 : List AOper := [⟨some 9, none, .mov (.slot 0)⟩,
  ⟨some 10, none, .faddr 1 (.slot 3)⟩,
  ⟨some 11, none, .load false 1 (.slot 10)⟩,
  ⟨some 12, none, .faddr 3 (.slot 3)⟩,
  ⟨some 13, none, .load false 1 (.slot 12)⟩,
  ⟨some 14, none, .faddr 4 (.slot 3)⟩,
  ⟨some 15, none, .load true 3 (.slot 14)⟩,
  ⟨some 16, none, .call .frz n_line_Put [(.slot 9), (.slot 11), (.slot 13), (.slot 15)]⟩,
  ⟨some 4, none, .mov (.slot 16)⟩]
def c_law14_does_R4 : List AOper := [⟨some 18, none, .bin .eql (.slot 6) (.const (.int .i64 1))⟩,
  ⟨some 17, none, .mov (.slot 18)⟩]
def c_law14_does_R5 : List AOper := [⟨some 19, none, .mov (.slot 0)⟩,
  ⟨some 20, none, .faddr 1 (.slot 3)⟩,
  ⟨some 21, none, .load false 1 (.slot 20)⟩,
  ⟨some 22, none, .faddr 3 (.slot 3)⟩,
  ⟨some 23, none, .load false 1 (.slot 22)⟩,
  ⟨some 24, none, .call .frz n_line_Mark [(.slot 19), (.slot 21), (.slot 23)]⟩,
  ⟨some 4, none, .mov (.slot 24)⟩]
def c_law14_does_R6 : List AOper := [⟨some 26, none, .bin .eql (.slot 6) (.const (.int .i64 2))⟩,
  ⟨some 25, none, .mov (.slot 26)⟩]
def c_law14_does_R7 : List AOper := [⟨some 27, none, .mov (.slot 0)⟩,
  ⟨some 28, none, .faddr 1 (.slot 3)⟩,
  ⟨some 29, none, .load false 1 (.slot 28)⟩,
  ⟨some 30, none, .faddr 2 (.slot 3)⟩,
  ⟨some 31, none, .load false 1 (.slot 30)⟩,
  ⟨some 32, none, .faddr 4 (.slot 3)⟩,
  ⟨some 33, none, .load true 3 (.slot 32)⟩,
  ⟨some 34, none, .call .frz n_line_Erase [(.slot 27), (.slot 29), (.slot 31), (.slot 33)]⟩,
  ⟨some 4, none, .mov (.slot 34)⟩]
def c_law14_does_R8 : List AOper := [⟨some 36, none, .bin .eql (.slot 6) (.const (.int .i64 3))⟩,
  ⟨some 35, none, .mov (.slot 36)⟩]
def c_law14_does_R9 : List AOper := [⟨some 37, none, .mov (.slot 0)⟩,
  ⟨some 38, none, .faddr 1 (.slot 3)⟩,
  ⟨some 39, none, .load false 1 (.slot 38)⟩,
  ⟨some 40, none, .faddr 2 (.slot 3)⟩,
  ⟨some 41, none, .load false 1 (.slot 40)⟩,
  ⟨some 42, none, .faddr 4 (.slot 3)⟩,
  ⟨some 43, none, .load true 3 (.slot 42)⟩,
  ⟨some 44, none, .call .frz n_line_Insert [(.slot 37), (.slot 39), (.slot 41), (.slot 43)]⟩,
  ⟨some 4, none, .mov (.slot 44)⟩]
def c_law14_does_R10 : List AOper := [⟨some 46, none, .bin .eql (.slot 6) (.const (.int .i64 4))⟩,
  ⟨some 45, none, .mov (.slot 46)⟩]
def c_law14_does_R11 : List AOper := [⟨some 47, none, .mov (.slot 0)⟩,
  ⟨some 48, none, .faddr 1 (.slot 3)⟩,
  ⟨some 49, none, .load false 1 (.slot 48)⟩,
  ⟨some 50, none, .faddr 2 (.slot 3)⟩,
  ⟨some 51, none, .load false 1 (.slot 50)⟩,
  ⟨some 52, none, .faddr 4 (.slot 3)⟩,
  ⟨some 53, none, .load true 3 (.slot 52)⟩,
  ⟨some 54, none, .call .frz n_line_Delete [(.slot 47), (.slot 49), (.slot 51), (.slot 53)]⟩,
  ⟨some 4, none, .mov (.slot 54)⟩]
def c_law14_does_R12 : List AOper := [⟨some 56, none, .bin .eql (.slot 6) (.const (.int .i64 5))⟩,
  ⟨some 55, none, .mov (.slot 56)⟩]
def c_law14_does_R13 : List AOper := [⟨some 57, none, .mov (.slot 0)⟩,
  ⟨some 58, none, .faddr 2 (.slot 3)⟩,
  ⟨some 59, none, .load false 1 (.slot 58)⟩,
  ⟨some 60, none, .call .frz n_line_Fit [(.slot 57), (.slot 59)]⟩,
  ⟨some 4, none, .mov (.slot 60)⟩]
def c_law14_does_R14 : List AOper := [⟨some 62, none, .bin .eql (.slot 6) (.const (.int .i64 6))⟩,
  ⟨some 61, none, .mov (.slot 62)⟩]
def c_law14_does_R15 : List AOper := [⟨some 63, none, .mov (.slot 0)⟩,
  ⟨some 64, none, .faddr 1 (.slot 3)⟩,
  ⟨some 65, none, .load false 1 (.slot 64)⟩,
  ⟨some 66, none, .call .frz n_line_Tear [(.slot 63), (.slot 65)]⟩,
  ⟨some 4, none, .mov (.slot 66)⟩]
def c_law14_does_R16 : List AOper := [⟨some 67, none, .mov (.slot 0)⟩,
  ⟨some 4, none, .mov (.slot 67)⟩]
def c_law14_does : AFn := ⟨(.seq (.region c_law14_does_R0 false [0, 3]) (.seq (.seq (.region c_law14_does_R1 false [0, 3, 6]) (.block 0 (.seq (.region c_law14_does_R2 false [0, 3, 6, 7]) (.cond (.slot 7) (.seq (.region c_law14_does_R3 false [4]) .ret) (.seq (.region c_law14_does_R4 false [0, 3, 6, 17]) (.cond (.slot 17) (.seq (.region c_law14_does_R5 false [4]) .ret) (.seq (.region c_law14_does_R6 false [0, 3, 6, 25]) (.cond (.slot 25) (.seq (.region c_law14_does_R7 false [4]) .ret) (.seq (.region c_law14_does_R8 false [0, 3, 6, 35]) (.cond (.slot 35) (.seq (.region c_law14_does_R9 false [4]) .ret) (.seq (.region c_law14_does_R10 false [0, 3, 6, 45]) (.cond (.slot 45) (.seq (.region c_law14_does_R11 false [4]) .ret) (.seq (.region c_law14_does_R12 false [0, 3, 6, 55]) (.cond (.slot 55) (.seq (.region c_law14_does_R13 false [4]) .ret) (.seq (.region c_law14_does_R14 false [0, 3, 61]) (.cond (.slot 61) (.seq (.region c_law14_does_R15 false [4]) .ret) .skip)))))))))))))))) (.seq (.region c_law14_does_R16 false [4]) .ret))), [.slot 4]⟩
/- oriel/oriellaw14.LineWhole -/
def c_law14_LineWhole_R0 : List AOper := [⟨some 4, none, .mov (.const (.bool false))⟩]
def c_law14_LineWhole_R1 : List AOper := [⟨some 10, none, .call .frz n_law14_known []⟩,
  ⟨some 11, none, .not (.slot 10)⟩]
def c_law14_LineWhole_R2 : List AOper := [⟨some 4, none, .mov (.const (.bool false))⟩]
def c_law14_LineWhole_R3 : List AOper := [⟨some 12, none, .mov (.slot 0)⟩,
  ⟨some 13, none, .bin .lss (.slot 12) (.const (.int .i64 0))⟩,
  ⟨some 14, none, .mov (.slot 13)⟩,
  ⟨some 15, some (14, false), .mov (.slot 0)⟩,
  ⟨some 16, some (14, false), .bin .gtr (.slot 15) (.const (.int .i64 200))⟩,
  ⟨some 17, none, .pick (.slot 14) (.const (.bool true)) (.slot 16)⟩,
  ⟨some 18, none, .mov (.slot 17)⟩,
  ⟨some 19, some (18, false), .mov (.slot 1)⟩,
  ⟨some 20, some (18, false), .len false (.slot 19)⟩,
  ⟨some 21, some (18, false), .bin .gtr (.slot 20) (.const (.int .i64 100))⟩,
  ⟨some 22, none, .pick (.slot 18) (.const (.bool true)) (.slot 21)⟩]
def c_law14_LineWhole_R4 : List AOper := [⟨some 4, none, .mov (.const (.bool true))⟩]
def c_law14_LineWhole_R5 : List AOper := [⟨some 23, none, .mov (.slot 0)⟩,
  ⟨some 24, none, .build [.int .i64 0, .int .i64 0, .int .i64 0] []⟩,
  ⟨some 25, none, .call .frz n_line_Blank [(.slot 23), (.slot 24)]⟩,
  ⟨some 5, none, .mov (.slot 25)⟩]
def c_law14_LineWhole_R6 : List AOper := [⟨some 6, none, .mov (.const (.int .i64 0))⟩]
def c_law14_LineWhole_R7 : List AOper := [⟨some 26, none, .mov (.slot 6)⟩,
  ⟨some 27, none, .mov (.slot 1)⟩,
  ⟨some 28, none, .len false (.slot 27)⟩,
  ⟨some 29, none, .bin .lss (.slot 26) (.slot 28)⟩]
def c_law14_LineWhole_R9 : List AOper := [⟨some 32, none, .mov (.slot 1)⟩,
  ⟨some 33, none, .mov (.slot 6)⟩,
  ⟨some 34, none, .idx 7 (.slot 32) (.slot 33)⟩,
  ⟨some 35, none, .load true 7 (.slot 34)⟩,
  ⟨some 7, none, .alloc [.int .i64 0, .int .i64 0, .int .i64 0, .int .i32 0, .int .i64 0, .int .i64 0, .int .i64 0]⟩,
  ⟨none, none, .store true 7 (.slot 7) (.slot 35)⟩]
def c_law14_LineWhole_R10 : List AOper := [⟨some 36, none, .faddr 4 (.slot 7)⟩,
  ⟨some 37, none, .load true 3 (.slot 36)⟩,
  ⟨some 8, none, .alloc [.int .i64 0, .int .i64 0, .int .i64 0]⟩,
  ⟨none, none, .store true 3 (.slot 8) (.slot 37)⟩]
def c_law14_LineWhole_R11 : List AOper := ⟨some 38, none, .faddr 0 (.slot 8)⟩ ::
  ⟨some 39, none, .load false 1 (.slot 38)⟩ ::
  ⟨some 40, none, .bin .lss (.slot 39) (.const (.int .i64 0))⟩ ::
  ⟨some 41, none, .mov (.slot 40)⟩ ::
  ⟨some 42, some (41, false), .faddr 0 (.slot 8)⟩ ::
  ⟨some 43, some (41, false), .load false 1 (.slot 42)⟩ ::
  ⟨some 44, some (41, false), .bin .gtr (.slot 43) (.const (.int .i64 255))⟩ ::
  ⟨some 45, none, .pick (.slot 41) (.const (.bool true)) (.slot 44)⟩ ::
  ⟨some 46, none, .mov (.slot 45)⟩ ::
  ⟨some 47, some (46, false), .faddr 1 (.slot 8)⟩ ::
  ⟨some 48, some (46, false), .load false 1 (.slot 47)⟩ ::
  ⟨some 49, some (46, false), .bin .lss (.slot 48) (.const (.int .i64 0))⟩ ::
  ⟨some 50, none, .pick (.slot 46) (.const (.bool true)) (.slot 49)⟩ ::
  ⟨some 51, none, .mov (.slot 50)⟩ ::
  ⟨some 52, some (51, false), .faddr 1 (.slot 8)⟩ ::
  ⟨some 53, some (51, false), .load false 1 (.slot 52)⟩ ::
  ⟨some 54, some (51, false), .bin .gtr (.slot 53) (.const (.int .i64 256))⟩ ::
  ⟨some 55, none, .pick (.slot 51) (.const (.bool true)) (.slot 54)⟩ ::
  ⟨some 56, none, .mov (.slot 55)⟩ ::
  ⟨some 57, some (56, false), .faddr 2 (.slot 8)⟩ ::
  ⟨some 58, some (56, false), .load false 1 (.slot 57)⟩ ::
  ⟨some 59, some (56, false), .bin .lss (.slot 58) (.const (.int .i64 0))⟩ ::
  ⟨some 60, none, .pick (.slot 56) (.const (.bool true)) (.slot 59)⟩ ::
  ⟨some 61, none, .mov (.slot 60)⟩ ::
  ⟨some 62, some (61, false), .faddr 2 (.slot 8)⟩ ::
  ⟨some 63, some (61, false), .load false 1 (.slot 62)⟩ ::
  ⟨some 64, some (61, false), .bin .gtr (.slot 63) (.const (.int .i64 256))⟩ ::
  ⟨some 65, none, .pick (.slot 61) (.const (.bool true)) (.slot 64)⟩ :: []
def c_law14_LineWhole_R12 : List AOper := [⟨some 4, none, .mov (.const (.bool true))⟩]
def c_law14_LineWhole_R13 : List AOper := [⟨some 66, none, .faddr 0 (.slot 7)⟩,
  ⟨some 67, none, .load false 1 (.slot 66)⟩,
  ⟨some 68, none, .bin .eql (.slot 67) (.const (.int .i64 5))⟩]
def c_law14_LineWhole_R14 : List AOper := [⟨some 69, none, .faddr 2 (.slot 7)⟩,
  ⟨some 70, none, .load false 1 (.slot 69)⟩,
  ⟨some 71, none, .bin .lss (.slot 70) (.const (.int .i64 0))⟩,
  ⟨some 72, none, .mov (.slot 71)⟩,
  ⟨some 73, some (72, false), .faddr 2 (.slot 7)⟩,
  ⟨some 74, some (72, false), .load false 1 (.slot 73)⟩,
  ⟨some 75, some (72, false), .bin .gtr (.slot 74) (.const (.int .i64 200))⟩,
  ⟨some 76, none, .pick (.slot 72) (.const (.bool true)) (.slot 75)⟩]
def c_law14_LineWhole_R15 : List AOper := [⟨some 4, none, .mov (.const (.bool true))⟩]
def c_law14_LineWhole_R16 : List AOper := [⟨some 77, none, .faddr 2 (.slot 7)⟩,
  ⟨some 78, none, .load false 1 (.slot 77)⟩,
  ⟨some 0, none, .mov (.slot 78)⟩]
def c_law14_LineWhole_R17 : List AOper := [⟨some 79, none, .mov (.slot 5)⟩,
  ⟨some 80, none, .load true 7 (.slot 7)⟩,
  ⟨some 81, none, .call .frz n_law14_does [(.slot 79), (.slot 80)]⟩,
  ⟨some 5, none, .mov (.slot 81)⟩]
def c_law14_LineWhole_R18 : List AOper := [⟨some 82, none, .mov (.slot 5)⟩,
  ⟨some 83, none, .len false (.slot 82)⟩,
  ⟨some 84, none, .mov (.slot 0)⟩,
  ⟨some 85, none, .bin .neq (.slot 83) (.slot 84)⟩,
  ⟨some 86, none, .mov (.slot 85)⟩,
  ⟨some 87, some (86, false), .mov (.slot 5)⟩,
  ⟨some 88, some (86, false), .call .frz n_line_May [(.slot 87)]⟩,
  ⟨some 89, some (86, false), .not (.slot 88)⟩,
  ⟨some 90, none, .pick (.slot 86) (.const (.bool true)) (.slot 89)⟩]
def c_law14_LineWhole_R19 : List AOper := [⟨some 4, none, .mov (.const (.bool false))⟩]
def c_law14_LineWhole_R20 : List AOper := [⟨some 9, none, .mov (.const (.int .i64 0))⟩]
def c_law14_LineWhole_R21 : List AOper := [⟨some 91, none, .mov (.slot 9)⟩,
  ⟨some 92, none, .mov (.slot 0)⟩,
  ⟨some 93, none, .bin .lss (.slot 91) (.slot 92)⟩]
def c_law14_LineWhole_R23 : List AOper := ⟨some 96, none, .mov (.slot 5)⟩ ::
  ⟨some 97, none, .mov (.slot 9)⟩ ::
  ⟨some 98, none, .idx 7 (.slot 96) (.slot 97)⟩ ::
  ⟨some 99, none, .faddr 3 (.slot 98)⟩ ::
  ⟨some 100, none, .load false 1 (.slot 99)⟩ ::
  ⟨some 101, none, .bin .eql (.slot 100) (.const (.int .i64 1))⟩ ::
  ⟨some 102, none, .mov (.slot 101)⟩ ::
  ⟨some 103, some (102, true), .mov (.slot 9)⟩ ::
  ⟨some 104, some (102, true), .bin .add (.slot 103) (.const (.int .i64 1))⟩ ::
  ⟨some 105, some (102, true), .mov (.slot 0)⟩ ::
  ⟨some 106, some (102, true), .bin .eql (.slot 104) (.slot 105)⟩ ::
  ⟨some 107, some (102, true), .mov (.slot 106)⟩ ::
  ⟨some 108, some (107, false), .mov (.slot 5)⟩ ::
  ⟨some 109, some (107, false), .mov (.slot 9)⟩ ::
  ⟨some 110, some (107, false), .bin .add (.slot 109) (.const (.int .i64 1))⟩ ::
  ⟨some 111, some (107, false), .idx 7 (.slot 108) (.slot 110)⟩ ::
  ⟨some 112, some (107, false), .faddr 3 (.slot 111)⟩ ::
  ⟨some 113, some (107, false), .load false 1 (.slot 112)⟩ ::
  ⟨some 114, some (107, false), .bin .neq (.slot 113) (.const (.int .i64 2))⟩ ::
  ⟨some 115, some (102, true), .pick (.slot 107) (.const (.bool true)) (.slot 114)⟩ ::
  ⟨some 116, none, .pick (.slot 102) (.slot 115) (.const (.bool false))⟩ ::
  ⟨some 117, none, .mov (.slot 116)⟩ ::
  ⟨some 118, some (117, false), .mov (.slot 5)⟩ ::
  ⟨some 119, some (117, false), .mov (.slot 9)⟩ ::
  ⟨some 120, some (117, false), .idx 7 (.slot 118) (.slot 119)⟩ ::
  ⟨some 121, some (117, false), .faddr 3 (.slot 120)⟩ ::
  ⟨some 122, some (117, false), .load false 1 (.slot 121)⟩ ::
  ⟨some 123, some (117, false), .bin .eql (.slot 122) (.const (.int .i64 2))⟩ ::
  ⟨some 124, some (117, false), .mov (.slot 123)⟩ ::
  ⟨some 125, some (124, true), .mov (.slot 9)⟩ ::
  ⟨some 126, some (124, true), .bin .eql (.slot 125) (.const (.int .i64 0))⟩ ::
  ⟨some 127, some (124, true), .mov (.slot 126)⟩ ::
  ⟨some 128, some (127, false), .mov (.slot 5)⟩ ::
  ⟨some 129, some (127, false), .mov (.slot 9)⟩ ::
  ⟨some 130, some (127, false), .bin .sub (.slot 129) (.const (.int .i64 1))⟩ ::
  ⟨some 131, some (127, false), .idx 7 (.slot 128) (.slot 130)⟩ ::
  ⟨some 132, some (127, false), .faddr 3 (.slot 131)⟩ ::
  ⟨some 133, some (127, false), .load false 1 (.slot 132)⟩ ::
  ⟨some 134, some (127, false), .bin .neq (.slot 133) (.const (.int .i64 1))⟩ ::
  ⟨some 135, some (124, true), .pick (.slot 127) (.const (.bool true)) (.slot 134)⟩ ::
  ⟨some 136, some (117, false), .pick (.slot 124) (.slot 135) (.const (.bool false))⟩ ::
  ⟨some 137, none, .pick (.slot 117) (.const (.bool true)) (.slot 136)⟩ :: []
def c_law14_LineWhole_R24 : List AOper := [⟨some 4, none, .mov (.const (.bool false))⟩]
def c_law14_LineWhole_R22 : List AOper := [⟨some 94, none, .mov (.slot 9)⟩,
  ⟨some 95, none, .bin .add (.slot 94) (.const (.int .i64 1))⟩,
  ⟨some 9, none, .mov (.slot 95)⟩]
def c_law14_LineWhole_L1 : ACode := (.seq (.seq (.region c_law14_LineWhole_R21 false [0, 1, 5, 6, 9, 93]) (.cond (.slot 93) .skip (.exit 2))) (.seq (.block 3 (.seq (.region c_law14_LineWhole_R23 false [0, 1, 5, 6, 9, 137]) (.cond (.slot 137) (.seq (.region c_law14_LineWhole_R24 false [4]) .ret) .skip))) (.region c_law14_LineWhole_R22 false [0, 1, 5, 6, 9])))
def lp_law14_LineWhole_1 : ACode := .loop [0, 1, 5, 6, 9] c_law14_LineWhole_L1
def c_law14_LineWhole_R8 : List AOper := [⟨some 30, none, .mov (.slot 6)⟩,
  ⟨some 31, none, .bin .add (.slot 30) (.const (.int .i64 1))⟩,
  ⟨some 6, none, .mov (.slot 31)⟩]
def c_law14_LineWhole_L0 : ACode := (.seq (.seq (.region c_law14_LineWhole_R7 false [0, 1, 5, 6, 29]) (.cond (.slot 29) .skip (.exit 0))) (.seq (.block 1 (.seq (.region c_law14_LineWhole_R9 false [0, 1, 5, 6, 7]) (.seq (.seq (.region c_law14_LineWhole_R10 false [0, 1, 5, 6, 7, 8]) (.seq (.region c_law14_LineWhole_R11 false [0, 1, 5, 6, 7, 65]) (.cond (.slot 65) (.seq (.region c_law14_LineWhole_R12 false [4]) .ret) .skip))) (.seq (.seq (.region c_law14_LineWhole_R13 false [0, 1, 5, 6, 7, 68]) (.cond (.slot 68) (.seq (.seq (.region c_law14_LineWhole_R14 false [1, 5, 6, 7, 76]) (.cond (.slot 76) (.seq (.region c_law14_LineWhole_R15 false [4]) .ret) .skip)) (.region c_law14_LineWhole_R16 false [0, 1, 5, 6, 7])) .skip)) (.seq (.region c_law14_LineWhole_R17 false [0, 1, 5, 6]) (.seq (.seq (.region c_law14_LineWhole_R18 false [0, 1, 5, 6, 90]) (.cond (.slot 90) (.seq (.region c_law14_LineWhole_R19 false [4]) .ret) .skip)) (.seq (.region c_law14_LineWhole_R20 false [0, 1, 5, 6, 9]) (.block 2 lp_law14_LineWhole_1)))))))) (.region c_law14_LineWhole_R8 false [0, 1, 5, 6])))
def lp_law14_LineWhole_0 : ACode := .loop [0, 1, 5, 6] c_law14_LineWhole_L0
def c_law14_LineWhole_R25 : List AOper := [⟨some 4, none, .mov (.const (.bool true))⟩]
def c_law14_LineWhole : AFn := ⟨(.seq (.region c_law14_LineWhole_R0 false [0, 1]) (.seq (.seq (.region c_law14_LineWhole_R1 false [0, 1, 11]) (.cond (.slot 11) (.seq (.region c_law14_LineWhole_R2 false [4]) .ret) .skip)) (.seq (.seq (.region c_law14_LineWhole_R3 false [0, 1, 22]) (.cond (.slot 22) (.seq (.region c_law14_LineWhole_R4 false [4]) .ret) .skip)) (.seq (.region c_law14_LineWhole_R5 false [0, 1, 5]) (.seq (.seq (.region c_law14_LineWhole_R6 false [0, 1, 5, 6]) (.block 0 lp_law14_LineWhole_0)) (.seq (.region c_law14_LineWhole_R25 false [4]) .ret)))))), [.slot 4]⟩
/- oriel/oriellaw14.LineStays -/
def c_law14_LineStays_R0 : List AOper := [⟨some 11, none, .box 3 (.slot 5)⟩,
  ⟨some 12, none, .mov (.const (.bool false))⟩]
def c_law14_LineStays_R1 : List AOper := [⟨some 19, none, .call .frz n_law14_known []⟩,
  ⟨some 20, none, .not (.slot 19)⟩]
def c_law14_LineStays_R2 : List AOper := [⟨some 12, none, .mov (.const (.bool false))⟩]
def c_law14_LineStays_R3 : List AOper := [⟨some 21, none, .mov (.slot 0)⟩,
  ⟨some 22, none, .bin .lss (.slot 21) (.const (.int .i64 0))⟩,
  ⟨some 23, none, .mov (.slot 22)⟩,
  ⟨some 24, some (23, false), .mov (.slot 0)⟩,
  ⟨some 25, some (23, false), .bin .gtr (.slot 24) (.const (.int .i64 100))⟩,
  ⟨some 26, none, .pick (.slot 23) (.const (.bool true)) (.slot 25)⟩,
  ⟨some 27, none, .mov (.slot 26)⟩,
  ⟨some 28, some (27, false), .mov (.slot 1)⟩,
  ⟨some 29, some (27, false), .len false (.slot 28)⟩,
  ⟨some 30, some (27, false), .bin .gtr (.slot 29) (.const (.int .i64 60))⟩,
  ⟨some 31, none, .pick (.slot 27) (.const (.bool true)) (.slot 30)⟩]
def c_law14_LineStays_R4 : List AOper := [⟨some 12, none, .mov (.const (.bool true))⟩]
def c_law14_LineStays_R5 : List AOper := [⟨some 32, none, .mov (.slot 0)⟩,
  ⟨some 33, none, .build [.int .i64 0, .int .i64 0, .int .i64 0] []⟩,
  ⟨some 34, none, .call .frz n_line_Blank [(.slot 32), (.slot 33)]⟩,
  ⟨some 13, none, .mov (.slot 34)⟩]
def c_law14_LineStays_R6 : List AOper := [⟨some 14, none, .mov (.const (.int .i64 0))⟩]
def c_law14_LineStays_R7 : List AOper := [⟨some 35, none, .mov (.slot 14)⟩,
  ⟨some 36, none, .mov (.slot 1)⟩,
  ⟨some 37, none, .len false (.slot 36)⟩,
  ⟨some 38, none, .bin .lss (.slot 35) (.slot 37)⟩]
def c_law14_LineStays_R9 : List AOper := [⟨some 41, none, .mov (.slot 1)⟩,
  ⟨some 42, none, .mov (.slot 14)⟩,
  ⟨some 43, none, .idx 7 (.slot 41) (.slot 42)⟩,
  ⟨some 44, none, .faddr 0 (.slot 43)⟩,
  ⟨some 45, none, .load false 1 (.slot 44)⟩,
  ⟨some 46, none, .bin .neq (.slot 45) (.const (.int .i64 5))⟩]
def c_law14_LineStays_R10 : List AOper := [⟨some 47, none, .mov (.slot 13)⟩,
  ⟨some 48, none, .mov (.slot 1)⟩,
  ⟨some 49, none, .mov (.slot 14)⟩,
  ⟨some 50, none, .idx 7 (.slot 48) (.slot 49)⟩,
  ⟨some 51, none, .load true 7 (.slot 50)⟩,
  ⟨some 52, none, .call .frz n_law14_does [(.slot 47), (.slot 51)]⟩,
  ⟨some 13, none, .mov (.slot 52)⟩]
def c_law14_LineStays_R8 : List AOper := [⟨some 39, none, .mov (.slot 14)⟩,
  ⟨some 40, none, .bin .add (.slot 39) (.const (.int .i64 1))⟩,
  ⟨some 14, none, .mov (.slot 40)⟩]
def c_law14_LineStays_L0 : ACode := (.seq (.seq (.region c_law14_LineStays_R7 false [0, 1, 2, 3, 4, 11, 13, 14, 38]) (.cond (.slot 38) .skip (.exit 0))) (.seq (.block 1 (.seq (.region c_law14_LineStays_R9 false [0, 1, 2, 3, 4, 11, 13, 14, 46]) (.cond (.slot 46) (.region c_law14_LineStays_R10 false [0, 1, 2, 3, 4, 11, 13, 14]) .skip))) (.region c_law14_LineStays_R8 false [0, 1, 2, 3, 4, 11, 13, 14])))
def lp_law14_LineStays_0 : ACode := .loop [0, 1, 2, 3, 4, 11, 13, 14] c_law14_LineStays_L0
def c_law14_LineStays_R11 : List AOper := [⟨some 53, none, .mov (.slot 13)⟩,
  ⟨some 54, none, .mov (.slot 2)⟩,
  ⟨some 55, none, .mov (.slot 3)⟩,
  ⟨some 56, none, .load true 3 (.slot 11)⟩,
  ⟨some 57, none, .call .frz n_line_Erase [(.slot 53), (.slot 54), (.slot 55), (.slot 56)]⟩,
  ⟨some 15, none, .mov (.slot 57)⟩]
def c_law14_LineStays_R12 : List AOper := [⟨some 58, none, .mov (.slot 13)⟩,
  ⟨some 59, none, .mov (.slot 2)⟩,
  ⟨some 60, none, .mov (.slot 4)⟩,
  ⟨some 61, none, .load true 3 (.slot 11)⟩,
  ⟨some 62, none, .call .frz n_line_Put [(.slot 58), (.slot 59), (.slot 60), (.slot 61)]⟩,
  ⟨some 16, none, .mov (.slot 62)⟩]
def c_law14_LineStays_R13 : List AOper := [⟨some 63, none, .mov (.slot 13)⟩,
  ⟨some 64, none, .len false (.slot 63)⟩,
  ⟨some 65, none, .mov (.slot 0)⟩,
  ⟨some 66, none, .bin .neq (.slot 64) (.slot 65)⟩,
  ⟨some 67, none, .mov (.slot 66)⟩,
  ⟨some 68, some (67, false), .mov (.slot 13)⟩,
  ⟨some 69, some (67, false), .call .frz n_line_May [(.slot 68)]⟩,
  ⟨some 70, some (67, false), .not (.slot 69)⟩,
  ⟨some 71, none, .pick (.slot 67) (.const (.bool true)) (.slot 70)⟩]
def c_law14_LineStays_R14 : List AOper := [⟨some 72, none, .mov (.slot 13)⟩,
  ⟨some 73, none, .call .frz n_line_May [(.slot 72)]⟩,
  ⟨some 74, none, .not (.slot 73)⟩,
  ⟨some 75, none, .mov (.slot 74)⟩,
  ⟨some 76, some (75, false), .mov (.slot 13)⟩,
  ⟨some 77, some (75, false), .len false (.slot 76)⟩,
  ⟨some 78, some (75, false), .mov (.slot 0)⟩,
  ⟨some 79, some (75, false), .bin .neq (.slot 77) (.slot 78)⟩,
  ⟨some 80, none, .pick (.slot 75) (.const (.bool true)) (.slot 79)⟩,
  ⟨some 12, none, .mov (.slot 80)⟩]
def c_law14_LineStays_R15 : List AOper := ⟨some 81, none, .faddr 0 (.slot 11)⟩ ::
  ⟨some 82, none, .load false 1 (.slot 81)⟩ ::
  ⟨some 83, none, .bin .lss (.slot 82) (.const (.int .i64 0))⟩ ::
  ⟨some 84, none, .mov (.slot 83)⟩ ::
  ⟨some 85, some (84, false), .faddr 0 (.slot 11)⟩ ::
  ⟨some 86, some (84, false), .load false 1 (.slot 85)⟩ ::
  ⟨some 87, some (84, false), .bin .gtr (.slot 86) (.const (.int .i64 255))⟩ ::
  ⟨some 88, none, .pick (.slot 84) (.const (.bool true)) (.slot 87)⟩ ::
  ⟨some 89, none, .mov (.slot 88)⟩ ::
  ⟨some 90, some (89, false), .faddr 1 (.slot 11)⟩ ::
  ⟨some 91, some (89, false), .load false 1 (.slot 90)⟩ ::
  ⟨some 92, some (89, false), .bin .lss (.slot 91) (.const (.int .i64 0))⟩ ::
  ⟨some 93, none, .pick (.slot 89) (.const (.bool true)) (.slot 92)⟩ ::
  ⟨some 94, none, .mov (.slot 93)⟩ ::
  ⟨some 95, some (94, false), .faddr 1 (.slot 11)⟩ ::
  ⟨some 96, some (94, false), .load false 1 (.slot 95)⟩ ::
  ⟨some 97, some (94, false), .bin .gtr (.slot 96) (.const (.int .i64 256))⟩ ::
  ⟨some 98, none, .pick (.slot 94) (.const (.bool true)) (.slot 97)⟩ ::
  ⟨some 99, none, .mov (.slot 98)⟩ ::
  ⟨some 100, some (99, false), .faddr 2 (.slot 11)⟩ ::
  ⟨some 101, some (99, false), .load false 1 (.slot 100)⟩ ::
  ⟨some 102, some (99, false), .bin .lss (.slot 101) (.const (.int .i64 0))⟩ ::
  ⟨some 103, none, .pick (.slot 99) (.const (.bool true)) (.slot 102)⟩ ::
  ⟨some 104, none, .mov (.slot 103)⟩ ::
  ⟨some 105, some (104, false), .faddr 2 (.slot 11)⟩ ::
  ⟨some 106, some (104, false), .load false 1 (.slot 105)⟩ ::
  ⟨some 107, some (104, false), .bin .gtr (.slot 106) (.const (.int .i64 256))⟩ ::
  ⟨some 108, none, .pick (.slot 104) (.const (.bool true)) (.slot 107)⟩ :: []
def c_law14_LineStays_R16 : List AOper := [⟨some 109, none, .mov (.slot 15)⟩,
  ⟨some 110, none, .len false (.slot 109)⟩,
  ⟨some 111, none, .bin .eql (.slot 110) (.const (.int .i64 0))⟩,
  ⟨some 112, none, .mov (.slot 111)⟩,
  ⟨some 113, some (112, true), .mov (.slot 16)⟩,
  ⟨some 114, some (112, true), .len false (.slot 113)⟩,
  ⟨some 115, some (112, true), .bin .eql (.slot 114) (.const (.int .i64 0))⟩,
  ⟨some 116, none, .pick (.slot 112) (.slot 115) (.const (.bool false))⟩,
  ⟨some 12, none, .mov (.slot 116)⟩]
def c_law14_LineStays_R17 : List AOper := [⟨some 117, none, .mov (.slot 15)⟩,
  ⟨some 118, none, .len false (.slot 117)⟩,
  ⟨some 119, none, .mov (.slot 0)⟩,
  ⟨some 120, none, .bin .neq (.slot 118) (.slot 119)⟩,
  ⟨some 121, none, .mov (.slot 120)⟩,
  ⟨some 122, some (121, false), .mov (.slot 16)⟩,
  ⟨some 123, some (121, false), .len false (.slot 122)⟩,
  ⟨some 124, some (121, false), .mov (.slot 0)⟩,
  ⟨some 125, some (121, false), .bin .neq (.slot 123) (.slot 124)⟩,
  ⟨some 126, none, .pick (.slot 121) (.const (.bool true)) (.slot 125)⟩]
def c_law14_LineStays_R18 : List AOper := [⟨some 12, none, .mov (.const (.bool false))⟩]
def c_law14_LineStays_R19 : List AOper := [⟨some 17, none, .mov (.const (.int .i64 0))⟩]
def c_law14_LineStays_R20 : List AOper := [⟨some 127, none, .mov (.slot 17)⟩,
  ⟨some 128, none, .mov (.slot 0)⟩,
  ⟨some 129, none, .bin .lss (.slot 127) (.slot 128)⟩]
def c_law14_LineStays_R22 : List AOper := [⟨some 132, none, .mov (.slot 17)⟩,
  ⟨some 133, none, .mov (.slot 2)⟩,
  ⟨some 134, none, .bin .geq (.slot 132) (.slot 133)⟩,
  ⟨some 135, none, .mov (.slot 134)⟩,
  ⟨some 136, some (135, true), .mov (.slot 17)⟩,
  ⟨some 137, some (135, true), .mov (.slot 3)⟩,
  ⟨some 138, some (135, true), .bin .lss (.slot 136) (.slot 137)⟩,
  ⟨some 139, none, .pick (.slot 135) (.slot 138) (.const (.bool false))⟩,
  ⟨some 18, none, .mov (.slot 139)⟩]
def c_law14_LineStays_R23 : List AOper := [⟨some 140, none, .mov (.slot 18)⟩,
  ⟨some 141, none, .mov (.slot 140)⟩,
  ⟨some 142, some (141, true), .mov (.slot 15)⟩,
  ⟨some 143, some (141, true), .mov (.slot 17)⟩,
  ⟨some 144, some (141, true), .idx 7 (.slot 142) (.slot 143)⟩,
  ⟨some 145, some (141, true), .load true 7 (.slot 144)⟩,
  ⟨some 146, some (141, true), .faddr 2 (.slot 11)⟩,
  ⟨some 147, some (141, true), .load false 1 (.slot 146)⟩,
  ⟨some 148, some (141, true), .build [.int .i64 0, .int .i64 0, .int .i64 0] [(2, 1, (.slot 147))]⟩,
  ⟨some 149, some (141, true), .build [.int .i32 0, .int .i32 0, .int .i32 0, .int .i64 0, .int .i64 0, .int .i64 0, .int .i64 0] [(0, 1, (.const (.int .i32 32))), (4, 3, (.slot 148))]⟩,
  ⟨some 150, some (141, true), .eq true [.ki, .ki, .ki, .ki, .ki, .ki, .ki] true (.slot 145) (.slot 149)⟩,
  ⟨some 151, none, .pick (.slot 141) (.slot 150) (.const (.bool false))⟩]
def c_law14_LineStays_R24 : List AOper := [⟨some 12, none, .mov (.const (.bool false))⟩]
def c_law14_LineStays_R25 : List AOper := ⟨some 152, none, .mov (.slot 18)⟩ ::
  ⟨some 153, none, .not (.slot 152)⟩ ::
  ⟨some 154, none, .mov (.slot 153)⟩ ::
  ⟨some 155, some (154, true), .mov (.slot 15)⟩ ::
  ⟨some 156, some (154, true), .mov (.slot 17)⟩ ::
  ⟨some 157, some (154, true), .idx 7 (.slot 155) (.slot 156)⟩ ::
  ⟨some 158, some (154, true), .load true 7 (.slot 157)⟩ ::
  ⟨some 159, some (154, true), .mov (.slot 13)⟩ ::
  ⟨some 160, some (154, true), .mov (.slot 17)⟩ ::
  ⟨some 161, some (154, true), .idx 7 (.slot 159) (.slot 160)⟩ ::
  ⟨some 162, some (154, true), .load true 7 (.slot 161)⟩ ::
  ⟨some 163, some (154, true), .eq true [.ki, .ki, .ki, .ki, .ki, .ki, .ki] true (.slot 158) (.slot 162)⟩ ::
  ⟨some 164, none, .pick (.slot 154) (.slot 163) (.const (.bool false))⟩ ::
  ⟨some 165, none, .mov (.slot 164)⟩ ::
  ⟨some 166, some (165, true), .mov (.slot 13)⟩ ::
  ⟨some 167, some (165, true), .mov (.slot 17)⟩ ::
  ⟨some 168, some (165, true), .idx 7 (.slot 166) (.slot 167)⟩ ::
  ⟨some 169, some (165, true), .faddr 3 (.slot 168)⟩ ::
  ⟨some 170, some (165, true), .load false 1 (.slot 169)⟩ ::
  ⟨some 171, some (165, true), .bin .eql (.slot 170) (.const (.int .i64 0))⟩ ::
  ⟨some 172, some (165, true), .mov (.slot 171)⟩ ::
  ⟨some 173, some (172, false), .mov (.slot 15)⟩ ::
  ⟨some 174, some (172, false), .mov (.slot 17)⟩ ::
  ⟨some 175, some (172, false), .idx 7 (.slot 173) (.slot 174)⟩ ::
  ⟨some 176, some (172, false), .load true 7 (.slot 175)⟩ ::
  ⟨some 177, some (172, false), .mov (.slot 13)⟩ ::
  ⟨some 178, some (172, false), .mov (.slot 17)⟩ ::
  ⟨some 179, some (172, false), .idx 7 (.slot 177) (.slot 178)⟩ ::
  ⟨some 180, some (172, false), .faddr 4 (.slot 179)⟩ ::
  ⟨some 181, some (172, false), .faddr 2 (.slot 180)⟩ ::
  ⟨some 182, some (172, false), .load false 1 (.slot 181)⟩ ::
  ⟨some 183, some (172, false), .build [.int .i64 0, .int .i64 0, .int .i64 0] [(2, 1, (.slot 182))]⟩ ::
  ⟨some 184, some (172, false), .build [.int .i32 0, .int .i32 0, .int .i32 0, .int .i64 0, .int .i64 0, .int .i64 0, .int .i64 0] [(0, 1, (.const (.int .i32 32))), (4, 3, (.slot 183))]⟩ ::
  ⟨some 185, some (172, false), .eq true [.ki, .ki, .ki, .ki, .ki, .ki, .ki] true (.slot 176) (.slot 184)⟩ ::
  ⟨some 186, some (165, true), .pick (.slot 172) (.const (.bool true)) (.slot 185)⟩ ::
  ⟨some 187, none, .pick (.slot 165) (.slot 186) (.const (.bool false))⟩ :: []
def c_law14_LineStays_R26 : List AOper := [⟨some 12, none, .mov (.const (.bool false))⟩]
def c_law14_LineStays_R27 : List AOper := [⟨some 188, none, .mov (.slot 17)⟩,
  ⟨some 189, none, .mov (.slot 2)⟩,
  ⟨some 190, none, .bin .sub (.slot 189) (.const (.int .i64 1))⟩,
  ⟨some 191, none, .bin .lss (.slot 188) (.slot 190)⟩,
  ⟨some 192, none, .mov (.slot 191)⟩,
  ⟨some 193, some (192, false), .mov (.slot 17)⟩,
  ⟨some 194, some (192, false), .mov (.slot 2)⟩,
  ⟨some 195, some (192, false), .bin .gtr (.slot 193) (.slot 194)⟩,
  ⟨some 196, some (192, false), .mov (.slot 195)⟩,
  ⟨some 197, some (196, true), .mov (.slot 17)⟩,
  ⟨some 198, some (196, true), .mov (.slot 2)⟩,
  ⟨some 199, some (196, true), .bin .sub (.slot 197) (.slot 198)⟩,
  ⟨some 200, some (196, true), .bin .gtr (.slot 199) (.const (.int .i64 2))⟩,
  ⟨some 201, some (192, false), .pick (.slot 196) (.slot 200) (.const (.bool false))⟩,
  ⟨some 202, none, .pick (.slot 192) (.const (.bool true)) (.slot 201)⟩,
  ⟨some 203, none, .mov (.slot 202)⟩,
  ⟨some 204, some (203, true), .mov (.slot 16)⟩,
  ⟨some 205, some (203, true), .mov (.slot 17)⟩,
  ⟨some 206, some (203, true), .idx 7 (.slot 204) (.slot 205)⟩,
  ⟨some 207, some (203, true), .load true 7 (.slot 206)⟩,
  ⟨some 208, some (203, true), .mov (.slot 13)⟩,
  ⟨some 209, some (203, true), .mov (.slot 17)⟩,
  ⟨some 210, some (203, true), .idx 7 (.slot 208) (.slot 209)⟩,
  ⟨some 211, some (203, true), .load true 7 (.slot 210)⟩,
  ⟨some 212, some (203, true), .eq true [.ki, .ki, .ki, .ki, .ki, .ki, .ki] true (.slot 207) (.slot 211)⟩,
  ⟨some 213, none, .pick (.slot 203) (.slot 212) (.const (.bool false))⟩]
def c_law14_LineStays_R28 : List AOper := [⟨some 12, none, .mov (.const (.bool false))⟩]
def c_law14_LineStays_R21 : List AOper := [⟨some 130, none, .mov (.slot 17)⟩,
  ⟨some 131, none, .bin .add (.slot 130) (.const (.int .i64 1))⟩,
  ⟨some 17, none, .mov (.slot 131)⟩]
def c_law14_LineStays_L1 : ACode := (.seq (.seq (.region c_law14_LineStays_R20 false [0, 2, 3, 11, 13, 15, 16, 17, 129]) (.cond (.slot 129) .skip (.exit 2))) (.seq (.block 3 (.seq (.region c_law14_LineStays_R22 false [0, 2, 3, 11, 13, 15, 16, 17, 18]) (.seq (.seq (.region c_law14_LineStays_R23 true [0, 2, 3, 11, 13, 15, 16, 17, 18, 151]) (.cond (.slot 151) (.seq (.region c_law14_LineStays_R24 false [12]) .ret) .skip)) (.seq (.seq (.region c_law14_LineStays_R25 true [0, 2, 3, 11, 13, 15, 16, 17, 187]) (.cond (.slot 187) (.seq (.region c_law14_LineStays_R26 false [12]) .ret) .skip)) (.seq (.region c_law14_LineStays_R27 true [0, 2, 3, 11, 13, 15, 16, 17, 213]) (.cond (.slot 213) (.seq (.region c_law14_LineStays_R28 false [12]) .ret) .skip)))))) (.region c_law14_LineStays_R21 false [0, 2, 3, 11, 13, 15, 16, 17])))
def lp_law14_LineStays_1 : ACode := .loop [0, 2, 3, 11, 13, 15, 16, 17] c_law14_LineStays_L1
def c_law14_LineStays_R29 : List AOper := [⟨some 12, none, .mov (.const (.bool true))⟩]
def c_law14_LineStays : AFn := ⟨(.seq (.region c_law14_LineStays_R0 false [0, 1, 2, 3, 4, 11]) (.seq (.seq (.region c_law14_LineStays_R1 false [0, 1, 2, 3, 4, 11, 20]) (.cond (.slot 20) (.seq (.region c_law14_LineStays_R2 false [12]) .ret) .skip)) (.seq (.seq (.region c_law14_LineStays_R3 false [0, 1, 2, 3, 4, 11, 31]) (.cond (.slot 31) (.seq (.region c_law14_LineStays_R4 false [12]) .ret) .skip)) (.seq (.region c_law14_LineStays_R5 false [0, 1, 2, 3, 4, 11, 13]) (.seq (.seq (.region c_law14_LineStays_R6 false [0, 1, 2, 3, 4, 11, 13, 14]) (.block 0 lp_law14_LineStays_0)) (.seq (.region c_law14_LineStays_R11 false [0, 2, 3, 4, 11, 13, 15]) (.seq (.region c_law14_LineStays_R12 false [0, 2, 3, 11, 13, 15, 16]) (.seq (.seq (.region c_law14_LineStays_R13 false [0, 2, 3, 11, 13, 15, 16, 71]) (.cond (.slot 71) (.seq (.region c_law14_LineStays_R14 false [12]) .ret) .skip)) (.seq (.seq (.region c_law14_LineStays_R15 false [0, 2, 3, 11, 13, 15, 16, 108]) (.cond (.slot 108) (.seq (.region c_law14_LineStays_R16 false [12]) .ret) .skip)) (.seq (.seq (.region c_law14_LineStays_R17 false [0, 2, 3, 11, 13, 15, 16, 126]) (.cond (.slot 126) (.seq (.region c_law14_LineStays_R18 false [12]) .ret) .skip)) (.seq (.seq (.region c_law14_LineStays_R19 false [0, 2, 3, 11, 13, 15, 16, 17]) (.block 2 lp_law14_LineStays_1)) (.seq (.region c_law14_LineStays_R29 false [12]) .ret)))))))))))), [.slot 12]⟩
/-- The seat's functions. -/
def FT : Nat → Option AEnt
  | 40 => some (.fn c_pen_May_1)
  | 26 => some (.fn c_pen_May)
  | 46 => some (.fn c_math_bits_Mul32)
  | 47 => some (.fn c_math_bits_Mul64)
  | 41 => some (.fn c_math_bits_Mul)
  | 27 => some (.fn c_slices_Repeat_Cell)
  | 28 => some (.fn c_line_blank)
  | 9 => some (.fn c_line_Blank)
  | 44 => some (.fn c_sort_Search)
  | 45 => some (.fn c_cols_Of_1)
  | 39 => some (.fn c_cols_Of)
  | 42 => some (.fn c_line_marked)
  | 31 => some (.fn c_line_may)
  | 13 => some (.fn c_line_May)
  | 33 => some (.fn c_line_fine)
  | 34 => some (.ext (extClone 7))
  | 35 => some (.fn c_line_torn)
  | 25 => some (.fn c_line_Put)
  | 8 => some (.fn c_law14_known)
  | 29 => some (.fn c_ref12_May)
  | 10 => some (.fn c_ref14_Pen)
  | 11 => some (.fn c_ref14_Same)
  | 30 => some (.fn c_ref14_Blank)
  | 12 => some (.fn c_ref14_Blanks)
  | 48 => some (.fn c_ref13_in)
  | 43 => some (.fn c_ref13_Of)
  | 32 => some (.fn c_ref14_Cell)
  | 14 => some (.fn c_ref14_May)
  | 3 => some (.fn c_law14_LineMay)
  | 15 => some (.fn c_line_Insert)
  | 16 => some (.fn c_line_Delete)
  | 4 => some (.fn c_law14_LineThere)
  | 17 => some (.fn c_line_Erase)
  | 18 => some (.fn c_line_Fit)
  | 19 => some (.fn c_law14_fine)
  | 36 => some (.fn c_ref14_Tear)
  | 20 => some (.fn c_ref14_Erase)
  | 21 => some (.fn c_ref14_Insert)
  | 22 => some (.fn c_ref14_Delete)
  | 23 => some (.fn c_ref14_Fit)
  | 5 => some (.fn c_law14_LineEdits)
  | 37 => some (.fn c_line_Mark)
  | 38 => some (.fn c_line_Tear)
  | 24 => some (.fn c_law14_does)
  | 6 => some (.fn c_law14_LineWhole)
  | 7 => some (.fn c_law14_LineStays)
  | _ => none
variable (G : Nat → Option (List AV)) (args : List AV) (h : List ARow)
theorem run_pen_May_1 : aR G FT n_pen_May_1 args h = (aE G FT h.length c_pen_May_1.body ⟨aenter args, h⟩).bind (afinish c_pen_May_1.res) := y_fn G FT rfl args h
theorem run_pen_May : aR G FT n_pen_May args h = (aE G FT h.length c_pen_May.body ⟨aenter args, h⟩).bind (afinish c_pen_May.res) := y_fn G FT rfl args h
theorem run_math_bits_Mul32 : aR G FT n_math_bits_Mul32 args h = (aE G FT h.length c_math_bits_Mul32.body ⟨aenter args, h⟩).bind (afinish c_math_bits_Mul32.res) := y_fn G FT rfl args h
theorem run_math_bits_Mul64 : aR G FT n_math_bits_Mul64 args h = (aE G FT h.length c_math_bits_Mul64.body ⟨aenter args, h⟩).bind (afinish c_math_bits_Mul64.res) := y_fn G FT rfl args h
theorem run_math_bits_Mul : aR G FT n_math_bits_Mul args h = (aE G FT h.length c_math_bits_Mul.body ⟨aenter args, h⟩).bind (afinish c_math_bits_Mul.res) := y_fn G FT rfl args h
theorem run_slices_Repeat_Cell : aR G FT n_slices_Repeat_Cell args h = (aE G FT h.length c_slices_Repeat_Cell.body ⟨aenter args, h⟩).bind (afinish c_slices_Repeat_Cell.res) := y_fn G FT rfl args h
theorem run_line_blank : aR G FT n_line_blank args h = (aE G FT h.length c_line_blank.body ⟨aenter args, h⟩).bind (afinish c_line_blank.res) := y_fn G FT rfl args h
theorem run_line_Blank : aR G FT n_line_Blank args h = (aE G FT h.length c_line_Blank.body ⟨aenter args, h⟩).bind (afinish c_line_Blank.res) := y_fn G FT rfl args h
theorem run_sort_Search : aR G FT n_sort_Search args h = (aE G FT h.length c_sort_Search.body ⟨aenter args, h⟩).bind (afinish c_sort_Search.res) := y_fn G FT rfl args h
theorem run_cols_Of_1 : aR G FT n_cols_Of_1 args h = (aE G FT h.length c_cols_Of_1.body ⟨aenter args, h⟩).bind (afinish c_cols_Of_1.res) := y_fn G FT rfl args h
theorem run_cols_Of : aR G FT n_cols_Of args h = (aE G FT h.length c_cols_Of.body ⟨aenter args, h⟩).bind (afinish c_cols_Of.res) := y_fn G FT rfl args h
theorem run_line_marked : aR G FT n_line_marked args h = (aE G FT h.length c_line_marked.body ⟨aenter args, h⟩).bind (afinish c_line_marked.res) := y_fn G FT rfl args h
theorem run_line_may : aR G FT n_line_may args h = (aE G FT h.length c_line_may.body ⟨aenter args, h⟩).bind (afinish c_line_may.res) := y_fn G FT rfl args h
theorem run_line_May : aR G FT n_line_May args h = (aE G FT h.length c_line_May.body ⟨aenter args, h⟩).bind (afinish c_line_May.res) := y_fn G FT rfl args h
theorem run_line_fine : aR G FT n_line_fine args h = (aE G FT h.length c_line_fine.body ⟨aenter args, h⟩).bind (afinish c_line_fine.res) := y_fn G FT rfl args h
theorem run_line_torn : aR G FT n_line_torn args h = (aE G FT h.length c_line_torn.body ⟨aenter args, h⟩).bind (afinish c_line_torn.res) := y_fn G FT rfl args h
theorem run_line_Put : aR G FT n_line_Put args h = (aE G FT h.length c_line_Put.body ⟨aenter args, h⟩).bind (afinish c_line_Put.res) := y_fn G FT rfl args h
theorem run_law14_known : aR G FT n_law14_known args h = (aE G FT h.length c_law14_known.body ⟨aenter args, h⟩).bind (afinish c_law14_known.res) := y_fn G FT rfl args h
theorem run_ref12_May : aR G FT n_ref12_May args h = (aE G FT h.length c_ref12_May.body ⟨aenter args, h⟩).bind (afinish c_ref12_May.res) := y_fn G FT rfl args h
theorem run_ref14_Pen : aR G FT n_ref14_Pen args h = (aE G FT h.length c_ref14_Pen.body ⟨aenter args, h⟩).bind (afinish c_ref14_Pen.res) := y_fn G FT rfl args h
theorem run_ref14_Same : aR G FT n_ref14_Same args h = (aE G FT h.length c_ref14_Same.body ⟨aenter args, h⟩).bind (afinish c_ref14_Same.res) := y_fn G FT rfl args h
theorem run_ref14_Blank : aR G FT n_ref14_Blank args h = (aE G FT h.length c_ref14_Blank.body ⟨aenter args, h⟩).bind (afinish c_ref14_Blank.res) := y_fn G FT rfl args h
theorem run_ref14_Blanks : aR G FT n_ref14_Blanks args h = (aE G FT h.length c_ref14_Blanks.body ⟨aenter args, h⟩).bind (afinish c_ref14_Blanks.res) := y_fn G FT rfl args h
theorem run_ref13_in : aR G FT n_ref13_in args h = (aE G FT h.length c_ref13_in.body ⟨aenter args, h⟩).bind (afinish c_ref13_in.res) := y_fn G FT rfl args h
theorem run_ref13_Of : aR G FT n_ref13_Of args h = (aE G FT h.length c_ref13_Of.body ⟨aenter args, h⟩).bind (afinish c_ref13_Of.res) := y_fn G FT rfl args h
theorem run_ref14_Cell : aR G FT n_ref14_Cell args h = (aE G FT h.length c_ref14_Cell.body ⟨aenter args, h⟩).bind (afinish c_ref14_Cell.res) := y_fn G FT rfl args h
theorem run_ref14_May : aR G FT n_ref14_May args h = (aE G FT h.length c_ref14_May.body ⟨aenter args, h⟩).bind (afinish c_ref14_May.res) := y_fn G FT rfl args h
theorem run_law14_LineMay : aR G FT n_law14_LineMay args h = (aE G FT h.length c_law14_LineMay.body ⟨aenter args, h⟩).bind (afinish c_law14_LineMay.res) := y_fn G FT rfl args h
theorem run_line_Insert : aR G FT n_line_Insert args h = (aE G FT h.length c_line_Insert.body ⟨aenter args, h⟩).bind (afinish c_line_Insert.res) := y_fn G FT rfl args h
theorem run_line_Delete : aR G FT n_line_Delete args h = (aE G FT h.length c_line_Delete.body ⟨aenter args, h⟩).bind (afinish c_line_Delete.res) := y_fn G FT rfl args h
theorem run_law14_LineThere : aR G FT n_law14_LineThere args h = (aE G FT h.length c_law14_LineThere.body ⟨aenter args, h⟩).bind (afinish c_law14_LineThere.res) := y_fn G FT rfl args h
theorem run_line_Erase : aR G FT n_line_Erase args h = (aE G FT h.length c_line_Erase.body ⟨aenter args, h⟩).bind (afinish c_line_Erase.res) := y_fn G FT rfl args h
theorem run_line_Fit : aR G FT n_line_Fit args h = (aE G FT h.length c_line_Fit.body ⟨aenter args, h⟩).bind (afinish c_line_Fit.res) := y_fn G FT rfl args h
theorem run_law14_fine : aR G FT n_law14_fine args h = (aE G FT h.length c_law14_fine.body ⟨aenter args, h⟩).bind (afinish c_law14_fine.res) := y_fn G FT rfl args h
theorem run_ref14_Tear : aR G FT n_ref14_Tear args h = (aE G FT h.length c_ref14_Tear.body ⟨aenter args, h⟩).bind (afinish c_ref14_Tear.res) := y_fn G FT rfl args h
theorem run_ref14_Erase : aR G FT n_ref14_Erase args h = (aE G FT h.length c_ref14_Erase.body ⟨aenter args, h⟩).bind (afinish c_ref14_Erase.res) := y_fn G FT rfl args h
theorem run_ref14_Insert : aR G FT n_ref14_Insert args h = (aE G FT h.length c_ref14_Insert.body ⟨aenter args, h⟩).bind (afinish c_ref14_Insert.res) := y_fn G FT rfl args h
theorem run_ref14_Delete : aR G FT n_ref14_Delete args h = (aE G FT h.length c_ref14_Delete.body ⟨aenter args, h⟩).bind (afinish c_ref14_Delete.res) := y_fn G FT rfl args h
theorem run_ref14_Fit : aR G FT n_ref14_Fit args h = (aE G FT h.length c_ref14_Fit.body ⟨aenter args, h⟩).bind (afinish c_ref14_Fit.res) := y_fn G FT rfl args h
theorem run_law14_LineEdits : aR G FT n_law14_LineEdits args h = (aE G FT h.length c_law14_LineEdits.body ⟨aenter args, h⟩).bind (afinish c_law14_LineEdits.res) := y_fn G FT rfl args h
theorem run_line_Mark : aR G FT n_line_Mark args h = (aE G FT h.length c_line_Mark.body ⟨aenter args, h⟩).bind (afinish c_line_Mark.res) := y_fn G FT rfl args h
theorem run_line_Tear : aR G FT n_line_Tear args h = (aE G FT h.length c_line_Tear.body ⟨aenter args, h⟩).bind (afinish c_line_Tear.res) := y_fn G FT rfl args h
theorem run_law14_does : aR G FT n_law14_does args h = (aE G FT h.length c_law14_does.body ⟨aenter args, h⟩).bind (afinish c_law14_does.res) := y_fn G FT rfl args h
theorem run_law14_LineWhole : aR G FT n_law14_LineWhole args h = (aE G FT h.length c_law14_LineWhole.body ⟨aenter args, h⟩).bind (afinish c_law14_LineWhole.res) := y_fn G FT rfl args h
theorem run_law14_LineStays : aR G FT n_law14_LineStays args h = (aE G FT h.length c_law14_LineStays.body ⟨aenter args, h⟩).bind (afinish c_law14_LineStays.res) := y_fn G FT rfl args h
end Go.Proofs.YtfgggfejcgfneaaDoor
