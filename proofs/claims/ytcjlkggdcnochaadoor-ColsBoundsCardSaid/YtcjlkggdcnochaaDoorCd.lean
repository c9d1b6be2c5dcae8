/- The small machine's code of the seat's functions. Conditions: none. -/
import Derived.Test.YtcjlkggdcnochaaDoorM3
set_option linter.unusedVariables false
set_option linter.unusedSimpArgs false
set_option linter.unusedSectionVars false
namespace Go.Proofs.YtcjlkggdcnochaaDoor
open Go

def n_cols_Cut : Nat := 12
def n_cols_Of : Nat := 9
def n_cols_Of_1 : Nat := 17
def n_law13_ColsBounds : Nat := 4
def n_law13_known : Nat := 8
def n_ref13_Of : Nat := 10
def n_ref13_Same : Nat := 15
def n_ref13_in : Nat := 18
def n_slices_Clone_rune : Nat := 19
def n_sort_Search : Nat := 16
/- sort.Search -/
def q9R0 : List AOper := [⟨some 4, none, .mov (.const (.int .i64 0))⟩]
def q9R1 : List AOper := [⟨some 8, none, .mov (.slot 0)⟩,
  ⟨some 5, none, .mov (.const (.int .i64 0))⟩,
  ⟨some 6, none, .mov (.slot 8)⟩]
def q9R2 : List AOper := [⟨some 9, none, .mov (.slot 5)⟩,
  ⟨some 10, none, .mov (.slot 6)⟩,
  ⟨some 11, none, .bin .lss (.slot 9) (.slot 10)⟩]
def q9R3 : List AOper := [⟨some 12, none, .mov (.slot 5)⟩,
  ⟨some 13, none, .mov (.slot 6)⟩,
  ⟨some 14, none, .bin .add (.slot 12) (.slot 13)⟩,
  ⟨some 15, none, .conv .u64 (.slot 14)⟩,
  ⟨some 16, none, .bin .shr (.slot 15) (.const (.int .u64 1))⟩,
  ⟨some 17, none, .conv .i64 (.slot 16)⟩,
  ⟨some 7, none, .mov (.slot 17)⟩]
def q9R4 : List AOper := [⟨some 18, none, .mov (.slot 1)⟩,
  ⟨some 19, none, .mov (.slot 7)⟩,
  ⟨some 20, none, .callv (.slot 18) [(.slot 19)]⟩,
  ⟨some 21, none, .not (.slot 20)⟩]
def q9R5 : List AOper := [⟨some 22, none, .mov (.slot 7)⟩,
  ⟨some 23, none, .bin .add (.slot 22) (.const (.int .i64 1))⟩,
  ⟨some 5, none, .mov (.slot 23)⟩]
def q9R6 : List AOper := [⟨some 24, none, .mov (.slot 7)⟩,
  ⟨some 6, none, .mov (.slot 24)⟩]
def c_sort_Search_L0 : ACode := (.seq (.seq (.region q9R2 false [1, 5, 6, 11]) (.cond (.slot 11) .skip (.exit 0))) (.block 1 (.seq (.region q9R3 false [1, 5, 6, 7]) (.seq (.region q9R4 false [1, 5, 6, 7, 21]) (.cond (.slot 21) (.region q9R5 false [1, 5, 6]) (.region q9R6 false [1, 5, 6]))))))
def lp_sort_Search_0 : ACode := .loop [1, 5, 6] c_sort_Search_L0
def q9R7 : List AOper := [⟨some 25, none, .mov (.slot 5)⟩,
  ⟨some 4, none, .mov (.slot 25)⟩]
def c_sort_Search : AFn := ⟨(.seq (.region q9R0 false [0, 1]) (.seq (.region q9R1 false [1, 5, 6]) (.seq (.block 0 lp_sort_Search_0) (.seq (.region q9R7 false [4]) .ret)))), [.slot 4]⟩
/- oriel/cols.Of'1 -/
def q2R0 : List AOper := [⟨some 3, none, .mov (.const (.bool false))⟩]
def q2R1 : List AOper := [⟨some 4, none, .mov (.slot 0)⟩,
  ⟨some 5, none, .idxarr 3 22 (.glob 0) (.slot 4)⟩,
  ⟨some 6, none, .idxarr 1 3 (.slot 5) (.const (.int .i64 1))⟩,
  ⟨some 7, none, .load false 1 (.slot 6)⟩,
  ⟨some 8, none, .load false 1 (.slot 1)⟩,
  ⟨some 9, none, .bin .geq (.slot 7) (.slot 8)⟩,
  ⟨some 3, none, .mov (.slot 9)⟩]
def c_cols_Of_1 : AFn := ⟨(.seq (.region q2R0 false [0, 1]) (.seq (.region q2R1 true [3]) .ret)), [.slot 3]⟩
/- oriel/cols.Of -/
def q1R0 : List AOper := [⟨some 1, none, .box 1 (.slot 0)⟩,
  ⟨some 2, none, .mov (.const (.int .i64 0))⟩]
def q1R1 : List AOper := [⟨some 4, none, .load false 1 (.slot 1)⟩,
  ⟨some 5, none, .bin .lss (.slot 4) (.const (.int .i32 32))⟩,
  ⟨some 6, none, .mov (.slot 5)⟩,
  ⟨some 7, some (6, false), .load false 1 (.slot 1)⟩,
  ⟨some 8, some (6, false), .bin .geq (.slot 7) (.const (.int .i32 127))⟩,
  ⟨some 9, some (6, false), .mov (.slot 8)⟩,
  ⟨some 10, some (9, true), .load false 1 (.slot 1)⟩,
  ⟨some 11, some (9, true), .bin .lss (.slot 10) (.const (.int .i32 160))⟩,
  ⟨some 12, some (6, false), .pick (.slot 9) (.slot 11) (.const (.bool false))⟩,
  ⟨some 13, none, .pick (.slot 6) (.const (.bool true)) (.slot 12)⟩,
  ⟨some 14, none, .mov (.slot 13)⟩,
  ⟨some 15, some (14, false), .load false 1 (.slot 1)⟩,
  ⟨some 16, some (14, false), .bin .geq (.slot 15) (.const (.int .i32 55296))⟩,
  ⟨some 17, some (14, false), .mov (.slot 16)⟩,
  ⟨some 18, some (17, true), .load false 1 (.slot 1)⟩,
  ⟨some 19, some (17, true), .bin .leq (.slot 18) (.const (.int .i32 57343))⟩,
  ⟨some 20, some (14, false), .pick (.slot 17) (.slot 19) (.const (.bool false))⟩,
  ⟨some 21, none, .pick (.slot 14) (.const (.bool true)) (.slot 20)⟩,
  ⟨some 22, none, .mov (.slot 21)⟩,
  ⟨some 23, some (22, false), .load false 1 (.slot 1)⟩,
  ⟨some 24, some (22, false), .bin .gtr (.slot 23) (.const (.int .i32 1114111))⟩,
  ⟨some 25, none, .pick (.slot 22) (.const (.bool true)) (.slot 24)⟩]
def q1R2 : List AOper := [⟨some 2, none, .mov (.const (.int .i64 (-1)))⟩]
def q1R3 : List AOper := [⟨some 26, none, .mkfn (.func n_cols_Of_1) [] [(.slot 1)]⟩,
  ⟨some 27, none, .call .inl n_sort_Search [(.const (.int .i64 22)), (.slot 26)]⟩,
  ⟨some 3, none, .mov (.slot 27)⟩]
def q1R4 : List AOper := [⟨some 28, none, .mov (.slot 3)⟩,
  ⟨some 29, none, .bin .lss (.slot 28) (.const (.int .i64 22))⟩,
  ⟨some 30, none, .mov (.slot 29)⟩,
  ⟨some 31, some (30, true), .mov (.slot 3)⟩,
  ⟨some 32, some (30, true), .idxarr 3 22 (.glob 0) (.slot 31)⟩,
  ⟨some 33, some (30, true), .idxarr 1 3 (.slot 32) (.const (.int .i64 0))⟩,
  ⟨some 34, some (30, true), .load false 1 (.slot 33)⟩,
  ⟨some 35, some (30, true), .load false 1 (.slot 1)⟩,
  ⟨some 36, some (30, true), .bin .leq (.slot 34) (.slot 35)⟩,
  ⟨some 37, none, .pick (.slot 30) (.slot 36) (.const (.bool false))⟩]
def q1R5 : List AOper := [⟨some 38, none, .mov (.slot 3)⟩,
  ⟨some 39, none, .idxarr 3 22 (.glob 0) (.slot 38)⟩,
  ⟨some 40, none, .idxarr 1 3 (.slot 39) (.const (.int .i64 2))⟩,
  ⟨some 41, none, .load false 1 (.slot 40)⟩,
  ⟨some 42, none, .conv .i64 (.slot 41)⟩,
  ⟨some 2, none, .mov (.slot 42)⟩]
def q1R6 : List AOper := [⟨some 2, none, .mov (.const (.int .i64 1))⟩]
def c_cols_Of : AFn := ⟨(.seq (.region q1R0 false [1]) (.seq (.seq (.region q1R1 false [1, 25]) (.cond (.slot 25) (.seq (.region q1R2 false [2]) .ret) .skip)) (.seq (.region q1R3 false [1, 3]) (.seq (.seq (.region q1R4 true [3, 37]) (.cond (.slot 37) (.seq (.region q1R5 false [2]) .ret) .skip)) (.seq (.region q1R6 false [2]) .ret))))), [.slot 2]⟩
/- slices.Clone[[]rune,rune] -/
def q8R0 : List AOper := [⟨some 2, none, .mov (.const (.data false 1 [] true))⟩]
def q8R1 : List AOper := [⟨some 3, none, .mov (.slot 0)⟩,
  ⟨some 4, none, .isnil .ks false (.slot 3)⟩]
def q8R2 : List AOper := [⟨some 2, none, .mov (.const (.data false 1 [] true))⟩]
def q8R3 : List AOper := [⟨some 5, none, .mkslice 1 0 [.int .i32 0] []⟩,
  ⟨some 6, none, .mov (.slot 0)⟩,
  ⟨some 7, none, .append 1 4 (.slot 5) (.slot 6)⟩,
  ⟨some 2, none, .mov (.slot 7)⟩]
def c_slices_Clone_rune : AFn := ⟨(.seq (.region q8R0 false [0]) (.seq (.seq (.region q8R1 false [0, 4]) (.cond (.slot 4) (.seq (.region q8R2 false [2]) .ret) .skip)) (.seq (.region q8R3 false [2]) .ret))), [.slot 2]⟩
/- oriel/cols.Cut -/
def q0R0 : List AOper := [⟨some 4, none, .mov (.const (.data false 1 [] true))⟩,
  ⟨some 5, none, .mov (.const (.data false 1 [] true))⟩]
def q0R1 : List AOper := [⟨some 6, none, .mov (.const (.int .i64 0))⟩]
def q0R2 : List AOper := [⟨some 7, none, .mov (.slot 6)⟩,
  ⟨some 8, none, .mov (.slot 0)⟩,
  ⟨some 9, none, .len false (.slot 8)⟩,
  ⟨some 10, none, .bin .lss (.slot 7) (.slot 9)⟩,
  ⟨some 11, none, .mov (.slot 10)⟩,
  ⟨some 12, some (11, true), .mov (.slot 1)⟩,
  ⟨some 13, some (11, true), .mov (.slot 0)⟩,
  ⟨some 14, some (11, true), .mov (.slot 6)⟩,
  ⟨some 15, some (11, true), .idx 1 (.slot 13) (.slot 14)⟩,
  ⟨some 16, some (11, true), .load false 1 (.slot 15)⟩,
  ⟨some 17, some (11, true), .call .frz n_cols_Of [(.slot 16)]⟩,
  ⟨some 18, some (11, true), .max (.const (.int .i64 0)) (.slot 17)⟩,
  ⟨some 19, some (11, true), .bin .geq (.slot 12) (.slot 18)⟩,
  ⟨some 20, none, .pick (.slot 11) (.slot 19) (.const (.bool false))⟩]
def q0R3 : List AOper := [⟨some 21, none, .mov (.slot 1)⟩,
  ⟨some 22, none, .mov (.slot 0)⟩,
  ⟨some 23, none, .mov (.slot 6)⟩,
  ⟨some 24, none, .idx 1 (.slot 22) (.slot 23)⟩,
  ⟨some 25, none, .load false 1 (.slot 24)⟩,
  ⟨some 26, none, .call .frz n_cols_Of [(.slot 25)]⟩,
  ⟨some 27, none, .max (.const (.int .i64 0)) (.slot 26)⟩,
  ⟨some 28, none, .bin .sub (.slot 21) (.slot 27)⟩,
  ⟨some 1, none, .mov (.slot 28)⟩]
def q0R4 : List AOper := [⟨some 29, none, .mov (.slot 6)⟩,
  ⟨some 30, none, .bin .add (.slot 29) (.const (.int .i64 1))⟩,
  ⟨some 6, none, .mov (.slot 30)⟩]
def c_cols_Cut_L0 : ACode := (.seq (.seq (.region q0R2 false [0, 1, 6, 20]) (.cond (.slot 20) .skip (.exit 0))) (.block 1 (.seq (.region q0R3 false [0, 1, 6]) (.region q0R4 false [0, 1, 6]))))
def lp_cols_Cut_0 : ACode := .loop [0, 1, 6] c_cols_Cut_L0
def q0R5 : List AOper := [⟨some 31, none, .mov (.slot 0)⟩,
  ⟨some 32, none, .mov (.slot 6)⟩,
  ⟨some 33, none, .sl 1 (.slot 31) none (some (.slot 32)) none⟩,
  ⟨some 34, none, .call .frz n_slices_Clone_rune [(.slot 33)]⟩,
  ⟨some 35, none, .mov (.slot 0)⟩,
  ⟨some 36, none, .mov (.slot 6)⟩,
  ⟨some 37, none, .sl 1 (.slot 35) (some (.slot 36)) none none⟩,
  ⟨some 38, none, .call .frz n_slices_Clone_rune [(.slot 37)]⟩,
  ⟨some 4, none, .mov (.slot 34)⟩,
  ⟨some 5, none, .mov (.slot 38)⟩]
def c_cols_Cut : AFn := ⟨(.seq (.region q0R0 false [0, 1]) (.seq (.region q0R1 false [0, 1, 6]) (.seq (.block 0 lp_cols_Cut_0) (.seq (.region q0R5 true [4, 5]) .ret)))), [.slot 4, .slot 5]⟩
/- oriel/orielref13.Same -/
def q6R0 : List AOper := [⟨some 4, none, .mov (.const (.bool false))⟩]
def q6R1 : List AOper := [⟨some 6, none, .mov (.slot 0)⟩,
  ⟨some 7, none, .len false (.slot 6)⟩,
  ⟨some 8, none, .mov (.slot 1)⟩,
  ⟨some 9, none, .len false (.slot 8)⟩,
  ⟨some 10, none, .bin .neq (.slot 7) (.slot 9)⟩]
def q6R2 : List AOper := [⟨some 4, none, .mov (.const (.bool false))⟩]
def q6R3 : List AOper := [⟨some 5, none, .mov (.const (.int .i64 0))⟩]
def q6R4 : List AOper := [⟨some 11, none, .mov (.slot 5)⟩,
  ⟨some 12, none, .mov (.slot 0)⟩,
  ⟨some 13, none, .len false (.slot 12)⟩,
  ⟨some 14, none, .bin .lss (.slot 11) (.slot 13)⟩]
def q6R6 : List AOper := [⟨some 17, none, .mov (.slot 0)⟩,
  ⟨some 18, none, .mov (.slot 5)⟩,
  ⟨some 19, none, .idx 1 (.slot 17) (.slot 18)⟩,
  ⟨some 20, none, .load false 1 (.slot 19)⟩,
  ⟨some 21, none, .mov (.slot 1)⟩,
  ⟨some 22, none, .mov (.slot 5)⟩,
  ⟨some 23, none, .idx 1 (.slot 21) (.slot 22)⟩,
  ⟨some 24, none, .load false 1 (.slot 23)⟩,
  ⟨some 25, none, .bin .neq (.slot 20) (.slot 24)⟩]
def q6R7 : List AOper := [⟨some 4, none, .mov (.const (.bool false))⟩]
def q6R5 : List AOper := [⟨some 15, none, .mov (.slot 5)⟩,
  ⟨some 16, none, .bin .add (.slot 15) (.const (.int .i64 1))⟩,
  ⟨some 5, none, .mov (.slot 16)⟩]
def c_ref13_Same_L0 : ACode := (.seq (.seq (.region q6R4 false [0, 1, 5, 14]) (.cond (.slot 14) .skip (.exit 0))) (.seq (.block 1 (.seq (.region q6R6 true [0, 1, 5, 25]) (.cond (.slot 25) (.seq (.region q6R7 false [4]) .ret) .skip))) (.region q6R5 false [0, 1, 5])))
def lp_ref13_Same_0 : ACode := .loop [0, 1, 5] c_ref13_Same_L0
def q6R8 : List AOper := [⟨some 4, none, .mov (.const (.bool true))⟩]
def c_ref13_Same : AFn := ⟨(.seq (.region q6R0 false [0, 1]) (.seq (.seq (.region q6R1 false [0, 1, 10]) (.cond (.slot 10) (.seq (.region q6R2 false [4]) .ret) .skip)) (.seq (.seq (.region q6R3 false [0, 1, 5]) (.block 0 lp_ref13_Same_0)) (.seq (.region q6R8 false [4]) .ret)))), [.slot 4]⟩
/- oriel/oriellaw13.known -/
def q4R0 : List AOper := [⟨some 0, none, .mov (.const (.bool false))⟩]
def q4R1 : List AOper := [⟨some 4, none, .mkslice 1 3 [.int .i32 0] [(0, (.const (.int .i32 20013))), (1, (.const (.int .i32 769))), (2, (.const (.int .i32 97)))]⟩,
  ⟨some 5, none, .call .frz n_cols_Cut [(.slot 4), (.const (.int .i64 2))]⟩,
  ⟨some 3, none, .mov (.slot 5)⟩,
  ⟨some 6, none, .extract 0 (.slot 3)⟩,
  ⟨some 7, none, .extract 1 (.slot 3)⟩,
  ⟨some 1, none, .mov (.slot 6)⟩,
  ⟨some 2, none, .mov (.slot 7)⟩]
def q4R2 : List AOper := [⟨some 8, none, .call .frz n_cols_Of [(.const (.int .i32 97))]⟩,
  ⟨some 9, none, .bin .eql (.slot 8) (.const (.int .i64 1))⟩,
  ⟨some 10, none, .mov (.slot 9)⟩,
  ⟨some 11, some (10, true), .call .frz n_cols_Of [(.const (.int .i32 769))]⟩,
  ⟨some 12, some (10, true), .bin .eql (.slot 11) (.const (.int .i64 0))⟩,
  ⟨some 13, none, .pick (.slot 10) (.slot 12) (.const (.bool false))⟩,
  ⟨some 14, none, .mov (.slot 13)⟩,
  ⟨some 15, some (14, true), .call .frz n_cols_Of [(.const (.int .i32 20013))]⟩,
  ⟨some 16, some (14, true), .bin .eql (.slot 15) (.const (.int .i64 2))⟩,
  ⟨some 17, none, .pick (.slot 14) (.slot 16) (.const (.bool false))⟩,
  ⟨some 18, none, .mov (.slot 17)⟩,
  ⟨some 19, some (18, true), .call .frz n_cols_Of [(.const (.int .i32 7))]⟩,
  ⟨some 20, some (18, true), .bin .eql (.slot 19) (.const (.int .i64 (-1)))⟩,
  ⟨some 21, none, .pick (.slot 18) (.slot 20) (.const (.bool false))⟩,
  ⟨some 22, none, .mov (.slot 21)⟩,
  ⟨some 23, some (22, true), .mov (.slot 1)⟩,
  ⟨some 24, some (22, true), .mkslice 1 2 [.int .i32 0] [(0, (.const (.int .i32 20013))), (1, (.const (.int .i32 769)))]⟩,
  ⟨some 25, some (22, true), .call .frz n_ref13_Same [(.slot 23), (.slot 24)]⟩,
  ⟨some 26, none, .pick (.slot 22) (.slot 25) (.const (.bool false))⟩,
  ⟨some 27, none, .mov (.slot 26)⟩,
  ⟨some 28, some (27, true), .mov (.slot 2)⟩,
  ⟨some 29, some (27, true), .mkslice 1 1 [.int .i32 0] [(0, (.const (.int .i32 97)))]⟩,
  ⟨some 30, some (27, true), .call .frz n_ref13_Same [(.slot 28), (.slot 29)]⟩,
  ⟨some 31, none, .pick (.slot 27) (.slot 30) (.const (.bool false))⟩,
  ⟨some 0, none, .mov (.slot 31)⟩]
def c_law13_known : AFn := ⟨(.seq (.region q4R0 false []) (.seq (.region q4R1 false [1, 2]) (.seq (.region q4R2 false [0]) .ret))), [.slot 0]⟩
/- oriel/orielref13.in -/
def q7R0 : List AOper := [⟨some 6, none, .mov (.const (.bool false))⟩]
def q7R1 : List AOper := [⟨some 7, none, .mov (.slot 0)⟩,
  ⟨some 8, none, .mov (.slot 1)⟩,
  ⟨some 9, none, .bin .geq (.slot 7) (.slot 8)⟩,
  ⟨some 10, none, .mov (.slot 9)⟩,
  ⟨some 11, some (10, true), .mov (.slot 0)⟩,
  ⟨some 12, some (10, true), .mov (.slot 2)⟩,
  ⟨some 13, some (10, true), .bin .leq (.slot 11) (.slot 12)⟩,
  ⟨some 14, none, .pick (.slot 10) (.slot 13) (.const (.bool false))⟩,
  ⟨some 6, none, .mov (.slot 14)⟩]
def c_ref13_in : AFn := ⟨(.seq (.region q7R0 false [0, 1, 2]) (.seq (.region q7R1 false [6]) .ret)), [.slot 6]⟩
/- oriel/orielref13.Of -/
def q5R0 : List AOper := [⟨some 2, none, .mov (.const (.int .i64 0))⟩]
def q5R1 : List AOper := [⟨some 4, none, .mov (.slot 0)⟩,
  ⟨some 5, none, .bin .lss (.slot 4) (.const (.int .i32 32))⟩,
  ⟨some 6, none, .mov (.slot 5)⟩,
  ⟨some 7, some (6, false), .mov (.slot 0)⟩,
  ⟨some 8, some (6, false), .call .frz n_ref13_in [(.slot 7), (.const (.int .i32 127)), (.const (.int .i32 159))]⟩,
  ⟨some 9, none, .pick (.slot 6) (.const (.bool true)) (.slot 8)⟩,
  ⟨some 10, none, .mov (.slot 9)⟩,
  ⟨some 11, some (10, false), .mov (.slot 0)⟩,
  ⟨some 12, some (10, false), .call .frz n_ref13_in [(.slot 11), (.const (.int .i32 55296)), (.const (.int .i32 57343))]⟩,
  ⟨some 13, none, .pick (.slot 10) (.const (.bool true)) (.slot 12)⟩,
  ⟨some 14, none, .mov (.slot 13)⟩,
  ⟨some 15, some (14, false), .mov (.slot 0)⟩,
  ⟨some 16, some (14, false), .bin .gtr (.slot 15) (.const (.int .i32 1114111))⟩,
  ⟨some 17, none, .pick (.slot 14) (.const (.bool true)) (.slot 16)⟩,
  ⟨some 3, none, .mov (.slot 17)⟩]
def q5R2 : List AOper := [⟨some 2, none, .mov (.const (.int .i64 (-1)))⟩]
def q5R3 : List AOper := [⟨some 19, none, .mov (.slot 0)⟩,
  ⟨some 20, none, .call .frz n_ref13_in [(.slot 19), (.const (.int .i32 768)), (.const (.int .i32 879))]⟩,
  ⟨some 21, none, .mov (.slot 20)⟩,
  ⟨some 22, some (21, false), .mov (.slot 0)⟩,
  ⟨some 23, some (21, false), .call .frz n_ref13_in [(.slot 22), (.const (.int .i32 1155)), (.const (.int .i32 1161))]⟩,
  ⟨some 24, none, .pick (.slot 21) (.const (.bool true)) (.slot 23)⟩,
  ⟨some 25, none, .mov (.slot 24)⟩,
  ⟨some 26, some (25, false), .mov (.slot 0)⟩,
  ⟨some 27, some (25, false), .call .frz n_ref13_in [(.slot 26), (.const (.int .i32 1425)), (.const (.int .i32 1469))]⟩,
  ⟨some 28, none, .pick (.slot 25) (.const (.bool true)) (.slot 27)⟩,
  ⟨some 29, none, .mov (.slot 28)⟩,
  ⟨some 30, some (29, false), .mov (.slot 0)⟩,
  ⟨some 31, some (29, false), .call .frz n_ref13_in [(.slot 30), (.const (.int .i32 1552)), (.const (.int .i32 1562))]⟩,
  ⟨some 32, none, .pick (.slot 29) (.const (.bool true)) (.slot 31)⟩,
  ⟨some 33, none, .mov (.slot 32)⟩,
  ⟨some 34, some (33, false), .mov (.slot 0)⟩,
  ⟨some 35, some (33, false), .call .frz n_ref13_in [(.slot 34), (.const (.int .i32 1611)), (.const (.int .i32 1631))]⟩,
  ⟨some 36, none, .pick (.slot 33) (.const (.bool true)) (.slot 35)⟩,
  ⟨some 37, none, .mov (.slot 36)⟩,
  ⟨some 38, some (37, false), .mov (.slot 0)⟩,
  ⟨some 39, some (37, false), .call .frz n_ref13_in [(.slot 38), (.const (.int .i32 6832)), (.const (.int .i32 6911))]⟩,
  ⟨some 40, none, .pick (.slot 37) (.const (.bool true)) (.slot 39)⟩,
  ⟨some 18, none, .mov (.slot 40)⟩]
def q5R4 : List AOper := [⟨some 2, none, .mov (.const (.int .i64 0))⟩]
def q5R5 : List AOper := [⟨some 42, none, .mov (.slot 0)⟩,
  ⟨some 43, none, .call .frz n_ref13_in [(.slot 42), (.const (.int .i32 7616)), (.const (.int .i32 7679))]⟩,
  ⟨some 44, none, .mov (.slot 43)⟩,
  ⟨some 45, some (44, false), .mov (.slot 0)⟩,
  ⟨some 46, some (44, false), .call .frz n_ref13_in [(.slot 45), (.const (.int .i32 8203)), (.const (.int .i32 8207))]⟩,
  ⟨some 47, none, .pick (.slot 44) (.const (.bool true)) (.slot 46)⟩,
  ⟨some 48, none, .mov (.slot 47)⟩,
  ⟨some 49, some (48, false), .mov (.slot 0)⟩,
  ⟨some 50, some (48, false), .call .frz n_ref13_in [(.slot 49), (.const (.int .i32 8400)), (.const (.int .i32 8447))]⟩,
  ⟨some 51, none, .pick (.slot 48) (.const (.bool true)) (.slot 50)⟩,
  ⟨some 52, none, .mov (.slot 51)⟩,
  ⟨some 53, some (52, false), .mov (.slot 0)⟩,
  ⟨some 54, some (52, false), .call .frz n_ref13_in [(.slot 53), (.const (.int .i32 65024)), (.const (.int .i32 65039))]⟩,
  ⟨some 55, none, .pick (.slot 52) (.const (.bool true)) (.slot 54)⟩,
  ⟨some 56, none, .mov (.slot 55)⟩,
  ⟨some 57, some (56, false), .mov (.slot 0)⟩,
  ⟨some 58, some (56, false), .call .frz n_ref13_in [(.slot 57), (.const (.int .i32 65056)), (.const (.int .i32 65071))]⟩,
  ⟨some 59, none, .pick (.slot 56) (.const (.bool true)) (.slot 58)⟩,
  ⟨some 41, none, .mov (.slot 59)⟩]
def q5R6 : List AOper := [⟨some 2, none, .mov (.const (.int .i64 0))⟩]
def q5R7 : List AOper := [⟨some 61, none, .mov (.slot 0)⟩,
  ⟨some 62, none, .call .frz n_ref13_in [(.slot 61), (.const (.int .i32 4352)), (.const (.int .i32 4447))]⟩,
  ⟨some 63, none, .mov (.slot 62)⟩,
  ⟨some 64, some (63, false), .mov (.slot 0)⟩,
  ⟨some 65, some (63, false), .call .frz n_ref13_in [(.slot 64), (.const (.int .i32 11904)), (.const (.int .i32 12350))]⟩,
  ⟨some 66, none, .pick (.slot 63) (.const (.bool true)) (.slot 65)⟩,
  ⟨some 67, none, .mov (.slot 66)⟩,
  ⟨some 68, some (67, false), .mov (.slot 0)⟩,
  ⟨some 69, some (67, false), .call .frz n_ref13_in [(.slot 68), (.const (.int .i32 12353)), (.const (.int .i32 42191))]⟩,
  ⟨some 70, none, .pick (.slot 67) (.const (.bool true)) (.slot 69)⟩,
  ⟨some 71, none, .mov (.slot 70)⟩,
  ⟨some 72, some (71, false), .mov (.slot 0)⟩,
  ⟨some 73, some (71, false), .call .frz n_ref13_in [(.slot 72), (.const (.int .i32 44032)), (.const (.int .i32 55203))]⟩,
  ⟨some 74, none, .pick (.slot 71) (.const (.bool true)) (.slot 73)⟩,
  ⟨some 75, none, .mov (.slot 74)⟩,
  ⟨some 76, some (75, false), .mov (.slot 0)⟩,
  ⟨some 77, some (75, false), .call .frz n_ref13_in [(.slot 76), (.const (.int .i32 63744)), (.const (.int .i32 64255))]⟩,
  ⟨some 78, none, .pick (.slot 75) (.const (.bool true)) (.slot 77)⟩,
  ⟨some 60, none, .mov (.slot 78)⟩]
def q5R8 : List AOper := [⟨some 2, none, .mov (.const (.int .i64 2))⟩]
def q5R9 : List AOper := [⟨some 80, none, .mov (.slot 0)⟩,
  ⟨some 81, none, .call .frz n_ref13_in [(.slot 80), (.const (.int .i32 65072)), (.const (.int .i32 65135))]⟩,
  ⟨some 82, none, .mov (.slot 81)⟩,
  ⟨some 83, some (82, false), .mov (.slot 0)⟩,
  ⟨some 84, some (82, false), .call .frz n_ref13_in [(.slot 83), (.const (.int .i32 65280)), (.const (.int .i32 65376))]⟩,
  ⟨some 85, none, .pick (.slot 82) (.const (.bool true)) (.slot 84)⟩,
  ⟨some 86, none, .mov (.slot 85)⟩,
  ⟨some 87, some (86, false), .mov (.slot 0)⟩,
  ⟨some 88, some (86, false), .call .frz n_ref13_in [(.slot 87), (.const (.int .i32 65504)), (.const (.int .i32 65510))]⟩,
  ⟨some 89, none, .pick (.slot 86) (.const (.bool true)) (.slot 88)⟩,
  ⟨some 90, none, .mov (.slot 89)⟩,
  ⟨some 91, some (90, false), .mov (.slot 0)⟩,
  ⟨some 92, some (90, false), .call .frz n_ref13_in [(.slot 91), (.const (.int .i32 127744)), (.const (.int .i32 128591))]⟩,
  ⟨some 93, none, .pick (.slot 90) (.const (.bool true)) (.slot 92)⟩,
  ⟨some 94, none, .mov (.slot 93)⟩,
  ⟨some 95, some (94, false), .mov (.slot 0)⟩,
  ⟨some 96, some (94, false), .call .frz n_ref13_in [(.slot 95), (.const (.int .i32 129280)), (.const (.int .i32 129535))]⟩,
  ⟨some 97, none, .pick (.slot 94) (.const (.bool true)) (.slot 96)⟩,
  ⟨some 98, none, .mov (.slot 97)⟩,
  ⟨some 99, some (98, false), .mov (.slot 0)⟩,
  ⟨some 100, some (98, false), .call .frz n_ref13_in [(.slot 99), (.const (.int .i32 131072)), (.const (.int .i32 262141))]⟩,
  ⟨some 101, none, .pick (.slot 98) (.const (.bool true)) (.slot 100)⟩,
  ⟨some 79, none, .mov (.slot 101)⟩]
def q5R10 : List AOper := [⟨some 2, none, .mov (.const (.int .i64 2))⟩]
def q5R11 : List AOper := [⟨some 2, none, .mov (.const (.int .i64 1))⟩]
def c_ref13_Of : AFn := ⟨(.seq (.region q5R0 false [0]) (.seq (.block 0 (.seq (.region q5R1 false [0, 3]) (.cond (.slot 3) (.seq (.region q5R2 false [2]) .ret) (.seq (.region q5R3 false [0, 18]) (.cond (.slot 18) (.seq (.region q5R4 false [2]) .ret) (.seq (.region q5R5 false [0, 41]) (.cond (.slot 41) (.seq (.region q5R6 false [2]) .ret) (.seq (.region q5R7 false [0, 60]) (.cond (.slot 60) (.seq (.region q5R8 false [2]) .ret) (.seq (.region q5R9 false [79]) (.cond (.slot 79) (.seq (.region q5R10 false [2]) .ret) .skip))))))))))) (.seq (.region q5R11 false [2]) .ret))), [.slot 2]⟩
/- oriel/oriellaw13.ColsBounds -/
def q3R0 : List AOper := [⟨some 0, none, .mov (.const (.bool false))⟩]
def q3R1 : List AOper := [⟨some 3, none, .build [.int .i32 0, .int .i32 0, .int .i32 0, .int .i32 0, .int .i32 0, .int .i32 0, .int .i32 0, .int .i32 0, .int .i32 0, .int .i32 0, .int .i32 0, .int .i32 0, .int .i32 0, .int .i32 0, .int .i32 0, .int .i32 0, .int .i32 0, .int .i32 0, .int .i32 0, .int .i32 0, .int .i32 0, .int .i32 0, .int .i32 0, .int .i32 0, .int .i32 0, .int .i32 0, .int .i32 0, .int .i32 0, .int .i32 0, .int .i32 0, .int .i32 0, .int .i32 0, .int .i32 0, .int .i32 0, .int .i32 0, .int .i32 0, .int .i32 0, .int .i32 0, .int .i32 0, .int .i32 0, .int .i32 0, .int .i32 0, .int .i32 0, .int .i32 0, .int .i32 0, .int .i32 0] [(0, 1, (.const (.int .i32 0))), (1, 1, (.const (.int .i32 32))), (2, 1, (.const (.int .i32 127))), (3, 1, (.const (.int .i32 160))), (4, 1, (.const (.int .i32 768))), (5, 1, (.const (.int .i32 880))), (6, 1, (.const (.int .i32 1155))), (7, 1, (.const (.int .i32 1162))), (8, 1, (.const (.int .i32 1425))), (9, 1, (.const (.int .i32 1470))), (10, 1, (.const (.int .i32 1552))), (11, 1, (.const (.int .i32 1563))), (12, 1, (.const (.int .i32 1611))), (13, 1, (.const (.int .i32 1632))), (14, 1, (.const (.int .i32 4352))), (15, 1, (.const (.int .i32 4448))), (16, 1, (.const (.int .i32 6832))), (17, 1, (.const (.int .i32 6912))), (18, 1, (.const (.int .i32 7616))), (19, 1, (.const (.int .i32 7680))), (20, 1, (.const (.int .i32 8203))), (21, 1, (.const (.int .i32 8208))), (22, 1, (.const (.int .i32 8400))), (23, 1, (.const (.int .i32 8448))), (24, 1, (.const (.int .i32 11904))), (25, 1, (.const (.int .i32 12351))), (26, 1, (.const (.int .i32 12353))), (27, 1, (.const (.int .i32 42192))), (28, 1, (.const (.int .i32 44032))), (29, 1, (.const (.int .i32 55204))), (30, 1, (.const (.int .i32 55296))), (31, 1, (.const (.int .i32 57344))), (32, 1, (.const (.int .i32 63744))), (33, 1, (.const (.int .i32 64256))), (34, 1, (.const (.int .i32 65024))), (35, 1, (.const (.int .i32 65040))), (36, 1, (.const (.int .i32 65056))), (37, 1, (.const (.int .i32 65072))), (38, 1, (.const (.int .i32 65136))), (39, 1, (.const (.int .i32 65280))), (40, 1, (.const (.int .i32 65377))), (41, 1, (.const (.int .i32 65504))), (42, 1, (.const (.int .i32 65511))), (43, 1, (.const (.int .i32 127744))), (44, 1, (.const (.int .i32 128592))), (45, 1, (.const (.int .i32 129280)))]⟩,
  ⟨some 1, none, .alloc [.int .i32 0, .int .i32 0, .int .i32 0, .int .i32 0, .int .i32 0, .int .i32 0, .int .i32 0, .int .i32 0, .int .i32 0, .int .i32 0, .int .i32 0, .int .i32 0, .int .i32 0, .int .i32 0, .int .i32 0, .int .i32 0, .int .i32 0, .int .i32 0, .int .i32 0, .int .i32 0, .int .i32 0, .int .i32 0, .int .i32 0, .int .i32 0, .int .i32 0, .int .i32 0, .int .i32 0, .int .i32 0, .int .i32 0, .int .i32 0, .int .i32 0, .int .i32 0, .int .i32 0, .int .i32 0, .int .i32 0, .int .i32 0, .int .i32 0, .int .i32 0, .int .i32 0, .int .i32 0, .int .i32 0, .int .i32 0, .int .i32 0, .int .i32 0, .int .i32 0, .int .i32 0]⟩,
  ⟨none, none, .store true 46 (.slot 1) (.slot 3)⟩]
def q3R2 : List AOper := [⟨some 2, none, .mov (.const (.int .i64 0))⟩]
def q3R3 : List AOper := [⟨some 4, none, .mov (.slot 2)⟩,
  ⟨some 5, none, .bin .lss (.slot 4) (.const (.int .i64 46))⟩]
def q3R5 : List AOper := [⟨some 8, none, .mov (.slot 2)⟩,
  ⟨some 9, none, .idxarr 1 46 (.slot 1) (.slot 8)⟩,
  ⟨some 10, none, .load false 1 (.slot 9)⟩,
  ⟨some 11, none, .call .frz n_cols_Of [(.slot 10)]⟩,
  ⟨some 12, none, .mov (.slot 2)⟩,
  ⟨some 13, none, .idxarr 1 46 (.slot 1) (.slot 12)⟩,
  ⟨some 14, none, .load false 1 (.slot 13)⟩,
  ⟨some 15, none, .call .frz n_ref13_Of [(.slot 14)]⟩,
  ⟨some 16, none, .bin .neq (.slot 11) (.slot 15)⟩,
  ⟨some 17, none, .mov (.slot 16)⟩,
  ⟨some 18, some (17, false), .mov (.slot 2)⟩,
  ⟨some 19, some (17, false), .idxarr 1 46 (.slot 1) (.slot 18)⟩,
  ⟨some 20, some (17, false), .load false 1 (.slot 19)⟩,
  ⟨some 21, some (17, false), .bin .sub (.slot 20) (.const (.int .i32 1))⟩,
  ⟨some 22, some (17, false), .call .frz n_cols_Of [(.slot 21)]⟩,
  ⟨some 23, some (17, false), .mov (.slot 2)⟩,
  ⟨some 24, some (17, false), .idxarr 1 46 (.slot 1) (.slot 23)⟩,
  ⟨some 25, some (17, false), .load false 1 (.slot 24)⟩,
  ⟨some 26, some (17, false), .bin .sub (.slot 25) (.const (.int .i32 1))⟩,
  ⟨some 27, some (17, false), .call .frz n_ref13_Of [(.slot 26)]⟩,
  ⟨some 28, some (17, false), .bin .neq (.slot 22) (.slot 27)⟩,
  ⟨some 29, none, .pick (.slot 17) (.const (.bool true)) (.slot 28)⟩]
def q3R6 : List AOper := [⟨some 0, none, .mov (.const (.bool false))⟩]
def q3R4 : List AOper := [⟨some 6, none, .mov (.slot 2)⟩,
  ⟨some 7, none, .bin .add (.slot 6) (.const (.int .i64 1))⟩,
  ⟨some 2, none, .mov (.slot 7)⟩]
def c_law13_ColsBounds_L0 : ACode := (.seq (.seq (.region q3R3 false [1, 2, 5]) (.cond (.slot 5) .skip (.exit 0))) (.seq (.block 1 (.seq (.region q3R5 true [1, 2, 29]) (.cond (.slot 29) (.seq (.region q3R6 false [0]) .ret) .skip))) (.region q3R4 false [1, 2])))
def lp_law13_ColsBounds_0 : ACode := .loop [1, 2] c_law13_ColsBounds_L0
def q3R7 : List AOper := ⟨some 30, none, .call .frz n_cols_Of [(.const (.int .i32 129536))]⟩ ::
  ⟨some 31, none, .bin .eql (.slot 30) (.const (.int .i64 1))⟩ ::
  ⟨some 32, none, .mov (.slot 31)⟩ ::
  ⟨some 33, some (32, true), .call .frz n_cols_Of [(.const (.int .i32 131071))]⟩ ::
  ⟨some 34, some (32, true), .bin .eql (.slot 33) (.const (.int .i64 1))⟩ ::
  ⟨some 35, none, .pick (.slot 32) (.slot 34) (.const (.bool false))⟩ ::
  ⟨some 36, none, .mov (.slot 35)⟩ ::
  ⟨some 37, some (36, true), .call .frz n_cols_Of [(.const (.int .i32 131072))]⟩ ::
  ⟨some 38, some (36, true), .bin .eql (.slot 37) (.const (.int .i64 2))⟩ ::
  ⟨some 39, none, .pick (.slot 36) (.slot 38) (.const (.bool false))⟩ ::
  ⟨some 40, none, .mov (.slot 39)⟩ ::
  ⟨some 41, some (40, true), .call .frz n_cols_Of [(.const (.int .i32 262141))]⟩ ::
  ⟨some 42, some (40, true), .bin .eql (.slot 41) (.const (.int .i64 2))⟩ ::
  ⟨some 43, none, .pick (.slot 40) (.slot 42) (.const (.bool false))⟩ ::
  ⟨some 44, none, .mov (.slot 43)⟩ ::
  ⟨some 45, some (44, true), .call .frz n_cols_Of [(.const (.int .i32 262142))]⟩ ::
  ⟨some 46, some (44, true), .bin .eql (.slot 45) (.const (.int .i64 1))⟩ ::
  ⟨some 47, none, .pick (.slot 44) (.slot 46) (.const (.bool false))⟩ ::
  ⟨some 48, none, .mov (.slot 47)⟩ ::
  ⟨some 49, some (48, true), .call .frz n_cols_Of [(.const (.int .i32 1114111))]⟩ ::
  ⟨some 50, some (48, true), .bin .eql (.slot 49) (.const (.int .i64 1))⟩ ::
  ⟨some 51, none, .pick (.slot 48) (.slot 50) (.const (.bool false))⟩ ::
  ⟨some 52, none, .mov (.slot 51)⟩ ::
  ⟨some 53, some (52, true), .call .frz n_cols_Of [(.const (.int .i32 1114112))]⟩ ::
  ⟨some 54, some (52, true), .bin .eql (.slot 53) (.const (.int .i64 (-1)))⟩ ::
  ⟨some 55, none, .pick (.slot 52) (.slot 54) (.const (.bool false))⟩ ::
  ⟨some 56, none, .mov (.slot 55)⟩ ::
  ⟨some 57, some (56, true), .call .frz n_law13_known []⟩ ::
  ⟨some 58, none, .pick (.slot 56) (.slot 57) (.const (.bool false))⟩ ::
  ⟨some 0, none, .mov (.slot 58)⟩ :: []
def c_law13_ColsBounds : AFn := ⟨(.seq (.region q3R0 false []) (.seq (.region q3R1 false [1]) (.seq (.seq (.region q3R2 false [1, 2]) (.block 0 lp_law13_ColsBounds_0)) (.seq (.region q3R7 false [0]) .ret)))), [.slot 0]⟩
/-- The seat's functions. -/
def FT : Nat → Option AEnt
  | 16 => some (.fn c_sort_Search)
  | 17 => some (.fn c_cols_Of_1)
  | 9 => some (.fn c_cols_Of)
  | 19 => some (.fn c_slices_Clone_rune)
  | 12 => some (.fn c_cols_Cut)
  | 15 => some (.fn c_ref13_Same)
  | 8 => some (.fn c_law13_known)
  | 18 => some (.fn c_ref13_in)
  | 10 => some (.fn c_ref13_Of)
  | 4 => some (.fn c_law13_ColsBounds)
  | _ => none
variable (G : Nat → Option (List AV)) (args : List AV) (h : List ARow)
end Go.Proofs.YtcjlkggdcnochaaDoor
