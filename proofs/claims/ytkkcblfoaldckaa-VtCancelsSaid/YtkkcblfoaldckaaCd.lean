/- The small machine's code of the seat's functions. Conditions: none. -/
import Derived.Test.YtkkcblfoaldckaaM3
set_option linter.unusedVariables false
set_option linter.unusedSimpArgs false
set_option linter.unusedSectionVars false
namespace Go.Proofs.Ytkkcblfoaldckaa
open Go

def n_law11_VtCancels : Nat := 5
def n_law11_alike : Nat := 16
def n_law11_known : Nat := 9
def n_ref11_All : Nat := 10
def n_ref11_Same : Nat := 19
def n_slices_Clone_rune : Nat := 23
def n_vt_New : Nat := 13
def n_vt_Parse : Nat := 11
def n_vt_Parser_Idle : Nat := 15
def n_vt_Parser_Put : Nat := 14
def n_vt_Parser_between : Nat := 33
def n_vt_Parser_end : Nat := 26
def n_vt_Parser_one : Nat := 21
def n_vt_Parser_param : Nat := 36
def n_vt_escape : Nat := 27
def n_vt_ground : Nat := 25
def n_vt_point : Nat := 20
def n_vt_sequence : Nat := 34
def n_vt_text : Nat := 35
/- oriel/orielref11.Same -/
def q12R0 : List AOper := [⟨some 2, none, .box 6 (.slot 0)⟩,
  ⟨some 3, none, .box 6 (.slot 1)⟩,
  ⟨some 4, none, .mov (.const (.bool false))⟩]
def q12R1 : List AOper := ⟨some 7, none, .faddr 0 (.slot 2)⟩ ::
  ⟨some 8, none, .load false 1 (.slot 7)⟩ ::
  ⟨some 9, none, .faddr 0 (.slot 3)⟩ ::
  ⟨some 10, none, .load false 1 (.slot 9)⟩ ::
  ⟨some 11, none, .bin .neq (.slot 8) (.slot 10)⟩ ::
  ⟨some 12, none, .mov (.slot 11)⟩ ::
  ⟨some 13, some (12, false), .faddr 1 (.slot 2)⟩ ::
  ⟨some 14, some (12, false), .load false 1 (.slot 13)⟩ ::
  ⟨some 15, some (12, false), .faddr 1 (.slot 3)⟩ ::
  ⟨some 16, some (12, false), .load false 1 (.slot 15)⟩ ::
  ⟨some 17, some (12, false), .bin .neq (.slot 14) (.slot 16)⟩ ::
  ⟨some 18, none, .pick (.slot 12) (.const (.bool true)) (.slot 17)⟩ ::
  ⟨some 19, none, .mov (.slot 18)⟩ ::
  ⟨some 20, some (19, false), .faddr 2 (.slot 2)⟩ ::
  ⟨some 21, some (19, false), .load false 1 (.slot 20)⟩ ::
  ⟨some 22, some (19, false), .faddr 2 (.slot 3)⟩ ::
  ⟨some 23, some (19, false), .load false 1 (.slot 22)⟩ ::
  ⟨some 24, some (19, false), .bin .neq (.slot 21) (.slot 23)⟩ ::
  ⟨some 25, none, .pick (.slot 19) (.const (.bool true)) (.slot 24)⟩ ::
  ⟨some 26, none, .mov (.slot 25)⟩ ::
  ⟨some 27, some (26, false), .faddr 3 (.slot 2)⟩ ::
  ⟨some 28, some (26, false), .load false 1 (.slot 27)⟩ ::
  ⟨some 29, some (26, false), .faddr 3 (.slot 3)⟩ ::
  ⟨some 30, some (26, false), .load false 1 (.slot 29)⟩ ::
  ⟨some 31, some (26, false), .eq false [.ks] true (.slot 28) (.slot 30)⟩ ::
  ⟨some 32, none, .pick (.slot 26) (.const (.bool true)) (.slot 31)⟩ ::
  ⟨some 33, none, .mov (.slot 32)⟩ ::
  ⟨some 34, some (33, false), .faddr 4 (.slot 2)⟩ ::
  ⟨some 35, some (33, false), .load false 1 (.slot 34)⟩ ::
  ⟨some 36, some (33, false), .len false (.slot 35)⟩ ::
  ⟨some 37, some (33, false), .faddr 4 (.slot 3)⟩ ::
  ⟨some 38, some (33, false), .load false 1 (.slot 37)⟩ ::
  ⟨some 39, some (33, false), .len false (.slot 38)⟩ ::
  ⟨some 40, some (33, false), .bin .neq (.slot 36) (.slot 39)⟩ ::
  ⟨some 41, none, .pick (.slot 33) (.const (.bool true)) (.slot 40)⟩ ::
  ⟨some 42, none, .mov (.slot 41)⟩ ::
  ⟨some 43, some (42, false), .faddr 5 (.slot 2)⟩ ::
  ⟨some 44, some (42, false), .load false 1 (.slot 43)⟩ ::
  ⟨some 45, some (42, false), .len false (.slot 44)⟩ ::
  ⟨some 46, some (42, false), .faddr 5 (.slot 3)⟩ ::
  ⟨some 47, some (42, false), .load false 1 (.slot 46)⟩ ::
  ⟨some 48, some (42, false), .len false (.slot 47)⟩ ::
  ⟨some 49, some (42, false), .bin .neq (.slot 45) (.slot 48)⟩ ::
  ⟨some 50, none, .pick (.slot 42) (.const (.bool true)) (.slot 49)⟩ :: []
def q12R2 : List AOper := [⟨some 4, none, .mov (.const (.bool false))⟩]
def q12R3 : List AOper := [⟨some 5, none, .mov (.const (.int .i64 0))⟩]
def q12R4 : List AOper := [⟨some 51, none, .mov (.slot 5)⟩,
  ⟨some 52, none, .faddr 4 (.slot 2)⟩,
  ⟨some 53, none, .load false 1 (.slot 52)⟩,
  ⟨some 54, none, .len false (.slot 53)⟩,
  ⟨some 55, none, .bin .lss (.slot 51) (.slot 54)⟩]
def q12R6 : List AOper := [⟨some 58, none, .faddr 4 (.slot 2)⟩,
  ⟨some 59, none, .load false 1 (.slot 58)⟩,
  ⟨some 60, none, .mov (.slot 5)⟩,
  ⟨some 61, none, .idx 1 (.slot 59) (.slot 60)⟩,
  ⟨some 62, none, .load false 1 (.slot 61)⟩,
  ⟨some 63, none, .faddr 4 (.slot 3)⟩,
  ⟨some 64, none, .load false 1 (.slot 63)⟩,
  ⟨some 65, none, .mov (.slot 5)⟩,
  ⟨some 66, none, .idx 1 (.slot 64) (.slot 65)⟩,
  ⟨some 67, none, .load false 1 (.slot 66)⟩,
  ⟨some 68, none, .bin .neq (.slot 62) (.slot 67)⟩]
def q12R7 : List AOper := [⟨some 4, none, .mov (.const (.bool false))⟩]
def q12R5 : List AOper := [⟨some 56, none, .mov (.slot 5)⟩,
  ⟨some 57, none, .bin .add (.slot 56) (.const (.int .i64 1))⟩,
  ⟨some 5, none, .mov (.slot 57)⟩]
def c_ref11_Same_L0 : ACode := (.seq (.seq (.region q12R4 false [2, 3, 5, 55]) (.cond (.slot 55) .skip (.exit 0))) (.seq (.block 1 (.seq (.region q12R6 true [2, 3, 5, 68]) (.cond (.slot 68) (.seq (.region q12R7 false [4]) .ret) .skip))) (.region q12R5 false [2, 3, 5])))
def lp_ref11_Same_0 : ACode := .loop [2, 3, 5] c_ref11_Same_L0
def q12R8 : List AOper := [⟨some 6, none, .mov (.const (.int .i64 0))⟩]
def q12R9 : List AOper := [⟨some 69, none, .mov (.slot 6)⟩,
  ⟨some 70, none, .faddr 5 (.slot 2)⟩,
  ⟨some 71, none, .load false 1 (.slot 70)⟩,
  ⟨some 72, none, .len false (.slot 71)⟩,
  ⟨some 73, none, .bin .lss (.slot 69) (.slot 72)⟩]
def q12R11 : List AOper := [⟨some 76, none, .faddr 5 (.slot 2)⟩,
  ⟨some 77, none, .load false 1 (.slot 76)⟩,
  ⟨some 78, none, .mov (.slot 6)⟩,
  ⟨some 79, none, .idx 1 (.slot 77) (.slot 78)⟩,
  ⟨some 80, none, .load false 1 (.slot 79)⟩,
  ⟨some 81, none, .faddr 5 (.slot 3)⟩,
  ⟨some 82, none, .load false 1 (.slot 81)⟩,
  ⟨some 83, none, .mov (.slot 6)⟩,
  ⟨some 84, none, .idx 1 (.slot 82) (.slot 83)⟩,
  ⟨some 85, none, .load false 1 (.slot 84)⟩,
  ⟨some 86, none, .bin .neq (.slot 80) (.slot 85)⟩]
def q12R12 : List AOper := [⟨some 4, none, .mov (.const (.bool false))⟩]
def q12R10 : List AOper := [⟨some 74, none, .mov (.slot 6)⟩,
  ⟨some 75, none, .bin .add (.slot 74) (.const (.int .i64 1))⟩,
  ⟨some 6, none, .mov (.slot 75)⟩]
def c_ref11_Same_L1 : ACode := (.seq (.seq (.region q12R9 false [2, 3, 6, 73]) (.cond (.slot 73) .skip (.exit 2))) (.seq (.block 3 (.seq (.region q12R11 true [2, 3, 6, 86]) (.cond (.slot 86) (.seq (.region q12R12 false [4]) .ret) .skip))) (.region q12R10 false [2, 3, 6])))
def lp_ref11_Same_1 : ACode := .loop [2, 3, 6] c_ref11_Same_L1
def q12R13 : List AOper := [⟨some 4, none, .mov (.const (.bool true))⟩]
def c_ref11_Same : AFn := ⟨(.seq (.region q12R0 false [2, 3]) (.seq (.seq (.region q12R1 false [2, 3, 50]) (.cond (.slot 50) (.seq (.region q12R2 false [4]) .ret) .skip)) (.seq (.seq (.region q12R3 false [2, 3, 5]) (.block 0 lp_ref11_Same_0)) (.seq (.seq (.region q12R8 false [2, 3, 6]) (.block 2 lp_ref11_Same_1)) (.seq (.region q12R13 false [4]) .ret))))), [.slot 4]⟩
/- oriel/orielref11.All -/
def q6R0 : List AOper := [⟨some 4, none, .mov (.const (.bool false))⟩]
def q6R1 : List AOper := [⟨some 6, none, .mov (.slot 0)⟩,
  ⟨some 7, none, .len false (.slot 6)⟩,
  ⟨some 8, none, .mov (.slot 1)⟩,
  ⟨some 9, none, .len false (.slot 8)⟩,
  ⟨some 10, none, .bin .neq (.slot 7) (.slot 9)⟩]
def q6R2 : List AOper := [⟨some 4, none, .mov (.const (.bool false))⟩]
def q6R3 : List AOper := [⟨some 5, none, .mov (.const (.int .i64 0))⟩]
def q6R4 : List AOper := [⟨some 11, none, .mov (.slot 5)⟩,
  ⟨some 12, none, .mov (.slot 0)⟩,
  ⟨some 13, none, .len false (.slot 12)⟩,
  ⟨some 14, none, .bin .lss (.slot 11) (.slot 13)⟩]
def q6R6 : List AOper := [⟨some 17, none, .mov (.slot 0)⟩,
  ⟨some 18, none, .mov (.slot 5)⟩,
  ⟨some 19, none, .idx 6 (.slot 17) (.slot 18)⟩,
  ⟨some 20, none, .load true 6 (.slot 19)⟩,
  ⟨some 21, none, .mov (.slot 1)⟩,
  ⟨some 22, none, .mov (.slot 5)⟩,
  ⟨some 23, none, .idx 6 (.slot 21) (.slot 22)⟩,
  ⟨some 24, none, .load true 6 (.slot 23)⟩,
  ⟨some 25, none, .call .frz n_ref11_Same [(.slot 20), (.slot 24)]⟩,
  ⟨some 26, none, .not (.slot 25)⟩]
def q6R7 : List AOper := [⟨some 4, none, .mov (.const (.bool false))⟩]
def q6R5 : List AOper := [⟨some 15, none, .mov (.slot 5)⟩,
  ⟨some 16, none, .bin .add (.slot 15) (.const (.int .i64 1))⟩,
  ⟨some 5, none, .mov (.slot 16)⟩]
def c_ref11_All_L0 : ACode := (.seq (.seq (.region q6R4 false [0, 1, 5, 14]) (.cond (.slot 14) .skip (.exit 0))) (.seq (.block 1 (.seq (.region q6R6 true [0, 1, 5, 26]) (.cond (.slot 26) (.seq (.region q6R7 false [4]) .ret) .skip))) (.region q6R5 false [0, 1, 5])))
def lp_ref11_All_0 : ACode := .loop [0, 1, 5] c_ref11_All_L0
def q6R8 : List AOper := [⟨some 4, none, .mov (.const (.bool true))⟩]
def c_ref11_All : AFn := ⟨(.seq (.region q6R0 false [0, 1]) (.seq (.seq (.region q6R1 false [0, 1, 10]) (.cond (.slot 10) (.seq (.region q6R2 false [4]) .ret) .skip)) (.seq (.seq (.region q6R3 false [0, 1, 5]) (.block 0 lp_ref11_All_0)) (.seq (.region q6R8 false [4]) .ret)))), [.slot 4]⟩
/- oriel/vt.New -/
def q17R0 : List AOper := [⟨some 0, none, .mov (.const .nilptr)⟩]
def q17R1 : List AOper := [⟨some 1, none, .build [.nilfn, .bool false, .bool false, .bool false, .bool false, .bool false, .int .i32 0, .str ⟨#[]⟩, .data false 1 [] true, .data false 1 [] true] []⟩,
  ⟨some 2, none, .box 10 (.slot 1)⟩,
  ⟨some 0, none, .mov (.slot 2)⟩]
def c_vt_New : AFn := ⟨(.seq (.region q17R0 false []) (.seq (.region q17R1 false [0]) .ret)), [.slot 0]⟩
/- oriel/vt.point -/
def q27R0 : List AOper := [⟨some 2, none, .mov (.const (.int .i32 0))⟩]
def q27R1 : List AOper := [⟨some 3, none, .mov (.slot 0)⟩,
  ⟨some 4, none, .bin .lss (.slot 3) (.const (.int .i32 0))⟩,
  ⟨some 5, none, .mov (.slot 4)⟩,
  ⟨some 6, some (5, false), .mov (.slot 0)⟩,
  ⟨some 7, some (5, false), .bin .gtr (.slot 6) (.const (.int .i32 1114111))⟩,
  ⟨some 8, none, .pick (.slot 5) (.const (.bool true)) (.slot 7)⟩,
  ⟨some 9, none, .mov (.slot 8)⟩,
  ⟨some 10, some (9, false), .mov (.slot 0)⟩,
  ⟨some 11, some (9, false), .bin .geq (.slot 10) (.const (.int .i32 55296))⟩,
  ⟨some 12, some (9, false), .mov (.slot 11)⟩,
  ⟨some 13, some (12, true), .mov (.slot 0)⟩,
  ⟨some 14, some (12, true), .bin .leq (.slot 13) (.const (.int .i32 57343))⟩,
  ⟨some 15, some (9, false), .pick (.slot 12) (.slot 14) (.const (.bool false))⟩,
  ⟨some 16, none, .pick (.slot 9) (.const (.bool true)) (.slot 15)⟩]
def q27R2 : List AOper := [⟨some 2, none, .mov (.const (.int .i32 65533))⟩]
def q27R3 : List AOper := [⟨some 17, none, .mov (.slot 0)⟩,
  ⟨some 2, none, .mov (.slot 17)⟩]
def c_vt_point : AFn := ⟨(.seq (.region q27R0 false [0]) (.seq (.seq (.region q27R1 false [0, 16]) (.cond (.slot 16) (.seq (.region q27R2 false [2]) .ret) .skip)) (.seq (.region q27R3 false [2]) .ret))), [.slot 2]⟩
/- oriel/vt.ground -/
def q26R0 : List AOper := [⟨some 2, none, .mov (.const (.data false 6 [] true))⟩]
def q26R1 : List AOper := [⟨some 4, none, .mov (.slot 0)⟩,
  ⟨some 5, none, .bin .eql (.slot 4) (.const (.int .i32 127))⟩,
  ⟨some 3, none, .mov (.slot 5)⟩]
def q26R2 : List AOper := [⟨some 2, none, .mov (.const (.data false 6 [] true))⟩]
def q26R3 : List AOper := [⟨some 7, none, .mov (.slot 0)⟩,
  ⟨some 8, none, .bin .lss (.slot 7) (.const (.int .i32 32))⟩,
  ⟨some 6, none, .mov (.slot 8)⟩]
def q26R4 : List AOper := [⟨some 9, none, .mov (.slot 0)⟩,
  ⟨some 10, none, .build [.int .i64 0, .int .i32 0, .int .i32 0, .str ⟨#[]⟩, .data false 1 [] true, .data false 1 [] true] [(0, 1, (.const (.int .i64 2))), (1, 1, (.slot 9))]⟩,
  ⟨some 11, none, .mkslice 6 1 [.int .i64 0, .int .i32 0, .int .i32 0, .str ⟨#[]⟩, .data false 1 [] true, .data false 1 [] true] [(0, (.slot 10))]⟩,
  ⟨some 2, none, .mov (.slot 11)⟩]
def q26R5 : List AOper := [⟨some 12, none, .mov (.slot 0)⟩,
  ⟨some 13, none, .build [.int .i64 0, .int .i32 0, .int .i32 0, .str ⟨#[]⟩, .data false 1 [] true, .data false 1 [] true] [(0, 1, (.const (.int .i64 1))), (1, 1, (.slot 12))]⟩,
  ⟨some 14, none, .mkslice 6 1 [.int .i64 0, .int .i32 0, .int .i32 0, .str ⟨#[]⟩, .data false 1 [] true, .data false 1 [] true] [(0, (.slot 13))]⟩,
  ⟨some 2, none, .mov (.slot 14)⟩]
def c_vt_ground : AFn := ⟨(.seq (.region q26R0 false [0]) (.seq (.block 0 (.seq (.region q26R1 false [0, 3]) (.cond (.slot 3) (.seq (.region q26R2 false [2]) .ret) (.seq (.region q26R3 false [0, 6]) (.cond (.slot 6) (.seq (.region q26R4 false [2]) .ret) .skip))))) (.seq (.region q26R5 false [2]) .ret))), [.slot 2]⟩
/- slices.Clone[[]rune,rune] -/
def q16R0 : List AOper := [⟨some 2, none, .mov (.const (.data false 1 [] true))⟩]
def q16R1 : List AOper := [⟨some 3, none, .mov (.slot 0)⟩,
  ⟨some 4, none, .isnil .ks false (.slot 3)⟩]
def q16R2 : List AOper := [⟨some 2, none, .mov (.const (.data false 1 [] true))⟩]
def q16R3 : List AOper := [⟨some 5, none, .mkslice 1 0 [.int .i32 0] []⟩,
  ⟨some 6, none, .mov (.slot 0)⟩,
  ⟨some 7, none, .append 1 4 (.slot 5) (.slot 6)⟩,
  ⟨some 2, none, .mov (.slot 7)⟩]
def c_slices_Clone_rune : AFn := ⟨(.seq (.region q16R0 false [0]) (.seq (.seq (.region q16R1 false [0, 4]) (.cond (.slot 4) (.seq (.region q16R2 false [2]) .ret) .skip)) (.seq (.region q16R3 false [2]) .ret))), [.slot 2]⟩
/- (*oriel/vt.Parser).end -/
def q22R0 : List AOper := [⟨some 2, none, .mov (.const (.data false 6 [] true))⟩]
def q22R1 : List AOper := [⟨some 3, none, .mov (.slot 0)⟩,
  ⟨some 4, none, .nilchk (.slot 3)⟩,
  ⟨some 5, none, .faddr 1 (.slot 4)⟩,
  ⟨some 6, none, .load false 1 (.slot 5)⟩,
  ⟨some 7, none, .not (.slot 6)⟩,
  ⟨some 8, none, .mov (.slot 7)⟩,
  ⟨some 9, some (8, false), .mov (.slot 0)⟩,
  ⟨some 10, some (8, false), .nilchk (.slot 9)⟩,
  ⟨some 11, some (8, false), .faddr 2 (.slot 10)⟩,
  ⟨some 12, some (8, false), .load false 1 (.slot 11)⟩,
  ⟨some 13, some (8, false), .not (.slot 12)⟩,
  ⟨some 14, none, .pick (.slot 8) (.const (.bool true)) (.slot 13)⟩]
def q22R2 : List AOper := [⟨some 2, none, .mov (.const (.data false 6 [] true))⟩]
def q22R3 : List AOper := [⟨some 15, none, .mov (.slot 0)⟩,
  ⟨some 16, none, .nilchk (.slot 15)⟩,
  ⟨some 17, none, .faddr 9 (.slot 16)⟩,
  ⟨some 18, none, .load false 1 (.slot 17)⟩,
  ⟨some 19, none, .call .adp n_slices_Clone_rune [(.slot 18)]⟩,
  ⟨some 20, none, .build [.int .i64 0, .int .i32 0, .int .i32 0, .str ⟨#[]⟩, .data false 1 [] true, .data false 1 [] true] [(0, 1, (.const (.int .i64 5))), (5, 1, (.slot 19))]⟩,
  ⟨some 21, none, .mkslice 6 1 [.int .i64 0, .int .i32 0, .int .i32 0, .str ⟨#[]⟩, .data false 1 [] true, .data false 1 [] true] [(0, (.slot 20))]⟩,
  ⟨some 2, none, .mov (.slot 21)⟩]
def c_vt_Parser_end : AFn := ⟨(.seq (.region q22R0 false [0]) (.seq (.seq (.region q22R1 false [0, 14]) (.cond (.slot 14) (.seq (.region q22R2 false [2]) .ret) .skip)) (.seq (.region q22R3 false [2]) .ret))), [.slot 2]⟩
/- (*oriel/vt.Parser).between -/
def q21R0 : List AOper := [⟨some 4, none, .mov (.slot 0)⟩,
  ⟨some 5, none, .nilchk (.slot 4)⟩,
  ⟨some 6, none, .faddr 7 (.slot 5)⟩,
  ⟨some 7, none, .load false 1 (.slot 6)⟩,
  ⟨some 8, none, .len true (.slot 7)⟩,
  ⟨some 9, none, .bin .eql (.slot 8) (.const (.int .i64 2))⟩]
def q21R1 : List AOper := [⟨some 10, none, .mov (.slot 0)⟩,
  ⟨some 11, none, .nilchk (.slot 10)⟩,
  ⟨some 12, none, .faddr 4 (.slot 11)⟩,
  ⟨none, none, .store false 1 (.slot 12) (.const (.bool true))⟩]
def q21R2 : List AOper := [⟨some 13, none, .mov (.slot 0)⟩,
  ⟨some 14, none, .nilchk (.slot 13)⟩,
  ⟨some 15, none, .faddr 7 (.slot 14)⟩,
  ⟨some 16, none, .load false 1 (.slot 15)⟩,
  ⟨some 17, none, .mov (.slot 1)⟩,
  ⟨some 18, none, .rstr (.slot 17)⟩,
  ⟨some 19, none, .bin .add (.slot 16) (.slot 18)⟩,
  ⟨some 20, none, .nilchk (.slot 13)⟩,
  ⟨some 21, none, .faddr 7 (.slot 20)⟩,
  ⟨none, none, .store false 1 (.slot 21) (.slot 19)⟩]
def c_vt_Parser_between : AFn := ⟨(.seq (.seq (.region q21R0 false [0, 1, 9]) (.cond (.slot 9) (.seq (.region q21R1 false []) .ret) .skip)) (.region q21R2 false [])), []⟩
/- (*oriel/vt.Parser).param -/
def q24R0 : List AOper := [⟨some 5, none, .mov (.slot 0)⟩,
  ⟨some 6, none, .nilchk (.slot 5)⟩,
  ⟨some 7, none, .faddr 5 (.slot 6)⟩,
  ⟨some 8, none, .load false 1 (.slot 7)⟩,
  ⟨some 9, none, .not (.slot 8)⟩]
def q24R1 : List AOper := [⟨some 10, none, .mov (.slot 0)⟩,
  ⟨some 11, none, .mov (.slot 0)⟩,
  ⟨some 12, none, .mkslice 1 1 [.int .i64 0] [(0, (.const (.int .i64 0)))]⟩,
  ⟨some 13, none, .nilchk (.slot 10)⟩,
  ⟨some 14, none, .faddr 5 (.slot 13)⟩,
  ⟨none, none, .store false 1 (.slot 14) (.const (.bool true))⟩,
  ⟨some 15, none, .nilchk (.slot 11)⟩,
  ⟨some 16, none, .faddr 8 (.slot 15)⟩,
  ⟨none, none, .store false 1 (.slot 16) (.slot 12)⟩]
def q24R2 : List AOper := [⟨some 17, none, .mov (.slot 0)⟩,
  ⟨some 18, none, .nilchk (.slot 17)⟩,
  ⟨some 19, none, .faddr 8 (.slot 18)⟩,
  ⟨some 20, none, .load false 1 (.slot 19)⟩,
  ⟨some 21, none, .len false (.slot 20)⟩,
  ⟨some 22, none, .bin .sub (.slot 21) (.const (.int .i64 1))⟩,
  ⟨some 4, none, .mov (.slot 22)⟩]
def q24R3 : List AOper := [⟨some 24, none, .mov (.slot 1)⟩,
  ⟨some 25, none, .bin .neq (.slot 24) (.const (.int .i32 59))⟩,
  ⟨some 23, none, .mov (.slot 25)⟩]
def q24R4 : List AOper := [⟨some 26, none, .mov (.slot 0)⟩,
  ⟨some 27, none, .nilchk (.slot 26)⟩,
  ⟨some 28, none, .faddr 8 (.slot 27)⟩,
  ⟨some 29, none, .load false 1 (.slot 28)⟩,
  ⟨some 30, none, .mov (.slot 4)⟩,
  ⟨some 31, none, .mov (.slot 0)⟩,
  ⟨some 32, none, .nilchk (.slot 31)⟩,
  ⟨some 33, none, .faddr 8 (.slot 32)⟩,
  ⟨some 34, none, .load false 1 (.slot 33)⟩,
  ⟨some 35, none, .mov (.slot 4)⟩,
  ⟨some 36, none, .idx 1 (.slot 34) (.slot 35)⟩,
  ⟨some 37, none, .load false 1 (.slot 36)⟩,
  ⟨some 38, none, .bin .mul (.const (.int .i64 10)) (.slot 37)⟩,
  ⟨some 39, none, .mov (.slot 1)⟩,
  ⟨some 40, none, .bin .sub (.slot 39) (.const (.int .i32 48))⟩,
  ⟨some 41, none, .conv .i64 (.slot 40)⟩,
  ⟨some 42, none, .bin .add (.slot 38) (.slot 41)⟩,
  ⟨some 43, none, .min (.slot 42) (.const (.int .i64 9999))⟩,
  ⟨some 44, none, .idx 1 (.slot 29) (.slot 30)⟩,
  ⟨none, none, .store false 1 (.slot 44) (.slot 43)⟩]
def q24R5 : List AOper := [⟨some 46, none, .mov (.slot 4)⟩,
  ⟨some 47, none, .bin .lss (.slot 46) (.const (.int .i64 16))⟩,
  ⟨some 45, none, .mov (.slot 47)⟩]
def q24R6 : List AOper := [⟨some 48, none, .mov (.slot 0)⟩,
  ⟨some 49, none, .mov (.slot 0)⟩,
  ⟨some 50, none, .nilchk (.slot 49)⟩,
  ⟨some 51, none, .faddr 8 (.slot 50)⟩,
  ⟨some 52, none, .load false 1 (.slot 51)⟩,
  ⟨some 53, none, .mkslice 1 1 [.int .i64 0] [(0, (.const (.int .i64 0)))]⟩,
  ⟨some 54, none, .append 1 8 (.slot 52) (.slot 53)⟩,
  ⟨some 55, none, .nilchk (.slot 48)⟩,
  ⟨some 56, none, .faddr 8 (.slot 55)⟩,
  ⟨none, none, .store false 1 (.slot 56) (.slot 54)⟩]
def c_vt_Parser_param : AFn := ⟨(.seq (.seq (.region q24R0 false [0, 1, 9]) (.cond (.slot 9) (.region q24R1 false [0, 1]) .skip)) (.seq (.region q24R2 false [0, 1, 4]) (.block 0 (.seq (.region q24R3 false [0, 1, 4, 23]) (.cond (.slot 23) (.region q24R4 true []) (.seq (.region q24R5 false [0, 45]) (.cond (.slot 45) (.region q24R6 false []) .skip))))))), []⟩
/- oriel/vt.sequence -/
def q28R0 : List AOper := [⟨some 4, none, .mov (.const (.data false 6 [] true))⟩]
def q28R1 : List AOper := [⟨some 8, none, .mov (.slot 0)⟩,
  ⟨some 9, none, .nilchk (.slot 8)⟩,
  ⟨some 10, none, .faddr 3 (.slot 9)⟩,
  ⟨some 11, none, .load false 1 (.slot 10)⟩,
  ⟨some 5, none, .mov (.slot 11)⟩]
def q28R2 : List AOper := [⟨some 12, none, .mov (.slot 0)⟩,
  ⟨some 13, none, .nilchk (.slot 12)⟩,
  ⟨some 14, none, .faddr 3 (.slot 13)⟩,
  ⟨none, none, .store false 1 (.slot 14) (.const (.bool false))⟩]
def q28R3 : List AOper := [⟨some 16, none, .mov (.slot 1)⟩,
  ⟨some 17, none, .bin .lss (.slot 16) (.const (.int .i32 48))⟩,
  ⟨some 15, none, .mov (.slot 17)⟩]
def q28R4 : List AOper := [⟨some 18, none, .mov (.slot 0)⟩,
  ⟨some 19, none, .mov (.slot 1)⟩,
  ⟨some 20, none, .call .inl n_vt_Parser_between [(.slot 18), (.slot 19)]⟩]
def q28R5 : List AOper := [⟨some 4, none, .mov (.const (.data false 6 [] true))⟩]
def q28R6 : List AOper := [⟨some 22, none, .mov (.slot 1)⟩,
  ⟨some 23, none, .bin .geq (.slot 22) (.const (.int .i32 60))⟩,
  ⟨some 24, none, .mov (.slot 23)⟩,
  ⟨some 25, some (24, true), .mov (.slot 1)⟩,
  ⟨some 26, some (24, true), .bin .lss (.slot 25) (.const (.int .i32 64))⟩,
  ⟨some 27, none, .pick (.slot 24) (.slot 26) (.const (.bool false))⟩,
  ⟨some 28, none, .mov (.slot 27)⟩,
  ⟨some 29, some (28, true), .mov (.slot 5)⟩,
  ⟨some 30, none, .pick (.slot 28) (.slot 29) (.const (.bool false))⟩,
  ⟨some 21, none, .mov (.slot 30)⟩]
def q28R7 : List AOper := [⟨some 31, none, .mov (.slot 0)⟩,
  ⟨some 32, none, .mov (.slot 1)⟩,
  ⟨some 33, none, .nilchk (.slot 31)⟩,
  ⟨some 34, none, .faddr 6 (.slot 33)⟩,
  ⟨none, none, .store false 1 (.slot 34) (.slot 32)⟩]
def q28R8 : List AOper := [⟨some 4, none, .mov (.const (.data false 6 [] true))⟩]
def q28R9 : List AOper := [⟨some 36, none, .mov (.slot 1)⟩,
  ⟨some 37, none, .bin .eql (.slot 36) (.const (.int .i32 58))⟩,
  ⟨some 38, none, .mov (.slot 37)⟩,
  ⟨some 39, some (38, false), .mov (.slot 1)⟩,
  ⟨some 40, some (38, false), .bin .geq (.slot 39) (.const (.int .i32 60))⟩,
  ⟨some 41, some (38, false), .mov (.slot 40)⟩,
  ⟨some 42, some (41, true), .mov (.slot 1)⟩,
  ⟨some 43, some (41, true), .bin .lss (.slot 42) (.const (.int .i32 64))⟩,
  ⟨some 44, some (38, false), .pick (.slot 41) (.slot 43) (.const (.bool false))⟩,
  ⟨some 45, none, .pick (.slot 38) (.const (.bool true)) (.slot 44)⟩,
  ⟨some 46, none, .mov (.slot 45)⟩,
  ⟨some 47, some (46, false), .mov (.slot 1)⟩,
  ⟨some 48, some (46, false), .bin .lss (.slot 47) (.const (.int .i32 64))⟩,
  ⟨some 49, some (46, false), .mov (.slot 48)⟩,
  ⟨some 50, some (49, true), .mov (.slot 0)⟩,
  ⟨some 51, some (49, true), .nilchk (.slot 50)⟩,
  ⟨some 52, some (49, true), .faddr 7 (.slot 51)⟩,
  ⟨some 53, some (49, true), .load false 1 (.slot 52)⟩,
  ⟨some 54, some (49, true), .eq false [.ks] true (.slot 53) (.const (.str ⟨#[]⟩))⟩,
  ⟨some 55, some (46, false), .pick (.slot 49) (.slot 54) (.const (.bool false))⟩,
  ⟨some 56, none, .pick (.slot 46) (.const (.bool true)) (.slot 55)⟩,
  ⟨some 35, none, .mov (.slot 56)⟩]
def q28R10 : List AOper := [⟨some 57, none, .mov (.slot 0)⟩,
  ⟨some 58, none, .nilchk (.slot 57)⟩,
  ⟨some 59, none, .faddr 4 (.slot 58)⟩,
  ⟨none, none, .store false 1 (.slot 59) (.const (.bool true))⟩]
def q28R11 : List AOper := [⟨some 4, none, .mov (.const (.data false 6 [] true))⟩]
def q28R12 : List AOper := [⟨some 61, none, .mov (.slot 1)⟩,
  ⟨some 62, none, .bin .lss (.slot 61) (.const (.int .i32 64))⟩,
  ⟨some 60, none, .mov (.slot 62)⟩]
def q28R13 : List AOper := [⟨some 63, none, .mov (.slot 0)⟩,
  ⟨some 64, none, .mov (.slot 1)⟩,
  ⟨some 65, none, .call .inl n_vt_Parser_param [(.slot 63), (.slot 64)]⟩]
def q28R14 : List AOper := [⟨some 4, none, .mov (.const (.data false 6 [] true))⟩]
def q28R15 : List AOper := [⟨some 66, none, .mov (.slot 1)⟩,
  ⟨some 67, none, .mov (.slot 0)⟩,
  ⟨some 68, none, .nilchk (.slot 67)⟩,
  ⟨some 69, none, .faddr 6 (.slot 68)⟩,
  ⟨some 70, none, .load false 1 (.slot 69)⟩,
  ⟨some 71, none, .mov (.slot 0)⟩,
  ⟨some 72, none, .nilchk (.slot 71)⟩,
  ⟨some 73, none, .faddr 7 (.slot 72)⟩,
  ⟨some 74, none, .load false 1 (.slot 73)⟩,
  ⟨some 75, none, .mov (.slot 0)⟩,
  ⟨some 76, none, .nilchk (.slot 75)⟩,
  ⟨some 77, none, .faddr 8 (.slot 76)⟩,
  ⟨some 78, none, .load false 1 (.slot 77)⟩,
  ⟨some 79, none, .mov (.slot 0)⟩,
  ⟨some 80, none, .nilchk (.slot 79)⟩,
  ⟨some 81, none, .faddr 8 (.slot 80)⟩,
  ⟨some 82, none, .load false 1 (.slot 81)⟩,
  ⟨some 83, none, .len false (.slot 82)⟩,
  ⟨some 84, none, .min (.slot 83) (.const (.int .i64 16))⟩,
  ⟨some 85, none, .sl 1 (.slot 78) none (some (.slot 84)) none⟩,
  ⟨some 86, none, .build [.int .i64 0, .int .i32 0, .int .i32 0, .str ⟨#[]⟩, .data false 1 [] true, .data false 1 [] true] [(0, 1, (.const (.int .i64 4))), (1, 1, (.slot 66)), (2, 1, (.slot 70)), (3, 1, (.slot 74)), (4, 1, (.slot 85))]⟩,
  ⟨some 6, none, .alloc [.int .i64 0, .int .i32 0, .int .i32 0, .str ⟨#[]⟩, .data false 1 [] true, .data false 1 [] true]⟩,
  ⟨none, none, .store true 6 (.slot 6) (.slot 86)⟩]
def q28R16 : List AOper := [⟨some 87, none, .mov (.slot 0)⟩,
  ⟨some 88, none, .nilchk (.slot 87)⟩,
  ⟨some 89, none, .faddr 4 (.slot 88)⟩,
  ⟨some 90, none, .load false 1 (.slot 89)⟩,
  ⟨some 7, none, .mov (.slot 90)⟩]
def q28R17 : List AOper := [⟨some 91, none, .mov (.slot 0)⟩,
  ⟨some 92, none, .build [.nilfn, .bool false, .bool false, .bool false, .bool false, .bool false, .int .i32 0, .str ⟨#[]⟩, .data false 1 [] true, .data false 1 [] true] []⟩,
  ⟨some 93, none, .nilchk (.slot 91)⟩,
  ⟨none, none, .store true 10 (.slot 93) (.slot 92)⟩]
def q28R18 : List AOper := [⟨some 94, none, .mov (.slot 7)⟩]
def q28R19 : List AOper := [⟨some 4, none, .mov (.const (.data false 6 [] true))⟩]
def q28R20 : List AOper := [⟨some 95, none, .load true 6 (.slot 6)⟩,
  ⟨some 96, none, .mkslice 6 1 [.int .i64 0, .int .i32 0, .int .i32 0, .str ⟨#[]⟩, .data false 1 [] true, .data false 1 [] true] [(0, (.slot 95))]⟩,
  ⟨some 4, none, .mov (.slot 96)⟩]
def c_vt_sequence : AFn := ⟨(.seq (.region q28R0 false [0, 1]) (.seq (.region q28R1 false [0, 1, 5]) (.seq (.region q28R2 false [0, 1, 5]) (.seq (.block 0 (.seq (.region q28R3 false [0, 1, 5, 15]) (.cond (.slot 15) (.seq (.region q28R4 false []) (.seq (.region q28R5 false [4]) .ret)) (.seq (.region q28R6 false [0, 1, 21]) (.cond (.slot 21) (.seq (.region q28R7 false []) (.seq (.region q28R8 false [4]) .ret)) (.seq (.region q28R9 false [0, 1, 35]) (.cond (.slot 35) (.seq (.region q28R10 false []) (.seq (.region q28R11 false [4]) .ret)) (.seq (.region q28R12 false [0, 1, 60]) (.cond (.slot 60) (.seq (.region q28R13 false []) (.seq (.region q28R14 false [4]) .ret)) .skip))))))))) (.seq (.region q28R15 true [0, 6]) (.seq (.region q28R16 false [0, 6, 7]) (.seq (.region q28R17 false [6, 7]) (.seq (.seq (.region q28R18 false [6, 94]) (.cond (.slot 94) (.seq (.region q28R19 false [4]) .ret) .skip)) (.seq (.region q28R20 false [4]) .ret))))))))), [.slot 4]⟩
/- oriel/vt.text -/
def q29R0 : List AOper := [⟨some 4, none, .mov (.const (.data false 6 [] true))⟩]
def q29R1 : List AOper := [⟨some 7, none, .mov (.slot 1)⟩,
  ⟨some 8, none, .bin .eql (.slot 7) (.const (.int .i32 7))⟩,
  ⟨some 6, none, .mov (.slot 8)⟩]
def q29R2 : List AOper := [⟨some 9, none, .mov (.slot 0)⟩,
  ⟨some 10, none, .call .inl n_vt_Parser_end [(.slot 9)]⟩,
  ⟨some 5, none, .mov (.slot 10)⟩]
def q29R3 : List AOper := [⟨some 11, none, .mov (.slot 0)⟩,
  ⟨some 12, none, .build [.nilfn, .bool false, .bool false, .bool false, .bool false, .bool false, .int .i32 0, .str ⟨#[]⟩, .data false 1 [] true, .data false 1 [] true] []⟩,
  ⟨some 13, none, .nilchk (.slot 11)⟩,
  ⟨none, none, .store true 10 (.slot 13) (.slot 12)⟩]
def q29R4 : List AOper := [⟨some 14, none, .mov (.slot 5)⟩,
  ⟨some 4, none, .mov (.slot 14)⟩]
def q29R5 : List AOper := [⟨some 16, none, .mov (.slot 1)⟩,
  ⟨some 17, none, .bin .geq (.slot 16) (.const (.int .i32 32))⟩,
  ⟨some 18, none, .mov (.slot 17)⟩,
  ⟨some 19, some (18, true), .mov (.slot 1)⟩,
  ⟨some 20, some (18, true), .bin .neq (.slot 19) (.const (.int .i32 127))⟩,
  ⟨some 21, none, .pick (.slot 18) (.slot 20) (.const (.bool false))⟩,
  ⟨some 22, none, .mov (.slot 21)⟩,
  ⟨some 23, some (22, true), .mov (.slot 0)⟩,
  ⟨some 24, some (22, true), .nilchk (.slot 23)⟩,
  ⟨some 25, some (22, true), .faddr 9 (.slot 24)⟩,
  ⟨some 26, some (22, true), .load false 1 (.slot 25)⟩,
  ⟨some 27, some (22, true), .len false (.slot 26)⟩,
  ⟨some 28, some (22, true), .bin .lss (.slot 27) (.const (.int .i64 64))⟩,
  ⟨some 29, none, .pick (.slot 22) (.slot 28) (.const (.bool false))⟩,
  ⟨some 15, none, .mov (.slot 29)⟩]
def q29R6 : List AOper := [⟨some 30, none, .mov (.slot 0)⟩,
  ⟨some 31, none, .mov (.slot 0)⟩,
  ⟨some 32, none, .nilchk (.slot 31)⟩,
  ⟨some 33, none, .faddr 9 (.slot 32)⟩,
  ⟨some 34, none, .load false 1 (.slot 33)⟩,
  ⟨some 35, none, .mov (.slot 1)⟩,
  ⟨some 36, none, .mkslice 1 1 [.int .i32 0] [(0, (.slot 35))]⟩,
  ⟨some 37, none, .append 1 4 (.slot 34) (.slot 36)⟩,
  ⟨some 38, none, .nilchk (.slot 30)⟩,
  ⟨some 39, none, .faddr 9 (.slot 38)⟩,
  ⟨none, none, .store false 1 (.slot 39) (.slot 37)⟩]
def q29R7 : List AOper := [⟨some 4, none, .mov (.const (.data false 6 [] true))⟩]
def c_vt_text : AFn := ⟨(.seq (.region q29R0 false [0, 1]) (.seq (.block 0 (.seq (.region q29R1 false [0, 1, 6]) (.cond (.slot 6) (.seq (.region q29R2 false [0, 5]) (.seq (.region q29R3 false [5]) (.seq (.region q29R4 false [4]) .ret))) (.seq (.region q29R5 false [0, 1, 15]) (.cond (.slot 15) (.region q29R6 false []) .skip))))) (.seq (.region q29R7 false [4]) .ret))), [.slot 4]⟩
/- oriel/vt.escape -/
def q25R0 : List AOper := [⟨some 4, none, .mov (.const (.data false 6 [] true))⟩]
def q25R1 : List AOper := [⟨some 7, none, .mov (.slot 1)⟩,
  ⟨some 8, none, .bin .lss (.slot 7) (.const (.int .i32 48))⟩]
def q25R2 : List AOper := [⟨some 9, none, .mov (.slot 0)⟩,
  ⟨some 10, none, .mov (.slot 1)⟩,
  ⟨some 11, none, .call .inl n_vt_Parser_between [(.slot 9), (.slot 10)]⟩]
def q25R3 : List AOper := [⟨some 4, none, .mov (.const (.data false 6 [] true))⟩]
def q25R4 : List AOper := [⟨some 12, none, .mov (.slot 0)⟩,
  ⟨some 13, none, .nilchk (.slot 12)⟩,
  ⟨some 14, none, .faddr 7 (.slot 13)⟩,
  ⟨some 15, none, .load false 1 (.slot 14)⟩,
  ⟨some 16, none, .eq false [.ks] false (.slot 15) (.const (.str ⟨#[]⟩))⟩]
def q25R5 : List AOper := [⟨some 17, none, .mov (.slot 1)⟩]
def q25R6 : List AOper := [⟨some 19, none, .bin .eql (.slot 17) (.const (.int .i32 91))⟩,
  ⟨some 18, none, .mov (.slot 19)⟩]
def q25R7 : List AOper := [⟨some 21, none, .bin .eql (.slot 17) (.const (.int .i32 93))⟩,
  ⟨some 20, none, .mov (.slot 21)⟩]
def q25R8 : List AOper := [⟨some 23, none, .bin .eql (.slot 17) (.const (.int .i32 80))⟩,
  ⟨some 22, none, .mov (.slot 23)⟩]
def q25R9 : List AOper := [⟨some 24, none, .bin .eql (.slot 17) (.const (.int .i32 88))⟩,
  ⟨some 22, none, .mov (.slot 24)⟩]
def q25R10 : List AOper := [⟨some 25, none, .bin .eql (.slot 17) (.const (.int .i32 94))⟩,
  ⟨some 22, none, .mov (.slot 25)⟩]
def q25R11 : List AOper := [⟨some 26, none, .bin .eql (.slot 17) (.const (.int .i32 95))⟩,
  ⟨some 22, none, .mov (.slot 26)⟩]
def q25R12 : List AOper := [⟨some 27, none, .mov (.slot 0)⟩,
  ⟨some 28, none, .build [.nilfn, .bool false, .bool false, .bool false, .bool false, .bool false, .int .i32 0, .str ⟨#[]⟩, .data false 1 [] true, .data false 1 [] true] [(0, 1, (.func n_vt_sequence)), (3, 1, (.const (.bool true)))]⟩,
  ⟨some 29, none, .nilchk (.slot 27)⟩,
  ⟨none, none, .store true 10 (.slot 29) (.slot 28)⟩]
def q25R13 : List AOper := [⟨some 4, none, .mov (.const (.data false 6 [] true))⟩]
def q25R14 : List AOper := [⟨some 30, none, .mov (.slot 0)⟩,
  ⟨some 31, none, .nilchk (.slot 30)⟩,
  ⟨some 32, none, .faddr 2 (.slot 31)⟩,
  ⟨none, none, .store false 1 (.slot 32) (.const (.bool true))⟩]
def q25R15 : List AOper := [⟨some 33, none, .mov (.slot 0)⟩,
  ⟨some 34, none, .mov (.slot 0)⟩,
  ⟨some 35, none, .nilchk (.slot 34)⟩,
  ⟨some 36, none, .faddr 2 (.slot 35)⟩,
  ⟨some 37, none, .load false 1 (.slot 36)⟩,
  ⟨some 38, none, .build [.nilfn, .bool false, .bool false, .bool false, .bool false, .bool false, .int .i32 0, .str ⟨#[]⟩, .data false 1 [] true, .data false 1 [] true] [(0, 1, (.func n_vt_text)), (1, 1, (.const (.bool true))), (2, 1, (.slot 37))]⟩,
  ⟨some 39, none, .nilchk (.slot 33)⟩,
  ⟨none, none, .store true 10 (.slot 39) (.slot 38)⟩]
def q25R16 : List AOper := [⟨some 4, none, .mov (.const (.data false 6 [] true))⟩]
def q25R17 : List AOper := [⟨some 40, none, .mov (.slot 1)⟩,
  ⟨some 41, none, .mov (.slot 0)⟩,
  ⟨some 42, none, .nilchk (.slot 41)⟩,
  ⟨some 43, none, .faddr 7 (.slot 42)⟩,
  ⟨some 44, none, .load false 1 (.slot 43)⟩,
  ⟨some 45, none, .build [.int .i64 0, .int .i32 0, .int .i32 0, .str ⟨#[]⟩, .data false 1 [] true, .data false 1 [] true] [(0, 1, (.const (.int .i64 3))), (1, 1, (.slot 40)), (3, 1, (.slot 44))]⟩,
  ⟨some 5, none, .alloc [.int .i64 0, .int .i32 0, .int .i32 0, .str ⟨#[]⟩, .data false 1 [] true, .data false 1 [] true]⟩,
  ⟨none, none, .store true 6 (.slot 5) (.slot 45)⟩]
def q25R18 : List AOper := [⟨some 46, none, .mov (.slot 0)⟩,
  ⟨some 47, none, .nilchk (.slot 46)⟩,
  ⟨some 48, none, .faddr 4 (.slot 47)⟩,
  ⟨some 49, none, .load false 1 (.slot 48)⟩,
  ⟨some 6, none, .mov (.slot 49)⟩]
def q25R19 : List AOper := [⟨some 50, none, .mov (.slot 0)⟩,
  ⟨some 51, none, .build [.nilfn, .bool false, .bool false, .bool false, .bool false, .bool false, .int .i32 0, .str ⟨#[]⟩, .data false 1 [] true, .data false 1 [] true] []⟩,
  ⟨some 52, none, .nilchk (.slot 50)⟩,
  ⟨none, none, .store true 10 (.slot 52) (.slot 51)⟩]
def q25R20 : List AOper := [⟨some 53, none, .mov (.slot 6)⟩]
def q25R21 : List AOper := [⟨some 4, none, .mov (.const (.data false 6 [] true))⟩]
def q25R22 : List AOper := [⟨some 54, none, .load true 6 (.slot 5)⟩,
  ⟨some 55, none, .mkslice 6 1 [.int .i64 0, .int .i32 0, .int .i32 0, .str ⟨#[]⟩, .data false 1 [] true, .data false 1 [] true] [(0, (.slot 54))]⟩,
  ⟨some 4, none, .mov (.slot 55)⟩]
def c_vt_escape : AFn := ⟨(.seq (.region q25R0 false [0, 1]) (.seq (.seq (.region q25R1 false [0, 1, 8]) (.cond (.slot 8) (.seq (.region q25R2 false []) (.seq (.region q25R3 false [4]) .ret)) .skip)) (.seq (.seq (.region q25R4 false [0, 1, 16]) (.cond (.slot 16) (.seq (.region q25R5 false [0, 1, 17]) (.block 0 (.seq (.block 3 (.seq (.block 2 (.seq (.block 1 (.seq (.seq (.seq (.region q25R6 false [0, 1, 17, 18]) (.cond (.slot 18) (.exit 1) .skip)) (.seq (.seq (.region q25R7 false [0, 1, 17, 20]) (.cond (.slot 20) (.exit 2) .skip)) (.seq (.seq (.region q25R8 false [0, 1, 17, 22]) (.cond (.slot 22) .skip (.seq (.region q25R9 false [0, 1, 17, 22]) (.cond (.slot 22) .skip (.seq (.region q25R10 false [0, 1, 17, 22]) (.cond (.slot 22) .skip (.region q25R11 false [0, 1, 22]))))))) (.cond (.slot 22) (.exit 3) .skip)))) (.exit 0))) (.seq (.seq (.region q25R12 false []) (.seq (.region q25R13 false [4]) .ret)) (.exit 0)))) (.region q25R14 false [0]))) (.seq (.seq (.region q25R15 false []) (.seq (.region q25R16 false [4]) .ret)) (.exit 0))))) .skip)) (.seq (.region q25R17 false [0, 5]) (.seq (.region q25R18 false [0, 5, 6]) (.seq (.region q25R19 false [5, 6]) (.seq (.seq (.region q25R20 false [5, 53]) (.cond (.slot 53) (.seq (.region q25R21 false [4]) .ret) .skip)) (.seq (.region q25R22 false [4]) .ret)))))))), [.slot 4]⟩
/- (*oriel/vt.Parser).one -/
def q23R0 : List AOper := [⟨some 4, none, .mov (.const (.data false 6 [] true))⟩]
def q23R1 : List AOper := [⟨some 7, none, .mov (.slot 0)⟩,
  ⟨some 8, none, .nilchk (.slot 7)⟩,
  ⟨some 9, none, .faddr 0 (.slot 8)⟩,
  ⟨some 10, none, .load false 1 (.slot 9)⟩,
  ⟨some 11, none, .isnil .kf false (.slot 10)⟩,
  ⟨some 12, none, .mov (.slot 11)⟩,
  ⟨some 13, some (12, true), .mov (.slot 1)⟩,
  ⟨some 14, some (12, true), .bin .neq (.slot 13) (.const (.int .i32 27))⟩,
  ⟨some 15, none, .pick (.slot 12) (.slot 14) (.const (.bool false))⟩,
  ⟨some 6, none, .mov (.slot 15)⟩]
def q23R2 : List AOper := [⟨some 17, none, .mov (.slot 1)⟩,
  ⟨some 18, none, .bin .eql (.slot 17) (.const (.int .i32 27))⟩,
  ⟨some 16, none, .mov (.slot 18)⟩]
def q23R3 : List AOper := [⟨some 20, none, .mov (.slot 1)⟩,
  ⟨some 21, none, .bin .eql (.slot 20) (.const (.int .i32 24))⟩,
  ⟨some 22, none, .mov (.slot 21)⟩,
  ⟨some 23, some (22, false), .mov (.slot 1)⟩,
  ⟨some 24, some (22, false), .bin .eql (.slot 23) (.const (.int .i32 26))⟩,
  ⟨some 25, none, .pick (.slot 22) (.const (.bool true)) (.slot 24)⟩,
  ⟨some 19, none, .mov (.slot 25)⟩]
def q23R4 : List AOper := [⟨some 27, none, .mov (.slot 0)⟩,
  ⟨some 28, none, .nilchk (.slot 27)⟩,
  ⟨some 29, none, .faddr 1 (.slot 28)⟩,
  ⟨some 30, none, .load false 1 (.slot 29)⟩,
  ⟨some 26, none, .mov (.slot 30)⟩]
def q23R5 : List AOper := [⟨some 32, none, .mov (.slot 1)⟩,
  ⟨some 33, none, .bin .geq (.slot 32) (.const (.int .i32 160))⟩,
  ⟨some 31, none, .mov (.slot 33)⟩]
def q23R6 : List AOper := [⟨some 35, none, .mov (.slot 1)⟩,
  ⟨some 36, none, .bin .lss (.slot 35) (.const (.int .i32 32))⟩,
  ⟨some 37, none, .mov (.slot 36)⟩,
  ⟨some 38, some (37, false), .mov (.slot 1)⟩,
  ⟨some 39, some (37, false), .bin .eql (.slot 38) (.const (.int .i32 127))⟩,
  ⟨some 40, none, .pick (.slot 37) (.const (.bool true)) (.slot 39)⟩,
  ⟨some 34, none, .mov (.slot 40)⟩]
def q23R7 : List AOper := [⟨some 41, none, .mov (.slot 1)⟩,
  ⟨some 42, none, .call .frz n_vt_ground [(.slot 41)]⟩,
  ⟨some 4, none, .mov (.slot 42)⟩]
def q23R8 : List AOper := [⟨some 43, none, .mov (.slot 0)⟩,
  ⟨some 44, none, .call .inl n_vt_Parser_end [(.slot 43)]⟩,
  ⟨some 5, none, .mov (.slot 44)⟩]
def q23R9 : List AOper := [⟨some 45, none, .mov (.slot 0)⟩,
  ⟨some 46, none, .build [.nilfn, .bool false, .bool false, .bool false, .bool false, .bool false, .int .i32 0, .str ⟨#[]⟩, .data false 1 [] true, .data false 1 [] true] [(0, 1, (.func n_vt_escape))]⟩,
  ⟨some 47, none, .nilchk (.slot 45)⟩,
  ⟨none, none, .store true 10 (.slot 47) (.slot 46)⟩]
def q23R10 : List AOper := [⟨some 48, none, .mov (.slot 5)⟩,
  ⟨some 4, none, .mov (.slot 48)⟩]
def q23R11 : List AOper := [⟨some 49, none, .mov (.slot 0)⟩,
  ⟨some 50, none, .build [.nilfn, .bool false, .bool false, .bool false, .bool false, .bool false, .int .i32 0, .str ⟨#[]⟩, .data false 1 [] true, .data false 1 [] true] []⟩,
  ⟨some 51, none, .nilchk (.slot 49)⟩,
  ⟨none, none, .store true 10 (.slot 51) (.slot 50)⟩]
def q23R12 : List AOper := [⟨some 52, none, .mov (.slot 1)⟩,
  ⟨some 53, none, .call .frz n_vt_ground [(.slot 52)]⟩,
  ⟨some 4, none, .mov (.slot 53)⟩]
def q23R13 : List AOper := [⟨some 54, none, .mov (.slot 0)⟩,
  ⟨some 55, none, .nilchk (.slot 54)⟩,
  ⟨some 56, none, .faddr 0 (.slot 55)⟩,
  ⟨some 57, none, .load false 1 (.slot 56)⟩,
  ⟨some 58, none, .mov (.slot 0)⟩,
  ⟨some 59, none, .mov (.slot 1)⟩,
  ⟨some 60, none, .callv (.slot 57) [(.slot 58), (.slot 59)]⟩,
  ⟨some 4, none, .mov (.slot 60)⟩]
def q23R14 : List AOper := [⟨some 61, none, .mov (.slot 0)⟩,
  ⟨some 62, none, .build [.nilfn, .bool false, .bool false, .bool false, .bool false, .bool false, .int .i32 0, .str ⟨#[]⟩, .data false 1 [] true, .data false 1 [] true] []⟩,
  ⟨some 63, none, .nilchk (.slot 61)⟩,
  ⟨none, none, .store true 10 (.slot 63) (.slot 62)⟩]
def q23R15 : List AOper := [⟨some 64, none, .mov (.slot 1)⟩,
  ⟨some 65, none, .call .frz n_vt_ground [(.slot 64)]⟩,
  ⟨some 4, none, .mov (.slot 65)⟩]
def q23R16 : List AOper := [⟨some 66, none, .mov (.slot 0)⟩,
  ⟨some 67, none, .nilchk (.slot 66)⟩,
  ⟨some 68, none, .faddr 0 (.slot 67)⟩,
  ⟨some 69, none, .load false 1 (.slot 68)⟩,
  ⟨some 70, none, .mov (.slot 0)⟩,
  ⟨some 71, none, .mov (.slot 1)⟩,
  ⟨some 72, none, .callv (.slot 69) [(.slot 70), (.slot 71)]⟩,
  ⟨some 4, none, .mov (.slot 72)⟩]
def c_vt_Parser_one : AFn := ⟨(.seq (.region q23R0 false [0, 1]) (.seq (.block 0 (.seq (.block 6 (.seq (.block 5 (.seq (.block 4 (.seq (.block 3 (.seq (.block 2 (.seq (.block 1 (.seq (.seq (.seq (.region q23R1 false [0, 1, 6]) (.cond (.slot 6) (.exit 1) .skip)) (.seq (.seq (.region q23R2 false [0, 1, 16]) (.cond (.slot 16) (.exit 2) .skip)) (.seq (.seq (.region q23R3 false [0, 1, 19]) (.cond (.slot 19) (.exit 3) .skip)) (.seq (.seq (.region q23R4 false [0, 1, 26]) (.cond (.slot 26) (.exit 4) .skip)) (.seq (.seq (.region q23R5 false [0, 1, 31]) (.cond (.slot 31) (.exit 5) .skip)) (.seq (.region q23R6 false [0, 1, 34]) (.cond (.slot 34) (.exit 6) .skip))))))) (.exit 0))) (.seq (.seq (.region q23R7 false [4]) .ret) (.exit 0)))) (.seq (.seq (.region q23R8 false [0, 5]) (.seq (.region q23R9 false [5]) (.seq (.region q23R10 false [4]) .ret))) (.exit 0)))) (.seq (.seq (.region q23R11 false [1]) (.seq (.region q23R12 false [4]) .ret)) (.exit 0)))) (.seq (.seq (.region q23R13 false [4]) .ret) (.exit 0)))) (.region q23R14 false [1]))) (.seq (.seq (.region q23R15 false [4]) .ret) (.exit 0)))) (.seq (.region q23R16 false [4]) .ret))), [.slot 4]⟩
/- (*oriel/vt.Parser).Put -/
def q20R0 : List AOper := [⟨some 4, none, .melt (.const (.data false 6 [] true))⟩]
def q20R1 : List AOper := [⟨some 5, none, .mov (.slot 0)⟩,
  ⟨some 6, none, .isnil .kp false (.slot 5)⟩]
def q20R2 : List AOper := [⟨some 4, none, .melt (.const (.data false 6 [] true))⟩]
def q20R3 : List AOper := [⟨some 7, none, .mov (.slot 1)⟩,
  ⟨some 8, none, .call .frz n_vt_point [(.slot 7)]⟩,
  ⟨some 1, none, .mov (.slot 8)⟩]
def q20R4 : List AOper := [⟨some 9, none, .mov (.slot 1)⟩,
  ⟨some 10, none, .bin .geq (.slot 9) (.const (.int .i32 128))⟩,
  ⟨some 11, none, .mov (.slot 10)⟩,
  ⟨some 12, some (11, true), .mov (.slot 1)⟩,
  ⟨some 13, some (11, true), .bin .lss (.slot 12) (.const (.int .i32 160))⟩,
  ⟨some 14, none, .pick (.slot 11) (.slot 13) (.const (.bool false))⟩]
def q20R5 : List AOper := [⟨some 15, none, .mov (.slot 0)⟩,
  ⟨some 16, none, .call .inl n_vt_Parser_one [(.slot 15), (.const (.int .i32 27))]⟩,
  ⟨some 17, none, .mov (.slot 0)⟩,
  ⟨some 18, none, .mov (.slot 1)⟩,
  ⟨some 19, none, .bin .sub (.slot 18) (.const (.int .i32 64))⟩,
  ⟨some 20, none, .call .inl n_vt_Parser_one [(.slot 17), (.slot 19)]⟩,
  ⟨some 21, none, .append 6 80 (.slot 16) (.slot 20)⟩,
  ⟨some 4, none, .melt (.slot 21)⟩]
def q20R6 : List AOper := [⟨some 22, none, .mov (.slot 0)⟩,
  ⟨some 23, none, .mov (.slot 1)⟩,
  ⟨some 24, none, .call .inl n_vt_Parser_one [(.slot 22), (.slot 23)]⟩,
  ⟨some 4, none, .melt (.slot 24)⟩]
def c_vt_Parser_Put : AFn := ⟨(.seq (.region q20R0 false [0, 1]) (.seq (.seq (.region q20R1 false [0, 1, 6]) (.cond (.slot 6) (.seq (.region q20R2 false [4]) .ret) .skip)) (.seq (.region q20R3 false [0, 1]) (.seq (.seq (.region q20R4 false [0, 1, 14]) (.cond (.slot 14) (.seq (.region q20R5 false [4]) .ret) .skip)) (.seq (.region q20R6 false [4]) .ret))))), [.slot 4]⟩
/- oriel/vt.Parse -/
def q18R0 : List AOper := [⟨some 2, none, .mov (.const (.data false 6 [] true))⟩]
def q18R1 : List AOper := [⟨some 3, none, .mknil 6⟩]
def q18R2 : List AOper := [⟨some 7, none, .call .inl n_vt_New []⟩,
  ⟨some 4, none, .mov (.slot 7)⟩]
def q18R3 : List AOper := [⟨some 8, none, .mov (.slot 0)⟩,
  ⟨some 9, none, .len false (.slot 8)⟩,
  ⟨some 10, none, .mov (.const (.int .i64 0))⟩]
def q18R4 : List AOper := [⟨some 11, none, .bin .lss (.slot 10) (.slot 9)⟩]
def q18R5 : List AOper := [⟨some 12, none, .idx 1 (.slot 8) (.slot 10)⟩,
  ⟨some 13, none, .load false 1 (.slot 12)⟩,
  ⟨some 6, none, .mov (.slot 13)⟩]
def q18R6 : List AOper := [⟨some 14, none, .mov (.slot 3)⟩,
  ⟨some 15, none, .mov (.slot 4)⟩,
  ⟨some 16, none, .mov (.slot 6)⟩,
  ⟨some 17, none, .call .inl n_vt_Parser_Put [(.slot 15), (.slot 16)]⟩,
  ⟨some 18, none, .append 6 80 (.slot 14) (.slot 17)⟩,
  ⟨some 3, none, .mov (.slot 18)⟩]
def q18R7 : List AOper := [⟨some 19, none, .bin .add (.slot 10) (.const (.int .i64 1))⟩,
  ⟨some 10, none, .mov (.slot 19)⟩]
def c_vt_Parse_L0 : ACode := (.seq (.region q18R4 false [3, 4, 8, 9, 10, 11]) (.seq (.cond (.slot 11) .skip (.exit 0)) (.seq (.block 1 (.seq (.region q18R5 false [3, 4, 6, 8, 9, 10]) (.region q18R6 false [3, 4, 8, 9, 10]))) (.region q18R7 false [3, 4, 8, 9, 10]))))
def lp_vt_Parse_0 : ACode := .loop [3, 4, 8, 9, 10] c_vt_Parse_L0
def q18R8 : List AOper := [⟨some 20, none, .mov (.slot 3)⟩,
  ⟨some 2, none, .mov (.slot 20)⟩]
def c_vt_Parse : AFn := ⟨(.seq (.region q18R0 false [0]) (.seq (.region q18R1 false [0, 3]) (.seq (.region q18R2 false [0, 3, 4]) (.seq (.seq (.region q18R3 false [3, 4, 8, 9, 10]) (.block 0 lp_vt_Parse_0)) (.seq (.region q18R8 false [2]) .ret))))), [.slot 2]⟩
/- oriel/oriellaw11.known -/
def q5R0 : List AOper := [⟨some 0, none, .mov (.const (.bool false))⟩]
def q5R1 : List AOper := [⟨some 3, none, .mkslice 1 13 [.int .i32 0] [(0, (.const (.int .i32 97))), (1, (.const (.int .i32 27))), (2, (.const (.int .i32 91))), (3, (.const (.int .i32 63))), (4, (.const (.int .i32 50))), (5, (.const (.int .i32 53))), (6, (.const (.int .i32 104))), (7, (.const (.int .i32 27))), (8, (.const (.int .i32 93))), (9, (.const (.int .i32 48))), (10, (.const (.int .i32 59))), (11, (.const (.int .i32 116))), (12, (.const (.int .i32 7)))]⟩,
  ⟨some 4, none, .call .frz n_vt_Parse [(.slot 3)]⟩,
  ⟨some 1, none, .mov (.slot 4)⟩]
def q5R2 : List AOper := [⟨some 5, none, .build [.int .i64 0, .int .i32 0, .int .i32 0, .str ⟨#[]⟩, .data false 1 [] true, .data false 1 [] true] [(0, 1, (.const (.int .i64 1))), (1, 1, (.const (.int .i32 97)))]⟩,
  ⟨some 6, none, .mkdata 1 1 [.int .i64 0] [(0, (.const (.int .i64 25)))]⟩,
  ⟨some 7, none, .build [.int .i64 0, .int .i32 0, .int .i32 0, .str ⟨#[]⟩, .data false 1 [] true, .data false 1 [] true] [(0, 1, (.const (.int .i64 4))), (2, 1, (.const (.int .i32 63))), (4, 1, (.slot 6)), (1, 1, (.const (.int .i32 104)))]⟩,
  ⟨some 8, none, .mkdata 1 3 [.int .i32 0] [(0, (.const (.int .i32 48))), (1, (.const (.int .i32 59))), (2, (.const (.int .i32 116)))]⟩,
  ⟨some 9, none, .build [.int .i64 0, .int .i32 0, .int .i32 0, .str ⟨#[]⟩, .data false 1 [] true, .data false 1 [] true] [(0, 1, (.const (.int .i64 5))), (5, 1, (.slot 8))]⟩,
  ⟨some 10, none, .mkdata 6 3 [.int .i64 0, .int .i32 0, .int .i32 0, .str ⟨#[]⟩, .data false 1 [] true, .data false 1 [] true] [(0, (.slot 5)), (1, (.slot 7)), (2, (.slot 9))]⟩,
  ⟨some 2, none, .mov (.slot 10)⟩]
def q5R3 : List AOper := [⟨some 11, none, .mov (.slot 1)⟩,
  ⟨some 12, none, .mov (.slot 2)⟩,
  ⟨some 13, none, .call .frz n_ref11_All [(.slot 11), (.slot 12)]⟩,
  ⟨some 0, none, .mov (.slot 13)⟩]
def c_law11_known : AFn := ⟨(.seq (.region q5R0 false []) (.seq (.region q5R1 false [1]) (.seq (.region q5R2 false [1, 2]) (.seq (.region q5R3 false [0]) .ret)))), [.slot 0]⟩
/- (*oriel/vt.Parser).Idle -/
def q19R0 : List AOper := [⟨some 2, none, .mov (.const (.bool false))⟩]
def q19R1 : List AOper := [⟨some 3, none, .mov (.slot 0)⟩,
  ⟨some 4, none, .isnil .kp false (.slot 3)⟩,
  ⟨some 5, none, .mov (.slot 4)⟩,
  ⟨some 6, some (5, false), .mov (.slot 0)⟩,
  ⟨some 7, some (5, false), .nilchk (.slot 6)⟩,
  ⟨some 8, some (5, false), .faddr 0 (.slot 7)⟩,
  ⟨some 9, some (5, false), .load false 1 (.slot 8)⟩,
  ⟨some 10, some (5, false), .isnil .kf false (.slot 9)⟩,
  ⟨some 11, none, .pick (.slot 5) (.const (.bool true)) (.slot 10)⟩,
  ⟨some 2, none, .mov (.slot 11)⟩]
def c_vt_Parser_Idle : AFn := ⟨(.seq (.region q19R0 false [0]) (.seq (.region q19R1 false [2]) .ret)), [.slot 2]⟩
/- oriel/oriellaw11.alike -/
def q4R0 : List AOper := [⟨some 4, none, .mov (.const (.bool false))⟩]
def q4R1 : List AOper := [⟨some 6, none, .mov (.slot 0)⟩,
  ⟨some 7, none, .len false (.slot 6)⟩,
  ⟨some 8, none, .mov (.slot 1)⟩,
  ⟨some 9, none, .len false (.slot 8)⟩,
  ⟨some 10, none, .bin .neq (.slot 7) (.slot 9)⟩]
def q4R2 : List AOper := [⟨some 4, none, .mov (.const (.bool false))⟩]
def q4R3 : List AOper := [⟨some 5, none, .mov (.const (.int .i64 0))⟩]
def q4R4 : List AOper := [⟨some 11, none, .mov (.slot 5)⟩,
  ⟨some 12, none, .mov (.slot 0)⟩,
  ⟨some 13, none, .len false (.slot 12)⟩,
  ⟨some 14, none, .bin .lss (.slot 11) (.slot 13)⟩]
def q4R6 : List AOper := ⟨some 17, none, .mov (.slot 0)⟩ ::
  ⟨some 18, none, .mov (.slot 5)⟩ ::
  ⟨some 19, none, .idx 6 (.slot 17) (.slot 18)⟩ ::
  ⟨some 20, none, .faddr 0 (.slot 19)⟩ ::
  ⟨some 21, none, .load false 1 (.slot 20)⟩ ::
  ⟨some 22, none, .mov (.slot 1)⟩ ::
  ⟨some 23, none, .mov (.slot 5)⟩ ::
  ⟨some 24, none, .idx 6 (.slot 22) (.slot 23)⟩ ::
  ⟨some 25, none, .faddr 0 (.slot 24)⟩ ::
  ⟨some 26, none, .load false 1 (.slot 25)⟩ ::
  ⟨some 27, none, .bin .neq (.slot 21) (.slot 26)⟩ ::
  ⟨some 28, none, .mov (.slot 27)⟩ ::
  ⟨some 29, some (28, false), .mov (.slot 0)⟩ ::
  ⟨some 30, some (28, false), .mov (.slot 5)⟩ ::
  ⟨some 31, some (28, false), .idx 6 (.slot 29) (.slot 30)⟩ ::
  ⟨some 32, some (28, false), .faddr 1 (.slot 31)⟩ ::
  ⟨some 33, some (28, false), .load false 1 (.slot 32)⟩ ::
  ⟨some 34, some (28, false), .mov (.slot 1)⟩ ::
  ⟨some 35, some (28, false), .mov (.slot 5)⟩ ::
  ⟨some 36, some (28, false), .idx 6 (.slot 34) (.slot 35)⟩ ::
  ⟨some 37, some (28, false), .faddr 1 (.slot 36)⟩ ::
  ⟨some 38, some (28, false), .load false 1 (.slot 37)⟩ ::
  ⟨some 39, some (28, false), .bin .neq (.slot 33) (.slot 38)⟩ ::
  ⟨some 40, none, .pick (.slot 28) (.const (.bool true)) (.slot 39)⟩ ::
  ⟨some 41, none, .mov (.slot 40)⟩ ::
  ⟨some 42, some (41, false), .mov (.slot 0)⟩ ::
  ⟨some 43, some (41, false), .mov (.slot 5)⟩ ::
  ⟨some 44, some (41, false), .idx 6 (.slot 42) (.slot 43)⟩ ::
  ⟨some 45, some (41, false), .faddr 2 (.slot 44)⟩ ::
  ⟨some 46, some (41, false), .load false 1 (.slot 45)⟩ ::
  ⟨some 47, some (41, false), .mov (.slot 1)⟩ ::
  ⟨some 48, some (41, false), .mov (.slot 5)⟩ ::
  ⟨some 49, some (41, false), .idx 6 (.slot 47) (.slot 48)⟩ ::
  ⟨some 50, some (41, false), .faddr 2 (.slot 49)⟩ ::
  ⟨some 51, some (41, false), .load false 1 (.slot 50)⟩ ::
  ⟨some 52, some (41, false), .bin .neq (.slot 46) (.slot 51)⟩ ::
  ⟨some 53, none, .pick (.slot 41) (.const (.bool true)) (.slot 52)⟩ ::
  ⟨some 54, none, .mov (.slot 53)⟩ ::
  ⟨some 55, some (54, false), .mov (.slot 0)⟩ ::
  ⟨some 56, some (54, false), .mov (.slot 5)⟩ ::
  ⟨some 57, some (54, false), .idx 6 (.slot 55) (.slot 56)⟩ ::
  ⟨some 58, some (54, false), .faddr 3 (.slot 57)⟩ ::
  ⟨some 59, some (54, false), .load false 1 (.slot 58)⟩ ::
  ⟨some 60, some (54, false), .mov (.slot 1)⟩ ::
  ⟨some 61, some (54, false), .mov (.slot 5)⟩ ::
  ⟨some 62, some (54, false), .idx 6 (.slot 60) (.slot 61)⟩ ::
  ⟨some 63, some (54, false), .faddr 3 (.slot 62)⟩ ::
  ⟨some 64, some (54, false), .load false 1 (.slot 63)⟩ ::
  ⟨some 65, some (54, false), .eq false [.ks] true (.slot 59) (.slot 64)⟩ ::
  ⟨some 66, none, .pick (.slot 54) (.const (.bool true)) (.slot 65)⟩ ::
  ⟨some 67, none, .mov (.slot 66)⟩ ::
  ⟨some 68, some (67, false), .mov (.slot 0)⟩ ::
  ⟨some 69, some (67, false), .mov (.slot 5)⟩ ::
  ⟨some 70, some (67, false), .idx 6 (.slot 68) (.slot 69)⟩ ::
  ⟨some 71, some (67, false), .faddr 4 (.slot 70)⟩ ::
  ⟨some 72, some (67, false), .load false 1 (.slot 71)⟩ ::
  ⟨some 73, some (67, false), .len false (.slot 72)⟩ ::
  ⟨some 74, some (67, false), .mov (.slot 1)⟩ ::
  ⟨some 75, some (67, false), .mov (.slot 5)⟩ ::
  ⟨some 76, some (67, false), .idx 6 (.slot 74) (.slot 75)⟩ ::
  ⟨some 77, some (67, false), .faddr 4 (.slot 76)⟩ ::
  ⟨some 78, some (67, false), .load false 1 (.slot 77)⟩ ::
  ⟨some 79, some (67, false), .len false (.slot 78)⟩ ::
  ⟨some 80, some (67, false), .bin .neq (.slot 73) (.slot 79)⟩ ::
  ⟨some 81, none, .pick (.slot 67) (.const (.bool true)) (.slot 80)⟩ ::
  ⟨some 82, none, .mov (.slot 81)⟩ ::
  ⟨some 83, some (82, false), .mov (.slot 0)⟩ ::
  ⟨some 84, some (82, false), .mov (.slot 5)⟩ ::
  ⟨some 85, some (82, false), .idx 6 (.slot 83) (.slot 84)⟩ ::
  ⟨some 86, some (82, false), .faddr 5 (.slot 85)⟩ ::
  ⟨some 87, some (82, false), .load false 1 (.slot 86)⟩ ::
  ⟨some 88, some (82, false), .len false (.slot 87)⟩ ::
  ⟨some 89, some (82, false), .mov (.slot 1)⟩ ::
  ⟨some 90, some (82, false), .mov (.slot 5)⟩ ::
  ⟨some 91, some (82, false), .idx 6 (.slot 89) (.slot 90)⟩ ::
  ⟨some 92, some (82, false), .faddr 5 (.slot 91)⟩ ::
  ⟨some 93, some (82, false), .load false 1 (.slot 92)⟩ ::
  ⟨some 94, some (82, false), .len false (.slot 93)⟩ ::
  ⟨some 95, some (82, false), .bin .neq (.slot 88) (.slot 94)⟩ ::
  ⟨some 96, none, .pick (.slot 82) (.const (.bool true)) (.slot 95)⟩ :: []
def q4R7 : List AOper := [⟨some 4, none, .mov (.const (.bool false))⟩]
def q4R5 : List AOper := [⟨some 15, none, .mov (.slot 5)⟩,
  ⟨some 16, none, .bin .add (.slot 15) (.const (.int .i64 1))⟩,
  ⟨some 5, none, .mov (.slot 16)⟩]
def c_law11_alike_L0 : ACode := (.seq (.seq (.region q4R4 false [0, 1, 5, 14]) (.cond (.slot 14) .skip (.exit 0))) (.seq (.block 1 (.seq (.region q4R6 true [0, 1, 5, 96]) (.cond (.slot 96) (.seq (.region q4R7 false [4]) .ret) .skip))) (.region q4R5 false [0, 1, 5])))
def lp_law11_alike_0 : ACode := .loop [0, 1, 5] c_law11_alike_L0
def q4R8 : List AOper := [⟨some 4, none, .mov (.const (.bool true))⟩]
def c_law11_alike : AFn := ⟨(.seq (.region q4R0 false [0, 1]) (.seq (.seq (.region q4R1 false [0, 1, 10]) (.cond (.slot 10) (.seq (.region q4R2 false [4]) .ret) .skip)) (.seq (.seq (.region q4R3 false [0, 1, 5]) (.block 0 lp_law11_alike_0)) (.seq (.region q4R8 false [4]) .ret)))), [.slot 4]⟩
/- oriel/oriellaw11.VtCancels -/
def q0R0 : List AOper := [⟨some 4, none, .mov (.const (.bool false))⟩]
def q0R1 : List AOper := [⟨some 10, none, .call .frz n_law11_known []⟩,
  ⟨some 11, none, .not (.slot 10)⟩]
def q0R2 : List AOper := [⟨some 4, none, .mov (.const (.bool false))⟩]
def q0R3 : List AOper := [⟨some 12, none, .mov (.slot 0)⟩,
  ⟨some 13, none, .len false (.slot 12)⟩,
  ⟨some 14, none, .bin .gtr (.slot 13) (.const (.int .i64 1000))⟩,
  ⟨some 15, none, .mov (.slot 14)⟩,
  ⟨some 16, some (15, false), .mov (.slot 1)⟩,
  ⟨some 17, some (15, false), .len false (.slot 16)⟩,
  ⟨some 18, some (15, false), .bin .gtr (.slot 17) (.const (.int .i64 1000))⟩,
  ⟨some 19, none, .pick (.slot 15) (.const (.bool true)) (.slot 18)⟩]
def q0R4 : List AOper := [⟨some 4, none, .mov (.const (.bool true))⟩]
def q0R5 : List AOper := [⟨some 20, none, .call .inl n_vt_New []⟩,
  ⟨some 5, none, .mov (.slot 20)⟩]
def q0R6 : List AOper := [⟨some 21, none, .mov (.slot 5)⟩,
  ⟨some 22, none, .isnil .kp false (.slot 21)⟩]
def q0R7 : List AOper := [⟨some 4, none, .mov (.const (.bool false))⟩]
def q0R8 : List AOper := [⟨some 6, none, .mov (.const (.int .i64 0))⟩]
def q0R9 : List AOper := [⟨some 23, none, .mov (.slot 6)⟩,
  ⟨some 24, none, .mov (.slot 0)⟩,
  ⟨some 25, none, .len false (.slot 24)⟩,
  ⟨some 26, none, .bin .lss (.slot 23) (.slot 25)⟩]
def q0R11 : List AOper := [⟨some 29, none, .mov (.slot 5)⟩,
  ⟨some 30, none, .mov (.slot 0)⟩,
  ⟨some 31, none, .mov (.slot 6)⟩,
  ⟨some 32, none, .idx 1 (.slot 30) (.slot 31)⟩,
  ⟨some 33, none, .load false 1 (.slot 32)⟩,
  ⟨some 34, none, .call .inl n_vt_Parser_Put [(.slot 29), (.slot 33)]⟩]
def q0R10 : List AOper := [⟨some 27, none, .mov (.slot 6)⟩,
  ⟨some 28, none, .bin .add (.slot 27) (.const (.int .i64 1))⟩,
  ⟨some 6, none, .mov (.slot 28)⟩]
def c_law11_VtCancels_L0 : ACode := (.seq (.seq (.region q0R9 false [0, 1, 5, 6, 26]) (.cond (.slot 26) .skip (.exit 0))) (.seq (.block 1 (.region q0R11 false [0, 1, 5, 6])) (.region q0R10 false [0, 1, 5, 6])))
def lp_law11_VtCancels_0 : ACode := .loop [0, 1, 5, 6] c_law11_VtCancels_L0
def q0R12 : List AOper := [⟨some 35, none, .mov (.slot 5)⟩,
  ⟨some 36, none, .call .inl n_vt_Parser_Put [(.slot 35), (.const (.int .i32 24))]⟩,
  ⟨some 7, none, .mov (.slot 36)⟩]
def q0R13 : List AOper := [⟨some 37, none, .mov (.slot 7)⟩,
  ⟨some 38, none, .len false (.slot 37)⟩,
  ⟨some 39, none, .bin .neq (.slot 38) (.const (.int .i64 1))⟩,
  ⟨some 40, none, .mov (.slot 39)⟩,
  ⟨some 41, some (40, false), .mov (.slot 7)⟩,
  ⟨some 42, some (40, false), .idx 6 (.slot 41) (.const (.int .i64 0))⟩,
  ⟨some 43, some (40, false), .faddr 0 (.slot 42)⟩,
  ⟨some 44, some (40, false), .load false 1 (.slot 43)⟩,
  ⟨some 45, some (40, false), .bin .neq (.slot 44) (.const (.int .i64 2))⟩,
  ⟨some 46, none, .pick (.slot 40) (.const (.bool true)) (.slot 45)⟩,
  ⟨some 47, none, .mov (.slot 46)⟩,
  ⟨some 48, some (47, false), .mov (.slot 7)⟩,
  ⟨some 49, some (47, false), .idx 6 (.slot 48) (.const (.int .i64 0))⟩,
  ⟨some 50, some (47, false), .faddr 1 (.slot 49)⟩,
  ⟨some 51, some (47, false), .load false 1 (.slot 50)⟩,
  ⟨some 52, some (47, false), .bin .neq (.slot 51) (.const (.int .i32 24))⟩,
  ⟨some 53, none, .pick (.slot 47) (.const (.bool true)) (.slot 52)⟩,
  ⟨some 54, none, .mov (.slot 53)⟩,
  ⟨some 55, some (54, false), .mov (.slot 5)⟩,
  ⟨some 56, some (54, false), .call .inl n_vt_Parser_Idle [(.slot 55)]⟩,
  ⟨some 57, some (54, false), .not (.slot 56)⟩,
  ⟨some 58, none, .pick (.slot 54) (.const (.bool true)) (.slot 57)⟩]
def q0R14 : List AOper := [⟨some 4, none, .mov (.const (.bool false))⟩]
def q0R15 : List AOper := [⟨some 8, none, .mknil 6⟩]
def q0R16 : List AOper := [⟨some 9, none, .mov (.const (.int .i64 0))⟩]
def q0R17 : List AOper := [⟨some 59, none, .mov (.slot 9)⟩,
  ⟨some 60, none, .mov (.slot 1)⟩,
  ⟨some 61, none, .len false (.slot 60)⟩,
  ⟨some 62, none, .bin .lss (.slot 59) (.slot 61)⟩]
def q0R19 : List AOper := [⟨some 65, none, .mov (.slot 8)⟩,
  ⟨some 66, none, .mov (.slot 5)⟩,
  ⟨some 67, none, .mov (.slot 1)⟩,
  ⟨some 68, none, .mov (.slot 9)⟩,
  ⟨some 69, none, .idx 1 (.slot 67) (.slot 68)⟩,
  ⟨some 70, none, .load false 1 (.slot 69)⟩,
  ⟨some 71, none, .call .inl n_vt_Parser_Put [(.slot 66), (.slot 70)]⟩,
  ⟨some 72, none, .append 6 80 (.slot 65) (.slot 71)⟩,
  ⟨some 8, none, .mov (.slot 72)⟩]
def q0R18 : List AOper := [⟨some 63, none, .mov (.slot 9)⟩,
  ⟨some 64, none, .bin .add (.slot 63) (.const (.int .i64 1))⟩,
  ⟨some 9, none, .mov (.slot 64)⟩]
def c_law11_VtCancels_L1 : ACode := (.seq (.seq (.region q0R17 false [1, 5, 8, 9, 62]) (.cond (.slot 62) .skip (.exit 2))) (.seq (.block 3 (.region q0R19 false [1, 5, 8, 9])) (.region q0R18 false [1, 5, 8, 9])))
def lp_law11_VtCancels_1 : ACode := .loop [1, 5, 8, 9] c_law11_VtCancels_L1
def q0R20 : List AOper := [⟨some 73, none, .mov (.slot 8)⟩,
  ⟨some 74, none, .mov (.slot 1)⟩,
  ⟨some 75, none, .call .frz n_vt_Parse [(.slot 74)]⟩,
  ⟨some 76, none, .call .frz n_law11_alike [(.slot 73), (.slot 75)]⟩,
  ⟨some 4, none, .mov (.slot 76)⟩]
def c_law11_VtCancels : AFn := ⟨(.seq (.region q0R0 false [0, 1]) (.seq (.seq (.region q0R1 false [0, 1, 11]) (.cond (.slot 11) (.seq (.region q0R2 false [4]) .ret) .skip)) (.seq (.seq (.region q0R3 false [0, 1, 19]) (.cond (.slot 19) (.seq (.region q0R4 false [4]) .ret) .skip)) (.seq (.region q0R5 false [0, 1, 5]) (.seq (.seq (.region q0R6 false [0, 1, 5, 22]) (.cond (.slot 22) (.seq (.region q0R7 false [4]) .ret) .skip)) (.seq (.seq (.region q0R8 false [0, 1, 5, 6]) (.block 0 lp_law11_VtCancels_0)) (.seq (.region q0R12 false [1, 5, 7]) (.seq (.seq (.region q0R13 false [1, 5, 58]) (.cond (.slot 58) (.seq (.region q0R14 false [4]) .ret) .skip)) (.seq (.region q0R15 false [1, 5, 8]) (.seq (.seq (.region q0R16 false [1, 5, 8, 9]) (.block 2 lp_law11_VtCancels_1)) (.seq (.region q0R20 false [4]) .ret))))))))))), [.slot 4]⟩
/-- The seat's functions. -/
def FT : Nat → Option AEnt
  | 19 => some (.fn c_ref11_Same)
  | 10 => some (.fn c_ref11_All)
  | 13 => some (.fn c_vt_New)
  | 20 => some (.fn c_vt_point)
  | 25 => some (.fn c_vt_ground)
  | 23 => some (.ext (extClone 1))
  | 26 => some (.fn c_vt_Parser_end)
  | 33 => some (.fn c_vt_Parser_between)
  | 36 => some (.fn c_vt_Parser_param)
  | 34 => some (.fn c_vt_sequence)
  | 35 => some (.fn c_vt_text)
  | 27 => some (.fn c_vt_escape)
  | 21 => some (.fn c_vt_Parser_one)
  | 14 => some (.fn c_vt_Parser_Put)
  | 11 => some (.fn c_vt_Parse)
  | 9 => some (.fn c_law11_known)
  | 15 => some (.fn c_vt_Parser_Idle)
  | 16 => some (.fn c_law11_alike)
  | 5 => some (.fn c_law11_VtCancels)
  | _ => none
variable (G : Nat → Option (List AV)) (args : List AV) (h : List ARow)
theorem run_vt_New : aR G FT n_vt_New args h = (aE G FT h.length c_vt_New.body ⟨aenter args, h⟩).bind (afinish c_vt_New.res) := y_fn G FT rfl args h
theorem run_vt_point : aR G FT n_vt_point args h = (aE G FT h.length c_vt_point.body ⟨aenter args, h⟩).bind (afinish c_vt_point.res) := y_fn G FT rfl args h
theorem run_vt_ground : aR G FT n_vt_ground args h = (aE G FT h.length c_vt_ground.body ⟨aenter args, h⟩).bind (afinish c_vt_ground.res) := y_fn G FT rfl args h
theorem run_vt_Parser_end : aR G FT n_vt_Parser_end args h = (aE G FT h.length c_vt_Parser_end.body ⟨aenter args, h⟩).bind (afinish c_vt_Parser_end.res) := y_fn G FT rfl args h
theorem run_vt_Parser_between : aR G FT n_vt_Parser_between args h = (aE G FT h.length c_vt_Parser_between.body ⟨aenter args, h⟩).bind (afinish c_vt_Parser_between.res) := y_fn G FT rfl args h
theorem run_vt_Parser_param : aR G FT n_vt_Parser_param args h = (aE G FT h.length c_vt_Parser_param.body ⟨aenter args, h⟩).bind (afinish c_vt_Parser_param.res) := y_fn G FT rfl args h
theorem run_vt_sequence : aR G FT n_vt_sequence args h = (aE G FT h.length c_vt_sequence.body ⟨aenter args, h⟩).bind (afinish c_vt_sequence.res) := y_fn G FT rfl args h
theorem run_vt_text : aR G FT n_vt_text args h = (aE G FT h.length c_vt_text.body ⟨aenter args, h⟩).bind (afinish c_vt_text.res) := y_fn G FT rfl args h
theorem run_vt_escape : aR G FT n_vt_escape args h = (aE G FT h.length c_vt_escape.body ⟨aenter args, h⟩).bind (afinish c_vt_escape.res) := y_fn G FT rfl args h
theorem run_vt_Parser_one : aR G FT n_vt_Parser_one args h = (aE G FT h.length c_vt_Parser_one.body ⟨aenter args, h⟩).bind (afinish c_vt_Parser_one.res) := y_fn G FT rfl args h
theorem run_vt_Parser_Put : aR G FT n_vt_Parser_Put args h = (aE G FT h.length c_vt_Parser_Put.body ⟨aenter args, h⟩).bind (afinish c_vt_Parser_Put.res) := y_fn G FT rfl args h
theorem run_vt_Parse : aR G FT n_vt_Parse args h = (aE G FT h.length c_vt_Parse.body ⟨aenter args, h⟩).bind (afinish c_vt_Parse.res) := y_fn G FT rfl args h
theorem run_vt_Parser_Idle : aR G FT n_vt_Parser_Idle args h = (aE G FT h.length c_vt_Parser_Idle.body ⟨aenter args, h⟩).bind (afinish c_vt_Parser_Idle.res) := y_fn G FT rfl args h
theorem run_law11_alike : aR G FT n_law11_alike args h = (aE G FT h.length c_law11_alike.body ⟨aenter args, h⟩).bind (afinish c_law11_alike.res) := y_fn G FT rfl args h
theorem run_law11_VtCancels : aR G FT n_law11_VtCancels args h = (aE G FT h.length c_law11_VtCancels.body ⟨aenter args, h⟩).bind (afinish c_law11_VtCancels.res) := y_fn G FT rfl args h
end Go.Proofs.Ytkkcblfoaldckaa
