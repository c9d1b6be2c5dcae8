/- The small machine's code of the seat's functions. Conditions: none. -/
import Derived.Test.YtkkcblfoaldckaaM3
set_option linter.unusedVariables false
set_option linter.unusedSimpArgs false
set_option linter.unusedSectionVars false
namespace Go.Proofs.Ytkkcblfoaldckaa
open Go

def n_law11_VtPlays : Nat := 7
def n_law11_known : Nat := 9
def n_ref11_All : Nat := 10
def n_ref11_Parser_Put : Nat := 18
def n_ref11_Parser_one : Nat := 24
def n_ref11_Parser_stringed : Nat := 30
def n_ref11_Parser_told : Nat := 28
def n_ref11_Same : Nat := 19
def n_ref11_csi : Nat := 31
def n_ref11_esc : Nat := 32
def n_ref11_word : Nat := 29
def n_slices_Clone_int : Nat := 22
def n_slices_Clone_rune : Nat := 23
def n_vt_New : Nat := 13
def n_vt_Parse : Nat := 11
def n_vt_Parser_Copy : Nat := 17
def n_vt_Parser_Idle : Nat := 15
def n_vt_Parser_Put : Nat := 14
def n_vt_Parser_between : Nat := 33
def n_vt_Parser_end : Nat := 26
def n_vt_Parser_one : Nat := 21
def n_vt_Parser_param : Nat := 36
def n_vt_escape : Nat := 27
def n_vt_ground : Nat := 25
def n_vt_point : Nat := 20
def n_vt_sequence : Nat := 34
def n_vt_text : Nat := 35
/- oriel/orielref11.Same -/
def q14R0 : List AOper := [⟨some 2, none, .box 6 (.slot 0)⟩,
  ⟨some 3, none, .box 6 (.slot 1)⟩,
  ⟨some 4, none, .mov (.const (.bool false))⟩]
def q14R1 : List AOper := ⟨some 7, none, .faddr 0 (.slot 2)⟩ ::
  ⟨some 8, none, .load false 1 (.slot 7)⟩ ::
  ⟨some 9, none, .faddr 0 (.slot 3)⟩ ::
  ⟨some 10, none, .load false 1 (.slot 9)⟩ ::
  ⟨some 11, none, .bin .neq (.slot 8) (.slot 10)⟩ ::
  ⟨some 12, none, .mov (.slot 11)⟩ ::
  ⟨some 13, some (12, false), .faddr 1 (.slot 2)⟩ ::
  ⟨some 14, some (12, false), .load false 1 (.slot 13)⟩ ::
  ⟨some 15, some (12, false), .faddr 1 (.slot 3)⟩ ::
  ⟨some 16, some (12, false), .load false 1 (.slot 15)⟩ ::
  ⟨some 17, some (12, false), .bin .neq (.slot 14) (.slot 16)⟩ ::
  ⟨some 18, none, .pick (.slot 12) (.const (.bool true)) (.slot 17)⟩ ::
  ⟨some 19, none, .mov (.slot 18)⟩ ::
  ⟨some 20, some (19, false), .faddr 2 (.slot 2)⟩ ::
  ⟨some 21, some (19, false), .load false 1 (.slot 20)⟩ ::
  ⟨some 22, some (19, false), .faddr 2 (.slot 3)⟩ ::
  ⟨some 23, some (19, false), .load false 1 (.slot 22)⟩ ::
  ⟨some 24, some (19, false), .bin .neq (.slot 21) (.slot 23)⟩ ::
  ⟨some 25, none, .pick (.slot 19) (.const (.bool true)) (.slot 24)⟩ ::
  ⟨some 26, none, .mov (.slot 25)⟩ ::
  ⟨some 27, some (26, false), .faddr 3 (.slot 2)⟩ ::
  ⟨some 28, some (26, false), .load false 1 (.slot 27)⟩ ::
  ⟨some 29, some (26, false), .faddr 3 (.slot 3)⟩ ::
  ⟨some 30, some (26, false), .load false 1 (.slot 29)⟩ ::
  ⟨some 31, some (26, false), .eq false [.ks] true (.slot 28) (.slot 30)⟩ ::
  ⟨some 32, none, .pick (.slot 26) (.const (.bool true)) (.slot 31)⟩ ::
  ⟨some 33, none, .mov (.slot 32)⟩ ::
  ⟨some 34, some (33, false), .faddr 4 (.slot 2)⟩ ::
  ⟨some 35, some (33, false), .load false 1 (.slot 34)⟩ ::
  ⟨some 36, some (33, false), .len false (.slot 35)⟩ ::
  ⟨some 37, some (33, false), .faddr 4 (.slot 3)⟩ ::
  ⟨some 38, some (33, false), .load false 1 (.slot 37)⟩ ::
  ⟨some 39, some (33, false), .len false (.slot 38)⟩ ::
  ⟨some 40, some (33, false), .bin .neq (.slot 36) (.slot 39)⟩ ::
  ⟨some 41, none, .pick (.slot 33) (.const (.bool true)) (.slot 40)⟩ ::
  ⟨some 42, none, .mov (.slot 41)⟩ ::
  ⟨some 43, some (42, false), .faddr 5 (.slot 2)⟩ ::
  ⟨some 44, some (42, false), .load false 1 (.slot 43)⟩ ::
  ⟨some 45, some (42, false), .len false (.slot 44)⟩ ::
  ⟨some 46, some (42, false), .faddr 5 (.slot 3)⟩ ::
  ⟨some 47, some (42, false), .load false 1 (.slot 46)⟩ ::
  ⟨some 48, some (42, false), .len false (.slot 47)⟩ ::
  ⟨some 49, some (42, false), .bin .neq (.slot 45) (.slot 48)⟩ ::
  ⟨some 50, none, .pick (.slot 42) (.const (.bool true)) (.slot 49)⟩ :: []
def q14R2 : List AOper := [⟨some 4, none, .mov (.const (.bool false))⟩]
def q14R3 : List AOper := [⟨some 5, none, .mov (.const (.int .i64 0))⟩]
def q14R4 : List AOper := [⟨some 51, none, .mov (.slot 5)⟩,
  ⟨some 52, none, .faddr 4 (.slot 2)⟩,
  ⟨some 53, none, .load false 1 (.slot 52)⟩,
  ⟨some 54, none, .len false (.slot 53)⟩,
  ⟨some 55, none, .bin .lss (.slot 51) (.slot 54)⟩]
def q14R6 : List AOper := [⟨some 58, none, .faddr 4 (.slot 2)⟩,
  ⟨some 59, none, .load false 1 (.slot 58)⟩,
  ⟨some 60, none, .mov (.slot 5)⟩,
  ⟨some 61, none, .idx 1 (.slot 59) (.slot 60)⟩,
  ⟨some 62, none, .load false 1 (.slot 61)⟩,
  ⟨some 63, none, .faddr 4 (.slot 3)⟩,
  ⟨some 64, none, .load false 1 (.slot 63)⟩,
  ⟨some 65, none, .mov (.slot 5)⟩,
  ⟨some 66, none, .idx 1 (.slot 64) (.slot 65)⟩,
  ⟨some 67, none, .load false 1 (.slot 66)⟩,
  ⟨some 68, none, .bin .neq (.slot 62) (.slot 67)⟩]
def q14R7 : List AOper := [⟨some 4, none, .mov (.const (.bool false))⟩]
def q14R5 : List AOper := [⟨some 56, none, .mov (.slot 5)⟩,
  ⟨some 57, none, .bin .add (.slot 56) (.const (.int .i64 1))⟩,
  ⟨some 5, none, .mov (.slot 57)⟩]
def c_ref11_Same_L0 : ACode := (.seq (.seq (.region q14R4 false [2, 3, 5, 55]) (.cond (.slot 55) .skip (.exit 0))) (.seq (.block 1 (.seq (.region q14R6 true [2, 3, 5, 68]) (.cond (.slot 68) (.seq (.region q14R7 false [4]) .ret) .skip))) (.region q14R5 false [2, 3, 5])))
def lp_ref11_Same_0 : ACode := .loop [2, 3, 5] c_ref11_Same_L0
def q14R8 : List AOper := [⟨some 6, none, .mov (.const (.int .i64 0))⟩]
def q14R9 : List AOper := [⟨some 69, none, .mov (.slot 6)⟩,
  ⟨some 70, none, .faddr 5 (.slot 2)⟩,
  ⟨some 71, none, .load false 1 (.slot 70)⟩,
  ⟨some 72, none, .len false (.slot 71)⟩,
  ⟨some 73, none, .bin .lss (.slot 69) (.slot 72)⟩]
def q14R11 : List AOper := [⟨some 76, none, .faddr 5 (.slot 2)⟩,
  ⟨some 77, none, .load false 1 (.slot 76)⟩,
  ⟨some 78, none, .mov (.slot 6)⟩,
  ⟨some 79, none, .idx 1 (.slot 77) (.slot 78)⟩,
  ⟨some 80, none, .load false 1 (.slot 79)⟩,
  ⟨some 81, none, .faddr 5 (.slot 3)⟩,
  ⟨some 82, none, .load false 1 (.slot 81)⟩,
  ⟨some 83, none, .mov (.slot 6)⟩,
  ⟨some 84, none, .idx 1 (.slot 82) (.slot 83)⟩,
  ⟨some 85, none, .load false 1 (.slot 84)⟩,
  ⟨some 86, none, .bin .neq (.slot 80) (.slot 85)⟩]
def q14R12 : List AOper := [⟨some 4, none, .mov (.const (.bool false))⟩]
def q14R10 : List AOper := [⟨some 74, none, .mov (.slot 6)⟩,
  ⟨some 75, none, .bin .add (.slot 74) (.const (.int .i64 1))⟩,
  ⟨some 6, none, .mov (.slot 75)⟩]
def c_ref11_Same_L1 : ACode := (.seq (.seq (.region q14R9 false [2, 3, 6, 73]) (.cond (.slot 73) .skip (.exit 2))) (.seq (.block 3 (.seq (.region q14R11 true [2, 3, 6, 86]) (.cond (.slot 86) (.seq (.region q14R12 false [4]) .ret) .skip))) (.region q14R10 false [2, 3, 6])))
def lp_ref11_Same_1 : ACode := .loop [2, 3, 6] c_ref11_Same_L1
def q14R13 : List AOper := [⟨some 4, none, .mov (.const (.bool true))⟩]
def c_ref11_Same : AFn := ⟨(.seq (.region q14R0 false [2, 3]) (.seq (.seq (.region q14R1 false [2, 3, 50]) (.cond (.slot 50) (.seq (.region q14R2 false [4]) .ret) .skip)) (.seq (.seq (.region q14R3 false [2, 3, 5]) (.block 0 lp_ref11_Same_0)) (.seq (.seq (.region q14R8 false [2, 3, 6]) (.block 2 lp_ref11_Same_1)) (.seq (.region q14R13 false [4]) .ret))))), [.slot 4]⟩
/- oriel/orielref11.All -/
def q8R0 : List AOper := [⟨some 4, none, .mov (.const (.bool false))⟩]
def q8R1 : List AOper := [⟨some 6, none, .mov (.slot 0)⟩,
  ⟨some 7, none, .len false (.slot 6)⟩,
  ⟨some 8, none, .mov (.slot 1)⟩,
  ⟨some 9, none, .len false (.slot 8)⟩,
  ⟨some 10, none, .bin .neq (.slot 7) (.slot 9)⟩]
def q8R2 : List AOper := [⟨some 4, none, .mov (.const (.bool false))⟩]
def q8R3 : List AOper := [⟨some 5, none, .mov (.const (.int .i64 0))⟩]
def q8R4 : List AOper := [⟨some 11, none, .mov (.slot 5)⟩,
  ⟨some 12, none, .mov (.slot 0)⟩,
  ⟨some 13, none, .len false (.slot 12)⟩,
  ⟨some 14, none, .bin .lss (.slot 11) (.slot 13)⟩]
def q8R6 : List AOper := [⟨some 17, none, .mov (.slot 0)⟩,
  ⟨some 18, none, .mov (.slot 5)⟩,
  ⟨some 19, none, .idx 6 (.slot 17) (.slot 18)⟩,
  ⟨some 20, none, .load true 6 (.slot 19)⟩,
  ⟨some 21, none, .mov (.slot 1)⟩,
  ⟨some 22, none, .mov (.slot 5)⟩,
  ⟨some 23, none, .idx 6 (.slot 21) (.slot 22)⟩,
  ⟨some 24, none, .load true 6 (.slot 23)⟩,
  ⟨some 25, none, .call .frz n_ref11_Same [(.slot 20), (.slot 24)]⟩,
  ⟨some 26, none, .not (.slot 25)⟩]
def q8R7 : List AOper := [⟨some 4, none, .mov (.const (.bool false))⟩]
def q8R5 : List AOper := [⟨some 15, none, .mov (.slot 5)⟩,
  ⟨some 16, none, .bin .add (.slot 15) (.const (.int .i64 1))⟩,
  ⟨some 5, none, .mov (.slot 16)⟩]
def c_ref11_All_L0 : ACode := (.seq (.seq (.region q8R4 false [0, 1, 5, 14]) (.cond (.slot 14) .skip (.exit 0))) (.seq (.block 1 (.seq (.region q8R6 true [0, 1, 5, 26]) (.cond (.slot 26) (.seq (.region q8R7 false [4]) .ret) .skip))) (.region q8R5 false [0, 1, 5])))
def lp_ref11_All_0 : ACode := .loop [0, 1, 5] c_ref11_All_L0
def q8R8 : List AOper := [⟨some 4, none, .mov (.const (.bool true))⟩]
def c_ref11_All : AFn := ⟨(.seq (.region q8R0 false [0, 1]) (.seq (.seq (.region q8R1 false [0, 1, 10]) (.cond (.slot 10) (.seq (.region q8R2 false [4]) .ret) .skip)) (.seq (.seq (.region q8R3 false [0, 1, 5]) (.block 0 lp_ref11_All_0)) (.seq (.region q8R8 false [4]) .ret)))), [.slot 4]⟩
/- oriel/vt.New -/
def q20R0 : List AOper := [⟨some 0, none, .mov (.const .nilptr)⟩]
def q20R1 : List AOper := [⟨some 1, none, .build [.nilfn, .bool false, .bool false, .bool false, .bool false, .bool false, .int .i32 0, .str ⟨#[]⟩, .data false 1 [] true, .data false 1 [] true] []⟩,
  ⟨some 2, none, .box 10 (.slot 1)⟩,
  ⟨some 0, none, .mov (.slot 2)⟩]
def c_vt_New : AFn := ⟨(.seq (.region q20R0 false []) (.seq (.region q20R1 false [0]) .ret)), [.slot 0]⟩
/- oriel/vt.point -/
def q31R0 : List AOper := [⟨some 2, none, .mov (.const (.int .i32 0))⟩]
def q31R1 : List AOper := [⟨some 3, none, .mov (.slot 0)⟩,
  ⟨some 4, none, .bin .lss (.slot 3) (.const (.int .i32 0))⟩,
  ⟨some 5, none, .mov (.slot 4)⟩,
  ⟨some 6, some (5, false), .mov (.slot 0)⟩,
  ⟨some 7, some (5, false), .bin .gtr (.slot 6) (.const (.int .i32 1114111))⟩,
  ⟨some 8, none, .pick (.slot 5) (.const (.bool true)) (.slot 7)⟩,
  ⟨some 9, none, .mov (.slot 8)⟩,
  ⟨some 10, some (9, false), .mov (.slot 0)⟩,
  ⟨some 11, some (9, false), .bin .geq (.slot 10) (.const (.int .i32 55296))⟩,
  ⟨some 12, some (9, false), .mov (.slot 11)⟩,
  ⟨some 13, some (12, true), .mov (.slot 0)⟩,
  ⟨some 14, some (12, true), .bin .leq (.slot 13) (.const (.int .i32 57343))⟩,
  ⟨some 15, some (9, false), .pick (.slot 12) (.slot 14) (.const (.bool false))⟩,
  ⟨some 16, none, .pick (.slot 9) (.const (.bool true)) (.slot 15)⟩]
def q31R2 : List AOper := [⟨some 2, none, .mov (.const (.int .i32 65533))⟩]
def q31R3 : List AOper := [⟨some 17, none, .mov (.slot 0)⟩,
  ⟨some 2, none, .mov (.slot 17)⟩]
def c_vt_point : AFn := ⟨(.seq (.region q31R0 false [0]) (.seq (.seq (.region q31R1 false [0, 16]) (.cond (.slot 16) (.seq (.region q31R2 false [2]) .ret) .skip)) (.seq (.region q31R3 false [2]) .ret))), [.slot 2]⟩
/- oriel/vt.ground -/
def q30R0 : List AOper := [⟨some 2, none, .mov (.const (.data false 6 [] true))⟩]
def q30R1 : List AOper := [⟨some 4, none, .mov (.slot 0)⟩,
  ⟨some 5, none, .bin .eql (.slot 4) (.const (.int .i32 127))⟩,
  ⟨some 3, none, .mov (.slot 5)⟩]
def q30R2 : List AOper := [⟨some 2, none, .mov (.const (.data false 6 [] true))⟩]
def q30R3 : List AOper := [⟨some 7, none, .mov (.slot 0)⟩,
  ⟨some 8, none, .bin .lss (.slot 7) (.const (.int .i32 32))⟩,
  ⟨some 6, none, .mov (.slot 8)⟩]
def q30R4 : List AOper := [⟨some 9, none, .mov (.slot 0)⟩,
  ⟨some 10, none, .build [.int .i64 0, .int .i32 0, .int .i32 0, .str ⟨#[]⟩, .data false 1 [] true, .data false 1 [] true] [(0, 1, (.const (.int .i64 2))), (1, 1, (.slot 9))]⟩,
  ⟨some 11, none, .mkslice 6 1 [.int .i64 0, .int .i32 0, .int .i32 0, .str ⟨#[]⟩, .data false 1 [] true, .data false 1 [] true] [(0, (.slot 10))]⟩,
  ⟨some 2, none, .mov (.slot 11)⟩]
def q30R5 : List AOper := [⟨some 12, none, .mov (.slot 0)⟩,
  ⟨some 13, none, .build [.int .i64 0, .int .i32 0, .int .i32 0, .str ⟨#[]⟩, .data false 1 [] true, .data false 1 [] true] [(0, 1, (.const (.int .i64 1))), (1, 1, (.slot 12))]⟩,
  ⟨some 14, none, .mkslice 6 1 [.int .i64 0, .int .i32 0, .int .i32 0, .str ⟨#[]⟩, .data false 1 [] true, .data false 1 [] true] [(0, (.slot 13))]⟩,
  ⟨some 2, none, .mov (.slot 14)⟩]
def c_vt_ground : AFn := ⟨(.seq (.region q30R0 false [0]) (.seq (.block 0 (.seq (.region q30R1 false [0, 3]) (.cond (.slot 3) (.seq (.region q30R2 false [2]) .ret) (.seq (.region q30R3 false [0, 6]) (.cond (.slot 6) (.seq (.region q30R4 false [2]) .ret) .skip))))) (.seq (.region q30R5 false [2]) .ret))), [.slot 2]⟩
/- slices.Clone[[]rune,rune] -/
def q19R0 : List AOper := [⟨some 2, none, .mov (.const (.data false 1 [] true))⟩]
def q19R1 : List AOper := [⟨some 3, none, .mov (.slot 0)⟩,
  ⟨some 4, none, .isnil .ks false (.slot 3)⟩]
def q19R2 : List AOper := [⟨some 2, none, .mov (.const (.data false 1 [] true))⟩]
def q19R3 : List AOper := [⟨some 5, none, .mkslice 1 0 [.int .i32 0] []⟩,
  ⟨some 6, none, .mov (.slot 0)⟩,
  ⟨some 7, none, .append 1 4 (.slot 5) (.slot 6)⟩,
  ⟨some 2, none, .mov (.slot 7)⟩]
def c_slices_Clone_rune : AFn := ⟨(.seq (.region q19R0 false [0]) (.seq (.seq (.region q19R1 false [0, 4]) (.cond (.slot 4) (.seq (.region q19R2 false [2]) .ret) .skip)) (.seq (.region q19R3 false [2]) .ret))), [.slot 2]⟩
/- (*oriel/vt.Parser).end -/
def q26R0 : List AOper := [⟨some 2, none, .mov (.const (.data false 6 [] true))⟩]
def q26R1 : List AOper := [⟨some 3, none, .mov (.slot 0)⟩,
  ⟨some 4, none, .nilchk (.slot 3)⟩,
  ⟨some 5, none, .faddr 1 (.slot 4)⟩,
  ⟨some 6, none, .load false 1 (.slot 5)⟩,
  ⟨some 7, none, .not (.slot 6)⟩,
  ⟨some 8, none, .mov (.slot 7)⟩,
  ⟨some 9, some (8, false), .mov (.slot 0)⟩,
  ⟨some 10, some (8, false), .nilchk (.slot 9)⟩,
  ⟨some 11, some (8, false), .faddr 2 (.slot 10)⟩,
  ⟨some 12, some (8, false), .load false 1 (.slot 11)⟩,
  ⟨some 13, some (8, false), .not (.slot 12)⟩,
  ⟨some 14, none, .pick (.slot 8) (.const (.bool true)) (.slot 13)⟩]
def q26R2 : List AOper := [⟨some 2, none, .mov (.const (.data false 6 [] true))⟩]
def q26R3 : List AOper := [⟨some 15, none, .mov (.slot 0)⟩,
  ⟨some 16, none, .nilchk (.slot 15)⟩,
  ⟨some 17, none, .faddr 9 (.slot 16)⟩,
  ⟨some 18, none, .load false 1 (.slot 17)⟩,
  ⟨some 19, none, .call .adp n_slices_Clone_rune [(.slot 18)]⟩,
  ⟨some 20, none, .build [.int .i64 0, .int .i32 0, .int .i32 0, .str ⟨#[]⟩, .data false 1 [] true, .data false 1 [] true] [(0, 1, (.const (.int .i64 5))), (5, 1, (.slot 19))]⟩,
  ⟨some 21, none, .mkslice 6 1 [.int .i64 0, .int .i32 0, .int .i32 0, .str ⟨#[]⟩, .data false 1 [] true, .data false 1 [] true] [(0, (.slot 20))]⟩,
  ⟨some 2, none, .mov (.slot 21)⟩]
def c_vt_Parser_end : AFn := ⟨(.seq (.region q26R0 false [0]) (.seq (.seq (.region q26R1 false [0, 14]) (.cond (.slot 14) (.seq (.region q26R2 false [2]) .ret) .skip)) (.seq (.region q26R3 false [2]) .ret))), [.slot 2]⟩
/- (*oriel/vt.Parser).between -/
def q25R0 : List AOper := [⟨some 4, none, .mov (.slot 0)⟩,
  ⟨some 5, none, .nilchk (.slot 4)⟩,
  ⟨some 6, none, .faddr 7 (.slot 5)⟩,
  ⟨some 7, none, .load false 1 (.slot 6)⟩,
  ⟨some 8, none, .len true (.slot 7)⟩,
  ⟨some 9, none, .bin .eql (.slot 8) (.const (.int .i64 2))⟩]
def q25R1 : List AOper := [⟨some 10, none, .mov (.slot 0)⟩,
  ⟨some 11, none, .nilchk (.slot 10)⟩,
  ⟨some 12, none, .faddr 4 (.slot 11)⟩,
  ⟨none, none, .store false 1 (.slot 12) (.const (.bool true))⟩]
def q25R2 : List AOper := [⟨some 13, none, .mov (.slot 0)⟩,
  ⟨some 14, none, .nilchk (.slot 13)⟩,
  ⟨some 15, none, .faddr 7 (.slot 14)⟩,
  ⟨some 16, none, .load false 1 (.slot 15)⟩,
  ⟨some 17, none, .mov (.slot 1)⟩,
  ⟨some 18, none, .rstr (.slot 17)⟩,
  ⟨some 19, none, .bin .add (.slot 16) (.slot 18)⟩,
  ⟨some 20, none, .nilchk (.slot 13)⟩,
  ⟨some 21, none, .faddr 7 (.slot 20)⟩,
  ⟨none, none, .store false 1 (.slot 21) (.slot 19)⟩]
def c_vt_Parser_between : AFn := ⟨(.seq (.seq (.region q25R0 false [0, 1, 9]) (.cond (.slot 9) (.seq (.region q25R1 false []) .ret) .skip)) (.region q25R2 false [])), []⟩
/- (*oriel/vt.Parser).param -/
def q28R0 : List AOper := [⟨some 5, none, .mov (.slot 0)⟩,
  ⟨some 6, none, .nilchk (.slot 5)⟩,
  ⟨some 7, none, .faddr 5 (.slot 6)⟩,
  ⟨some 8, none, .load false 1 (.slot 7)⟩,
  ⟨some 9, none, .not (.slot 8)⟩]
def q28R1 : List AOper := [⟨some 10, none, .mov (.slot 0)⟩,
  ⟨some 11, none, .mov (.slot 0)⟩,
  ⟨some 12, none, .mkslice 1 1 [.int .i64 0] [(0, (.const (.int .i64 0)))]⟩,
  ⟨some 13, none, .nilchk (.slot 10)⟩,
  ⟨some 14, none, .faddr 5 (.slot 13)⟩,
  ⟨none, none, .store false 1 (.slot 14) (.const (.bool true))⟩,
  ⟨some 15, none, .nilchk (.slot 11)⟩,
  ⟨some 16, none, .faddr 8 (.slot 15)⟩,
  ⟨none, none, .store false 1 (.slot 16) (.slot 12)⟩]
def q28R2 : List AOper := [⟨some 17, none, .mov (.slot 0)⟩,
  ⟨some 18, none, .nilchk (.slot 17)⟩,
  ⟨some 19, none, .faddr 8 (.slot 18)⟩,
  ⟨some 20, none, .load false 1 (.slot 19)⟩,
  ⟨some 21, none, .len false (.slot 20)⟩,
  ⟨some 22, none, .bin .sub (.slot 21) (.const (.int .i64 1))⟩,
  ⟨some 4, none, .mov (.slot 22)⟩]
def q28R3 : List AOper := [⟨some 24, none, .mov (.slot 1)⟩,
  ⟨some 25, none, .bin .neq (.slot 24) (.const (.int .i32 59))⟩,
  ⟨some 23, none, .mov (.slot 25)⟩]
def q28R4 : List AOper := [⟨some 26, none, .mov (.slot 0)⟩,
  ⟨some 27, none, .nilchk (.slot 26)⟩,
  ⟨some 28, none, .faddr 8 (.slot 27)⟩,
  ⟨some 29, none, .load false 1 (.slot 28)⟩,
  ⟨some 30, none, .mov (.slot 4)⟩,
  ⟨some 31, none, .mov (.slot 0)⟩,
  ⟨some 32, none, .nilchk (.slot 31)⟩,
  ⟨some 33, none, .faddr 8 (.slot 32)⟩,
  ⟨some 34, none, .load false 1 (.slot 33)⟩,
  ⟨some 35, none, .mov (.slot 4)⟩,
  ⟨some 36, none, .idx 1 (.slot 34) (.slot 35)⟩,
  ⟨some 37, none, .load false 1 (.slot 36)⟩,
  ⟨some 38, none, .bin .mul (.const (.int .i64 10)) (.slot 37)⟩,
  ⟨some 39, none, .mov (.slot 1)⟩,
  ⟨some 40, none, .bin .sub (.slot 39) (.const (.int .i32 48))⟩,
  ⟨some 41, none, .conv .i64 (.slot 40)⟩,
  ⟨some 42, none, .bin .add (.slot 38) (.slot 41)⟩,
  ⟨some 43, none, .min (.slot 42) (.const (.int .i64 9999))⟩,
  ⟨some 44, none, .idx 1 (.slot 29) (.slot 30)⟩,
  ⟨none, none, .store false 1 (.slot 44) (.slot 43)⟩]
def q28R5 : List AOper := [⟨some 46, none, .mov (.slot 4)⟩,
  ⟨some 47, none, .bin .lss (.slot 46) (.const (.int .i64 16))⟩,
  ⟨some 45, none, .mov (.slot 47)⟩]
def q28R6 : List AOper := [⟨some 48, none, .mov (.slot 0)⟩,
  ⟨some 49, none, .mov (.slot 0)⟩,
  ⟨some 50, none, .nilchk (.slot 49)⟩,
  ⟨some 51, none, .faddr 8 (.slot 50)⟩,
  ⟨some 52, none, .load false 1 (.slot 51)⟩,
  ⟨some 53, none, .mkslice 1 1 [.int .i64 0] [(0, (.const (.int .i64 0)))]⟩,
  ⟨some 54, none, .append 1 8 (.slot 52) (.slot 53)⟩,
  ⟨some 55, none, .nilchk (.slot 48)⟩,
  ⟨some 56, none, .faddr 8 (.slot 55)⟩,
  ⟨none, none, .store false 1 (.slot 56) (.slot 54)⟩]
def c_vt_Parser_param : AFn := ⟨(.seq (.seq (.region q28R0 false [0, 1, 9]) (.cond (.slot 9) (.region q28R1 false [0, 1]) .skip)) (.seq (.region q28R2 false [0, 1, 4]) (.block 0 (.seq (.region q28R3 false [0, 1, 4, 23]) (.cond (.slot 23) (.region q28R4 true []) (.seq (.region q28R5 false [0, 45]) (.cond (.slot 45) (.region q28R6 false []) .skip))))))), []⟩
/- oriel/vt.sequence -/
def q32R0 : List AOper := [⟨some 4, none, .mov (.const (.data false 6 [] true))⟩]
def q32R1 : List AOper := [⟨some 8, none, .mov (.slot 0)⟩,
  ⟨some 9, none, .nilchk (.slot 8)⟩,
  ⟨some 10, none, .faddr 3 (.slot 9)⟩,
  ⟨some 11, none, .load false 1 (.slot 10)⟩,
  ⟨some 5, none, .mov (.slot 11)⟩]
def q32R2 : List AOper := [⟨some 12, none, .mov (.slot 0)⟩,
  ⟨some 13, none, .nilchk (.slot 12)⟩,
  ⟨some 14, none, .faddr 3 (.slot 13)⟩,
  ⟨none, none, .store false 1 (.slot 14) (.const (.bool false))⟩]
def q32R3 : List AOper := [⟨some 16, none, .mov (.slot 1)⟩,
  ⟨some 17, none, .bin .lss (.slot 16) (.const (.int .i32 48))⟩,
  ⟨some 15, none, .mov (.slot 17)⟩]
def q32R4 : List AOper := [⟨some 18, none, .mov (.slot 0)⟩,
  ⟨some 19, none, .mov (.slot 1)⟩,
  ⟨some 20, none, .call .inl n_vt_Parser_between [(.slot 18), (.slot 19)]⟩]
def q32R5 : List AOper := [⟨some 4, none, .mov (.const (.data false 6 [] true))⟩]
def q32R6 : List AOper := [⟨some 22, none, .mov (.slot 1)⟩,
  ⟨some 23, none, .bin .geq (.slot 22) (.const (.int .i32 60))⟩,
  ⟨some 24, none, .mov (.slot 23)⟩,
  ⟨some 25, some (24, true), .mov (.slot 1)⟩,
  ⟨some 26, some (24, true), .bin .lss (.slot 25) (.const (.int .i32 64))⟩,
  ⟨some 27, none, .pick (.slot 24) (.slot 26) (.const (.bool false))⟩,
  ⟨some 28, none, .mov (.slot 27)⟩,
  ⟨some 29, some (28, true), .mov (.slot 5)⟩,
  ⟨some 30, none, .pick (.slot 28) (.slot 29) (.const (.bool false))⟩,
  ⟨some 21, none, .mov (.slot 30)⟩]
def q32R7 : List AOper := [⟨some 31, none, .mov (.slot 0)⟩,
  ⟨some 32, none, .mov (.slot 1)⟩,
  ⟨some 33, none, .nilchk (.slot 31)⟩,
  ⟨some 34, none, .faddr 6 (.slot 33)⟩,
  ⟨none, none, .store false 1 (.slot 34) (.slot 32)⟩]
def q32R8 : List AOper := [⟨some 4, none, .mov (.const (.data false 6 [] true))⟩]
def q32R9 : List AOper := [⟨some 36, none, .mov (.slot 1)⟩,
  ⟨some 37, none, .bin .eql (.slot 36) (.const (.int .i32 58))⟩,
  ⟨some 38, none, .mov (.slot 37)⟩,
  ⟨some 39, some (38, false), .mov (.slot 1)⟩,
  ⟨some 40, some (38, false), .bin .geq (.slot 39) (.const (.int .i32 60))⟩,
  ⟨some 41, some (38, false), .mov (.slot 40)⟩,
  ⟨some 42, some (41, true), .mov (.slot 1)⟩,
  ⟨some 43, some (41, true), .bin .lss (.slot 42) (.const (.int .i32 64))⟩,
  ⟨some 44, some (38, false), .pick (.slot 41) (.slot 43) (.const (.bool false))⟩,
  ⟨some 45, none, .pick (.slot 38) (.const (.bool true)) (.slot 44)⟩,
  ⟨some 46, none, .mov (.slot 45)⟩,
  ⟨some 47, some (46, false), .mov (.slot 1)⟩,
  ⟨some 48, some (46, false), .bin .lss (.slot 47) (.const (.int .i32 64))⟩,
  ⟨some 49, some (46, false), .mov (.slot 48)⟩,
  ⟨some 50, some (49, true), .mov (.slot 0)⟩,
  ⟨some 51, some (49, true), .nilchk (.slot 50)⟩,
  ⟨some 52, some (49, true), .faddr 7 (.slot 51)⟩,
  ⟨some 53, some (49, true), .load false 1 (.slot 52)⟩,
  ⟨some 54, some (49, true), .eq false [.ks] true (.slot 53) (.const (.str ⟨#[]⟩))⟩,
  ⟨some 55, some (46, false), .pick (.slot 49) (.slot 54) (.const (.bool false))⟩,
  ⟨some 56, none, .pick (.slot 46) (.const (.bool true)) (.slot 55)⟩,
  ⟨some 35, none, .mov (.slot 56)⟩]
def q32R10 : List AOper := [⟨some 57, none, .mov (.slot 0)⟩,
  ⟨some 58, none, .nilchk (.slot 57)⟩,
  ⟨some 59, none, .faddr 4 (.slot 58)⟩,
  ⟨none, none, .store false 1 (.slot 59) (.const (.bool true))⟩]
def q32R11 : List AOper := [⟨some 4, none, .mov (.const (.data false 6 [] true))⟩]
def q32R12 : List AOper := [⟨some 61, none, .mov (.slot 1)⟩,
  ⟨some 62, none, .bin .lss (.slot 61) (.const (.int .i32 64))⟩,
  ⟨some 60, none, .mov (.slot 62)⟩]
def q32R13 : List AOper := [⟨some 63, none, .mov (.slot 0)⟩,
  ⟨some 64, none, .mov (.slot 1)⟩,
  ⟨some 65, none, .call .inl n_vt_Parser_param [(.slot 63), (.slot 64)]⟩]
def q32R14 : List AOper := [⟨some 4, none, .mov (.const (.data false 6 [] true))⟩]
def q32R15 : List AOper := [⟨some 66, none, .mov (.slot 1)⟩,
  ⟨some 67, none, .mov (.slot 0)⟩,
  ⟨some 68, none, .nilchk (.slot 67)⟩,
  ⟨some 69, none, .faddr 6 (.slot 68)⟩,
  ⟨some 70, none, .load false 1 (.slot 69)⟩,
  ⟨some 71, none, .mov (.slot 0)⟩,
  ⟨some 72, none, .nilchk (.slot 71)⟩,
  ⟨some 73, none, .faddr 7 (.slot 72)⟩,
  ⟨some 74, none, .load false 1 (.slot 73)⟩,
  ⟨some 75, none, .mov (.slot 0)⟩,
  ⟨some 76, none, .nilchk (.slot 75)⟩,
  ⟨some 77, none, .faddr 8 (.slot 76)⟩,
  ⟨some 78, none, .load false 1 (.slot 77)⟩,
  ⟨some 79, none, .mov (.slot 0)⟩,
  ⟨some 80, none, .nilchk (.slot 79)⟩,
  ⟨some 81, none, .faddr 8 (.slot 80)⟩,
  ⟨some 82, none, .load false 1 (.slot 81)⟩,
  ⟨some 83, none, .len false (.slot 82)⟩,
  ⟨some 84, none, .min (.slot 83) (.const (.int .i64 16))⟩,
  ⟨some 85, none, .sl 1 (.slot 78) none (some (.slot 84)) none⟩,
  ⟨some 86, none, .build [.int .i64 0, .int .i32 0, .int .i32 0, .str ⟨#[]⟩, .data false 1 [] true, .data false 1 [] true] [(0, 1, (.const (.int .i64 4))), (1, 1, (.slot 66)), (2, 1, (.slot 70)), (3, 1, (.slot 74)), (4, 1, (.slot 85))]⟩,
  ⟨some 6, none, .alloc [.int .i64 0, .int .i32 0, .int .i32 0, .str ⟨#[]⟩, .data false 1 [] true, .data false 1 [] true]⟩,
  ⟨none, none, .store true 6 (.slot 6) (.slot 86)⟩]
def q32R16 : List AOper := [⟨some 87, none, .mov (.slot 0)⟩,
  ⟨some 88, none, .nilchk (.slot 87)⟩,
  ⟨some 89, none, .faddr 4 (.slot 88)⟩,
  ⟨some 90, none, .load false 1 (.slot 89)⟩,
  ⟨some 7, none, .mov (.slot 90)⟩]
def q32R17 : List AOper := [⟨some 91, none, .mov (.slot 0)⟩,
  ⟨some 92, none, .build [.nilfn, .bool false, .bool false, .bool false, .bool false, .bool false, .int .i32 0, .str ⟨#[]⟩, .data false 1 [] true, .data false 1 [] true] []⟩,
  ⟨some 93, none, .nilchk (.slot 91)⟩,
  ⟨none, none, .store true 10 (.slot 93) (.slot 92)⟩]
def q32R18 : List AOper := [⟨some 94, none, .mov (.slot 7)⟩]
def q32R19 : List AOper := [⟨some 4, none, .mov (.const (.data false 6 [] true))⟩]
def q32R20 : List AOper := [⟨some 95, none, .load true 6 (.slot 6)⟩,
  ⟨some 96, none, .mkslice 6 1 [.int .i64 0, .int .i32 0, .int .i32 0, .str ⟨#[]⟩, .data false 1 [] true, .data false 1 [] true] [(0, (.slot 95))]⟩,
  ⟨some 4, none, .mov (.slot 96)⟩]
def c_vt_sequence : AFn := ⟨(.seq (.region q32R0 false [0, 1]) (.seq (.region q32R1 false [0, 1, 5]) (.seq (.region q32R2 false [0, 1, 5]) (.seq (.block 0 (.seq (.region q32R3 false [0, 1, 5, 15]) (.cond (.slot 15) (.seq (.region q32R4 false []) (.seq (.region q32R5 false [4]) .ret)) (.seq (.region q32R6 false [0, 1, 21]) (.cond (.slot 21) (.seq (.region q32R7 false []) (.seq (.region q32R8 false [4]) .ret)) (.seq (.region q32R9 false [0, 1, 35]) (.cond (.slot 35) (.seq (.region q32R10 false []) (.seq (.region q32R11 false [4]) .ret)) (.seq (.region q32R12 false [0, 1, 60]) (.cond (.slot 60) (.seq (.region q32R13 false []) (.seq (.region q32R14 false [4]) .ret)) .skip))))))))) (.seq (.region q32R15 true [0, 6]) (.seq (.region q32R16 false [0, 6, 7]) (.seq (.region q32R17 false [6, 7]) (.seq (.seq (.region q32R18 false [6, 94]) (.cond (.slot 94) (.seq (.region q32R19 false [4]) .ret) .skip)) (.seq (.region q32R20 false [4]) .ret))))))))), [.slot 4]⟩
/- oriel/vt.text -/
def q33R0 : List AOper := [⟨some 4, none, .mov (.const (.data false 6 [] true))⟩]
def q33R1 : List AOper := [⟨some 7, none, .mov (.slot 1)⟩,
  ⟨some 8, none, .bin .eql (.slot 7) (.const (.int .i32 7))⟩,
  ⟨some 6, none, .mov (.slot 8)⟩]
def q33R2 : List AOper := [⟨some 9, none, .mov (.slot 0)⟩,
  ⟨some 10, none, .call .inl n_vt_Parser_end [(.slot 9)]⟩,
  ⟨some 5, none, .mov (.slot 10)⟩]
def q33R3 : List AOper := [⟨some 11, none, .mov (.slot 0)⟩,
  ⟨some 12, none, .build [.nilfn, .bool false, .bool false, .bool false, .bool false, .bool false, .int .i32 0, .str ⟨#[]⟩, .data false 1 [] true, .data false 1 [] true] []⟩,
  ⟨some 13, none, .nilchk (.slot 11)⟩,
  ⟨none, none, .store true 10 (.slot 13) (.slot 12)⟩]
def q33R4 : List AOper := [⟨some 14, none, .mov (.slot 5)⟩,
  ⟨some 4, none, .mov (.slot 14)⟩]
def q33R5 : List AOper := [⟨some 16, none, .mov (.slot 1)⟩,
  ⟨some 17, none, .bin .geq (.slot 16) (.const (.int .i32 32))⟩,
  ⟨some 18, none, .mov (.slot 17)⟩,
  ⟨some 19, some (18, true), .mov (.slot 1)⟩,
  ⟨some 20, some (18, true), .bin .neq (.slot 19) (.const (.int .i32 127))⟩,
  ⟨some 21, none, .pick (.slot 18) (.slot 20) (.const (.bool false))⟩,
  ⟨some 22, none, .mov (.slot 21)⟩,
  ⟨some 23, some (22, true), .mov (.slot 0)⟩,
  ⟨some 24, some (22, true), .nilchk (.slot 23)⟩,
  ⟨some 25, some (22, true), .faddr 9 (.slot 24)⟩,
  ⟨some 26, some (22, true), .load false 1 (.slot 25)⟩,
  ⟨some 27, some (22, true), .len false (.slot 26)⟩,
  ⟨some 28, some (22, true), .bin .lss (.slot 27) (.const (.int .i64 64))⟩,
  ⟨some 29, none, .pick (.slot 22) (.slot 28) (.const (.bool false))⟩,
  ⟨some 15, none, .mov (.slot 29)⟩]
def q33R6 : List AOper := [⟨some 30, none, .mov (.slot 0)⟩,
  ⟨some 31, none, .mov (.slot 0)⟩,
  ⟨some 32, none, .nilchk (.slot 31)⟩,
  ⟨some 33, none, .faddr 9 (.slot 32)⟩,
  ⟨some 34, none, .load false 1 (.slot 33)⟩,
  ⟨some 35, none, .mov (.slot 1)⟩,
  ⟨some 36, none, .mkslice 1 1 [.int .i32 0] [(0, (.slot 35))]⟩,
  ⟨some 37, none, .append 1 4 (.slot 34) (.slot 36)⟩,
  ⟨some 38, none, .nilchk (.slot 30)⟩,
  ⟨some 39, none, .faddr 9 (.slot 38)⟩,
  ⟨none, none, .store false 1 (.slot 39) (.slot 37)⟩]
def q33R7 : List AOper := [⟨some 4, none, .mov (.const (.data false 6 [] true))⟩]
def c_vt_text : AFn := ⟨(.seq (.region q33R0 false [0, 1]) (.seq (.block 0 (.seq (.region q33R1 false [0, 1, 6]) (.cond (.slot 6) (.seq (.region q33R2 false [0, 5]) (.seq (.region q33R3 false [5]) (.seq (.region q33R4 false [4]) .ret))) (.seq (.region q33R5 false [0, 1, 15]) (.cond (.slot 15) (.region q33R6 false []) .skip))))) (.seq (.region q33R7 false [4]) .ret))), [.slot 4]⟩
/- oriel/vt.escape -/
def q29R0 : List AOper := [⟨some 4, none, .mov (.const (.data false 6 [] true))⟩]
def q29R1 : List AOper := [⟨some 7, none, .mov (.slot 1)⟩,
  ⟨some 8, none, .bin .lss (.slot 7) (.const (.int .i32 48))⟩]
def q29R2 : List AOper := [⟨some 9, none, .mov (.slot 0)⟩,
  ⟨some 10, none, .mov (.slot 1)⟩,
  ⟨some 11, none, .call .inl n_vt_Parser_between [(.slot 9), (.slot 10)]⟩]
def q29R3 : List AOper := [⟨some 4, none, .mov (.const (.data false 6 [] true))⟩]
def q29R4 : List AOper := [⟨some 12, none, .mov (.slot 0)⟩,
  ⟨some 13, none, .nilchk (.slot 12)⟩,
  ⟨some 14, none, .faddr 7 (.slot 13)⟩,
  ⟨some 15, none, .load false 1 (.slot 14)⟩,
  ⟨some 16, none, .eq false [.ks] false (.slot 15) (.const (.str ⟨#[]⟩))⟩]
def q29R5 : List AOper := [⟨some 17, none, .mov (.slot 1)⟩]
def q29R6 : List AOper := [⟨some 19, none, .bin .eql (.slot 17) (.const (.int .i32 91))⟩,
  ⟨some 18, none, .mov (.slot 19)⟩]
def q29R7 : List AOper := [⟨some 21, none, .bin .eql (.slot 17) (.const (.int .i32 93))⟩,
  ⟨some 20, none, .mov (.slot 21)⟩]
def q29R8 : List AOper := [⟨some 23, none, .bin .eql (.slot 17) (.const (.int .i32 80))⟩,
  ⟨some 22, none, .mov (.slot 23)⟩]
def q29R9 : List AOper := [⟨some 24, none, .bin .eql (.slot 17) (.const (.int .i32 88))⟩,
  ⟨some 22, none, .mov (.slot 24)⟩]
def q29R10 : List AOper := [⟨some 25, none, .bin .eql (.slot 17) (.const (.int .i32 94))⟩,
  ⟨some 22, none, .mov (.slot 25)⟩]
def q29R11 : List AOper := [⟨some 26, none, .bin .eql (.slot 17) (.const (.int .i32 95))⟩,
  ⟨some 22, none, .mov (.slot 26)⟩]
def q29R12 : List AOper := [⟨some 27, none, .mov (.slot 0)⟩,
  ⟨some 28, none, .build [.nilfn, .bool false, .bool false, .bool false, .bool false, .bool false, .int .i32 0, .str ⟨#[]⟩, .data false 1 [] true, .data false 1 [] true] [(0, 1, (.func n_vt_sequence)), (3, 1, (.const (.bool true)))]⟩,
  ⟨some 29, none, .nilchk (.slot 27)⟩,
  ⟨none, none, .store true 10 (.slot 29) (.slot 28)⟩]
def q29R13 : List AOper := [⟨some 4, none, .mov (.const (.data false 6 [] true))⟩]
def q29R14 : List AOper := [⟨some 30, none, .mov (.slot 0)⟩,
  ⟨some 31, none, .nilchk (.slot 30)⟩,
  ⟨some 32, none, .faddr 2 (.slot 31)⟩,
  ⟨none, none, .store false 1 (.slot 32) (.const (.bool true))⟩]
def q29R15 : List AOper := [⟨some 33, none, .mov (.slot 0)⟩,
  ⟨some 34, none, .mov (.slot 0)⟩,
  ⟨some 35, none, .nilchk (.slot 34)⟩,
  ⟨some 36, none, .faddr 2 (.slot 35)⟩,
  ⟨some 37, none, .load false 1 (.slot 36)⟩,
  ⟨some 38, none, .build [.nilfn, .bool false, .bool false, .bool false, .bool false, .bool false, .int .i32 0, .str ⟨#[]⟩, .data false 1 [] true, .data false 1 [] true] [(0, 1, (.func n_vt_text)), (1, 1, (.const (.bool true))), (2, 1, (.slot 37))]⟩,
  ⟨some 39, none, .nilchk (.slot 33)⟩,
  ⟨none, none, .store true 10 (.slot 39) (.slot 38)⟩]
def q29R16 : List AOper := [⟨some 4, none, .mov (.const (.data false 6 [] true))⟩]
def q29R17 : List AOper := [⟨some 40, none, .mov (.slot 1)⟩,
  ⟨some 41, none, .mov (.slot 0)⟩,
  ⟨some 42, none, .nilchk (.slot 41)⟩,
  ⟨some 43, none, .faddr 7 (.slot 42)⟩,
  ⟨some 44, none, .load false 1 (.slot 43)⟩,
  ⟨some 45, none, .build [.int .i64 0, .int .i32 0, .int .i32 0, .str ⟨#[]⟩, .data false 1 [] true, .data false 1 [] true] [(0, 1, (.const (.int .i64 3))), (1, 1, (.slot 40)), (3, 1, (.slot 44))]⟩,
  ⟨some 5, none, .alloc [.int .i64 0, .int .i32 0, .int .i32 0, .str ⟨#[]⟩, .data false 1 [] true, .data false 1 [] true]⟩,
  ⟨none, none, .store true 6 (.slot 5) (.slot 45)⟩]
def q29R18 : List AOper := [⟨some 46, none, .mov (.slot 0)⟩,
  ⟨some 47, none, .nilchk (.slot 46)⟩,
  ⟨some 48, none, .faddr 4 (.slot 47)⟩,
  ⟨some 49, none, .load false 1 (.slot 48)⟩,
  ⟨some 6, none, .mov (.slot 49)⟩]
def q29R19 : List AOper := [⟨some 50, none, .mov (.slot 0)⟩,
  ⟨some 51, none, .build [.nilfn, .bool false, .bool false, .bool false, .bool false, .bool false, .int .i32 0, .str ⟨#[]⟩, .data false 1 [] true, .data false 1 [] true] []⟩,
  ⟨some 52, none, .nilchk (.slot 50)⟩,
  ⟨none, none, .store true 10 (.slot 52) (.slot 51)⟩]
def q29R20 : List AOper := [⟨some 53, none, .mov (.slot 6)⟩]
def q29R21 : List AOper := [⟨some 4, none, .mov (.const (.data false 6 [] true))⟩]
def q29R22 : List AOper := [⟨some 54, none, .load true 6 (.slot 5)⟩,
  ⟨some 55, none, .mkslice 6 1 [.int .i64 0, .int .i32 0, .int .i32 0, .str ⟨#[]⟩, .data false 1 [] true, .data false 1 [] true] [(0, (.slot 54))]⟩,
  ⟨some 4, none, .mov (.slot 55)⟩]
def c_vt_escape : AFn := ⟨(.seq (.region q29R0 false [0, 1]) (.seq (.seq (.region q29R1 false [0, 1, 8]) (.cond (.slot 8) (.seq (.region q29R2 false []) (.seq (.region q29R3 false [4]) .ret)) .skip)) (.seq (.seq (.region q29R4 false [0, 1, 16]) (.cond (.slot 16) (.seq (.region q29R5 false [0, 1, 17]) (.block 0 (.seq (.block 3 (.seq (.block 2 (.seq (.block 1 (.seq (.seq (.seq (.region q29R6 false [0, 1, 17, 18]) (.cond (.slot 18) (.exit 1) .skip)) (.seq (.seq (.region q29R7 false [0, 1, 17, 20]) (.cond (.slot 20) (.exit 2) .skip)) (.seq (.seq (.region q29R8 false [0, 1, 17, 22]) (.cond (.slot 22) .skip (.seq (.region q29R9 false [0, 1, 17, 22]) (.cond (.slot 22) .skip (.seq (.region q29R10 false [0, 1, 17, 22]) (.cond (.slot 22) .skip (.region q29R11 false [0, 1, 22]))))))) (.cond (.slot 22) (.exit 3) .skip)))) (.exit 0))) (.seq (.seq (.region q29R12 false []) (.seq (.region q29R13 false [4]) .ret)) (.exit 0)))) (.region q29R14 false [0]))) (.seq (.seq (.region q29R15 false []) (.seq (.region q29R16 false [4]) .ret)) (.exit 0))))) .skip)) (.seq (.region q29R17 false [0, 5]) (.seq (.region q29R18 false [0, 5, 6]) (.seq (.region q29R19 false [5, 6]) (.seq (.seq (.region q29R20 false [5, 53]) (.cond (.slot 53) (.seq (.region q29R21 false [4]) .ret) .skip)) (.seq (.region q29R22 false [4]) .ret)))))))), [.slot 4]⟩
/- (*oriel/vt.Parser).one -/
def q27R0 : List AOper := [⟨some 4, none, .mov (.const (.data false 6 [] true))⟩]
def q27R1 : List AOper := [⟨some 7, none, .mov (.slot 0)⟩,
  ⟨some 8, none, .nilchk (.slot 7)⟩,
  ⟨some 9, none, .faddr 0 (.slot 8)⟩,
  ⟨some 10, none, .load false 1 (.slot 9)⟩,
  ⟨some 11, none, .isnil .kf false (.slot 10)⟩,
  ⟨some 12, none, .mov (.slot 11)⟩,
  ⟨some 13, some (12, true), .mov (.slot 1)⟩,
  ⟨some 14, some (12, true), .bin .neq (.slot 13) (.const (.int .i32 27))⟩,
  ⟨some 15, none, .pick (.slot 12) (.slot 14) (.const (.bool false))⟩,
  ⟨some 6, none, .mov (.slot 15)⟩]
def q27R2 : List AOper := [⟨some 17, none, .mov (.slot 1)⟩,
  ⟨some 18, none, .bin .eql (.slot 17) (.const (.int .i32 27))⟩,
  ⟨some 16, none, .mov (.slot 18)⟩]
def q27R3 : List AOper := [⟨some 20, none, .mov (.slot 1)⟩,
  ⟨some 21, none, .bin .eql (.slot 20) (.const (.int .i32 24))⟩,
  ⟨some 22, none, .mov (.slot 21)⟩,
  ⟨some 23, some (22, false), .mov (.slot 1)⟩,
  ⟨some 24, some (22, false), .bin .eql (.slot 23) (.const (.int .i32 26))⟩,
  ⟨some 25, none, .pick (.slot 22) (.const (.bool true)) (.slot 24)⟩,
  ⟨some 19, none, .mov (.slot 25)⟩]
def q27R4 : List AOper := [⟨some 27, none, .mov (.slot 0)⟩,
  ⟨some 28, none, .nilchk (.slot 27)⟩,
  ⟨some 29, none, .faddr 1 (.slot 28)⟩,
  ⟨some 30, none, .load false 1 (.slot 29)⟩,
  ⟨some 26, none, .mov (.slot 30)⟩]
def q27R5 : List AOper := [⟨some 32, none, .mov (.slot 1)⟩,
  ⟨some 33, none, .bin .geq (.slot 32) (.const (.int .i32 160))⟩,
  ⟨some 31, none, .mov (.slot 33)⟩]
def q27R6 : List AOper := [⟨some 35, none, .mov (.slot 1)⟩,
  ⟨some 36, none, .bin .lss (.slot 35) (.const (.int .i32 32))⟩,
  ⟨some 37, none, .mov (.slot 36)⟩,
  ⟨some 38, some (37, false), .mov (.slot 1)⟩,
  ⟨some 39, some (37, false), .bin .eql (.slot 38) (.const (.int .i32 127))⟩,
  ⟨some 40, none, .pick (.slot 37) (.const (.bool true)) (.slot 39)⟩,
  ⟨some 34, none, .mov (.slot 40)⟩]
def q27R7 : List AOper := [⟨some 41, none, .mov (.slot 1)⟩,
  ⟨some 42, none, .call .frz n_vt_ground [(.slot 41)]⟩,
  ⟨some 4, none, .mov (.slot 42)⟩]
def q27R8 : List AOper := [⟨some 43, none, .mov (.slot 0)⟩,
  ⟨some 44, none, .call .inl n_vt_Parser_end [(.slot 43)]⟩,
  ⟨some 5, none, .mov (.slot 44)⟩]
def q27R9 : List AOper := [⟨some 45, none, .mov (.slot 0)⟩,
  ⟨some 46, none, .build [.nilfn, .bool false, .bool false, .bool false, .bool false, .bool false, .int .i32 0, .str ⟨#[]⟩, .data false 1 [] true, .data false 1 [] true] [(0, 1, (.func n_vt_escape))]⟩,
  ⟨some 47, none, .nilchk (.slot 45)⟩,
  ⟨none, none, .store true 10 (.slot 47) (.slot 46)⟩]
def q27R10 : List AOper := [⟨some 48, none, .mov (.slot 5)⟩,
  ⟨some 4, none, .mov (.slot 48)⟩]
def q27R11 : List AOper := [⟨some 49, none, .mov (.slot 0)⟩,
  ⟨some 50, none, .build [.nilfn, .bool false, .bool false, .bool false, .bool false, .bool false, .int .i32 0, .str ⟨#[]⟩, .data false 1 [] true, .data false 1 [] true] []⟩,
  ⟨some 51, none, .nilchk (.slot 49)⟩,
  ⟨none, none, .store true 10 (.slot 51) (.slot 50)⟩]
def q27R12 : List AOper := [⟨some 52, none, .mov (.slot 1)⟩,
  ⟨some 53, none, .call .frz n_vt_ground [(.slot 52)]⟩,
  ⟨some 4, none, .mov (.slot 53)⟩]
def q27R13 : List AOper := [⟨some 54, none, .mov (.slot 0)⟩,
  ⟨some 55, none, .nilchk (.slot 54)⟩,
  ⟨some 56, none, .faddr 0 (.slot 55)⟩,
  ⟨some 57, none, .load false 1 (.slot 56)⟩,
  ⟨some 58, none, .mov (.slot 0)⟩,
  ⟨some 59, none, .mov (.slot 1)⟩,
  ⟨some 60, none, .callv (.slot 57) [(.slot 58), (.slot 59)]⟩,
  ⟨some 4, none, .mov (.slot 60)⟩]
def q27R14 : List AOper := [⟨some 61, none, .mov (.slot 0)⟩,
  ⟨some 62, none, .build [.nilfn, .bool false, .bool false, .bool false, .bool false, .bool false, .int .i32 0, .str ⟨#[]⟩, .data false 1 [] true, .data false 1 [] true] []⟩,
  ⟨some 63, none, .nilchk (.slot 61)⟩,
  ⟨none, none, .store true 10 (.slot 63) (.slot 62)⟩]
def q27R15 : List AOper := [⟨some 64, none, .mov (.slot 1)⟩,
  ⟨some 65, none, .call .frz n_vt_ground [(.slot 64)]⟩,
  ⟨some 4, none, .mov (.slot 65)⟩]
def q27R16 : List AOper := [⟨some 66, none, .mov (.slot 0)⟩,
  ⟨some 67, none, .nilchk (.slot 66)⟩,
  ⟨some 68, none, .faddr 0 (.slot 67)⟩,
  ⟨some 69, none, .load false 1 (.slot 68)⟩,
  ⟨some 70, none, .mov (.slot 0)⟩,
  ⟨some 71, none, .mov (.slot 1)⟩,
  ⟨some 72, none, .callv (.slot 69) [(.slot 70), (.slot 71)]⟩,
  ⟨some 4, none, .mov (.slot 72)⟩]
def c_vt_Parser_one : AFn := ⟨(.seq (.region q27R0 false [0, 1]) (.seq (.block 0 (.seq (.block 6 (.seq (.block 5 (.seq (.block 4 (.seq (.block 3 (.seq (.block 2 (.seq (.block 1 (.seq (.seq (.seq (.region q27R1 false [0, 1, 6]) (.cond (.slot 6) (.exit 1) .skip)) (.seq (.seq (.region q27R2 false [0, 1, 16]) (.cond (.slot 16) (.exit 2) .skip)) (.seq (.seq (.region q27R3 false [0, 1, 19]) (.cond (.slot 19) (.exit 3) .skip)) (.seq (.seq (.region q27R4 false [0, 1, 26]) (.cond (.slot 26) (.exit 4) .skip)) (.seq (.seq (.region q27R5 false [0, 1, 31]) (.cond (.slot 31) (.exit 5) .skip)) (.seq (.region q27R6 false [0, 1, 34]) (.cond (.slot 34) (.exit 6) .skip))))))) (.exit 0))) (.seq (.seq (.region q27R7 false [4]) .ret) (.exit 0)))) (.seq (.seq (.region q27R8 false [0, 5]) (.seq (.region q27R9 false [5]) (.seq (.region q27R10 false [4]) .ret))) (.exit 0)))) (.seq (.seq (.region q27R11 false [1]) (.seq (.region q27R12 false [4]) .ret)) (.exit 0)))) (.seq (.seq (.region q27R13 false [4]) .ret) (.exit 0)))) (.region q27R14 false [1]))) (.seq (.seq (.region q27R15 false [4]) .ret) (.exit 0)))) (.seq (.region q27R16 false [4]) .ret))), [.slot 4]⟩
/- (*oriel/vt.Parser).Put -/
def q24R0 : List AOper := [⟨some 4, none, .mov (.const (.data false 6 [] true))⟩]
def q24R1 : List AOper := [⟨some 5, none, .mov (.slot 0)⟩,
  ⟨some 6, none, .isnil .kp false (.slot 5)⟩]
def q24R2 : List AOper := [⟨some 4, none, .mov (.const (.data false 6 [] true))⟩]
def q24R3 : List AOper := [⟨some 7, none, .mov (.slot 1)⟩,
  ⟨some 8, none, .call .frz n_vt_point [(.slot 7)]⟩,
  ⟨some 1, none, .mov (.slot 8)⟩]
def q24R4 : List AOper := [⟨some 9, none, .mov (.slot 1)⟩,
  ⟨some 10, none, .bin .geq (.slot 9) (.const (.int .i32 128))⟩,
  ⟨some 11, none, .mov (.slot 10)⟩,
  ⟨some 12, some (11, true), .mov (.slot 1)⟩,
  ⟨some 13, some (11, true), .bin .lss (.slot 12) (.const (.int .i32 160))⟩,
  ⟨some 14, none, .pick (.slot 11) (.slot 13) (.const (.bool false))⟩]
def q24R5 : List AOper := [⟨some 15, none, .mov (.slot 0)⟩,
  ⟨some 16, none, .call .inl n_vt_Parser_one [(.slot 15), (.const (.int .i32 27))]⟩,
  ⟨some 17, none, .mov (.slot 0)⟩,
  ⟨some 18, none, .mov (.slot 1)⟩,
  ⟨some 19, none, .bin .sub (.slot 18) (.const (.int .i32 64))⟩,
  ⟨some 20, none, .call .inl n_vt_Parser_one [(.slot 17), (.slot 19)]⟩,
  ⟨some 21, none, .append 6 80 (.slot 16) (.slot 20)⟩,
  ⟨some 4, none, .mov (.slot 21)⟩]
def q24R6 : List AOper := [⟨some 22, none, .mov (.slot 0)⟩,
  ⟨some 23, none, .mov (.slot 1)⟩,
  ⟨some 24, none, .call .inl n_vt_Parser_one [(.slot 22), (.slot 23)]⟩,
  ⟨some 4, none, .mov (.slot 24)⟩]
def c_vt_Parser_Put : AFn := ⟨(.seq (.region q24R0 false [0, 1]) (.seq (.seq (.region q24R1 false [0, 1, 6]) (.cond (.slot 6) (.seq (.region q24R2 false [4]) .ret) .skip)) (.seq (.region q24R3 false [0, 1]) (.seq (.seq (.region q24R4 false [0, 1, 14]) (.cond (.slot 14) (.seq (.region q24R5 false [4]) .ret) .skip)) (.seq (.region q24R6 false [4]) .ret))))), [.slot 4]⟩
/- oriel/vt.Parse -/
def q21R0 : List AOper := [⟨some 2, none, .melt (.const (.data false 6 [] true))⟩]
def q21R1 : List AOper := [⟨some 3, none, .mknil 6⟩]
def q21R2 : List AOper := [⟨some 7, none, .call .inl n_vt_New []⟩,
  ⟨some 4, none, .mov (.slot 7)⟩]
def q21R3 : List AOper := [⟨some 8, none, .mov (.slot 0)⟩,
  ⟨some 9, none, .len false (.slot 8)⟩,
  ⟨some 10, none, .mov (.const (.int .i64 0))⟩]
def q21R4 : List AOper := [⟨some 11, none, .bin .lss (.slot 10) (.slot 9)⟩]
def q21R5 : List AOper := [⟨some 12, none, .idx 1 (.slot 8) (.slot 10)⟩,
  ⟨some 13, none, .load false 1 (.slot 12)⟩,
  ⟨some 6, none, .mov (.slot 13)⟩]
def q21R6 : List AOper := [⟨some 14, none, .mov (.slot 3)⟩,
  ⟨some 15, none, .mov (.slot 4)⟩,
  ⟨some 16, none, .mov (.slot 6)⟩,
  ⟨some 17, none, .call .inl n_vt_Parser_Put [(.slot 15), (.slot 16)]⟩,
  ⟨some 18, none, .append 6 80 (.slot 14) (.slot 17)⟩,
  ⟨some 3, none, .mov (.slot 18)⟩]
def q21R7 : List AOper := [⟨some 19, none, .bin .add (.slot 10) (.const (.int .i64 1))⟩,
  ⟨some 10, none, .mov (.slot 19)⟩]
def c_vt_Parse_L0 : ACode := (.seq (.region q21R4 false [3, 4, 8, 9, 10, 11]) (.seq (.cond (.slot 11) .skip (.exit 0)) (.seq (.block 1 (.seq (.region q21R5 false [3, 4, 6, 8, 9, 10]) (.region q21R6 false [3, 4, 8, 9, 10]))) (.region q21R7 false [3, 4, 8, 9, 10]))))
def lp_vt_Parse_0 : ACode := .loop [3, 4, 8, 9, 10] c_vt_Parse_L0
def q21R8 : List AOper := [⟨some 20, none, .mov (.slot 3)⟩,
  ⟨some 2, none, .melt (.slot 20)⟩]
def c_vt_Parse : AFn := ⟨(.seq (.region q21R0 false [0]) (.seq (.region q21R1 false [0, 3]) (.seq (.region q21R2 false [0, 3, 4]) (.seq (.seq (.region q21R3 false [3, 4, 8, 9, 10]) (.block 0 lp_vt_Parse_0)) (.seq (.region q21R8 false [2]) .ret))))), [.slot 2]⟩
/- oriel/oriellaw11.known -/
def q7R0 : List AOper := [⟨some 0, none, .mov (.const (.bool false))⟩]
def q7R1 : List AOper := [⟨some 3, none, .mkslice 1 13 [.int .i32 0] [(0, (.const (.int .i32 97))), (1, (.const (.int .i32 27))), (2, (.const (.int .i32 91))), (3, (.const (.int .i32 63))), (4, (.const (.int .i32 50))), (5, (.const (.int .i32 53))), (6, (.const (.int .i32 104))), (7, (.const (.int .i32 27))), (8, (.const (.int .i32 93))), (9, (.const (.int .i32 48))), (10, (.const (.int .i32 59))), (11, (.const (.int .i32 116))), (12, (.const (.int .i32 7)))]⟩,
  ⟨some 4, none, .call .frz n_vt_Parse [(.slot 3)]⟩,
  ⟨some 1, none, .mov (.slot 4)⟩]
def q7R2 : List AOper := [⟨some 5, none, .build [.int .i64 0, .int .i32 0, .int .i32 0, .str ⟨#[]⟩, .data false 1 [] true, .data false 1 [] true] [(0, 1, (.const (.int .i64 1))), (1, 1, (.const (.int .i32 97)))]⟩,
  ⟨some 6, none, .mkdata 1 1 [.int .i64 0] [(0, (.const (.int .i64 25)))]⟩,
  ⟨some 7, none, .build [.int .i64 0, .int .i32 0, .int .i32 0, .str ⟨#[]⟩, .data false 1 [] true, .data false 1 [] true] [(0, 1, (.const (.int .i64 4))), (2, 1, (.const (.int .i32 63))), (4, 1, (.slot 6)), (1, 1, (.const (.int .i32 104)))]⟩,
  ⟨some 8, none, .mkdata 1 3 [.int .i32 0] [(0, (.const (.int .i32 48))), (1, (.const (.int .i32 59))), (2, (.const (.int .i32 116)))]⟩,
  ⟨some 9, none, .build [.int .i64 0, .int .i32 0, .int .i32 0, .str ⟨#[]⟩, .data false 1 [] true, .data false 1 [] true] [(0, 1, (.const (.int .i64 5))), (5, 1, (.slot 8))]⟩,
  ⟨some 10, none, .mkdata 6 3 [.int .i64 0, .int .i32 0, .int .i32 0, .str ⟨#[]⟩, .data false 1 [] true, .data false 1 [] true] [(0, (.slot 5)), (1, (.slot 7)), (2, (.slot 9))]⟩,
  ⟨some 2, none, .mov (.slot 10)⟩]
def q7R3 : List AOper := [⟨some 11, none, .mov (.slot 1)⟩,
  ⟨some 12, none, .mov (.slot 2)⟩,
  ⟨some 13, none, .call .frz n_ref11_All [(.slot 11), (.slot 12)]⟩,
  ⟨some 0, none, .mov (.slot 13)⟩]
def c_law11_known : AFn := ⟨(.seq (.region q7R0 false []) (.seq (.region q7R1 false [1]) (.seq (.region q7R2 false [1, 2]) (.seq (.region q7R3 false [0]) .ret)))), [.slot 0]⟩
/- (*oriel/vt.Parser).Idle -/
def q23R0 : List AOper := [⟨some 2, none, .mov (.const (.bool false))⟩]
def q23R1 : List AOper := [⟨some 3, none, .mov (.slot 0)⟩,
  ⟨some 4, none, .isnil .kp false (.slot 3)⟩,
  ⟨some 5, none, .mov (.slot 4)⟩,
  ⟨some 6, some (5, false), .mov (.slot 0)⟩,
  ⟨some 7, some (5, false), .nilchk (.slot 6)⟩,
  ⟨some 8, some (5, false), .faddr 0 (.slot 7)⟩,
  ⟨some 9, some (5, false), .load false 1 (.slot 8)⟩,
  ⟨some 10, some (5, false), .isnil .kf false (.slot 9)⟩,
  ⟨some 11, none, .pick (.slot 5) (.const (.bool true)) (.slot 10)⟩,
  ⟨some 2, none, .mov (.slot 11)⟩]
def c_vt_Parser_Idle : AFn := ⟨(.seq (.region q23R0 false [0]) (.seq (.region q23R1 false [2]) .ret)), [.slot 2]⟩
/- slices.Clone[[]int,int] -/
def q18R0 : List AOper := [⟨some 2, none, .mov (.const (.data false 1 [] true))⟩]
def q18R1 : List AOper := [⟨some 3, none, .mov (.slot 0)⟩,
  ⟨some 4, none, .isnil .ks false (.slot 3)⟩]
def q18R2 : List AOper := [⟨some 2, none, .mov (.const (.data false 1 [] true))⟩]
def q18R3 : List AOper := [⟨some 5, none, .mkslice 1 0 [.int .i64 0] []⟩,
  ⟨some 6, none, .mov (.slot 0)⟩,
  ⟨some 7, none, .append 1 8 (.slot 5) (.slot 6)⟩,
  ⟨some 2, none, .mov (.slot 7)⟩]
def c_slices_Clone_int : AFn := ⟨(.seq (.region q18R0 false [0]) (.seq (.seq (.region q18R1 false [0, 4]) (.cond (.slot 4) (.seq (.region q18R2 false [2]) .ret) .skip)) (.seq (.region q18R3 false [2]) .ret))), [.slot 2]⟩
/- (*oriel/vt.Parser).Copy -/
def q22R0 : List AOper := [⟨some 2, none, .mov (.const .nilptr)⟩]
def q22R1 : List AOper := [⟨some 4, none, .mov (.slot 0)⟩,
  ⟨some 5, none, .isnil .kp false (.slot 4)⟩]
def q22R2 : List AOper := [⟨some 2, none, .mov (.const .nilptr)⟩]
def q22R3 : List AOper := [⟨some 6, none, .mov (.slot 0)⟩,
  ⟨some 7, none, .nilchk (.slot 6)⟩,
  ⟨some 8, none, .load true 10 (.slot 7)⟩,
  ⟨some 3, none, .alloc [.nilfn, .bool false, .bool false, .bool false, .bool false, .bool false, .int .i32 0, .str ⟨#[]⟩, .data false 1 [] true, .data false 1 [] true]⟩,
  ⟨none, none, .store true 10 (.slot 3) (.slot 8)⟩]
def q22R4 : List AOper := [⟨some 9, none, .mov (.slot 0)⟩,
  ⟨some 10, none, .nilchk (.slot 9)⟩,
  ⟨some 11, none, .faddr 8 (.slot 10)⟩,
  ⟨some 12, none, .load false 1 (.slot 11)⟩,
  ⟨some 13, none, .call .inl n_slices_Clone_int [(.slot 12)]⟩,
  ⟨some 14, none, .mov (.slot 0)⟩,
  ⟨some 15, none, .nilchk (.slot 14)⟩,
  ⟨some 16, none, .faddr 9 (.slot 15)⟩,
  ⟨some 17, none, .load false 1 (.slot 16)⟩,
  ⟨some 18, none, .call .inl n_slices_Clone_rune [(.slot 17)]⟩,
  ⟨some 19, none, .faddr 8 (.slot 3)⟩,
  ⟨none, none, .store false 1 (.slot 19) (.slot 13)⟩,
  ⟨some 20, none, .faddr 9 (.slot 3)⟩,
  ⟨none, none, .store false 1 (.slot 20) (.slot 18)⟩]
def q22R5 : List AOper := [⟨some 2, none, .mov (.slot 3)⟩]
def c_vt_Parser_Copy : AFn := ⟨(.seq (.region q22R0 false [0]) (.seq (.seq (.region q22R1 false [0, 5]) (.cond (.slot 5) (.seq (.region q22R2 false [2]) .ret) .skip)) (.seq (.region q22R3 false [0, 3]) (.seq (.regionQ q22R4 [0, 1, 2, 3, 4, 5, 6, 7, 8, 9, 10, 11, 12, 13] [(8, [4, 9])] [3]) (.seq (.region q22R5 false [2]) .ret))))), [.slot 2]⟩
/- (*oriel/orielref11.Parser).stringed -/
def q12R0 : List AOper := [⟨some 2, none, .mov (.const (.bool false))⟩,
  ⟨some 3, none, .mov (.const (.bool false))⟩]
def q12R1 : List AOper := [⟨some 5, none, .mov (.slot 0)⟩,
  ⟨some 6, none, .nilchk (.slot 5)⟩,
  ⟨some 7, none, .faddr 0 (.slot 6)⟩,
  ⟨some 8, none, .load false 1 (.slot 7)⟩,
  ⟨some 9, none, .len false (.slot 8)⟩,
  ⟨some 10, none, .bin .lss (.slot 9) (.const (.int .i64 2))⟩]
def q12R2 : List AOper := [⟨some 2, none, .mov (.const (.bool false))⟩,
  ⟨some 3, none, .mov (.const (.bool false))⟩]
def q12R3 : List AOper := [⟨some 11, none, .mov (.slot 0)⟩,
  ⟨some 12, none, .nilchk (.slot 11)⟩,
  ⟨some 13, none, .faddr 0 (.slot 12)⟩,
  ⟨some 14, none, .load false 1 (.slot 13)⟩,
  ⟨some 15, none, .idx 1 (.slot 14) (.const (.int .i64 1))⟩,
  ⟨some 16, none, .load false 1 (.slot 15)⟩,
  ⟨some 4, none, .mov (.slot 16)⟩]
def q12R4 : List AOper := [⟨some 17, none, .mov (.slot 4)⟩,
  ⟨some 18, none, .bin .eql (.slot 17) (.const (.int .i32 93))⟩,
  ⟨some 19, none, .mov (.slot 18)⟩,
  ⟨some 20, some (19, false), .mov (.slot 4)⟩,
  ⟨some 21, some (19, false), .bin .eql (.slot 20) (.const (.int .i32 80))⟩,
  ⟨some 22, none, .pick (.slot 19) (.const (.bool true)) (.slot 21)⟩,
  ⟨some 23, none, .mov (.slot 22)⟩,
  ⟨some 24, some (23, false), .mov (.slot 4)⟩,
  ⟨some 25, some (23, false), .bin .eql (.slot 24) (.const (.int .i32 88))⟩,
  ⟨some 26, none, .pick (.slot 23) (.const (.bool true)) (.slot 25)⟩,
  ⟨some 27, none, .mov (.slot 26)⟩,
  ⟨some 28, some (27, false), .mov (.slot 4)⟩,
  ⟨some 29, some (27, false), .bin .eql (.slot 28) (.const (.int .i32 94))⟩,
  ⟨some 30, none, .pick (.slot 27) (.const (.bool true)) (.slot 29)⟩,
  ⟨some 31, none, .mov (.slot 30)⟩,
  ⟨some 32, some (31, false), .mov (.slot 4)⟩,
  ⟨some 33, some (31, false), .bin .eql (.slot 32) (.const (.int .i32 95))⟩,
  ⟨some 34, none, .pick (.slot 31) (.const (.bool true)) (.slot 33)⟩,
  ⟨some 35, none, .mov (.slot 4)⟩,
  ⟨some 36, none, .bin .eql (.slot 35) (.const (.int .i32 93))⟩,
  ⟨some 2, none, .mov (.slot 34)⟩,
  ⟨some 3, none, .mov (.slot 36)⟩]
def c_ref11_Parser_stringed : AFn := ⟨(.seq (.region q12R0 false [0]) (.seq (.seq (.region q12R1 false [0, 10]) (.cond (.slot 10) (.seq (.region q12R2 false [2, 3]) .ret) .skip)) (.seq (.region q12R3 false [4]) (.seq (.region q12R4 false [2, 3]) .ret)))), [.slot 2, .slot 3]⟩
/- (*oriel/orielref11.Parser).told -/
def q13R0 : List AOper := [⟨some 2, none, .mov (.const (.data false 6 [] true))⟩]
def q13R1 : List AOper := [⟨some 8, none, .mov (.slot 0)⟩,
  ⟨some 9, none, .call .inl n_ref11_Parser_stringed [(.slot 8)]⟩,
  ⟨some 7, none, .mov (.slot 9)⟩,
  ⟨some 10, none, .extract 0 (.slot 7)⟩,
  ⟨some 11, none, .extract 1 (.slot 7)⟩,
  ⟨some 3, none, .mov (.slot 10)⟩,
  ⟨some 4, none, .mov (.slot 11)⟩]
def q13R2 : List AOper := [⟨some 12, none, .mov (.slot 4)⟩,
  ⟨some 13, none, .not (.slot 12)⟩]
def q13R3 : List AOper := [⟨some 2, none, .mov (.const (.data false 6 [] true))⟩]
def q13R4 : List AOper := [⟨some 5, none, .mknil 1⟩]
def q13R5 : List AOper := [⟨some 6, none, .mov (.const (.int .i64 2))⟩]
def q13R6 : List AOper := [⟨some 14, none, .mov (.slot 6)⟩,
  ⟨some 15, none, .mov (.slot 0)⟩,
  ⟨some 16, none, .nilchk (.slot 15)⟩,
  ⟨some 17, none, .faddr 0 (.slot 16)⟩,
  ⟨some 18, none, .load false 1 (.slot 17)⟩,
  ⟨some 19, none, .len false (.slot 18)⟩,
  ⟨some 20, none, .bin .lss (.slot 14) (.slot 19)⟩,
  ⟨some 21, none, .mov (.slot 20)⟩,
  ⟨some 22, some (21, true), .mov (.slot 6)⟩,
  ⟨some 23, some (21, true), .bin .lss (.slot 22) (.const (.int .i64 66))⟩,
  ⟨some 24, none, .pick (.slot 21) (.slot 23) (.const (.bool false))⟩]
def q13R8 : List AOper := [⟨some 27, none, .mov (.slot 5)⟩,
  ⟨some 28, none, .mov (.slot 0)⟩,
  ⟨some 29, none, .nilchk (.slot 28)⟩,
  ⟨some 30, none, .faddr 0 (.slot 29)⟩,
  ⟨some 31, none, .load false 1 (.slot 30)⟩,
  ⟨some 32, none, .mov (.slot 6)⟩,
  ⟨some 33, none, .idx 1 (.slot 31) (.slot 32)⟩,
  ⟨some 34, none, .load false 1 (.slot 33)⟩,
  ⟨some 35, none, .mkslice 1 1 [.int .i32 0] [(0, (.slot 34))]⟩,
  ⟨some 36, none, .append 1 4 (.slot 27) (.slot 35)⟩,
  ⟨some 5, none, .mov (.slot 36)⟩]
def q13R7 : List AOper := [⟨some 25, none, .mov (.slot 6)⟩,
  ⟨some 26, none, .bin .add (.slot 25) (.const (.int .i64 1))⟩,
  ⟨some 6, none, .mov (.slot 26)⟩]
def c_ref11_Parser_told_L0 : ACode := (.seq (.seq (.region q13R6 false [0, 5, 6, 24]) (.cond (.slot 24) .skip (.exit 0))) (.seq (.block 1 (.region q13R8 false [0, 5, 6])) (.region q13R7 false [0, 5, 6])))
def lp_ref11_Parser_told_0 : ACode := .loop [0, 5, 6] c_ref11_Parser_told_L0
def q13R9 : List AOper := [⟨some 37, none, .mov (.slot 5)⟩,
  ⟨some 38, none, .build [.int .i64 0, .int .i32 0, .int .i32 0, .str ⟨#[]⟩, .data false 1 [] true, .data false 1 [] true] [(0, 1, (.const (.int .i64 5))), (5, 1, (.slot 37))]⟩,
  ⟨some 39, none, .mkslice 6 1 [.int .i64 0, .int .i32 0, .int .i32 0, .str ⟨#[]⟩, .data false 1 [] true, .data false 1 [] true] [(0, (.slot 38))]⟩,
  ⟨some 2, none, .mov (.slot 39)⟩]
def c_ref11_Parser_told : AFn := ⟨(.seq (.region q13R0 false [0]) (.seq (.region q13R1 false [0, 4]) (.seq (.seq (.region q13R2 false [0, 13]) (.cond (.slot 13) (.seq (.region q13R3 false [2]) .ret) .skip)) (.seq (.region q13R4 false [0, 5]) (.seq (.seq (.region q13R5 false [0, 5, 6]) (.block 0 lp_ref11_Parser_told_0)) (.seq (.region q13R9 false [2]) .ret)))))), [.slot 2]⟩
/- oriel/orielref11.word -/
def q17R0 : List AOper := [⟨some 2, none, .mov (.const (.data false 6 [] true))⟩]
def q17R1 : List AOper := [⟨some 3, none, .mov (.slot 0)⟩,
  ⟨some 4, none, .bin .eql (.slot 3) (.const (.int .i32 127))⟩]
def q17R2 : List AOper := [⟨some 2, none, .mov (.const (.data false 6 [] true))⟩]
def q17R3 : List AOper := [⟨some 5, none, .mov (.slot 0)⟩,
  ⟨some 6, none, .bin .lss (.slot 5) (.const (.int .i32 32))⟩]
def q17R4 : List AOper := [⟨some 7, none, .mov (.slot 0)⟩,
  ⟨some 8, none, .build [.int .i64 0, .int .i32 0, .int .i32 0, .str ⟨#[]⟩, .data false 1 [] true, .data false 1 [] true] [(0, 1, (.const (.int .i64 2))), (1, 1, (.slot 7))]⟩,
  ⟨some 9, none, .mkslice 6 1 [.int .i64 0, .int .i32 0, .int .i32 0, .str ⟨#[]⟩, .data false 1 [] true, .data false 1 [] true] [(0, (.slot 8))]⟩,
  ⟨some 2, none, .mov (.slot 9)⟩]
def q17R5 : List AOper := [⟨some 10, none, .mov (.slot 0)⟩,
  ⟨some 11, none, .build [.int .i64 0, .int .i32 0, .int .i32 0, .str ⟨#[]⟩, .data false 1 [] true, .data false 1 [] true] [(0, 1, (.const (.int .i64 1))), (1, 1, (.slot 10))]⟩,
  ⟨some 12, none, .mkslice 6 1 [.int .i64 0, .int .i32 0, .int .i32 0, .str ⟨#[]⟩, .data false 1 [] true, .data false 1 [] true] [(0, (.slot 11))]⟩,
  ⟨some 2, none, .mov (.slot 12)⟩]
def c_ref11_word : AFn := ⟨(.seq (.region q17R0 false [0]) (.seq (.seq (.region q17R1 false [0, 4]) (.cond (.slot 4) (.seq (.region q17R2 false [2]) .ret) .skip)) (.seq (.seq (.region q17R3 false [0, 6]) (.cond (.slot 6) (.seq (.region q17R4 false [2]) .ret) .skip)) (.seq (.region q17R5 false [2]) .ret)))), [.slot 2]⟩
/- oriel/orielref11.csi -/
def q15R0 : List AOper := [⟨some 2, none, .melt (.const (.data false 6 [] true))⟩]
def q15R1 : List AOper := [⟨some 10, none, .mov (.slot 0)⟩,
  ⟨some 11, none, .mov (.slot 0)⟩,
  ⟨some 12, none, .len false (.slot 11)⟩,
  ⟨some 13, none, .bin .sub (.slot 12) (.const (.int .i64 1))⟩,
  ⟨some 14, none, .idx 1 (.slot 10) (.slot 13)⟩,
  ⟨some 15, none, .load false 1 (.slot 14)⟩,
  ⟨some 16, none, .build [.int .i64 0, .int .i32 0, .int .i32 0, .str ⟨#[]⟩, .data false 1 [] true, .data false 1 [] true] [(0, 1, (.const (.int .i64 4))), (1, 1, (.slot 15))]⟩,
  ⟨some 3, none, .alloc [.int .i64 0, .int .i32 0, .int .i32 0, .str ⟨#[]⟩, .data false 1 [] true, .data false 1 [] true]⟩,
  ⟨none, none, .store true 6 (.slot 3) (.slot 16)⟩]
def q15R2 : List AOper := [⟨some 4, none, .mov (.const (.bool false))⟩]
def q15R3 : List AOper := [⟨some 5, none, .mknil 1⟩]
def q15R4 : List AOper := [⟨some 6, none, .mov (.const (.int .i64 0))⟩]
def q15R5 : List AOper := [⟨some 7, none, .mov (.const (.int .i64 0))⟩]
def q15R6 : List AOper := [⟨some 17, none, .mov (.slot 7)⟩,
  ⟨some 18, none, .mov (.slot 0)⟩,
  ⟨some 19, none, .len false (.slot 18)⟩,
  ⟨some 20, none, .bin .sub (.slot 19) (.const (.int .i64 1))⟩,
  ⟨some 21, none, .bin .lss (.slot 17) (.slot 20)⟩]
def q15R8 : List AOper := [⟨some 24, none, .mov (.slot 0)⟩,
  ⟨some 25, none, .mov (.slot 7)⟩,
  ⟨some 26, none, .idx 1 (.slot 24) (.slot 25)⟩,
  ⟨some 27, none, .load false 1 (.slot 26)⟩,
  ⟨some 8, none, .mov (.slot 27)⟩]
def q15R13 : List AOper := [⟨some 37, none, .mov (.slot 8)⟩,
  ⟨some 38, none, .bin .lss (.slot 37) (.const (.int .i32 48))⟩,
  ⟨some 36, none, .mov (.slot 38)⟩]
def q15R14 : List AOper := [⟨some 39, none, .faddr 3 (.slot 3)⟩,
  ⟨some 40, none, .load false 1 (.slot 39)⟩,
  ⟨some 41, none, .mov (.slot 8)⟩,
  ⟨some 42, none, .conv .u8 (.slot 41)⟩,
  ⟨some 43, none, .mkslice 1 1 [.int .u8 0] [(0, (.slot 42))]⟩,
  ⟨some 44, none, .bstr (.slot 43)⟩,
  ⟨some 45, none, .bin .add (.slot 40) (.slot 44)⟩,
  ⟨some 46, none, .faddr 3 (.slot 3)⟩,
  ⟨none, none, .store false 1 (.slot 46) (.slot 45)⟩]
def q15R15 : List AOper := [⟨some 48, none, .mov (.slot 7)⟩,
  ⟨some 49, none, .bin .eql (.slot 48) (.const (.int .i64 0))⟩,
  ⟨some 50, none, .mov (.slot 49)⟩,
  ⟨some 51, some (50, true), .mov (.slot 8)⟩,
  ⟨some 52, some (50, true), .bin .geq (.slot 51) (.const (.int .i32 60))⟩,
  ⟨some 53, none, .pick (.slot 50) (.slot 52) (.const (.bool false))⟩,
  ⟨some 47, none, .mov (.slot 53)⟩]
def q15R16 : List AOper := [⟨some 54, none, .mov (.slot 8)⟩,
  ⟨some 55, none, .faddr 2 (.slot 3)⟩,
  ⟨none, none, .store false 1 (.slot 55) (.slot 54)⟩]
def q15R17 : List AOper := [⟨some 57, none, .mov (.slot 8)⟩,
  ⟨some 58, none, .bin .eql (.slot 57) (.const (.int .i32 58))⟩,
  ⟨some 59, none, .mov (.slot 58)⟩,
  ⟨some 60, some (59, false), .mov (.slot 8)⟩,
  ⟨some 61, some (59, false), .bin .geq (.slot 60) (.const (.int .i32 60))⟩,
  ⟨some 62, none, .pick (.slot 59) (.const (.bool true)) (.slot 61)⟩,
  ⟨some 63, none, .mov (.slot 62)⟩,
  ⟨some 64, some (63, false), .faddr 3 (.slot 3)⟩,
  ⟨some 65, some (63, false), .load false 1 (.slot 64)⟩,
  ⟨some 66, some (63, false), .eq false [.ks] true (.slot 65) (.const (.str ⟨#[]⟩))⟩,
  ⟨some 67, none, .pick (.slot 63) (.const (.bool true)) (.slot 66)⟩,
  ⟨some 56, none, .mov (.slot 67)⟩]
def q15R18 : List AOper := [⟨some 2, none, .melt (.const (.data false 6 [] true))⟩]
def q15R19 : List AOper := [⟨some 69, none, .mov (.slot 8)⟩,
  ⟨some 70, none, .bin .eql (.slot 69) (.const (.int .i32 59))⟩,
  ⟨some 68, none, .mov (.slot 70)⟩]
def q15R20 : List AOper := [⟨some 4, none, .mov (.const (.bool true))⟩]
def q15R21 : List AOper := [⟨some 71, none, .mov (.slot 5)⟩,
  ⟨some 72, none, .mov (.slot 6)⟩,
  ⟨some 73, none, .mkslice 1 1 [.int .i64 0] [(0, (.slot 72))]⟩,
  ⟨some 74, none, .append 1 8 (.slot 71) (.slot 73)⟩,
  ⟨some 5, none, .mov (.slot 74)⟩]
def q15R22 : List AOper := [⟨some 6, none, .mov (.const (.int .i64 0))⟩]
def q15R9 : List AOper := [⟨some 4, none, .mov (.const (.bool true))⟩]
def q15R10 : List AOper := [⟨some 28, none, .mov (.slot 6)⟩,
  ⟨some 29, none, .bin .mul (.const (.int .i64 10)) (.slot 28)⟩,
  ⟨some 30, none, .mov (.slot 8)⟩,
  ⟨some 31, none, .conv .i64 (.slot 30)⟩,
  ⟨some 32, none, .bin .add (.slot 29) (.slot 31)⟩,
  ⟨some 33, none, .bin .sub (.slot 32) (.const (.int .i64 48))⟩,
  ⟨some 6, none, .mov (.slot 33)⟩]
def q15R11 : List AOper := [⟨some 34, none, .mov (.slot 6)⟩,
  ⟨some 35, none, .bin .gtr (.slot 34) (.const (.int .i64 9999))⟩]
def q15R12 : List AOper := [⟨some 6, none, .mov (.const (.int .i64 9999))⟩]
def q15R7 : List AOper := [⟨some 22, none, .mov (.slot 7)⟩,
  ⟨some 23, none, .bin .add (.slot 22) (.const (.int .i64 1))⟩,
  ⟨some 7, none, .mov (.slot 23)⟩]
def c_ref11_csi_L0 : ACode := (.seq (.seq (.region q15R6 false [0, 3, 4, 5, 6, 7, 21]) (.cond (.slot 21) .skip (.exit 0))) (.seq (.block 1 (.seq (.region q15R8 false [0, 3, 4, 5, 6, 7, 8]) (.block 2 (.seq (.region q15R13 false [0, 3, 4, 5, 6, 7, 8, 36]) (.cond (.slot 36) (.region q15R14 false [0, 3, 4, 5, 6, 7]) (.seq (.region q15R15 false [0, 3, 4, 5, 6, 7, 8, 47]) (.cond (.slot 47) (.region q15R16 false [0, 3, 4, 5, 6, 7]) (.seq (.region q15R17 false [0, 3, 5, 6, 7, 8, 56]) (.cond (.slot 56) (.seq (.region q15R18 false [2]) .ret) (.seq (.region q15R19 false [0, 3, 5, 6, 7, 8, 68]) (.cond (.slot 68) (.seq (.region q15R20 false [0, 3, 4, 5, 6, 7]) (.seq (.region q15R21 false [0, 3, 4, 5, 7]) (.region q15R22 false [0, 3, 4, 5, 6, 7]))) (.seq (.region q15R9 false [0, 3, 4, 5, 6, 7, 8]) (.seq (.region q15R10 false [0, 3, 4, 5, 6, 7]) (.seq (.region q15R11 false [0, 3, 4, 5, 6, 7, 35]) (.cond (.slot 35) (.region q15R12 false [0, 3, 4, 5, 6, 7]) .skip))))))))))))))) (.region q15R7 false [0, 3, 4, 5, 6, 7])))
def lp_ref11_csi_0 : ACode := .loop [0, 3, 4, 5, 6, 7] c_ref11_csi_L0
def q15R23 : List AOper := [⟨some 75, none, .faddr 3 (.slot 3)⟩,
  ⟨some 76, none, .load false 1 (.slot 75)⟩,
  ⟨some 77, none, .len true (.slot 76)⟩,
  ⟨some 78, none, .bin .gtr (.slot 77) (.const (.int .i64 2))⟩]
def q15R24 : List AOper := [⟨some 2, none, .melt (.const (.data false 6 [] true))⟩]
def q15R25 : List AOper := [⟨some 79, none, .mov (.slot 4)⟩]
def q15R26 : List AOper := [⟨some 80, none, .mov (.slot 5)⟩,
  ⟨some 81, none, .mov (.slot 6)⟩,
  ⟨some 82, none, .mkslice 1 1 [.int .i64 0] [(0, (.slot 81))]⟩,
  ⟨some 83, none, .append 1 8 (.slot 80) (.slot 82)⟩,
  ⟨some 5, none, .mov (.slot 83)⟩]
def q15R27 : List AOper := [⟨some 9, none, .mov (.const (.int .i64 0))⟩]
def q15R28 : List AOper := [⟨some 84, none, .mov (.slot 9)⟩,
  ⟨some 85, none, .mov (.slot 5)⟩,
  ⟨some 86, none, .len false (.slot 85)⟩,
  ⟨some 87, none, .bin .lss (.slot 84) (.slot 86)⟩,
  ⟨some 88, none, .mov (.slot 87)⟩,
  ⟨some 89, some (88, true), .mov (.slot 9)⟩,
  ⟨some 90, some (88, true), .bin .lss (.slot 89) (.const (.int .i64 16))⟩,
  ⟨some 91, none, .pick (.slot 88) (.slot 90) (.const (.bool false))⟩]
def q15R30 : List AOper := [⟨some 94, none, .faddr 4 (.slot 3)⟩,
  ⟨some 95, none, .load false 1 (.slot 94)⟩,
  ⟨some 96, none, .mov (.slot 5)⟩,
  ⟨some 97, none, .mov (.slot 9)⟩,
  ⟨some 98, none, .idx 1 (.slot 96) (.slot 97)⟩,
  ⟨some 99, none, .load false 1 (.slot 98)⟩,
  ⟨some 100, none, .mkslice 1 1 [.int .i64 0] [(0, (.slot 99))]⟩,
  ⟨some 101, none, .append 1 8 (.slot 95) (.slot 100)⟩,
  ⟨some 102, none, .faddr 4 (.slot 3)⟩,
  ⟨none, none, .store false 1 (.slot 102) (.slot 101)⟩]
def q15R29 : List AOper := [⟨some 92, none, .mov (.slot 9)⟩,
  ⟨some 93, none, .bin .add (.slot 92) (.const (.int .i64 1))⟩,
  ⟨some 9, none, .mov (.slot 93)⟩]
def c_ref11_csi_L1 : ACode := (.seq (.seq (.region q15R28 false [3, 5, 9, 91]) (.cond (.slot 91) .skip (.exit 3))) (.seq (.block 4 (.region q15R30 true [3, 5, 9])) (.region q15R29 false [3, 5, 9])))
def lp_ref11_csi_1 : ACode := .loop [3, 5, 9] c_ref11_csi_L1
def q15R31 : List AOper := [⟨some 103, none, .load true 6 (.slot 3)⟩,
  ⟨some 104, none, .mkslice 6 1 [.int .i64 0, .int .i32 0, .int .i32 0, .str ⟨#[]⟩, .data false 1 [] true, .data false 1 [] true] [(0, (.slot 103))]⟩,
  ⟨some 2, none, .melt (.slot 104)⟩]
def c_ref11_csi : AFn := ⟨(.seq (.region q15R0 false [0]) (.seq (.region q15R1 false [0, 3]) (.seq (.region q15R2 false [0, 3, 4]) (.seq (.region q15R3 false [0, 3, 4, 5]) (.seq (.region q15R4 false [0, 3, 4, 5, 6]) (.seq (.seq (.region q15R5 false [0, 3, 4, 5, 6, 7]) (.block 0 lp_ref11_csi_0)) (.seq (.seq (.region q15R23 false [3, 4, 5, 6, 78]) (.cond (.slot 78) (.seq (.region q15R24 false [2]) .ret) .skip)) (.seq (.seq (.region q15R25 false [3, 5, 6, 79]) (.cond (.slot 79) (.region q15R26 false [3, 5]) .skip)) (.seq (.seq (.region q15R27 false [3, 5, 9]) (.block 3 lp_ref11_csi_1)) (.seq (.region q15R31 false [2]) .ret)))))))))), [.slot 2]⟩
/- oriel/orielref11.esc -/
def q16R0 : List AOper := [⟨some 2, none, .mov (.const (.data false 6 [] true))⟩]
def q16R1 : List AOper := [⟨some 6, none, .mov (.slot 0)⟩,
  ⟨some 7, none, .len false (.slot 6)⟩,
  ⟨some 8, none, .bin .sub (.slot 7) (.const (.int .i64 1))⟩,
  ⟨some 3, none, .mov (.slot 8)⟩]
def q16R2 : List AOper := [⟨some 9, none, .mov (.slot 3)⟩,
  ⟨some 10, none, .bin .gtr (.slot 9) (.const (.int .i64 2))⟩]
def q16R3 : List AOper := [⟨some 2, none, .mov (.const (.data false 6 [] true))⟩]
def q16R4 : List AOper := [⟨some 11, none, .mov (.slot 0)⟩,
  ⟨some 12, none, .mov (.slot 3)⟩,
  ⟨some 13, none, .idx 1 (.slot 11) (.slot 12)⟩,
  ⟨some 14, none, .load false 1 (.slot 13)⟩,
  ⟨some 15, none, .build [.int .i64 0, .int .i32 0, .int .i32 0, .str ⟨#[]⟩, .data false 1 [] true, .data false 1 [] true] [(0, 1, (.const (.int .i64 3))), (1, 1, (.slot 14))]⟩,
  ⟨some 4, none, .alloc [.int .i64 0, .int .i32 0, .int .i32 0, .str ⟨#[]⟩, .data false 1 [] true, .data false 1 [] true]⟩,
  ⟨none, none, .store true 6 (.slot 4) (.slot 15)⟩]
def q16R5 : List AOper := [⟨some 5, none, .mov (.const (.int .i64 0))⟩]
def q16R6 : List AOper := [⟨some 16, none, .mov (.slot 5)⟩,
  ⟨some 17, none, .mov (.slot 3)⟩,
  ⟨some 18, none, .bin .lss (.slot 16) (.slot 17)⟩]
def q16R8 : List AOper := [⟨some 21, none, .faddr 3 (.slot 4)⟩,
  ⟨some 22, none, .load false 1 (.slot 21)⟩,
  ⟨some 23, none, .mov (.slot 0)⟩,
  ⟨some 24, none, .mov (.slot 5)⟩,
  ⟨some 25, none, .idx 1 (.slot 23) (.slot 24)⟩,
  ⟨some 26, none, .load false 1 (.slot 25)⟩,
  ⟨some 27, none, .conv .u8 (.slot 26)⟩,
  ⟨some 28, none, .mkslice 1 1 [.int .u8 0] [(0, (.slot 27))]⟩,
  ⟨some 29, none, .bstr (.slot 28)⟩,
  ⟨some 30, none, .bin .add (.slot 22) (.slot 29)⟩,
  ⟨some 31, none, .faddr 3 (.slot 4)⟩,
  ⟨none, none, .store false 1 (.slot 31) (.slot 30)⟩]
def q16R7 : List AOper := [⟨some 19, none, .mov (.slot 5)⟩,
  ⟨some 20, none, .bin .add (.slot 19) (.const (.int .i64 1))⟩,
  ⟨some 5, none, .mov (.slot 20)⟩]
def c_ref11_esc_L0 : ACode := (.seq (.seq (.region q16R6 false [0, 3, 4, 5, 18]) (.cond (.slot 18) .skip (.exit 0))) (.seq (.block 1 (.region q16R8 true [0, 3, 4, 5])) (.region q16R7 false [0, 3, 4, 5])))
def lp_ref11_esc_0 : ACode := .loop [0, 3, 4, 5] c_ref11_esc_L0
def q16R9 : List AOper := [⟨some 32, none, .load true 6 (.slot 4)⟩,
  ⟨some 33, none, .mkslice 6 1 [.int .i64 0, .int .i32 0, .int .i32 0, .str ⟨#[]⟩, .data false 1 [] true, .data false 1 [] true] [(0, (.slot 32))]⟩,
  ⟨some 2, none, .mov (.slot 33)⟩]
def c_ref11_esc : AFn := ⟨(.seq (.region q16R0 false [0]) (.seq (.region q16R1 false [0, 3]) (.seq (.seq (.region q16R2 false [0, 3, 10]) (.cond (.slot 10) (.seq (.region q16R3 false [2]) .ret) .skip)) (.seq (.region q16R4 false [0, 3, 4]) (.seq (.seq (.region q16R5 false [0, 3, 4, 5]) (.block 0 lp_ref11_esc_0)) (.seq (.region q16R9 false [2]) .ret)))))), [.slot 2]⟩
/- (*oriel/orielref11.Parser).one -/
def q11R0 : List AOper := [⟨some 4, none, .mov (.const (.data false 6 [] true))⟩]
def q11R1 : List AOper := [⟨some 10, none, .mov (.slot 1)⟩,
  ⟨some 11, none, .bin .eql (.slot 10) (.const (.int .i32 27))⟩]
def q11R2 : List AOper := [⟨some 12, none, .mov (.slot 0)⟩,
  ⟨some 13, none, .call .inl n_ref11_Parser_told [(.slot 12)]⟩,
  ⟨some 5, none, .mov (.slot 13)⟩]
def q11R3 : List AOper := [⟨some 14, none, .mov (.slot 0)⟩,
  ⟨some 15, none, .mkslice 1 1 [.int .i32 0] [(0, (.const (.int .i32 27)))]⟩,
  ⟨some 16, none, .nilchk (.slot 14)⟩,
  ⟨some 17, none, .faddr 0 (.slot 16)⟩,
  ⟨none, none, .store false 1 (.slot 17) (.slot 15)⟩]
def q11R4 : List AOper := [⟨some 18, none, .mov (.slot 5)⟩,
  ⟨some 4, none, .mov (.slot 18)⟩]
def q11R5 : List AOper := [⟨some 19, none, .mov (.slot 0)⟩,
  ⟨some 20, none, .nilchk (.slot 19)⟩,
  ⟨some 21, none, .faddr 0 (.slot 20)⟩,
  ⟨some 22, none, .load false 1 (.slot 21)⟩,
  ⟨some 23, none, .len false (.slot 22)⟩,
  ⟨some 24, none, .bin .eql (.slot 23) (.const (.int .i64 0))⟩]
def q11R6 : List AOper := [⟨some 25, none, .mov (.slot 1)⟩,
  ⟨some 26, none, .call .frz n_ref11_word [(.slot 25)]⟩,
  ⟨some 4, none, .mov (.slot 26)⟩]
def q11R7 : List AOper := [⟨some 27, none, .mov (.slot 1)⟩,
  ⟨some 28, none, .bin .eql (.slot 27) (.const (.int .i32 24))⟩,
  ⟨some 29, none, .mov (.slot 28)⟩,
  ⟨some 30, some (29, false), .mov (.slot 1)⟩,
  ⟨some 31, some (29, false), .bin .eql (.slot 30) (.const (.int .i32 26))⟩,
  ⟨some 32, none, .pick (.slot 29) (.const (.bool true)) (.slot 31)⟩]
def q11R8 : List AOper := [⟨some 33, none, .mov (.slot 0)⟩,
  ⟨some 34, none, .nilchk (.slot 33)⟩,
  ⟨some 35, none, .faddr 0 (.slot 34)⟩,
  ⟨none, none, .store false 1 (.slot 35) (.const (.data false 1 [] true))⟩]
def q11R9 : List AOper := [⟨some 36, none, .mov (.slot 1)⟩,
  ⟨some 37, none, .call .frz n_ref11_word [(.slot 36)]⟩,
  ⟨some 4, none, .mov (.slot 37)⟩]
def q11R10 : List AOper := [⟨some 39, none, .mov (.slot 0)⟩,
  ⟨some 40, none, .call .inl n_ref11_Parser_stringed [(.slot 39)]⟩,
  ⟨some 38, none, .mov (.slot 40)⟩,
  ⟨some 41, none, .extract 0 (.slot 38)⟩,
  ⟨some 42, none, .extract 1 (.slot 38)⟩,
  ⟨some 6, none, .mov (.slot 41)⟩,
  ⟨some 7, none, .mov (.slot 42)⟩]
def q11R11 : List AOper := [⟨some 43, none, .mov (.slot 6)⟩]
def q11R12 : List AOper := [⟨some 44, none, .mov (.slot 1)⟩,
  ⟨some 45, none, .bin .eql (.slot 44) (.const (.int .i32 7))⟩]
def q11R13 : List AOper := [⟨some 46, none, .mov (.slot 0)⟩,
  ⟨some 47, none, .call .inl n_ref11_Parser_told [(.slot 46)]⟩,
  ⟨some 8, none, .mov (.slot 47)⟩]
def q11R14 : List AOper := [⟨some 48, none, .mov (.slot 0)⟩,
  ⟨some 49, none, .nilchk (.slot 48)⟩,
  ⟨some 50, none, .faddr 0 (.slot 49)⟩,
  ⟨none, none, .store false 1 (.slot 50) (.const (.data false 1 [] true))⟩]
def q11R15 : List AOper := [⟨some 51, none, .mov (.slot 8)⟩,
  ⟨some 4, none, .mov (.slot 51)⟩]
def q11R16 : List AOper := [⟨some 52, none, .mov (.slot 1)⟩,
  ⟨some 53, none, .bin .geq (.slot 52) (.const (.int .i32 32))⟩,
  ⟨some 54, none, .mov (.slot 53)⟩,
  ⟨some 55, some (54, true), .mov (.slot 1)⟩,
  ⟨some 56, some (54, true), .bin .neq (.slot 55) (.const (.int .i32 127))⟩,
  ⟨some 57, none, .pick (.slot 54) (.slot 56) (.const (.bool false))⟩]
def q11R17 : List AOper := [⟨some 58, none, .mov (.slot 0)⟩,
  ⟨some 59, none, .mov (.slot 0)⟩,
  ⟨some 60, none, .nilchk (.slot 59)⟩,
  ⟨some 61, none, .faddr 0 (.slot 60)⟩,
  ⟨some 62, none, .load false 1 (.slot 61)⟩,
  ⟨some 63, none, .mov (.slot 1)⟩,
  ⟨some 64, none, .mkslice 1 1 [.int .i32 0] [(0, (.slot 63))]⟩,
  ⟨some 65, none, .append 1 4 (.slot 62) (.slot 64)⟩,
  ⟨some 66, none, .nilchk (.slot 58)⟩,
  ⟨some 67, none, .faddr 0 (.slot 66)⟩,
  ⟨none, none, .store false 1 (.slot 67) (.slot 65)⟩]
def q11R18 : List AOper := [⟨some 4, none, .mov (.const (.data false 6 [] true))⟩]
def q11R19 : List AOper := [⟨some 68, none, .mov (.slot 1)⟩,
  ⟨some 69, none, .bin .lss (.slot 68) (.const (.int .i32 32))⟩,
  ⟨some 70, none, .mov (.slot 69)⟩,
  ⟨some 71, some (70, false), .mov (.slot 1)⟩,
  ⟨some 72, some (70, false), .bin .eql (.slot 71) (.const (.int .i32 127))⟩,
  ⟨some 73, none, .pick (.slot 70) (.const (.bool true)) (.slot 72)⟩]
def q11R20 : List AOper := [⟨some 74, none, .mov (.slot 1)⟩,
  ⟨some 75, none, .call .frz n_ref11_word [(.slot 74)]⟩,
  ⟨some 4, none, .mov (.slot 75)⟩]
def q11R21 : List AOper := [⟨some 76, none, .mov (.slot 1)⟩,
  ⟨some 77, none, .bin .geq (.slot 76) (.const (.int .i32 160))⟩]
def q11R22 : List AOper := [⟨some 78, none, .mov (.slot 0)⟩,
  ⟨some 79, none, .nilchk (.slot 78)⟩,
  ⟨some 80, none, .faddr 0 (.slot 79)⟩,
  ⟨none, none, .store false 1 (.slot 80) (.const (.data false 1 [] true))⟩]
def q11R23 : List AOper := [⟨some 81, none, .mov (.slot 1)⟩,
  ⟨some 82, none, .call .frz n_ref11_word [(.slot 81)]⟩,
  ⟨some 4, none, .mov (.slot 82)⟩]
def q11R24 : List AOper := [⟨some 83, none, .mov (.slot 0)⟩,
  ⟨some 84, none, .mov (.slot 0)⟩,
  ⟨some 85, none, .nilchk (.slot 84)⟩,
  ⟨some 86, none, .faddr 0 (.slot 85)⟩,
  ⟨some 87, none, .load false 1 (.slot 86)⟩,
  ⟨some 88, none, .mov (.slot 1)⟩,
  ⟨some 89, none, .mkslice 1 1 [.int .i32 0] [(0, (.slot 88))]⟩,
  ⟨some 90, none, .append 1 4 (.slot 87) (.slot 89)⟩,
  ⟨some 91, none, .nilchk (.slot 83)⟩,
  ⟨some 92, none, .faddr 0 (.slot 91)⟩,
  ⟨none, none, .store false 1 (.slot 92) (.slot 90)⟩]
def q11R25 : List AOper := [⟨some 93, none, .mov (.slot 0)⟩,
  ⟨some 94, none, .nilchk (.slot 93)⟩,
  ⟨some 95, none, .faddr 0 (.slot 94)⟩,
  ⟨some 96, none, .load false 1 (.slot 95)⟩,
  ⟨some 9, none, .mov (.slot 96)⟩]
def q11R26 : List AOper := [⟨some 97, none, .mov (.slot 9)⟩,
  ⟨some 98, none, .len false (.slot 97)⟩,
  ⟨some 99, none, .bin .geq (.slot 98) (.const (.int .i64 2))⟩,
  ⟨some 100, none, .mov (.slot 99)⟩,
  ⟨some 101, some (100, true), .mov (.slot 9)⟩,
  ⟨some 102, some (100, true), .idx 1 (.slot 101) (.const (.int .i64 1))⟩,
  ⟨some 103, some (100, true), .load false 1 (.slot 102)⟩,
  ⟨some 104, some (100, true), .bin .eql (.slot 103) (.const (.int .i32 91))⟩,
  ⟨some 105, none, .pick (.slot 100) (.slot 104) (.const (.bool false))⟩]
def q11R27 : List AOper := [⟨some 106, none, .mov (.slot 9)⟩,
  ⟨some 107, none, .len false (.slot 106)⟩,
  ⟨some 108, none, .bin .eql (.slot 107) (.const (.int .i64 2))⟩,
  ⟨some 109, none, .mov (.slot 108)⟩,
  ⟨some 110, some (109, false), .mov (.slot 1)⟩,
  ⟨some 111, some (109, false), .bin .lss (.slot 110) (.const (.int .i32 64))⟩,
  ⟨some 112, none, .pick (.slot 109) (.const (.bool true)) (.slot 111)⟩]
def q11R28 : List AOper := [⟨some 4, none, .mov (.const (.data false 6 [] true))⟩]
def q11R29 : List AOper := [⟨some 113, none, .mov (.slot 0)⟩,
  ⟨some 114, none, .nilchk (.slot 113)⟩,
  ⟨some 115, none, .faddr 0 (.slot 114)⟩,
  ⟨none, none, .store false 1 (.slot 115) (.const (.data false 1 [] true))⟩]
def q11R30 : List AOper := [⟨some 116, none, .mov (.slot 9)⟩,
  ⟨some 117, none, .sl 1 (.slot 116) (some (.const (.int .i64 2))) none none⟩,
  ⟨some 118, none, .call .frz n_ref11_csi [(.slot 117)]⟩,
  ⟨some 4, none, .mov (.slot 118)⟩]
def q11R31 : List AOper := [⟨some 119, none, .mov (.slot 1)⟩,
  ⟨some 120, none, .bin .lss (.slot 119) (.const (.int .i32 48))⟩,
  ⟨some 121, none, .mov (.slot 120)⟩,
  ⟨some 122, some (121, false), .mov (.slot 9)⟩,
  ⟨some 123, some (121, false), .len false (.slot 122)⟩,
  ⟨some 124, some (121, false), .bin .eql (.slot 123) (.const (.int .i64 2))⟩,
  ⟨some 125, some (121, false), .mov (.slot 124)⟩,
  ⟨some 126, some (125, true), .mov (.slot 1)⟩,
  ⟨some 127, some (125, true), .bin .eql (.slot 126) (.const (.int .i32 93))⟩,
  ⟨some 128, some (125, true), .mov (.slot 127)⟩,
  ⟨some 129, some (128, false), .mov (.slot 1)⟩,
  ⟨some 130, some (128, false), .bin .eql (.slot 129) (.const (.int .i32 80))⟩,
  ⟨some 131, some (125, true), .pick (.slot 128) (.const (.bool true)) (.slot 130)⟩,
  ⟨some 132, some (125, true), .mov (.slot 131)⟩,
  ⟨some 133, some (132, false), .mov (.slot 1)⟩,
  ⟨some 134, some (132, false), .bin .eql (.slot 133) (.const (.int .i32 88))⟩,
  ⟨some 135, some (125, true), .pick (.slot 132) (.const (.bool true)) (.slot 134)⟩,
  ⟨some 136, some (125, true), .mov (.slot 135)⟩,
  ⟨some 137, some (136, false), .mov (.slot 1)⟩,
  ⟨some 138, some (136, false), .bin .eql (.slot 137) (.const (.int .i32 94))⟩,
  ⟨some 139, some (125, true), .pick (.slot 136) (.const (.bool true)) (.slot 138)⟩,
  ⟨some 140, some (125, true), .mov (.slot 139)⟩,
  ⟨some 141, some (140, false), .mov (.slot 1)⟩,
  ⟨some 142, some (140, false), .bin .eql (.slot 141) (.const (.int .i32 95))⟩,
  ⟨some 143, some (125, true), .pick (.slot 140) (.const (.bool true)) (.slot 142)⟩,
  ⟨some 144, some (121, false), .pick (.slot 125) (.slot 143) (.const (.bool false))⟩,
  ⟨some 145, none, .pick (.slot 121) (.const (.bool true)) (.slot 144)⟩]
def q11R32 : List AOper := [⟨some 4, none, .mov (.const (.data false 6 [] true))⟩]
def q11R33 : List AOper := [⟨some 146, none, .mov (.slot 0)⟩,
  ⟨some 147, none, .nilchk (.slot 146)⟩,
  ⟨some 148, none, .faddr 0 (.slot 147)⟩,
  ⟨none, none, .store false 1 (.slot 148) (.const (.data false 1 [] true))⟩]
def q11R34 : List AOper := [⟨some 149, none, .mov (.slot 9)⟩,
  ⟨some 150, none, .sl 1 (.slot 149) (some (.const (.int .i64 1))) none none⟩,
  ⟨some 151, none, .call .frz n_ref11_esc [(.slot 150)]⟩,
  ⟨some 4, none, .mov (.slot 151)⟩]
def c_ref11_Parser_one : AFn := ⟨(.seq (.region q11R0 false [0, 1]) (.seq (.seq (.region q11R1 false [0, 1, 11]) (.cond (.slot 11) (.seq (.region q11R2 false [0, 5]) (.seq (.region q11R3 false [5]) (.seq (.region q11R4 false [4]) .ret))) .skip)) (.seq (.seq (.region q11R5 false [0, 1, 24]) (.cond (.slot 24) (.seq (.region q11R6 false [4]) .ret) .skip)) (.seq (.seq (.region q11R7 false [0, 1, 32]) (.cond (.slot 32) (.seq (.region q11R8 false [1]) (.seq (.region q11R9 false [4]) .ret)) .skip)) (.seq (.region q11R10 false [0, 1, 6]) (.seq (.seq (.region q11R11 false [0, 1, 43]) (.cond (.slot 43) (.seq (.seq (.region q11R12 false [0, 1, 45]) (.cond (.slot 45) (.seq (.region q11R13 false [0, 8]) (.seq (.region q11R14 false [8]) (.seq (.region q11R15 false [4]) .ret))) .skip)) (.seq (.seq (.region q11R16 false [0, 1, 57]) (.cond (.slot 57) (.region q11R17 false []) .skip)) (.seq (.region q11R18 false [4]) .ret))) .skip)) (.seq (.seq (.region q11R19 false [0, 1, 73]) (.cond (.slot 73) (.seq (.region q11R20 false [4]) .ret) .skip)) (.seq (.seq (.region q11R21 false [0, 1, 77]) (.cond (.slot 77) (.seq (.region q11R22 false [1]) (.seq (.region q11R23 false [4]) .ret)) .skip)) (.seq (.region q11R24 false [0, 1]) (.seq (.region q11R25 false [0, 1, 9]) (.seq (.seq (.region q11R26 false [0, 1, 9, 105]) (.cond (.slot 105) (.seq (.seq (.region q11R27 false [0, 9, 112]) (.cond (.slot 112) (.seq (.region q11R28 false [4]) .ret) .skip)) (.seq (.region q11R29 false [9]) (.seq (.region q11R30 false [4]) .ret))) .skip)) (.seq (.seq (.region q11R31 false [0, 9, 145]) (.cond (.slot 145) (.seq (.region q11R32 false [4]) .ret) .skip)) (.seq (.region q11R33 false [9]) (.seq (.region q11R34 false [4]) .ret)))))))))))))), [.slot 4]⟩
/- (*oriel/orielref11.Parser).Put -/
def q10R0 : List AOper := [⟨some 4, none, .melt (.const (.data false 6 [] true))⟩]
def q10R1 : List AOper := [⟨some 7, none, .mov (.slot 1)⟩,
  ⟨some 8, none, .bin .lss (.slot 7) (.const (.int .i32 0))⟩,
  ⟨some 9, none, .mov (.slot 8)⟩,
  ⟨some 10, some (9, false), .mov (.slot 1)⟩,
  ⟨some 11, some (9, false), .bin .gtr (.slot 10) (.const (.int .i32 1114111))⟩,
  ⟨some 12, none, .pick (.slot 9) (.const (.bool true)) (.slot 11)⟩,
  ⟨some 13, none, .mov (.slot 12)⟩,
  ⟨some 14, some (13, false), .mov (.slot 1)⟩,
  ⟨some 15, some (13, false), .bin .geq (.slot 14) (.const (.int .i32 55296))⟩,
  ⟨some 16, some (13, false), .mov (.slot 15)⟩,
  ⟨some 17, some (16, true), .mov (.slot 1)⟩,
  ⟨some 18, some (16, true), .bin .leq (.slot 17) (.const (.int .i32 57343))⟩,
  ⟨some 19, some (13, false), .pick (.slot 16) (.slot 18) (.const (.bool false))⟩,
  ⟨some 20, none, .pick (.slot 13) (.const (.bool true)) (.slot 19)⟩]
def q10R2 : List AOper := [⟨some 1, none, .mov (.const (.int .i32 65533))⟩]
def q10R3 : List AOper := [⟨some 21, none, .mov (.slot 1)⟩,
  ⟨some 22, none, .bin .geq (.slot 21) (.const (.int .i32 128))⟩,
  ⟨some 23, none, .mov (.slot 22)⟩,
  ⟨some 24, some (23, true), .mov (.slot 1)⟩,
  ⟨some 25, some (23, true), .bin .leq (.slot 24) (.const (.int .i32 159))⟩,
  ⟨some 26, none, .pick (.slot 23) (.slot 25) (.const (.bool false))⟩]
def q10R4 : List AOper := [⟨some 27, none, .mov (.slot 0)⟩,
  ⟨some 28, none, .call .inl n_ref11_Parser_one [(.slot 27), (.const (.int .i32 27))]⟩,
  ⟨some 5, none, .mov (.slot 28)⟩]
def q10R5 : List AOper := [⟨some 29, none, .mov (.slot 0)⟩,
  ⟨some 30, none, .mov (.slot 1)⟩,
  ⟨some 31, none, .bin .sub (.slot 30) (.const (.int .i32 64))⟩,
  ⟨some 32, none, .call .inl n_ref11_Parser_one [(.slot 29), (.slot 31)]⟩,
  ⟨some 6, none, .mov (.slot 32)⟩]
def q10R6 : List AOper := [⟨some 33, none, .mov (.slot 5)⟩,
  ⟨some 34, none, .mov (.slot 6)⟩,
  ⟨some 35, none, .append 6 80 (.slot 33) (.slot 34)⟩,
  ⟨some 4, none, .melt (.slot 35)⟩]
def q10R7 : List AOper := [⟨some 36, none, .mov (.slot 0)⟩,
  ⟨some 37, none, .mov (.slot 1)⟩,
  ⟨some 38, none, .call .inl n_ref11_Parser_one [(.slot 36), (.slot 37)]⟩,
  ⟨some 4, none, .melt (.slot 38)⟩]
def c_ref11_Parser_Put : AFn := ⟨(.seq (.region q10R0 false [0, 1]) (.seq (.seq (.region q10R1 false [0, 1, 20]) (.cond (.slot 20) (.region q10R2 false [0, 1]) .skip)) (.seq (.seq (.region q10R3 false [0, 1, 26]) (.cond (.slot 26) (.seq (.region q10R4 false [0, 1, 5]) (.seq (.region q10R5 false [5, 6]) (.seq (.region q10R6 false [4]) .ret))) .skip)) (.seq (.region q10R7 false [4]) .ret)))), [.slot 4]⟩
/- oriel/oriellaw11.VtPlays -/
def q5R0 : List AOper := [⟨some 4, none, .mov (.const (.bool false))⟩]
def q5R1 : List AOper := [⟨some 14, none, .call .frz n_law11_known []⟩,
  ⟨some 15, none, .not (.slot 14)⟩]
def q5R2 : List AOper := [⟨some 4, none, .mov (.const (.bool false))⟩]
def q5R3 : List AOper := [⟨some 16, none, .mov (.slot 0)⟩,
  ⟨some 17, none, .len false (.slot 16)⟩,
  ⟨some 18, none, .bin .gtr (.slot 17) (.const (.int .i64 1000))⟩,
  ⟨some 19, none, .mov (.slot 18)⟩,
  ⟨some 20, some (19, false), .mov (.slot 1)⟩,
  ⟨some 21, some (19, false), .len false (.slot 20)⟩,
  ⟨some 22, some (19, false), .bin .gtr (.slot 21) (.const (.int .i64 20))⟩,
  ⟨some 23, none, .pick (.slot 19) (.const (.bool true)) (.slot 22)⟩]
def q5R4 : List AOper := [⟨some 4, none, .mov (.const (.bool true))⟩]
def q5R5 : List AOper := [⟨some 24, none, .call .inl n_vt_New []⟩,
  ⟨some 5, none, .mov (.slot 24)⟩]
def q5R6 : List AOper := [⟨some 25, none, .build [.data false 1 [] true] []⟩,
  ⟨some 26, none, .box 1 (.slot 25)⟩,
  ⟨some 6, none, .mov (.slot 26)⟩]
def q5R7 : List AOper := [⟨some 7, none, .mov (.const (.int .i64 0))⟩]
def q5R8 : List AOper := [⟨some 27, none, .mov (.slot 7)⟩,
  ⟨some 28, none, .mov (.slot 0)⟩,
  ⟨some 29, none, .len false (.slot 28)⟩,
  ⟨some 30, none, .bin .lss (.slot 27) (.slot 29)⟩]
def q5R10 : List AOper := [⟨some 8, none, .mov (.const (.int .i64 0))⟩]
def q5R11 : List AOper := [⟨some 33, none, .mov (.slot 8)⟩,
  ⟨some 34, none, .mov (.slot 1)⟩,
  ⟨some 35, none, .len false (.slot 34)⟩,
  ⟨some 36, none, .bin .lss (.slot 33) (.slot 35)⟩]
def q5R13 : List AOper := [⟨some 39, none, .mov (.slot 1)⟩,
  ⟨some 40, none, .mov (.slot 8)⟩,
  ⟨some 41, none, .idx 1 (.slot 39) (.slot 40)⟩,
  ⟨some 42, none, .load false 1 (.slot 41)⟩,
  ⟨some 43, none, .mov (.slot 7)⟩,
  ⟨some 44, none, .bin .eql (.slot 42) (.slot 43)⟩,
  ⟨some 45, none, .mov (.slot 44)⟩,
  ⟨some 46, some (45, true), .mov (.slot 5)⟩,
  ⟨some 47, some (45, true), .isnil .kp true (.slot 46)⟩,
  ⟨some 48, none, .pick (.slot 45) (.slot 47) (.const (.bool false))⟩]
def q5R14 : List AOper := [⟨some 49, none, .mov (.slot 5)⟩,
  ⟨some 50, none, .call .inl n_vt_Parser_Copy [(.slot 49)]⟩,
  ⟨some 9, none, .mov (.slot 50)⟩]
def q5R15 : List AOper := [⟨some 51, none, .mov (.slot 5)⟩,
  ⟨some 52, none, .call .iso n_vt_Parser_Put [(.slot 51), (.const (.int .i32 57))]⟩]
def q5R16 : List AOper := [⟨some 53, none, .mov (.slot 5)⟩,
  ⟨some 54, none, .call .iso n_vt_Parser_Put [(.slot 53), (.const (.int .i32 59))]⟩]
def q5R17 : List AOper := [⟨some 55, none, .mov (.slot 5)⟩,
  ⟨some 56, none, .call .iso n_vt_Parser_Put [(.slot 55), (.const (.int .i32 120))]⟩]
def q5R18 : List AOper := [⟨some 57, none, .mov (.slot 9)⟩,
  ⟨some 5, none, .mov (.slot 57)⟩]
def q5R12 : List AOper := [⟨some 37, none, .mov (.slot 8)⟩,
  ⟨some 38, none, .bin .add (.slot 37) (.const (.int .i64 1))⟩,
  ⟨some 8, none, .mov (.slot 38)⟩]
def c_law11_VtPlays_L1 : ACode := (.seq (.seq (.region q5R11 false [0, 1, 5, 6, 7, 8, 36]) (.cond (.slot 36) .skip (.exit 2))) (.seq (.block 3 (.seq (.region q5R13 false [0, 1, 5, 6, 7, 8, 48]) (.cond (.slot 48) (.seq (.region q5R14 false [0, 1, 5, 6, 7, 8, 9]) (.seq (.region q5R15 false [0, 1, 5, 6, 7, 8, 9]) (.seq (.region q5R16 false [0, 1, 5, 6, 7, 8, 9]) (.seq (.region q5R17 false [0, 1, 6, 7, 8, 9]) (.region q5R18 false [0, 1, 5, 6, 7, 8]))))) .skip))) (.region q5R12 false [0, 1, 5, 6, 7, 8])))
def lp_law11_VtPlays_1 : ACode := .loop [0, 1, 5, 6, 7, 8] c_law11_VtPlays_L1
def q5R19 : List AOper := [⟨some 58, none, .mov (.slot 5)⟩,
  ⟨some 59, none, .isnil .kp false (.slot 58)⟩]
def q5R20 : List AOper := [⟨some 4, none, .mov (.const (.bool false))⟩]
def q5R21 : List AOper := [⟨some 60, none, .mov (.slot 5)⟩,
  ⟨some 61, none, .mov (.slot 0)⟩,
  ⟨some 62, none, .mov (.slot 7)⟩,
  ⟨some 63, none, .idx 1 (.slot 61) (.slot 62)⟩,
  ⟨some 64, none, .load false 1 (.slot 63)⟩,
  ⟨some 65, none, .call .iso n_vt_Parser_Put [(.slot 60), (.slot 64)]⟩,
  ⟨some 10, none, .mov (.slot 65)⟩]
def q5R22 : List AOper := [⟨some 66, none, .mov (.slot 10)⟩,
  ⟨some 67, none, .mov (.slot 6)⟩,
  ⟨some 68, none, .mov (.slot 0)⟩,
  ⟨some 69, none, .mov (.slot 7)⟩,
  ⟨some 70, none, .idx 1 (.slot 68) (.slot 69)⟩,
  ⟨some 71, none, .load false 1 (.slot 70)⟩,
  ⟨some 72, none, .call .iso n_ref11_Parser_Put [(.slot 67), (.slot 71)]⟩,
  ⟨some 73, none, .call .pk n_ref11_All [(.slot 66), (.slot 72)]⟩,
  ⟨some 74, none, .not (.slot 73)⟩,
  ⟨some 75, none, .mov (.slot 74)⟩,
  ⟨some 76, some (75, false), .mov (.slot 5)⟩,
  ⟨some 77, some (75, false), .call .inl n_vt_Parser_Idle [(.slot 76)]⟩,
  ⟨some 78, some (75, false), .mov (.slot 6)⟩,
  ⟨some 79, some (75, false), .nilchk (.slot 78)⟩,
  ⟨some 80, some (75, false), .faddr 0 (.slot 79)⟩,
  ⟨some 81, some (75, false), .load false 1 (.slot 80)⟩,
  ⟨some 82, some (75, false), .len false (.slot 81)⟩,
  ⟨some 83, some (75, false), .bin .eql (.slot 82) (.const (.int .i64 0))⟩,
  ⟨some 84, some (75, false), .eq false [.kb] true (.slot 77) (.slot 83)⟩,
  ⟨some 85, none, .pick (.slot 75) (.const (.bool true)) (.slot 84)⟩]
def q5R23 : List AOper := [⟨some 4, none, .mov (.const (.bool false))⟩]
def q5R24 : List AOper := [⟨some 11, none, .mov (.const (.int .i64 0))⟩]
def q5R25 : List AOper := [⟨some 86, none, .mov (.slot 11)⟩,
  ⟨some 87, none, .mov (.slot 10)⟩,
  ⟨some 88, none, .len false (.slot 87)⟩,
  ⟨some 89, none, .bin .lss (.slot 86) (.slot 88)⟩]
def q5R27 : List AOper := [⟨some 12, none, .mov (.const (.int .i64 0))⟩]
def q5R28 : List AOper := [⟨some 92, none, .mov (.slot 12)⟩,
  ⟨some 93, none, .mov (.slot 10)⟩,
  ⟨some 94, none, .mov (.slot 11)⟩,
  ⟨some 95, none, .idx 6 (.slot 93) (.slot 94)⟩,
  ⟨some 96, none, .faddr 4 (.slot 95)⟩,
  ⟨some 97, none, .load false 1 (.slot 96)⟩,
  ⟨some 98, none, .len false (.slot 97)⟩,
  ⟨some 99, none, .bin .lss (.slot 92) (.slot 98)⟩]
def q5R30 : List AOper := [⟨some 102, none, .mov (.slot 10)⟩,
  ⟨some 103, none, .mov (.slot 11)⟩,
  ⟨some 104, none, .idx 6 (.slot 102) (.slot 103)⟩,
  ⟨some 105, none, .faddr 4 (.slot 104)⟩,
  ⟨some 106, none, .load false 1 (.slot 105)⟩,
  ⟨some 107, none, .mov (.slot 12)⟩,
  ⟨some 108, none, .idx 1 (.slot 106) (.slot 107)⟩,
  ⟨none, none, .store false 1 (.slot 108) (.const (.int .i64 (-1)))⟩]
def q5R29 : List AOper := [⟨some 100, none, .mov (.slot 12)⟩,
  ⟨some 101, none, .bin .add (.slot 100) (.const (.int .i64 1))⟩,
  ⟨some 12, none, .mov (.slot 101)⟩]
def c_law11_VtPlays_L3 : ACode := (.seq (.seq (.region q5R28 false [0, 1, 5, 6, 7, 10, 11, 12, 99]) (.cond (.slot 99) .skip (.exit 6))) (.seq (.block 7 (.region q5R30 false [0, 1, 5, 6, 7, 10, 11, 12])) (.region q5R29 false [0, 1, 5, 6, 7, 10, 11, 12])))
def lp_law11_VtPlays_3 : ACode := .loop [0, 1, 5, 6, 7, 10, 11, 12] c_law11_VtPlays_L3
def q5R31 : List AOper := [⟨some 13, none, .mov (.const (.int .i64 0))⟩]
def q5R32 : List AOper := [⟨some 109, none, .mov (.slot 13)⟩,
  ⟨some 110, none, .mov (.slot 10)⟩,
  ⟨some 111, none, .mov (.slot 11)⟩,
  ⟨some 112, none, .idx 6 (.slot 110) (.slot 111)⟩,
  ⟨some 113, none, .faddr 5 (.slot 112)⟩,
  ⟨some 114, none, .load false 1 (.slot 113)⟩,
  ⟨some 115, none, .len false (.slot 114)⟩,
  ⟨some 116, none, .bin .lss (.slot 109) (.slot 115)⟩]
def q5R34 : List AOper := [⟨some 119, none, .mov (.slot 10)⟩,
  ⟨some 120, none, .mov (.slot 11)⟩,
  ⟨some 121, none, .idx 6 (.slot 119) (.slot 120)⟩,
  ⟨some 122, none, .faddr 5 (.slot 121)⟩,
  ⟨some 123, none, .load false 1 (.slot 122)⟩,
  ⟨some 124, none, .mov (.slot 13)⟩,
  ⟨some 125, none, .idx 1 (.slot 123) (.slot 124)⟩,
  ⟨none, none, .store false 1 (.slot 125) (.const (.int .i32 (-1)))⟩]
def q5R33 : List AOper := [⟨some 117, none, .mov (.slot 13)⟩,
  ⟨some 118, none, .bin .add (.slot 117) (.const (.int .i64 1))⟩,
  ⟨some 13, none, .mov (.slot 118)⟩]
def c_law11_VtPlays_L4 : ACode := (.seq (.seq (.region q5R32 false [0, 1, 5, 6, 7, 10, 11, 13, 116]) (.cond (.slot 116) .skip (.exit 8))) (.seq (.block 9 (.region q5R34 false [0, 1, 5, 6, 7, 10, 11, 13])) (.region q5R33 false [0, 1, 5, 6, 7, 10, 11, 13])))
def lp_law11_VtPlays_4 : ACode := .loop [0, 1, 5, 6, 7, 10, 11, 13] c_law11_VtPlays_L4
def q5R26 : List AOper := [⟨some 90, none, .mov (.slot 11)⟩,
  ⟨some 91, none, .bin .add (.slot 90) (.const (.int .i64 1))⟩,
  ⟨some 11, none, .mov (.slot 91)⟩]
def c_law11_VtPlays_L2 : ACode := (.seq (.seq (.region q5R25 false [0, 1, 5, 6, 7, 10, 11, 89]) (.cond (.slot 89) .skip (.exit 4))) (.seq (.block 5 (.seq (.seq (.region q5R27 false [0, 1, 5, 6, 7, 10, 11, 12]) (.block 6 lp_law11_VtPlays_3)) (.seq (.region q5R31 false [0, 1, 5, 6, 7, 10, 11, 13]) (.block 8 lp_law11_VtPlays_4)))) (.region q5R26 false [0, 1, 5, 6, 7, 10, 11])))
def lp_law11_VtPlays_2 : ACode := .loop [0, 1, 5, 6, 7, 10, 11] c_law11_VtPlays_L2
def q5R9 : List AOper := [⟨some 31, none, .mov (.slot 7)⟩,
  ⟨some 32, none, .bin .add (.slot 31) (.const (.int .i64 1))⟩,
  ⟨some 7, none, .mov (.slot 32)⟩]
def c_law11_VtPlays_L0 : ACode := (.seq (.seq (.region q5R8 false [0, 1, 5, 6, 7, 30]) (.cond (.slot 30) .skip (.exit 0))) (.seq (.block 1 (.seq (.seq (.region q5R10 false [0, 1, 5, 6, 7, 8]) (.block 2 lp_law11_VtPlays_1)) (.seq (.seq (.region q5R19 false [0, 1, 5, 6, 7, 59]) (.cond (.slot 59) (.seq (.region q5R20 false [4]) .ret) .skip)) (.seq (.region q5R21 false [0, 1, 5, 6, 7, 10]) (.seq (.seq (.regionQ q5R22 [0, 1, 2, 3, 4, 5, 6, 7, 8, 9, 10, 11, 12, 13, 14, 15, 16, 17, 18, 19] [(15, [11, 20])] [0, 1, 5, 6, 7, 10, 85]) (.cond (.slot 85) (.seq (.region q5R23 false [4]) .ret) .skip)) (.seq (.region q5R24 false [0, 1, 5, 6, 7, 10, 11]) (.block 4 lp_law11_VtPlays_2))))))) (.region q5R9 false [0, 1, 5, 6, 7])))
def lp_law11_VtPlays_0 : ACode := .loop [0, 1, 5, 6, 7] c_law11_VtPlays_L0
def q5R35 : List AOper := [⟨some 4, none, .mov (.const (.bool true))⟩]
def c_law11_VtPlays : AFn := ⟨(.seq (.region q5R0 false [0, 1]) (.seq (.seq (.region q5R1 false [0, 1, 15]) (.cond (.slot 15) (.seq (.region q5R2 false [4]) .ret) .skip)) (.seq (.seq (.region q5R3 false [0, 1, 23]) (.cond (.slot 23) (.seq (.region q5R4 false [4]) .ret) .skip)) (.seq (.region q5R5 false [0, 1, 5]) (.seq (.region q5R6 false [0, 1, 5, 6]) (.seq (.seq (.region q5R7 false [0, 1, 5, 6, 7]) (.block 0 lp_law11_VtPlays_0)) (.seq (.region q5R35 false [4]) .ret))))))), [.slot 4]⟩
/-- The seat's functions. -/
def FT : Nat → Option AEnt
  | 19 => some (.fn c_ref11_Same)
  | 10 => some (.fn c_ref11_All)
  | 13 => some (.fn c_vt_New)
  | 20 => some (.fn c_vt_point)
  | 25 => some (.fn c_vt_ground)
  | 23 => some (.ext (extCloneI 1 23))
  | 26 => some (.fn c_vt_Parser_end)
  | 33 => some (.fn c_vt_Parser_between)
  | 36 => some (.fn c_vt_Parser_param)
  | 34 => some (.fn c_vt_sequence)
  | 35 => some (.fn c_vt_text)
  | 27 => some (.fn c_vt_escape)
  | 21 => some (.fn c_vt_Parser_one)
  | 14 => some (.fn c_vt_Parser_Put)
  | 11 => some (.fn c_vt_Parse)
  | 9 => some (.fn c_law11_known)
  | 15 => some (.fn c_vt_Parser_Idle)
  | 22 => some (.ext (extCloneI 1 22))
  | 17 => some (.fn c_vt_Parser_Copy)
  | 30 => some (.fn c_ref11_Parser_stringed)
  | 28 => some (.fn c_ref11_Parser_told)
  | 29 => some (.fn c_ref11_word)
  | 31 => some (.fn c_ref11_csi)
  | 32 => some (.fn c_ref11_esc)
  | 24 => some (.fn c_ref11_Parser_one)
  | 18 => some (.fn c_ref11_Parser_Put)
  | 7 => some (.fn c_law11_VtPlays)
  | _ => none
variable (G : Nat → Option (List AV)) (args : List AV) (h : List ARow)
theorem run_ref11_Same : aR G FT n_ref11_Same args h = (aE G FT h.length c_ref11_Same.body ⟨aenter args, h⟩).bind (afinish c_ref11_Same.res) := y_fn G FT rfl args h
theorem run_ref11_All : aR G FT n_ref11_All args h = (aE G FT h.length c_ref11_All.body ⟨aenter args, h⟩).bind (afinish c_ref11_All.res) := y_fn G FT rfl args h
theorem run_vt_New : aR G FT n_vt_New args h = (aE G FT h.length c_vt_New.body ⟨aenter args, h⟩).bind (afinish c_vt_New.res) := y_fn G FT rfl args h
theorem run_vt_point : aR G FT n_vt_point args h = (aE G FT h.length c_vt_point.body ⟨aenter args, h⟩).bind (afinish c_vt_point.res) := y_fn G FT rfl args h
theorem run_vt_ground : aR G FT n_vt_ground args h = (aE G FT h.length c_vt_ground.body ⟨aenter args, h⟩).bind (afinish c_vt_ground.res) := y_fn G FT rfl args h
theorem run_vt_Parser_end : aR G FT n_vt_Parser_end args h = (aE G FT h.length c_vt_Parser_end.body ⟨aenter args, h⟩).bind (afinish c_vt_Parser_end.res) := y_fn G FT rfl args h
theorem run_vt_Parser_between : aR G FT n_vt_Parser_between args h = (aE G FT h.length c_vt_Parser_between.body ⟨aenter args, h⟩).bind (afinish c_vt_Parser_between.res) := y_fn G FT rfl args h
theorem run_vt_Parser_param : aR G FT n_vt_Parser_param args h = (aE G FT h.length c_vt_Parser_param.body ⟨aenter args, h⟩).bind (afinish c_vt_Parser_param.res) := y_fn G FT rfl args h
theorem run_vt_sequence : aR G FT n_vt_sequence args h = (aE G FT h.length c_vt_sequence.body ⟨aenter args, h⟩).bind (afinish c_vt_sequence.res) := y_fn G FT rfl args h
theorem run_vt_text : aR G FT n_vt_text args h = (aE G FT h.length c_vt_text.body ⟨aenter args, h⟩).bind (afinish c_vt_text.res) := y_fn G FT rfl args h
theorem run_vt_escape : aR G FT n_vt_escape args h = (aE G FT h.length c_vt_escape.body ⟨aenter args, h⟩).bind (afinish c_vt_escape.res) := y_fn G FT rfl args h
theorem run_vt_Parser_one : aR G FT n_vt_Parser_one args h = (aE G FT h.length c_vt_Parser_one.body ⟨aenter args, h⟩).bind (afinish c_vt_Parser_one.res) := y_fn G FT rfl args h
theorem run_vt_Parser_Put : aR G FT n_vt_Parser_Put args h = (aE G FT h.length c_vt_Parser_Put.body ⟨aenter args, h⟩).bind (afinish c_vt_Parser_Put.res) := y_fn G FT rfl args h
theorem run_vt_Parser_Idle : aR G FT n_vt_Parser_Idle args h = (aE G FT h.length c_vt_Parser_Idle.body ⟨aenter args, h⟩).bind (afinish c_vt_Parser_Idle.res) := y_fn G FT rfl args h
theorem run_vt_Parser_Copy : aR G FT n_vt_Parser_Copy args h = (aE G FT h.length c_vt_Parser_Copy.body ⟨aenter args, h⟩).bind (afinish c_vt_Parser_Copy.res) := y_fn G FT rfl args h
theorem run_ref11_Parser_stringed : aR G FT n_ref11_Parser_stringed args h = (aE G FT h.length c_ref11_Parser_stringed.body ⟨aenter args, h⟩).bind (afinish c_ref11_Parser_stringed.res) := y_fn G FT rfl args h
theorem run_ref11_Parser_told : aR G FT n_ref11_Parser_told args h = (aE G FT h.length c_ref11_Parser_told.body ⟨aenter args, h⟩).bind (afinish c_ref11_Parser_told.res) := y_fn G FT rfl args h
theorem run_ref11_word : aR G FT n_ref11_word args h = (aE G FT h.length c_ref11_word.body ⟨aenter args, h⟩).bind (afinish c_ref11_word.res) := y_fn G FT rfl args h
theorem run_ref11_csi : aR G FT n_ref11_csi args h = (aE G FT h.length c_ref11_csi.body ⟨aenter args, h⟩).bind (afinish c_ref11_csi.res) := y_fn G FT rfl args h
theorem run_ref11_esc : aR G FT n_ref11_esc args h = (aE G FT h.length c_ref11_esc.body ⟨aenter args, h⟩).bind (afinish c_ref11_esc.res) := y_fn G FT rfl args h
theorem run_ref11_Parser_one : aR G FT n_ref11_Parser_one args h = (aE G FT h.length c_ref11_Parser_one.body ⟨aenter args, h⟩).bind (afinish c_ref11_Parser_one.res) := y_fn G FT rfl args h
theorem run_ref11_Parser_Put : aR G FT n_ref11_Parser_Put args h = (aE G FT h.length c_ref11_Parser_Put.body ⟨aenter args, h⟩).bind (afinish c_ref11_Parser_Put.res) := y_fn G FT rfl args h
theorem run_law11_VtPlays : aR G FT n_law11_VtPlays args h = (aE G FT h.length c_law11_VtPlays.body ⟨aenter args, h⟩).bind (afinish c_law11_VtPlays.res) := y_fn G FT rfl args h
end Go.Proofs.Ytkkcblfoaldckaa
