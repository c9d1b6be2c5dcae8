/- The small machine's code of the seat's functions. Conditions: none. -/
import Derived.Test.YtfnonledcniojaaM3
set_option linter.unusedVariables false
set_option linter.unusedSimpArgs false
set_option linter.unusedSectionVars false
namespace Go.Proofs.Ytfnonledcniojaa
open Go

def n_law27_TokenEdits : Nat := 7
def n_law27_asked : Nat := 60
def n_law27_known : Nat := 29
def n_ref27_All : Nat := 38
def n_ref27_Ask : Nat := 39
def n_ref27_Free : Nat := 40
def n_ref27_Has : Nat := 71
def n_ref27_Keep : Nat := 37
def n_ref27_May : Nat := 36
def n_ref27_Of : Nat := 72
def n_ref27_Same : Nat := 34
def n_slices_Clone_int : Nat := 85
def n_slices_Contains_int : Nat := 67
def n_slices_DeleteFunc_int : Nat := 69
def n_slices_Delete_int : Nat := 65
def n_slices_IndexFunc_int : Nat := 87
def n_slices_Index_int : Nat := 70
def n_token_Ask : Nat := 30
def n_token_Ask_1 : Nat := 63
def n_token_Free : Nat := 31
def n_token_Free_1 : Nat := 64
def n_token_Keep : Nat := 32
def n_token_Keep_1 : Nat := 66
def n_token_Keep_2 : Nat := 68
def n_token_May : Nat := 35
def n_token_Place : Nat := 33
def n_token_arbiter_on : Nat := 86
def n_token_change : Nat := 62
def n_token_number : Nat := 61
/- oriel/token.number -/
def q91R0 : List AOper := [⟨some 2, none, .mov (.const (.bool false))⟩]
def q91R1 : List AOper := [⟨some 3, none, .mov (.slot 0)⟩,
  ⟨some 4, none, .bin .geq (.slot 3) (.const (.int .i64 1))⟩,
  ⟨some 5, none, .mov (.slot 4)⟩,
  ⟨some 6, some (5, true), .mov (.slot 0)⟩,
  ⟨some 7, some (5, true), .bin .leq (.slot 6) (.const (.int .i64 8))⟩,
  ⟨some 8, none, .pick (.slot 5) (.slot 7) (.const (.bool false))⟩,
  ⟨some 2, none, .mov (.slot 8)⟩]
def c_token_number : AFn := ⟨(.seq (.region q91R0 false [0]) (.seq (.region q91R1 false [2]) .ret)), [.slot 2]⟩
/- oriel/token.May -/
def q87R0 : List AOper := [⟨some 1, none, .box 2 (.slot 0)⟩,
  ⟨some 2, none, .mov (.const (.bool false))⟩]
def q87R1 : List AOper := [⟨some 6, none, .faddr 0 (.slot 1)⟩,
  ⟨some 7, none, .load false 1 (.slot 6)⟩,
  ⟨some 8, none, .bin .eql (.slot 7) (.const (.int .i64 0))⟩]
def q87R2 : List AOper := [⟨some 9, none, .faddr 1 (.slot 1)⟩,
  ⟨some 10, none, .load false 1 (.slot 9)⟩,
  ⟨some 11, none, .len false (.slot 10)⟩,
  ⟨some 12, none, .bin .eql (.slot 11) (.const (.int .i64 0))⟩,
  ⟨some 2, none, .mov (.slot 12)⟩]
def q87R3 : List AOper := [⟨some 3, none, .alloc [.bool false, .bool false, .bool false, .bool false, .bool false, .bool false, .bool false, .bool false, .bool false]⟩]
def q87R4 : List AOper := [⟨some 13, none, .faddr 0 (.slot 1)⟩,
  ⟨some 14, none, .load false 1 (.slot 13)⟩,
  ⟨some 15, none, .mkslice 1 1 [.int .i64 0] [(0, (.slot 14))]⟩,
  ⟨some 16, none, .faddr 1 (.slot 1)⟩,
  ⟨some 17, none, .load false 1 (.slot 16)⟩,
  ⟨some 18, none, .append 1 8 (.slot 15) (.slot 17)⟩,
  ⟨some 19, none, .len false (.slot 18)⟩,
  ⟨some 20, none, .mov (.const (.int .i64 0))⟩]
def q87R5 : List AOper := [⟨some 21, none, .bin .lss (.slot 20) (.slot 19)⟩]
def q87R6 : List AOper := [⟨some 22, none, .idx 1 (.slot 18) (.slot 20)⟩,
  ⟨some 23, none, .load false 1 (.slot 22)⟩,
  ⟨some 5, none, .mov (.slot 23)⟩]
def q87R7 : List AOper := [⟨some 24, none, .mov (.slot 5)⟩,
  ⟨some 25, none, .call .frz n_token_number [(.slot 24)]⟩,
  ⟨some 26, none, .not (.slot 25)⟩,
  ⟨some 27, none, .mov (.slot 26)⟩,
  ⟨some 28, some (27, false), .mov (.slot 5)⟩,
  ⟨some 29, some (27, false), .idxarr 1 9 (.slot 3) (.slot 28)⟩,
  ⟨some 30, some (27, false), .load false 1 (.slot 29)⟩,
  ⟨some 31, none, .pick (.slot 27) (.const (.bool true)) (.slot 30)⟩]
def q87R8 : List AOper := [⟨some 2, none, .mov (.const (.bool false))⟩]
def q87R9 : List AOper := [⟨some 32, none, .mov (.slot 5)⟩,
  ⟨some 33, none, .idxarr 1 9 (.slot 3) (.slot 32)⟩,
  ⟨none, none, .store false 1 (.slot 33) (.const (.bool true))⟩]
def q87R10 : List AOper := [⟨some 34, none, .bin .add (.slot 20) (.const (.int .i64 1))⟩,
  ⟨some 20, none, .mov (.slot 34)⟩]
def c_token_May_L0 : ACode := (.seq (.region q87R5 false [3, 18, 19, 20, 21]) (.seq (.cond (.slot 21) .skip (.exit 0)) (.seq (.block 1 (.seq (.region q87R6 false [3, 5, 18, 19, 20]) (.seq (.seq (.region q87R7 false [3, 5, 18, 19, 20, 31]) (.cond (.slot 31) (.seq (.region q87R8 false [2]) .ret) .skip)) (.region q87R9 false [3, 18, 19, 20])))) (.region q87R10 false [3, 18, 19, 20]))))
def lp_token_May_0 : ACode := .loop [3, 18, 19, 20] c_token_May_L0
def q87R11 : List AOper := [⟨some 2, none, .mov (.const (.bool true))⟩]
def c_token_May : AFn := ⟨(.seq (.region q87R0 false [1]) (.seq (.seq (.region q87R1 false [1, 8]) (.cond (.slot 8) (.seq (.region q87R2 false [2]) .ret) .skip)) (.seq (.region q87R3 false [1, 3]) (.seq (.seq (.region q87R4 false [3, 18, 19, 20]) (.block 0 lp_token_May_0)) (.seq (.region q87R11 false [2]) .ret))))), [.slot 2]⟩
/- slices.Index[[]int,int] -/
def q74R0 : List AOper := [⟨some 4, none, .mov (.const (.int .i64 0))⟩]
def q74R1 : List AOper := [⟨some 6, none, .mov (.slot 0)⟩,
  ⟨some 7, none, .len false (.slot 6)⟩,
  ⟨some 8, none, .mov (.const (.int .i64 0))⟩]
def q74R2 : List AOper := [⟨some 9, none, .bin .lss (.slot 8) (.slot 7)⟩]
def q74R3 : List AOper := [⟨some 10, none, .mov (.slot 8)⟩,
  ⟨some 5, none, .mov (.slot 10)⟩]
def q74R4 : List AOper := [⟨some 11, none, .mov (.slot 1)⟩,
  ⟨some 12, none, .mov (.slot 0)⟩,
  ⟨some 13, none, .mov (.slot 5)⟩,
  ⟨some 14, none, .idx 1 (.slot 12) (.slot 13)⟩,
  ⟨some 15, none, .load false 1 (.slot 14)⟩,
  ⟨some 16, none, .bin .eql (.slot 11) (.slot 15)⟩]
def q74R5 : List AOper := [⟨some 17, none, .mov (.slot 5)⟩,
  ⟨some 4, none, .mov (.slot 17)⟩]
def q74R6 : List AOper := [⟨some 18, none, .bin .add (.slot 8) (.const (.int .i64 1))⟩,
  ⟨some 8, none, .mov (.slot 18)⟩]
def c_slices_Index_int_L0 : ACode := (.seq (.region q74R2 false [0, 1, 7, 8, 9]) (.seq (.cond (.slot 9) .skip (.exit 0)) (.seq (.block 1 (.seq (.region q74R3 false [0, 1, 5, 7, 8]) (.seq (.region q74R4 false [0, 1, 5, 7, 8, 16]) (.cond (.slot 16) (.seq (.region q74R5 false [4]) .ret) .skip)))) (.region q74R6 false [0, 1, 7, 8]))))
def lp_slices_Index_int_0 : ACode := .loop [0, 1, 7, 8] c_slices_Index_int_L0
def q74R7 : List AOper := [⟨some 4, none, .mov (.const (.int .i64 (-1)))⟩]
def c_slices_Index_int : AFn := ⟨(.seq (.region q74R0 false [0, 1]) (.seq (.seq (.region q74R1 false [0, 1, 7, 8]) (.block 0 lp_slices_Index_int_0)) (.seq (.region q74R7 false [4]) .ret))), [.slot 4]⟩
/- oriel/token.Place -/
def q88R0 : List AOper := [⟨some 2, none, .box 2 (.slot 0)⟩,
  ⟨some 4, none, .mov (.const (.int .i64 0))⟩]
def q88R1 : List AOper := [⟨some 7, none, .load true 2 (.slot 2)⟩,
  ⟨some 8, none, .call .frz n_token_May [(.slot 7)]⟩,
  ⟨some 9, none, .not (.slot 8)⟩,
  ⟨some 10, none, .mov (.slot 9)⟩,
  ⟨some 11, some (10, false), .mov (.slot 1)⟩,
  ⟨some 12, some (10, false), .call .frz n_token_number [(.slot 11)]⟩,
  ⟨some 13, some (10, false), .not (.slot 12)⟩,
  ⟨some 14, none, .pick (.slot 10) (.const (.bool true)) (.slot 13)⟩,
  ⟨some 6, none, .mov (.slot 14)⟩]
def q88R2 : List AOper := [⟨some 4, none, .mov (.const (.int .i64 (-1)))⟩]
def q88R3 : List AOper := [⟨some 16, none, .faddr 0 (.slot 2)⟩,
  ⟨some 17, none, .load false 1 (.slot 16)⟩,
  ⟨some 18, none, .mov (.slot 1)⟩,
  ⟨some 19, none, .bin .eql (.slot 17) (.slot 18)⟩,
  ⟨some 15, none, .mov (.slot 19)⟩]
def q88R4 : List AOper := [⟨some 4, none, .mov (.const (.int .i64 0))⟩]
def q88R5 : List AOper := [⟨some 20, none, .faddr 1 (.slot 2)⟩,
  ⟨some 21, none, .load false 1 (.slot 20)⟩,
  ⟨some 22, none, .mov (.slot 1)⟩,
  ⟨some 23, none, .call .frz n_slices_Index_int [(.slot 21), (.slot 22)]⟩,
  ⟨some 5, none, .mov (.slot 23)⟩]
def q88R6 : List AOper := [⟨some 24, none, .mov (.slot 5)⟩,
  ⟨some 25, none, .bin .geq (.slot 24) (.const (.int .i64 0))⟩]
def q88R7 : List AOper := [⟨some 26, none, .mov (.slot 5)⟩,
  ⟨some 27, none, .bin .add (.slot 26) (.const (.int .i64 1))⟩,
  ⟨some 4, none, .mov (.slot 27)⟩]
def q88R8 : List AOper := [⟨some 4, none, .mov (.const (.int .i64 (-1)))⟩]
def c_token_Place : AFn := ⟨(.seq (.region q88R0 false [1, 2]) (.seq (.block 0 (.seq (.region q88R1 false [1, 2, 6]) (.cond (.slot 6) (.seq (.region q88R2 false [4]) .ret) (.seq (.region q88R3 false [1, 2, 15]) (.cond (.slot 15) (.seq (.region q88R4 false [4]) .ret) .skip))))) (.seq (.seq (.region q88R5 false [5]) (.seq (.region q88R6 false [5, 25]) (.cond (.slot 25) (.seq (.region q88R7 false [4]) .ret) .skip))) (.seq (.region q88R8 false [4]) .ret)))), [.slot 4]⟩
/- slices.Clone[[]int,int] -/
def q64R0 : List AOper := [⟨some 2, none, .mov (.const (.data false 1 [] true))⟩]
def q64R1 : List AOper := [⟨some 3, none, .mov (.slot 0)⟩,
  ⟨some 4, none, .isnil .ks false (.slot 3)⟩]
def q64R2 : List AOper := [⟨some 2, none, .mov (.const (.data false 1 [] true))⟩]
def q64R3 : List AOper := [⟨some 5, none, .mkslice 1 0 [.int .i64 0] []⟩,
  ⟨some 6, none, .mov (.slot 0)⟩,
  ⟨some 7, none, .append 1 8 (.slot 5) (.slot 6)⟩,
  ⟨some 2, none, .mov (.slot 7)⟩]
def c_slices_Clone_int : AFn := ⟨(.seq (.region q64R0 false [0]) (.seq (.seq (.region q64R1 false [0, 4]) (.cond (.slot 4) (.seq (.region q64R2 false [2]) .ret) .skip)) (.seq (.region q64R3 false [2]) .ret))), [.slot 2]⟩
/- (*oriel/token.arbiter).on -/
def q89R0 : List AOper := [⟨some 2, none, .mov (.slot 0)⟩,
  ⟨some 3, none, .nilchk (.slot 2)⟩,
  ⟨some 4, none, .faddr 0 (.slot 3)⟩,
  ⟨some 5, none, .faddr 0 (.slot 4)⟩,
  ⟨none, none, .store false 1 (.slot 5) (.const (.int .i64 0))⟩]
def q89R1 : List AOper := [⟨some 6, none, .mov (.slot 0)⟩,
  ⟨some 7, none, .nilchk (.slot 6)⟩,
  ⟨some 8, none, .faddr 0 (.slot 7)⟩,
  ⟨some 9, none, .faddr 1 (.slot 8)⟩,
  ⟨some 10, none, .load false 1 (.slot 9)⟩,
  ⟨some 11, none, .len false (.slot 10)⟩,
  ⟨some 12, none, .bin .gtr (.slot 11) (.const (.int .i64 0))⟩]
def q89R2 : List AOper := [⟨some 13, none, .mov (.slot 0)⟩,
  ⟨some 14, none, .mov (.slot 0)⟩,
  ⟨some 15, none, .mov (.slot 0)⟩,
  ⟨some 16, none, .nilchk (.slot 15)⟩,
  ⟨some 17, none, .faddr 0 (.slot 16)⟩,
  ⟨some 18, none, .faddr 1 (.slot 17)⟩,
  ⟨some 19, none, .load false 1 (.slot 18)⟩,
  ⟨some 20, none, .idx 1 (.slot 19) (.const (.int .i64 0))⟩,
  ⟨some 21, none, .load false 1 (.slot 20)⟩,
  ⟨some 22, none, .mov (.slot 0)⟩,
  ⟨some 23, none, .nilchk (.slot 22)⟩,
  ⟨some 24, none, .faddr 0 (.slot 23)⟩,
  ⟨some 25, none, .faddr 1 (.slot 24)⟩,
  ⟨some 26, none, .load false 1 (.slot 25)⟩,
  ⟨some 27, none, .sl 1 (.slot 26) (some (.const (.int .i64 1))) none none⟩,
  ⟨some 28, none, .nilchk (.slot 13)⟩,
  ⟨some 29, none, .faddr 0 (.slot 28)⟩,
  ⟨some 30, none, .faddr 0 (.slot 29)⟩,
  ⟨none, none, .store false 1 (.slot 30) (.slot 21)⟩,
  ⟨some 31, none, .nilchk (.slot 14)⟩,
  ⟨some 32, none, .faddr 0 (.slot 31)⟩,
  ⟨some 33, none, .faddr 1 (.slot 32)⟩,
  ⟨none, none, .store false 1 (.slot 33) (.slot 27)⟩]
def c_token_arbiter_on : AFn := ⟨(.seq (.region q89R0 false [0]) (.seq (.region q89R1 false [0, 12]) (.cond (.slot 12) (.region q89R2 true []) .skip))), []⟩
/- oriel/token.change -/
def q90R0 : List AOper := [⟨some 2, none, .box 2 (.slot 0)⟩,
  ⟨some 4, none, .alloc [.int .i64 0, .data false 1 [] true]⟩]
def q90R1 : List AOper := [⟨some 6, none, .faddr 0 (.slot 2)⟩,
  ⟨some 7, none, .load false 1 (.slot 6)⟩,
  ⟨some 8, none, .faddr 1 (.slot 2)⟩,
  ⟨some 9, none, .load false 1 (.slot 8)⟩,
  ⟨some 10, none, .call .adp n_slices_Clone_int [(.slot 9)]⟩,
  ⟨some 11, none, .build [.int .i64 0, .data false 1 [] true] [(0, 1, (.slot 7)), (1, 1, (.slot 10))]⟩,
  ⟨some 12, none, .build [.int .i64 0, .data false 1 [] true] [(0, 2, (.slot 11))]⟩,
  ⟨some 13, none, .box 2 (.slot 12)⟩,
  ⟨some 5, none, .mov (.slot 13)⟩]
def q90R2 : List AOper := [⟨some 14, none, .mov (.slot 1)⟩,
  ⟨some 15, none, .mov (.slot 5)⟩,
  ⟨some 16, none, .mov (.slot 5)⟩,
  ⟨some 17, none, .mkfn (.func n_token_arbiter_on) [(.slot 16)] []⟩,
  ⟨some 18, none, .callv (.slot 14) [(.slot 15), (.slot 17)]⟩]
def q90R3 : List AOper := [⟨some 19, none, .mov (.slot 5)⟩,
  ⟨some 20, none, .nilchk (.slot 19)⟩,
  ⟨some 21, none, .faddr 0 (.slot 20)⟩,
  ⟨some 22, none, .load true 2 (.slot 21)⟩,
  ⟨none, none, .store true 2 (.slot 4) (.slot 22)⟩]
def c_token_change : AFn := ⟨(.seq (.region q90R0 false [1, 2, 4]) (.seq (.region q90R1 true [1, 4, 5]) (.seq (.region q90R2 false [4, 5]) (.seq (.region q90R3 false [4]) .ret)))), [.cell 4 true 2]⟩
/- slices.Delete[[]int,int] -/
def q70R0 : List AOper := [⟨some 6, none, .mov (.const (.data false 1 [] true))⟩]
def q70R1 : List AOper := [⟨some 8, none, .mov (.slot 0)⟩,
  ⟨some 9, none, .mov (.slot 1)⟩,
  ⟨some 10, none, .mov (.slot 2)⟩,
  ⟨some 11, none, .mov (.slot 0)⟩,
  ⟨some 12, none, .len false (.slot 11)⟩,
  ⟨some 13, none, .sl 1 (.slot 8) (some (.slot 9)) (some (.slot 10)) (some (.slot 12))⟩]
def q70R2 : List AOper := [⟨some 14, none, .mov (.slot 1)⟩,
  ⟨some 15, none, .mov (.slot 2)⟩,
  ⟨some 16, none, .bin .eql (.slot 14) (.slot 15)⟩]
def q70R3 : List AOper := [⟨some 17, none, .mov (.slot 0)⟩,
  ⟨some 6, none, .mov (.slot 17)⟩]
def q70R4 : List AOper := [⟨some 18, none, .mov (.slot 0)⟩,
  ⟨some 19, none, .len false (.slot 18)⟩,
  ⟨some 7, none, .mov (.slot 19)⟩]
def q70R5 : List AOper := [⟨some 20, none, .mov (.slot 0)⟩,
  ⟨some 21, none, .mov (.slot 1)⟩,
  ⟨some 22, none, .sl 1 (.slot 20) none (some (.slot 21)) none⟩,
  ⟨some 23, none, .mov (.slot 0)⟩,
  ⟨some 24, none, .mov (.slot 2)⟩,
  ⟨some 25, none, .sl 1 (.slot 23) (some (.slot 24)) none none⟩,
  ⟨some 26, none, .append 1 8 (.slot 22) (.slot 25)⟩,
  ⟨some 0, none, .mov (.slot 26)⟩]
def q70R6 : List AOper := [⟨some 27, none, .mov (.slot 0)⟩,
  ⟨some 28, none, .mov (.slot 0)⟩,
  ⟨some 29, none, .len false (.slot 28)⟩,
  ⟨some 30, none, .mov (.slot 7)⟩,
  ⟨some 31, none, .sl 1 (.slot 27) (some (.slot 29)) (some (.slot 30)) none⟩,
  ⟨none, none, .clear [.int .i64 0] (.slot 31)⟩]
def q70R7 : List AOper := [⟨some 32, none, .mov (.slot 0)⟩,
  ⟨some 6, none, .mov (.slot 32)⟩]
def c_slices_Delete_int : AFn := ⟨(.seq (.region q70R0 false [0, 1, 2]) (.seq (.region q70R1 false [0, 1, 2]) (.seq (.seq (.region q70R2 false [0, 1, 2, 16]) (.cond (.slot 16) (.seq (.region q70R3 false [6]) .ret) .skip)) (.seq (.region q70R4 false [0, 1, 2, 7]) (.seq (.region q70R5 true [0, 7]) (.seq (.region q70R6 false [0]) (.seq (.region q70R7 false [6]) .ret))))))), [.slot 6]⟩
/- oriel/token.Free'1 -/
def q83R0 : List AOper := [⟨some 6, none, .load false 1 (.slot 2)⟩,
  ⟨some 7, none, .bin .eql (.slot 6) (.const (.int .i64 0))⟩,
  ⟨some 5, none, .mov (.slot 7)⟩]
def q83R1 : List AOper := [⟨some 8, none, .mov (.slot 1)⟩,
  ⟨some 9, none, .callv (.slot 8) []⟩]
def q83R2 : List AOper := [⟨some 11, none, .load false 1 (.slot 2)⟩,
  ⟨some 12, none, .bin .gtr (.slot 11) (.const (.int .i64 0))⟩,
  ⟨some 10, none, .mov (.slot 12)⟩]
def q83R3 : List AOper := [⟨some 13, none, .mov (.slot 0)⟩,
  ⟨some 14, none, .mov (.slot 0)⟩,
  ⟨some 15, none, .nilchk (.slot 14)⟩,
  ⟨some 16, none, .faddr 0 (.slot 15)⟩,
  ⟨some 17, none, .faddr 1 (.slot 16)⟩,
  ⟨some 18, none, .load false 1 (.slot 17)⟩,
  ⟨some 19, none, .load false 1 (.slot 2)⟩,
  ⟨some 20, none, .bin .sub (.slot 19) (.const (.int .i64 1))⟩,
  ⟨some 21, none, .load false 1 (.slot 2)⟩,
  ⟨some 22, none, .call .inl n_slices_Delete_int [(.slot 18), (.slot 20), (.slot 21)]⟩,
  ⟨some 23, none, .nilchk (.slot 13)⟩,
  ⟨some 24, none, .faddr 0 (.slot 23)⟩,
  ⟨some 25, none, .faddr 1 (.slot 24)⟩,
  ⟨none, none, .store false 1 (.slot 25) (.slot 22)⟩]
def c_token_Free_1 : AFn := ⟨(.block 0 (.seq (.region q83R0 false [0, 1, 2, 5]) (.cond (.slot 5) (.region q83R1 false []) (.seq (.region q83R2 false [0, 2, 10]) (.cond (.slot 10) (.region q83R3 true []) .skip))))), []⟩
/- oriel/token.Free -/
def q82R0 : List AOper := [⟨some 2, none, .box 2 (.slot 0)⟩,
  ⟨some 4, none, .alloc [.int .i64 0, .data false 1 [] true]⟩,
  ⟨some 5, none, .mov (.const (.int .i64 0))⟩]
def q82R1 : List AOper := [⟨some 7, none, .load true 2 (.slot 2)⟩,
  ⟨some 8, none, .call .frz n_token_May [(.slot 7)]⟩,
  ⟨some 9, none, .not (.slot 8)⟩,
  ⟨some 10, none, .mov (.slot 9)⟩,
  ⟨some 11, some (10, false), .mov (.slot 1)⟩,
  ⟨some 12, some (10, false), .call .frz n_token_number [(.slot 11)]⟩,
  ⟨some 13, some (10, false), .not (.slot 12)⟩,
  ⟨some 14, none, .pick (.slot 10) (.const (.bool true)) (.slot 13)⟩]
def q82R2 : List AOper := [⟨some 15, none, .build [.int .i64 0, .data false 1 [] true] []⟩,
  ⟨none, none, .store true 2 (.slot 4) (.slot 15)⟩,
  ⟨some 5, none, .mov (.const (.int .i64 2))⟩]
def q82R3 : List AOper := [⟨some 16, none, .load true 2 (.slot 2)⟩,
  ⟨some 17, none, .mov (.slot 1)⟩,
  ⟨some 18, none, .call .frz n_token_Place [(.slot 16), (.slot 17)]⟩,
  ⟨some 6, none, .alloc [.int .i64 0]⟩,
  ⟨none, none, .store false 1 (.slot 6) (.slot 18)⟩]
def q82R4 : List AOper := [⟨some 19, none, .load true 2 (.slot 2)⟩,
  ⟨some 20, none, .mkfn (.func n_token_Free_1) [] [(.slot 6)]⟩,
  ⟨some 21, none, .call .inl n_token_change [(.slot 19), (.slot 20)]⟩,
  ⟨none, none, .store true 2 (.slot 4) (.slot 21)⟩,
  ⟨some 5, none, .mov (.const (.int .i64 0))⟩]
def c_token_Free : AFn := ⟨(.seq (.region q82R0 false [1, 2, 4]) (.seq (.seq (.region q82R1 false [1, 2, 4, 14]) (.cond (.slot 14) (.seq (.region q82R2 false [4, 5]) .ret) .skip)) (.seq (.region q82R3 false [2, 4, 6]) (.seq (.region q82R4 false [4, 5]) .ret)))), [.cell 4 true 2, .slot 5]⟩
/- slices.Contains[[]int,int] -/
def q66R0 : List AOper := [⟨some 4, none, .mov (.const (.bool false))⟩]
def q66R1 : List AOper := [⟨some 5, none, .mov (.slot 0)⟩,
  ⟨some 6, none, .mov (.slot 1)⟩,
  ⟨some 7, none, .call .frz n_slices_Index_int [(.slot 5), (.slot 6)]⟩,
  ⟨some 8, none, .bin .geq (.slot 7) (.const (.int .i64 0))⟩,
  ⟨some 4, none, .mov (.slot 8)⟩]
def c_slices_Contains_int : AFn := ⟨(.seq (.region q66R0 false [0, 1]) (.seq (.region q66R1 false [4]) .ret)), [.slot 4]⟩
/- oriel/token.Keep'1 -/
def q85R0 : List AOper := [⟨some 3, none, .mov (.const (.bool false))⟩]
def q85R1 : List AOper := [⟨some 4, none, .load false 1 (.slot 1)⟩,
  ⟨some 5, none, .mov (.slot 0)⟩,
  ⟨some 6, none, .call .frz n_slices_Contains_int [(.slot 4), (.slot 5)]⟩,
  ⟨some 7, none, .not (.slot 6)⟩,
  ⟨some 3, none, .mov (.slot 7)⟩]
def c_token_Keep_1 : AFn := ⟨(.seq (.region q85R0 false [0, 1]) (.seq (.region q85R1 false [3]) .ret)), [.slot 3]⟩
/- slices.IndexFunc[[]int,int] -/
def q73R0 : List AOper := [⟨some 4, none, .mov (.const (.int .i64 0))⟩]
def q73R1 : List AOper := [⟨some 6, none, .mov (.slot 0)⟩,
  ⟨some 7, none, .len false (.slot 6)⟩,
  ⟨some 8, none, .mov (.const (.int .i64 0))⟩]
def q73R2 : List AOper := [⟨some 9, none, .bin .lss (.slot 8) (.slot 7)⟩]
def q73R3 : List AOper := [⟨some 10, none, .mov (.slot 8)⟩,
  ⟨some 5, none, .mov (.slot 10)⟩]
def q73R4 : List AOper := [⟨some 11, none, .mov (.slot 1)⟩,
  ⟨some 12, none, .mov (.slot 0)⟩,
  ⟨some 13, none, .mov (.slot 5)⟩,
  ⟨some 14, none, .idx 1 (.slot 12) (.slot 13)⟩,
  ⟨some 15, none, .load false 1 (.slot 14)⟩,
  ⟨some 16, none, .callv (.slot 11) [(.slot 15)]⟩]
def q73R5 : List AOper := [⟨some 17, none, .mov (.slot 5)⟩,
  ⟨some 4, none, .mov (.slot 17)⟩]
def q73R6 : List AOper := [⟨some 18, none, .bin .add (.slot 8) (.const (.int .i64 1))⟩,
  ⟨some 8, none, .mov (.slot 18)⟩]
def c_slices_IndexFunc_int_L0 : ACode := (.seq (.region q73R2 false [0, 1, 7, 8, 9]) (.seq (.cond (.slot 9) .skip (.exit 0)) (.seq (.block 1 (.seq (.region q73R3 false [0, 1, 5, 7, 8]) (.seq (.region q73R4 false [0, 1, 5, 7, 8, 16]) (.cond (.slot 16) (.seq (.region q73R5 false [4]) .ret) .skip)))) (.region q73R6 false [0, 1, 7, 8]))))
def lp_slices_IndexFunc_int_0 : ACode := .loop [0, 1, 7, 8] c_slices_IndexFunc_int_L0
def q73R7 : List AOper := [⟨some 4, none, .mov (.const (.int .i64 (-1)))⟩]
def c_slices_IndexFunc_int : AFn := ⟨(.seq (.region q73R0 false [0, 1]) (.seq (.seq (.region q73R1 false [0, 1, 7, 8]) (.block 0 lp_slices_IndexFunc_int_0)) (.seq (.region q73R7 false [4]) .ret))), [.slot 4]⟩
/- slices.DeleteFunc[[]int,int] -/
def q69R0 : List AOper := [⟨some 4, none, .mov (.const (.data false 1 [] true))⟩]
def q69R1 : List AOper := [⟨some 8, none, .mov (.slot 0)⟩,
  ⟨some 9, none, .mov (.slot 1)⟩,
  ⟨some 10, none, .call .inl n_slices_IndexFunc_int [(.slot 8), (.slot 9)]⟩,
  ⟨some 5, none, .mov (.slot 10)⟩]
def q69R2 : List AOper := [⟨some 11, none, .mov (.slot 5)⟩,
  ⟨some 12, none, .bin .eql (.slot 11) (.const (.int .i64 (-1)))⟩]
def q69R3 : List AOper := [⟨some 13, none, .mov (.slot 0)⟩,
  ⟨some 4, none, .mov (.slot 13)⟩]
def q69R4 : List AOper := [⟨some 14, none, .mov (.slot 5)⟩,
  ⟨some 15, none, .bin .add (.slot 14) (.const (.int .i64 1))⟩,
  ⟨some 6, none, .mov (.slot 15)⟩]
def q69R5 : List AOper := [⟨some 16, none, .mov (.slot 6)⟩,
  ⟨some 17, none, .mov (.slot 0)⟩,
  ⟨some 18, none, .len false (.slot 17)⟩,
  ⟨some 19, none, .bin .lss (.slot 16) (.slot 18)⟩]
def q69R7 : List AOper := [⟨some 22, none, .mov (.slot 0)⟩,
  ⟨some 23, none, .mov (.slot 6)⟩,
  ⟨some 24, none, .idx 1 (.slot 22) (.slot 23)⟩,
  ⟨some 25, none, .load false 1 (.slot 24)⟩,
  ⟨some 7, none, .mov (.slot 25)⟩]
def q69R8 : List AOper := [⟨some 26, none, .mov (.slot 1)⟩,
  ⟨some 27, none, .mov (.slot 7)⟩,
  ⟨some 28, none, .callv (.slot 26) [(.slot 27)]⟩,
  ⟨some 29, none, .not (.slot 28)⟩]
def q69R9 : List AOper := [⟨some 30, none, .mov (.slot 0)⟩,
  ⟨some 31, none, .mov (.slot 5)⟩,
  ⟨some 32, none, .mov (.slot 7)⟩,
  ⟨some 33, none, .idx 1 (.slot 30) (.slot 31)⟩,
  ⟨none, none, .store false 1 (.slot 33) (.slot 32)⟩]
def q69R10 : List AOper := [⟨some 34, none, .mov (.slot 5)⟩,
  ⟨some 35, none, .bin .add (.slot 34) (.const (.int .i64 1))⟩,
  ⟨some 5, none, .mov (.slot 35)⟩]
def q69R6 : List AOper := [⟨some 20, none, .mov (.slot 6)⟩,
  ⟨some 21, none, .bin .add (.slot 20) (.const (.int .i64 1))⟩,
  ⟨some 6, none, .mov (.slot 21)⟩]
def c_slices_DeleteFunc_int_L0 : ACode := (.seq (.seq (.region q69R5 false [0, 1, 5, 6, 19]) (.cond (.slot 19) .skip (.exit 0))) (.seq (.block 1 (.seq (.region q69R7 false [0, 1, 5, 6, 7]) (.seq (.region q69R8 false [0, 1, 5, 6, 7, 29]) (.cond (.slot 29) (.seq (.region q69R9 false [0, 1, 5, 6]) (.region q69R10 false [0, 1, 5, 6])) .skip)))) (.region q69R6 false [0, 1, 5, 6])))
def lp_slices_DeleteFunc_int_0 : ACode := .loop [0, 1, 5, 6] c_slices_DeleteFunc_int_L0
def q69R11 : List AOper := [⟨some 36, none, .mov (.slot 0)⟩,
  ⟨some 37, none, .mov (.slot 5)⟩,
  ⟨some 38, none, .sl 1 (.slot 36) (some (.slot 37)) none none⟩,
  ⟨none, none, .clear [.int .i64 0] (.slot 38)⟩]
def q69R12 : List AOper := [⟨some 39, none, .mov (.slot 0)⟩,
  ⟨some 40, none, .mov (.slot 5)⟩,
  ⟨some 41, none, .sl 1 (.slot 39) none (some (.slot 40)) none⟩,
  ⟨some 4, none, .mov (.slot 41)⟩]
def c_slices_DeleteFunc_int : AFn := ⟨(.seq (.region q69R0 false [0, 1]) (.seq (.region q69R1 false [0, 1, 5]) (.seq (.seq (.region q69R2 false [0, 1, 5, 12]) (.cond (.slot 12) (.seq (.region q69R3 false [4]) .ret) .skip)) (.seq (.seq (.region q69R4 false [0, 1, 5, 6]) (.block 0 lp_slices_DeleteFunc_int_0)) (.seq (.region q69R11 false [0, 5]) (.seq (.region q69R12 false [4]) .ret)))))), [.slot 4]⟩
/- oriel/token.Keep'2 -/
def q86R0 : List AOper := [⟨some 5, none, .mov (.slot 0)⟩,
  ⟨some 6, none, .mov (.slot 0)⟩,
  ⟨some 7, none, .nilchk (.slot 6)⟩,
  ⟨some 8, none, .faddr 0 (.slot 7)⟩,
  ⟨some 9, none, .faddr 1 (.slot 8)⟩,
  ⟨some 10, none, .load false 1 (.slot 9)⟩,
  ⟨some 11, none, .load false 1 (.slot 2)⟩,
  ⟨some 12, none, .call .inl n_slices_DeleteFunc_int [(.slot 10), (.slot 11)]⟩,
  ⟨some 13, none, .nilchk (.slot 5)⟩,
  ⟨some 14, none, .faddr 0 (.slot 13)⟩,
  ⟨some 15, none, .faddr 1 (.slot 14)⟩,
  ⟨none, none, .store false 1 (.slot 15) (.slot 12)⟩]
def q86R1 : List AOper := [⟨some 16, none, .mov (.slot 0)⟩,
  ⟨some 17, none, .nilchk (.slot 16)⟩,
  ⟨some 18, none, .faddr 0 (.slot 17)⟩,
  ⟨some 19, none, .faddr 0 (.slot 18)⟩,
  ⟨some 20, none, .load false 1 (.slot 19)⟩,
  ⟨some 21, none, .bin .neq (.slot 20) (.const (.int .i64 0))⟩,
  ⟨some 22, none, .mov (.slot 21)⟩,
  ⟨some 23, some (22, true), .load false 1 (.slot 2)⟩,
  ⟨some 24, some (22, true), .mov (.slot 0)⟩,
  ⟨some 25, some (22, true), .nilchk (.slot 24)⟩,
  ⟨some 26, some (22, true), .faddr 0 (.slot 25)⟩,
  ⟨some 27, some (22, true), .faddr 0 (.slot 26)⟩,
  ⟨some 28, some (22, true), .load false 1 (.slot 27)⟩,
  ⟨some 29, some (22, true), .callv (.slot 23) [(.slot 28)]⟩,
  ⟨some 30, none, .pick (.slot 22) (.slot 29) (.const (.bool false))⟩]
def q86R2 : List AOper := [⟨some 31, none, .mov (.slot 1)⟩,
  ⟨some 32, none, .callv (.slot 31) []⟩]
def c_token_Keep_2 : AFn := ⟨(.seq (.region q86R0 true [0, 1, 2]) (.seq (.region q86R1 true [1, 30]) (.cond (.slot 30) (.region q86R2 false []) .skip))), []⟩
/- oriel/token.Keep -/
def q84R0 : List AOper := [⟨some 2, none, .box 2 (.slot 0)⟩,
  ⟨some 3, none, .box 1 (.slot 1)⟩,
  ⟨some 4, none, .alloc [.int .i64 0, .data false 1 [] true]⟩,
  ⟨some 5, none, .mov (.const (.int .i64 0))⟩]
def q84R1 : List AOper := [⟨some 7, none, .load true 2 (.slot 2)⟩,
  ⟨some 8, none, .call .frz n_token_May [(.slot 7)]⟩,
  ⟨some 9, none, .not (.slot 8)⟩]
def q84R2 : List AOper := [⟨some 10, none, .build [.int .i64 0, .data false 1 [] true] []⟩,
  ⟨none, none, .store true 2 (.slot 4) (.slot 10)⟩,
  ⟨some 5, none, .mov (.const (.int .i64 2))⟩]
def q84R3 : List AOper := [⟨some 11, none, .mkfn (.func n_token_Keep_1) [] [(.slot 3)]⟩,
  ⟨some 6, none, .alloc [.nilfn]⟩,
  ⟨none, none, .store false 1 (.slot 6) (.slot 11)⟩]
def q84R4 : List AOper := [⟨some 12, none, .load true 2 (.slot 2)⟩,
  ⟨some 13, none, .mkfn (.func n_token_Keep_2) [] [(.slot 6)]⟩,
  ⟨some 14, none, .call .inl n_token_change [(.slot 12), (.slot 13)]⟩,
  ⟨none, none, .store true 2 (.slot 4) (.slot 14)⟩,
  ⟨some 5, none, .mov (.const (.int .i64 0))⟩]
def c_token_Keep : AFn := ⟨(.seq (.region q84R0 false [2, 3, 4]) (.seq (.seq (.region q84R1 false [2, 3, 4, 9]) (.cond (.slot 9) (.seq (.region q84R2 false [4, 5]) .ret) .skip)) (.seq (.region q84R3 false [2, 4, 6]) (.seq (.region q84R4 false [4, 5]) .ret)))), [.cell 4 true 2, .slot 5]⟩
/- oriel/orielref27.Same -/
def q43R0 : List AOper := [⟨some 2, none, .box 2 (.slot 0)⟩,
  ⟨some 3, none, .box 2 (.slot 1)⟩,
  ⟨some 4, none, .mov (.const (.bool false))⟩]
def q43R1 : List AOper := [⟨some 6, none, .faddr 0 (.slot 2)⟩,
  ⟨some 7, none, .load false 1 (.slot 6)⟩,
  ⟨some 8, none, .faddr 0 (.slot 3)⟩,
  ⟨some 9, none, .load false 1 (.slot 8)⟩,
  ⟨some 10, none, .bin .neq (.slot 7) (.slot 9)⟩,
  ⟨some 11, none, .mov (.slot 10)⟩,
  ⟨some 12, some (11, false), .faddr 1 (.slot 2)⟩,
  ⟨some 13, some (11, false), .load false 1 (.slot 12)⟩,
  ⟨some 14, some (11, false), .len false (.slot 13)⟩,
  ⟨some 15, some (11, false), .faddr 1 (.slot 3)⟩,
  ⟨some 16, some (11, false), .load false 1 (.slot 15)⟩,
  ⟨some 17, some (11, false), .len false (.slot 16)⟩,
  ⟨some 18, some (11, false), .bin .neq (.slot 14) (.slot 17)⟩,
  ⟨some 19, none, .pick (.slot 11) (.const (.bool true)) (.slot 18)⟩]
def q43R2 : List AOper := [⟨some 4, none, .mov (.const (.bool false))⟩]
def q43R3 : List AOper := [⟨some 5, none, .mov (.const (.int .i64 0))⟩]
def q43R4 : List AOper := [⟨some 20, none, .mov (.slot 5)⟩,
  ⟨some 21, none, .faddr 1 (.slot 2)⟩,
  ⟨some 22, none, .load false 1 (.slot 21)⟩,
  ⟨some 23, none, .len false (.slot 22)⟩,
  ⟨some 24, none, .bin .lss (.slot 20) (.slot 23)⟩]
def q43R6 : List AOper := [⟨some 27, none, .faddr 1 (.slot 2)⟩,
  ⟨some 28, none, .load false 1 (.slot 27)⟩,
  ⟨some 29, none, .mov (.slot 5)⟩,
  ⟨some 30, none, .idx 1 (.slot 28) (.slot 29)⟩,
  ⟨some 31, none, .load false 1 (.slot 30)⟩,
  ⟨some 32, none, .faddr 1 (.slot 3)⟩,
  ⟨some 33, none, .load false 1 (.slot 32)⟩,
  ⟨some 34, none, .mov (.slot 5)⟩,
  ⟨some 35, none, .idx 1 (.slot 33) (.slot 34)⟩,
  ⟨some 36, none, .load false 1 (.slot 35)⟩,
  ⟨some 37, none, .bin .neq (.slot 31) (.slot 36)⟩]
def q43R7 : List AOper := [⟨some 4, none, .mov (.const (.bool false))⟩]
def q43R5 : List AOper := [⟨some 25, none, .mov (.slot 5)⟩,
  ⟨some 26, none, .bin .add (.slot 25) (.const (.int .i64 1))⟩,
  ⟨some 5, none, .mov (.slot 26)⟩]
def c_ref27_Same_L0 : ACode := (.seq (.seq (.region q43R4 false [2, 3, 5, 24]) (.cond (.slot 24) .skip (.exit 0))) (.seq (.block 1 (.seq (.region q43R6 true [2, 3, 5, 37]) (.cond (.slot 37) (.seq (.region q43R7 false [4]) .ret) .skip))) (.region q43R5 false [2, 3, 5])))
def lp_ref27_Same_0 : ACode := .loop [2, 3, 5] c_ref27_Same_L0
def q43R8 : List AOper := [⟨some 4, none, .mov (.const (.bool true))⟩]
def c_ref27_Same : AFn := ⟨(.seq (.region q43R0 false [2, 3]) (.seq (.seq (.region q43R1 false [2, 3, 19]) (.cond (.slot 19) (.seq (.region q43R2 false [4]) .ret) .skip)) (.seq (.seq (.region q43R3 false [2, 3, 5]) (.block 0 lp_ref27_Same_0)) (.seq (.region q43R8 false [4]) .ret)))), [.slot 4]⟩
/- oriel/token.Ask'1 -/
def q81R0 : List AOper := [⟨some 6, none, .load false 1 (.slot 2)⟩,
  ⟨some 7, none, .bin .lss (.slot 6) (.const (.int .i64 0))⟩]
def q81R1 : List AOper := [⟨some 8, none, .mov (.slot 0)⟩,
  ⟨some 9, none, .mov (.slot 0)⟩,
  ⟨some 10, none, .nilchk (.slot 9)⟩,
  ⟨some 11, none, .faddr 0 (.slot 10)⟩,
  ⟨some 12, none, .faddr 1 (.slot 11)⟩,
  ⟨some 13, none, .load false 1 (.slot 12)⟩,
  ⟨some 14, none, .load false 1 (.slot 3)⟩,
  ⟨some 15, none, .mkslice 1 1 [.int .i64 0] [(0, (.slot 14))]⟩,
  ⟨some 16, none, .append 1 8 (.slot 13) (.slot 15)⟩,
  ⟨some 17, none, .nilchk (.slot 8)⟩,
  ⟨some 18, none, .faddr 0 (.slot 17)⟩,
  ⟨some 19, none, .faddr 1 (.slot 18)⟩,
  ⟨none, none, .store false 1 (.slot 19) (.slot 16)⟩]
def q81R2 : List AOper := [⟨some 20, none, .mov (.slot 0)⟩,
  ⟨some 21, none, .nilchk (.slot 20)⟩,
  ⟨some 22, none, .faddr 0 (.slot 21)⟩,
  ⟨some 23, none, .faddr 0 (.slot 22)⟩,
  ⟨some 24, none, .load false 1 (.slot 23)⟩,
  ⟨some 25, none, .bin .eql (.slot 24) (.const (.int .i64 0))⟩]
def q81R3 : List AOper := [⟨some 26, none, .mov (.slot 1)⟩,
  ⟨some 27, none, .callv (.slot 26) []⟩]
def c_token_Ask_1 : AFn := ⟨(.seq (.seq (.region q81R0 false [0, 1, 3, 7]) (.cond (.slot 7) (.region q81R1 true [0, 1]) .skip)) (.seq (.region q81R2 false [1, 25]) (.cond (.slot 25) (.region q81R3 false []) .skip))), []⟩
/- oriel/token.Ask -/
def q80R0 : List AOper := [⟨some 2, none, .box 2 (.slot 0)⟩,
  ⟨some 3, none, .box 1 (.slot 1)⟩,
  ⟨some 4, none, .alloc [.int .i64 0, .data false 1 [] true]⟩,
  ⟨some 5, none, .mov (.const (.int .i64 0))⟩]
def q80R1 : List AOper := [⟨some 7, none, .load true 2 (.slot 2)⟩,
  ⟨some 8, none, .call .frz n_token_May [(.slot 7)]⟩,
  ⟨some 9, none, .not (.slot 8)⟩,
  ⟨some 10, none, .mov (.slot 9)⟩,
  ⟨some 11, some (10, false), .load false 1 (.slot 3)⟩,
  ⟨some 12, some (10, false), .call .frz n_token_number [(.slot 11)]⟩,
  ⟨some 13, some (10, false), .not (.slot 12)⟩,
  ⟨some 14, none, .pick (.slot 10) (.const (.bool true)) (.slot 13)⟩]
def q80R2 : List AOper := [⟨some 15, none, .build [.int .i64 0, .data false 1 [] true] []⟩,
  ⟨none, none, .store true 2 (.slot 4) (.slot 15)⟩,
  ⟨some 5, none, .mov (.const (.int .i64 2))⟩]
def q80R3 : List AOper := [⟨some 16, none, .load true 2 (.slot 2)⟩,
  ⟨some 17, none, .load false 1 (.slot 3)⟩,
  ⟨some 18, none, .call .frz n_token_Place [(.slot 16), (.slot 17)]⟩,
  ⟨some 6, none, .alloc [.int .i64 0]⟩,
  ⟨none, none, .store false 1 (.slot 6) (.slot 18)⟩]
def q80R4 : List AOper := [⟨some 19, none, .load true 2 (.slot 2)⟩,
  ⟨some 20, none, .mkfn (.func n_token_Ask_1) [] [(.slot 6), (.slot 3)]⟩,
  ⟨some 21, none, .call .inl n_token_change [(.slot 19), (.slot 20)]⟩,
  ⟨none, none, .store true 2 (.slot 4) (.slot 21)⟩,
  ⟨some 5, none, .mov (.const (.int .i64 0))⟩]
def c_token_Ask : AFn := ⟨(.seq (.region q80R0 false [2, 3, 4]) (.seq (.seq (.region q80R1 false [2, 3, 4, 14]) (.cond (.slot 14) (.seq (.region q80R2 false [4, 5]) .ret) .skip)) (.seq (.region q80R3 false [2, 3, 4, 6]) (.seq (.region q80R4 false [4, 5]) .ret)))), [.cell 4 true 2, .slot 5]⟩
/- oriel/oriellaw27.asked -/
def q10R0 : List AOper := [⟨some 2, none, .alloc [.int .i64 0, .data false 1 [] true]⟩]
def q10R1 : List AOper := [⟨some 3, none, .alloc [.int .i64 0, .data false 1 [] true]⟩]
def q10R2 : List AOper := [⟨some 4, none, .mov (.const (.int .i64 0))⟩]
def q10R3 : List AOper := [⟨some 5, none, .mov (.slot 4)⟩,
  ⟨some 6, none, .mov (.slot 0)⟩,
  ⟨some 7, none, .len false (.slot 6)⟩,
  ⟨some 8, none, .bin .lss (.slot 5) (.slot 7)⟩]
def q10R5 : List AOper := [⟨some 12, none, .load true 2 (.slot 3)⟩,
  ⟨some 13, none, .mov (.slot 0)⟩,
  ⟨some 14, none, .mov (.slot 4)⟩,
  ⟨some 15, none, .idx 1 (.slot 13) (.slot 14)⟩,
  ⟨some 16, none, .load false 1 (.slot 15)⟩,
  ⟨some 17, none, .call .frz n_token_Ask [(.slot 12), (.slot 16)]⟩,
  ⟨some 11, none, .mov (.slot 17)⟩,
  ⟨some 18, none, .extract 0 (.slot 11)⟩,
  ⟨some 19, none, .extract 1 (.slot 11)⟩,
  ⟨none, none, .store true 2 (.slot 3) (.slot 18)⟩]
def q10R4 : List AOper := [⟨some 9, none, .mov (.slot 4)⟩,
  ⟨some 10, none, .bin .add (.slot 9) (.const (.int .i64 1))⟩,
  ⟨some 4, none, .mov (.slot 10)⟩]
def c_law27_asked_L0 : ACode := (.seq (.seq (.region q10R3 false [0, 2, 3, 4, 8]) (.cond (.slot 8) .skip (.exit 0))) (.seq (.block 1 (.region q10R5 true [0, 2, 3, 4])) (.region q10R4 false [0, 2, 3, 4])))
def lp_law27_asked_0 : ACode := .loop [0, 2, 3, 4] c_law27_asked_L0
def q10R6 : List AOper := [⟨some 20, none, .load true 2 (.slot 3)⟩,
  ⟨none, none, .store true 2 (.slot 2) (.slot 20)⟩]
def c_law27_asked : AFn := ⟨(.seq (.region q10R0 false [0, 2]) (.seq (.region q10R1 false [0, 2, 3]) (.seq (.seq (.region q10R2 false [0, 2, 3, 4]) (.block 0 lp_law27_asked_0)) (.seq (.region q10R6 false [2]) .ret)))), [.cell 2 true 2]⟩
/- oriel/oriellaw27.known -/
def q11R0 : List AOper := [⟨some 0, none, .mov (.const (.bool false))⟩]
def q11R1 : List AOper := [⟨some 8, none, .mkslice 1 4 [.int .i64 0] [(0, (.const (.int .i64 3))), (1, (.const (.int .i64 5))), (2, (.const (.int .i64 3))), (3, (.const (.int .i64 1)))]⟩,
  ⟨some 9, none, .call .frz n_law27_asked [(.slot 8)]⟩,
  ⟨some 1, none, .alloc [.int .i64 0, .data false 1 [] true]⟩,
  ⟨none, none, .store true 2 (.slot 1) (.slot 9)⟩]
def q11R2 : List AOper := [⟨some 11, none, .load true 2 (.slot 1)⟩,
  ⟨some 12, none, .call .frz n_token_Free [(.slot 11), (.const (.int .i64 5))]⟩,
  ⟨some 10, none, .mov (.slot 12)⟩,
  ⟨some 13, none, .extract 0 (.slot 10)⟩,
  ⟨some 14, none, .extract 1 (.slot 10)⟩,
  ⟨some 2, none, .alloc [.int .i64 0, .data false 1 [] true]⟩,
  ⟨none, none, .store true 2 (.slot 2) (.slot 13)⟩,
  ⟨some 3, none, .mov (.slot 14)⟩]
def q11R3 : List AOper := [⟨some 16, none, .load true 2 (.slot 2)⟩,
  ⟨some 17, none, .call .frz n_token_Free [(.slot 16), (.const (.int .i64 3))]⟩,
  ⟨some 15, none, .mov (.slot 17)⟩,
  ⟨some 18, none, .extract 0 (.slot 15)⟩,
  ⟨some 19, none, .extract 1 (.slot 15)⟩,
  ⟨some 4, none, .alloc [.int .i64 0, .data false 1 [] true]⟩,
  ⟨none, none, .store true 2 (.slot 4) (.slot 18)⟩,
  ⟨some 5, none, .mov (.slot 19)⟩]
def q11R4 : List AOper := [⟨some 21, none, .load true 2 (.slot 1)⟩,
  ⟨some 22, none, .mkslice 1 1 [.int .i64 0] [(0, (.const (.int .i64 1)))]⟩,
  ⟨some 23, none, .call .frz n_token_Keep [(.slot 21), (.slot 22)]⟩,
  ⟨some 20, none, .mov (.slot 23)⟩,
  ⟨some 24, none, .extract 0 (.slot 20)⟩,
  ⟨some 25, none, .extract 1 (.slot 20)⟩,
  ⟨some 6, none, .alloc [.int .i64 0, .data false 1 [] true]⟩,
  ⟨none, none, .store true 2 (.slot 6) (.slot 24)⟩,
  ⟨some 7, none, .mov (.slot 25)⟩]
def q11R5 : List AOper := ⟨some 26, none, .mov (.slot 3)⟩ ::
  ⟨some 27, none, .bin .eql (.slot 26) (.const (.int .i64 0))⟩ ::
  ⟨some 28, none, .mov (.slot 27)⟩ ::
  ⟨some 29, some (28, true), .mov (.slot 5)⟩ ::
  ⟨some 30, some (28, true), .bin .eql (.slot 29) (.const (.int .i64 0))⟩ ::
  ⟨some 31, none, .pick (.slot 28) (.slot 30) (.const (.bool false))⟩ ::
  ⟨some 32, none, .mov (.slot 31)⟩ ::
  ⟨some 33, some (32, true), .mov (.slot 7)⟩ ::
  ⟨some 34, some (32, true), .bin .eql (.slot 33) (.const (.int .i64 0))⟩ ::
  ⟨some 35, none, .pick (.slot 32) (.slot 34) (.const (.bool false))⟩ ::
  ⟨some 36, none, .mov (.slot 35)⟩ ::
  ⟨some 37, some (36, true), .load true 2 (.slot 1)⟩ ::
  ⟨some 38, some (36, true), .mkslice 1 2 [.int .i64 0] [(0, (.const (.int .i64 5))), (1, (.const (.int .i64 1)))]⟩ ::
  ⟨some 39, some (36, true), .build [.int .i64 0, .data false 1 [] true] [(0, 1, (.const (.int .i64 3))), (1, 1, (.slot 38))]⟩ ::
  ⟨some 40, some (36, true), .call .frz n_ref27_Same [(.slot 37), (.slot 39)]⟩ ::
  ⟨some 41, none, .pick (.slot 36) (.slot 40) (.const (.bool false))⟩ ::
  ⟨some 42, none, .mov (.slot 41)⟩ ::
  ⟨some 43, some (42, true), .load true 2 (.slot 2)⟩ ::
  ⟨some 44, some (42, true), .mkslice 1 1 [.int .i64 0] [(0, (.const (.int .i64 1)))]⟩ ::
  ⟨some 45, some (42, true), .build [.int .i64 0, .data false 1 [] true] [(0, 1, (.const (.int .i64 3))), (1, 1, (.slot 44))]⟩ ::
  ⟨some 46, some (42, true), .call .frz n_ref27_Same [(.slot 43), (.slot 45)]⟩ ::
  ⟨some 47, none, .pick (.slot 42) (.slot 46) (.const (.bool false))⟩ ::
  ⟨some 48, none, .mov (.slot 47)⟩ ::
  ⟨some 49, some (48, true), .load true 2 (.slot 4)⟩ ::
  ⟨some 50, some (48, true), .build [.int .i64 0, .data false 1 [] true] [(0, 1, (.const (.int .i64 1)))]⟩ ::
  ⟨some 51, some (48, true), .call .frz n_ref27_Same [(.slot 49), (.slot 50)]⟩ ::
  ⟨some 52, none, .pick (.slot 48) (.slot 51) (.const (.bool false))⟩ ::
  ⟨some 53, none, .mov (.slot 52)⟩ ::
  ⟨some 54, some (53, true), .load true 2 (.slot 6)⟩ ::
  ⟨some 55, some (53, true), .load true 2 (.slot 4)⟩ ::
  ⟨some 56, some (53, true), .call .frz n_ref27_Same [(.slot 54), (.slot 55)]⟩ ::
  ⟨some 57, none, .pick (.slot 53) (.slot 56) (.const (.bool false))⟩ ::
  ⟨some 0, none, .mov (.slot 57)⟩ :: []
def c_law27_known : AFn := ⟨(.seq (.region q11R0 false []) (.seq (.region q11R1 false [1]) (.seq (.region q11R2 false [1, 2, 3]) (.seq (.region q11R3 false [1, 2, 3, 4, 5]) (.seq (.region q11R4 false [1, 2, 3, 4, 5, 6, 7]) (.seq (.region q11R5 false [0]) .ret)))))), [.slot 0]⟩
/- oriel/orielref27.All -/
def q36R0 : List AOper := [⟨some 1, none, .box 2 (.slot 0)⟩,
  ⟨some 2, none, .mov (.const (.data false 1 [] true))⟩]
def q36R1 : List AOper := [⟨some 3, none, .faddr 0 (.slot 1)⟩,
  ⟨some 4, none, .load false 1 (.slot 3)⟩,
  ⟨some 5, none, .bin .eql (.slot 4) (.const (.int .i64 0))⟩]
def q36R2 : List AOper := [⟨some 2, none, .mov (.const (.data false 1 [] true))⟩]
def q36R3 : List AOper := [⟨some 6, none, .faddr 0 (.slot 1)⟩,
  ⟨some 7, none, .load false 1 (.slot 6)⟩,
  ⟨some 8, none, .mkslice 1 1 [.int .i64 0] [(0, (.slot 7))]⟩,
  ⟨some 9, none, .faddr 1 (.slot 1)⟩,
  ⟨some 10, none, .load false 1 (.slot 9)⟩,
  ⟨some 11, none, .append 1 8 (.slot 8) (.slot 10)⟩,
  ⟨some 2, none, .mov (.slot 11)⟩]
def c_ref27_All : AFn := ⟨(.seq (.region q36R0 false [1]) (.seq (.seq (.region q36R1 false [1, 5]) (.cond (.slot 5) (.seq (.region q36R2 false [2]) .ret) .skip)) (.seq (.region q36R3 false [2]) .ret))), [.slot 2]⟩
/- oriel/orielref27.Has -/
def q39R0 : List AOper := [⟨some 4, none, .mov (.const (.bool false))⟩]
def q39R1 : List AOper := [⟨some 5, none, .mov (.const (.int .i64 0))⟩]
def q39R2 : List AOper := [⟨some 6, none, .mov (.slot 5)⟩,
  ⟨some 7, none, .mov (.slot 0)⟩,
  ⟨some 8, none, .len false (.slot 7)⟩,
  ⟨some 9, none, .bin .lss (.slot 6) (.slot 8)⟩]
def q39R4 : List AOper := [⟨some 12, none, .mov (.slot 0)⟩,
  ⟨some 13, none, .mov (.slot 5)⟩,
  ⟨some 14, none, .idx 1 (.slot 12) (.slot 13)⟩,
  ⟨some 15, none, .load false 1 (.slot 14)⟩,
  ⟨some 16, none, .mov (.slot 1)⟩,
  ⟨some 17, none, .bin .eql (.slot 15) (.slot 16)⟩]
def q39R5 : List AOper := [⟨some 4, none, .mov (.const (.bool true))⟩]
def q39R3 : List AOper := [⟨some 10, none, .mov (.slot 5)⟩,
  ⟨some 11, none, .bin .add (.slot 10) (.const (.int .i64 1))⟩,
  ⟨some 5, none, .mov (.slot 11)⟩]
def c_ref27_Has_L0 : ACode := (.seq (.seq (.region q39R2 false [0, 1, 5, 9]) (.cond (.slot 9) .skip (.exit 0))) (.seq (.block 1 (.seq (.region q39R4 false [0, 1, 5, 17]) (.cond (.slot 17) (.seq (.region q39R5 false [4]) .ret) .skip))) (.region q39R3 false [0, 1, 5])))
def lp_ref27_Has_0 : ACode := .loop [0, 1, 5] c_ref27_Has_L0
def q39R6 : List AOper := [⟨some 4, none, .mov (.const (.bool false))⟩]
def c_ref27_Has : AFn := ⟨(.seq (.region q39R0 false [0, 1]) (.seq (.seq (.region q39R1 false [0, 1, 5]) (.block 0 lp_ref27_Has_0)) (.seq (.region q39R6 false [4]) .ret))), [.slot 4]⟩
/- oriel/orielref27.May -/
def q41R0 : List AOper := [⟨some 1, none, .box 2 (.slot 0)⟩,
  ⟨some 2, none, .mov (.const (.bool false))⟩]
def q41R1 : List AOper := [⟨some 5, none, .faddr 0 (.slot 1)⟩,
  ⟨some 6, none, .load false 1 (.slot 5)⟩,
  ⟨some 7, none, .bin .eql (.slot 6) (.const (.int .i64 0))⟩]
def q41R2 : List AOper := [⟨some 8, none, .faddr 1 (.slot 1)⟩,
  ⟨some 9, none, .load false 1 (.slot 8)⟩,
  ⟨some 10, none, .len false (.slot 9)⟩,
  ⟨some 11, none, .bin .eql (.slot 10) (.const (.int .i64 0))⟩,
  ⟨some 2, none, .mov (.slot 11)⟩]
def q41R3 : List AOper := [⟨some 12, none, .load true 2 (.slot 1)⟩,
  ⟨some 13, none, .call .frz n_ref27_All [(.slot 12)]⟩,
  ⟨some 3, none, .mov (.slot 13)⟩]
def q41R4 : List AOper := [⟨some 4, none, .mov (.const (.int .i64 0))⟩]
def q41R5 : List AOper := [⟨some 14, none, .mov (.slot 4)⟩,
  ⟨some 15, none, .mov (.slot 3)⟩,
  ⟨some 16, none, .len false (.slot 15)⟩,
  ⟨some 17, none, .bin .lss (.slot 14) (.slot 16)⟩]
def q41R7 : List AOper := [⟨some 20, none, .mov (.slot 3)⟩,
  ⟨some 21, none, .mov (.slot 4)⟩,
  ⟨some 22, none, .idx 1 (.slot 20) (.slot 21)⟩,
  ⟨some 23, none, .load false 1 (.slot 22)⟩,
  ⟨some 24, none, .bin .lss (.slot 23) (.const (.int .i64 1))⟩,
  ⟨some 25, none, .mov (.slot 24)⟩,
  ⟨some 26, some (25, false), .mov (.slot 3)⟩,
  ⟨some 27, some (25, false), .mov (.slot 4)⟩,
  ⟨some 28, some (25, false), .idx 1 (.slot 26) (.slot 27)⟩,
  ⟨some 29, some (25, false), .load false 1 (.slot 28)⟩,
  ⟨some 30, some (25, false), .bin .gtr (.slot 29) (.const (.int .i64 8))⟩,
  ⟨some 31, none, .pick (.slot 25) (.const (.bool true)) (.slot 30)⟩,
  ⟨some 32, none, .mov (.slot 31)⟩,
  ⟨some 33, some (32, false), .mov (.slot 3)⟩,
  ⟨some 34, some (32, false), .mov (.slot 4)⟩,
  ⟨some 35, some (32, false), .sl 1 (.slot 33) none (some (.slot 34)) none⟩,
  ⟨some 36, some (32, false), .mov (.slot 3)⟩,
  ⟨some 37, some (32, false), .mov (.slot 4)⟩,
  ⟨some 38, some (32, false), .idx 1 (.slot 36) (.slot 37)⟩,
  ⟨some 39, some (32, false), .load false 1 (.slot 38)⟩,
  ⟨some 40, some (32, false), .call .frz n_ref27_Has [(.slot 35), (.slot 39)]⟩,
  ⟨some 41, none, .pick (.slot 32) (.const (.bool true)) (.slot 40)⟩]
def q41R8 : List AOper := [⟨some 2, none, .mov (.const (.bool false))⟩]
def q41R6 : List AOper := [⟨some 18, none, .mov (.slot 4)⟩,
  ⟨some 19, none, .bin .add (.slot 18) (.const (.int .i64 1))⟩,
  ⟨some 4, none, .mov (.slot 19)⟩]
def c_ref27_May_L0 : ACode := (.seq (.seq (.region q41R5 false [3, 4, 17]) (.cond (.slot 17) .skip (.exit 0))) (.seq (.block 1 (.seq (.region q41R7 true [3, 4, 41]) (.cond (.slot 41) (.seq (.region q41R8 false [2]) .ret) .skip))) (.region q41R6 false [3, 4])))
def lp_ref27_May_0 : ACode := .loop [3, 4] c_ref27_May_L0
def q41R9 : List AOper := [⟨some 2, none, .mov (.const (.bool true))⟩]
def c_ref27_May : AFn := ⟨(.seq (.region q41R0 false [1]) (.seq (.seq (.region q41R1 false [1, 7]) (.cond (.slot 7) (.seq (.region q41R2 false [2]) .ret) .skip)) (.seq (.region q41R3 false [3]) (.seq (.seq (.region q41R4 false [3, 4]) (.block 0 lp_ref27_May_0)) (.seq (.region q41R9 false [2]) .ret))))), [.slot 2]⟩
/- oriel/orielref27.Of -/
def q42R0 : List AOper := [⟨some 2, none, .alloc [.int .i64 0, .data false 1 [] true]⟩]
def q42R1 : List AOper := [⟨some 3, none, .mov (.slot 0)⟩,
  ⟨some 4, none, .len false (.slot 3)⟩,
  ⟨some 5, none, .bin .eql (.slot 4) (.const (.int .i64 0))⟩]
def q42R2 : List AOper := [⟨some 6, none, .build [.int .i64 0, .data false 1 [] true] []⟩,
  ⟨none, none, .store true 2 (.slot 2) (.slot 6)⟩]
def q42R3 : List AOper := [⟨some 7, none, .mov (.slot 0)⟩,
  ⟨some 8, none, .idx 1 (.slot 7) (.const (.int .i64 0))⟩,
  ⟨some 9, none, .load false 1 (.slot 8)⟩,
  ⟨some 10, none, .mov (.slot 0)⟩,
  ⟨some 11, none, .sl 1 (.slot 10) (some (.const (.int .i64 1))) none none⟩,
  ⟨some 12, none, .build [.int .i64 0, .data false 1 [] true] [(0, 1, (.slot 9)), (1, 1, (.slot 11))]⟩,
  ⟨none, none, .store true 2 (.slot 2) (.slot 12)⟩]
def c_ref27_Of : AFn := ⟨(.seq (.region q42R0 false [0, 2]) (.seq (.seq (.region q42R1 false [0, 2, 5]) (.cond (.slot 5) (.seq (.region q42R2 false [2]) .ret) .skip)) (.seq (.region q42R3 true [2]) .ret))), [.cell 2 true 2]⟩
/- oriel/orielref27.Keep -/
def q40R0 : List AOper := [⟨some 2, none, .box 2 (.slot 0)⟩,
  ⟨some 4, none, .alloc [.int .i64 0, .data false 1 [] true]⟩]
def q40R1 : List AOper := [⟨some 5, none, .mknil 1⟩]
def q40R2 : List AOper := [⟨some 8, none, .load true 2 (.slot 2)⟩,
  ⟨some 9, none, .call .frz n_ref27_All [(.slot 8)]⟩,
  ⟨some 6, none, .mov (.slot 9)⟩]
def q40R3 : List AOper := [⟨some 7, none, .mov (.const (.int .i64 0))⟩]
def q40R4 : List AOper := [⟨some 10, none, .mov (.slot 7)⟩,
  ⟨some 11, none, .mov (.slot 6)⟩,
  ⟨some 12, none, .len false (.slot 11)⟩,
  ⟨some 13, none, .bin .lss (.slot 10) (.slot 12)⟩]
def q40R6 : List AOper := [⟨some 16, none, .mov (.slot 1)⟩,
  ⟨some 17, none, .mov (.slot 6)⟩,
  ⟨some 18, none, .mov (.slot 7)⟩,
  ⟨some 19, none, .idx 1 (.slot 17) (.slot 18)⟩,
  ⟨some 20, none, .load false 1 (.slot 19)⟩,
  ⟨some 21, none, .call .frz n_ref27_Has [(.slot 16), (.slot 20)]⟩]
def q40R7 : List AOper := [⟨some 22, none, .mov (.slot 5)⟩,
  ⟨some 23, none, .mov (.slot 6)⟩,
  ⟨some 24, none, .mov (.slot 7)⟩,
  ⟨some 25, none, .idx 1 (.slot 23) (.slot 24)⟩,
  ⟨some 26, none, .load false 1 (.slot 25)⟩,
  ⟨some 27, none, .mkslice 1 1 [.int .i64 0] [(0, (.slot 26))]⟩,
  ⟨some 28, none, .append 1 8 (.slot 22) (.slot 27)⟩,
  ⟨some 5, none, .mov (.slot 28)⟩]
def q40R5 : List AOper := [⟨some 14, none, .mov (.slot 7)⟩,
  ⟨some 15, none, .bin .add (.slot 14) (.const (.int .i64 1))⟩,
  ⟨some 7, none, .mov (.slot 15)⟩]
def c_ref27_Keep_L0 : ACode := (.seq (.seq (.region q40R4 false [1, 4, 5, 6, 7, 13]) (.cond (.slot 13) .skip (.exit 0))) (.seq (.block 1 (.seq (.region q40R6 false [1, 4, 5, 6, 7, 21]) (.cond (.slot 21) (.region q40R7 false [1, 4, 5, 6, 7]) .skip))) (.region q40R5 false [1, 4, 5, 6, 7])))
def lp_ref27_Keep_0 : ACode := .loop [1, 4, 5, 6, 7] c_ref27_Keep_L0
def q40R8 : List AOper := [⟨some 29, none, .mov (.slot 5)⟩,
  ⟨some 30, none, .call .inl n_ref27_Of [(.slot 29)]⟩,
  ⟨none, none, .store true 2 (.slot 4) (.slot 30)⟩]
def c_ref27_Keep : AFn := ⟨(.seq (.region q40R0 false [1, 2, 4]) (.seq (.region q40R1 false [1, 2, 4, 5]) (.seq (.region q40R2 false [1, 4, 5, 6]) (.seq (.seq (.region q40R3 false [1, 4, 5, 6, 7]) (.block 0 lp_ref27_Keep_0)) (.seq (.region q40R8 false [4]) .ret))))), [.cell 4 true 2]⟩
/- oriel/orielref27.Ask -/
def q37R0 : List AOper := [⟨some 2, none, .box 2 (.slot 0)⟩,
  ⟨some 4, none, .alloc [.int .i64 0, .data false 1 [] true]⟩]
def q37R1 : List AOper := [⟨some 6, none, .load true 2 (.slot 2)⟩,
  ⟨some 7, none, .call .frz n_ref27_All [(.slot 6)]⟩,
  ⟨some 5, none, .mov (.slot 7)⟩]
def q37R2 : List AOper := [⟨some 8, none, .mov (.slot 5)⟩,
  ⟨some 9, none, .mov (.slot 1)⟩,
  ⟨some 10, none, .call .frz n_ref27_Has [(.slot 8), (.slot 9)]⟩]
def q37R3 : List AOper := [⟨some 11, none, .load true 2 (.slot 2)⟩,
  ⟨none, none, .store true 2 (.slot 4) (.slot 11)⟩]
def q37R4 : List AOper := [⟨some 12, none, .mkslice 1 0 [.int .i64 0] []⟩,
  ⟨some 13, none, .mov (.slot 5)⟩,
  ⟨some 14, none, .append 1 8 (.slot 12) (.slot 13)⟩,
  ⟨some 15, none, .mov (.slot 1)⟩,
  ⟨some 16, none, .mkslice 1 1 [.int .i64 0] [(0, (.slot 15))]⟩,
  ⟨some 17, none, .append 1 8 (.slot 14) (.slot 16)⟩,
  ⟨some 18, none, .call .inl n_ref27_Of [(.slot 17)]⟩,
  ⟨none, none, .store true 2 (.slot 4) (.slot 18)⟩]
def c_ref27_Ask : AFn := ⟨(.seq (.region q37R0 false [1, 2, 4]) (.seq (.region q37R1 false [1, 2, 4, 5]) (.seq (.seq (.region q37R2 false [1, 2, 4, 5, 10]) (.cond (.slot 10) (.seq (.region q37R3 false [4]) .ret) .skip)) (.seq (.region q37R4 false [4]) .ret)))), [.cell 4 true 2]⟩
/- oriel/orielref27.Free -/
def q38R0 : List AOper := [⟨some 2, none, .box 2 (.slot 0)⟩,
  ⟨some 4, none, .alloc [.int .i64 0, .data false 1 [] true]⟩]
def q38R1 : List AOper := [⟨some 5, none, .mknil 1⟩]
def q38R2 : List AOper := [⟨some 8, none, .load true 2 (.slot 2)⟩,
  ⟨some 9, none, .call .frz n_ref27_All [(.slot 8)]⟩,
  ⟨some 6, none, .mov (.slot 9)⟩]
def q38R3 : List AOper := [⟨some 7, none, .mov (.const (.int .i64 0))⟩]
def q38R4 : List AOper := [⟨some 10, none, .mov (.slot 7)⟩,
  ⟨some 11, none, .mov (.slot 6)⟩,
  ⟨some 12, none, .len false (.slot 11)⟩,
  ⟨some 13, none, .bin .lss (.slot 10) (.slot 12)⟩]
def q38R6 : List AOper := [⟨some 16, none, .mov (.slot 6)⟩,
  ⟨some 17, none, .mov (.slot 7)⟩,
  ⟨some 18, none, .idx 1 (.slot 16) (.slot 17)⟩,
  ⟨some 19, none, .load false 1 (.slot 18)⟩,
  ⟨some 20, none, .mov (.slot 1)⟩,
  ⟨some 21, none, .bin .neq (.slot 19) (.slot 20)⟩]
def q38R7 : List AOper := [⟨some 22, none, .mov (.slot 5)⟩,
  ⟨some 23, none, .mov (.slot 6)⟩,
  ⟨some 24, none, .mov (.slot 7)⟩,
  ⟨some 25, none, .idx 1 (.slot 23) (.slot 24)⟩,
  ⟨some 26, none, .load false 1 (.slot 25)⟩,
  ⟨some 27, none, .mkslice 1 1 [.int .i64 0] [(0, (.slot 26))]⟩,
  ⟨some 28, none, .append 1 8 (.slot 22) (.slot 27)⟩,
  ⟨some 5, none, .mov (.slot 28)⟩]
def q38R5 : List AOper := [⟨some 14, none, .mov (.slot 7)⟩,
  ⟨some 15, none, .bin .add (.slot 14) (.const (.int .i64 1))⟩,
  ⟨some 7, none, .mov (.slot 15)⟩]
def c_ref27_Free_L0 : ACode := (.seq (.seq (.region q38R4 false [1, 4, 5, 6, 7, 13]) (.cond (.slot 13) .skip (.exit 0))) (.seq (.block 1 (.seq (.region q38R6 false [1, 4, 5, 6, 7, 21]) (.cond (.slot 21) (.region q38R7 false [1, 4, 5, 6, 7]) .skip))) (.region q38R5 false [1, 4, 5, 6, 7])))
def lp_ref27_Free_0 : ACode := .loop [1, 4, 5, 6, 7] c_ref27_Free_L0
def q38R8 : List AOper := [⟨some 29, none, .mov (.slot 5)⟩,
  ⟨some 30, none, .call .inl n_ref27_Of [(.slot 29)]⟩,
  ⟨none, none, .store true 2 (.slot 4) (.slot 30)⟩]
def c_ref27_Free : AFn := ⟨(.seq (.region q38R0 false [1, 2, 4]) (.seq (.region q38R1 false [1, 2, 4, 5]) (.seq (.region q38R2 false [1, 4, 5, 6]) (.seq (.seq (.region q38R3 false [1, 4, 5, 6, 7]) (.block 0 lp_ref27_Free_0)) (.seq (.region q38R8 false [4]) .ret))))), [.cell 4 true 2]⟩
/- oriel/oriellaw27.TokenEdits -/
def q6R0 : List AOper := [⟨some 3, none, .box 2 (.slot 0)⟩,
  ⟨some 6, none, .mov (.const (.bool false))⟩]
def q6R1 : List AOper := [⟨some 18, none, .call .frz n_law27_known []⟩,
  ⟨some 19, none, .not (.slot 18)⟩]
def q6R2 : List AOper := [⟨some 6, none, .mov (.const (.bool false))⟩]
def q6R3 : List AOper := [⟨some 20, none, .faddr 1 (.slot 3)⟩,
  ⟨some 21, none, .load false 1 (.slot 20)⟩,
  ⟨some 22, none, .len false (.slot 21)⟩,
  ⟨some 23, none, .bin .gtr (.slot 22) (.const (.int .i64 100))⟩,
  ⟨some 24, none, .mov (.slot 23)⟩,
  ⟨some 25, some (24, false), .mov (.slot 2)⟩,
  ⟨some 26, some (24, false), .len false (.slot 25)⟩,
  ⟨some 27, some (24, false), .bin .gtr (.slot 26) (.const (.int .i64 100))⟩,
  ⟨some 28, none, .pick (.slot 24) (.const (.bool true)) (.slot 27)⟩]
def q6R4 : List AOper := [⟨some 6, none, .mov (.const (.bool true))⟩]
def q6R5 : List AOper := [⟨some 29, none, .faddr 0 (.slot 3)⟩,
  ⟨some 30, none, .load false 1 (.slot 29)⟩,
  ⟨some 31, none, .mkslice 1 0 [.int .i64 0] []⟩,
  ⟨some 32, none, .faddr 1 (.slot 3)⟩,
  ⟨some 33, none, .load false 1 (.slot 32)⟩,
  ⟨some 35, none, .mkslice 1 1 [.int .i64 0] [(0, (.const (.int .i64 77)))]⟩,
  ⟨some 37, none, .faddr 1 (.slot 3)⟩,
  ⟨some 38, none, .load false 1 (.slot 37)⟩,
  ⟨some 39, none, .len false (.slot 38)⟩,
  ⟨some 7, none, .alloc [.int .i64 0, .data false 1 [] true]⟩,
  ⟨some 34, none, .append 1 8 (.slot 31) (.slot 33)⟩,
  ⟨some 36, none, .append 1 8 (.slot 34) (.slot 35)⟩,
  ⟨some 40, none, .sl 1 (.slot 36) none (some (.slot 39)) none⟩,
  ⟨some 41, none, .build [.int .i64 0, .data false 1 [] true] [(0, 1, (.slot 30)), (1, 1, (.slot 40))]⟩,
  ⟨none, none, .store true 2 (.slot 7) (.slot 41)⟩]
def q6R6 : List AOper := [⟨some 43, none, .load true 2 (.slot 7)⟩,
  ⟨some 44, none, .mov (.slot 1)⟩,
  ⟨some 45, none, .call .frz n_token_Ask [(.slot 43), (.slot 44)]⟩,
  ⟨some 42, none, .mov (.slot 45)⟩,
  ⟨some 46, none, .extract 0 (.slot 42)⟩,
  ⟨some 47, none, .extract 1 (.slot 42)⟩,
  ⟨some 8, none, .alloc [.int .i64 0, .data false 1 [] true]⟩,
  ⟨none, none, .store true 2 (.slot 8) (.slot 46)⟩,
  ⟨some 9, none, .mov (.slot 47)⟩]
def q6R7 : List AOper := [⟨some 49, none, .load true 2 (.slot 7)⟩,
  ⟨some 50, none, .mov (.slot 1)⟩,
  ⟨some 51, none, .call .frz n_token_Free [(.slot 49), (.slot 50)]⟩,
  ⟨some 48, none, .mov (.slot 51)⟩,
  ⟨some 52, none, .extract 0 (.slot 48)⟩,
  ⟨some 53, none, .extract 1 (.slot 48)⟩,
  ⟨some 10, none, .alloc [.int .i64 0, .data false 1 [] true]⟩,
  ⟨none, none, .store true 2 (.slot 10) (.slot 52)⟩,
  ⟨some 11, none, .mov (.slot 53)⟩]
def q6R8 : List AOper := [⟨some 55, none, .load true 2 (.slot 7)⟩,
  ⟨some 56, none, .mov (.slot 2)⟩,
  ⟨some 57, none, .call .frz n_token_Keep [(.slot 55), (.slot 56)]⟩,
  ⟨some 54, none, .mov (.slot 57)⟩,
  ⟨some 58, none, .extract 0 (.slot 54)⟩,
  ⟨some 59, none, .extract 1 (.slot 54)⟩,
  ⟨some 12, none, .alloc [.int .i64 0, .data false 1 [] true]⟩,
  ⟨none, none, .store true 2 (.slot 12) (.slot 58)⟩,
  ⟨some 13, none, .mov (.slot 59)⟩]
def q6R9 : List AOper := [⟨some 60, none, .load true 2 (.slot 7)⟩,
  ⟨some 61, none, .mov (.slot 1)⟩,
  ⟨some 62, none, .call .frz n_token_Place [(.slot 60), (.slot 61)]⟩,
  ⟨some 14, none, .mov (.slot 62)⟩]
def q6R10 : List AOper := [⟨some 63, none, .load true 2 (.slot 7)⟩,
  ⟨some 64, none, .load true 2 (.slot 3)⟩,
  ⟨some 65, none, .call .frz n_ref27_Same [(.slot 63), (.slot 64)]⟩,
  ⟨some 66, none, .not (.slot 65)⟩,
  ⟨some 67, none, .mov (.slot 66)⟩,
  ⟨some 68, some (67, false), .faddr 1 (.slot 7)⟩,
  ⟨some 69, some (67, false), .load false 1 (.slot 68)⟩,
  ⟨some 70, some (67, false), .faddr 1 (.slot 3)⟩,
  ⟨some 71, some (67, false), .load false 1 (.slot 70)⟩,
  ⟨some 72, some (67, false), .len false (.slot 71)⟩,
  ⟨some 73, some (67, false), .bin .add (.slot 72) (.const (.int .i64 1))⟩,
  ⟨some 74, some (67, false), .sl 1 (.slot 69) none (some (.slot 73)) none⟩,
  ⟨some 75, some (67, false), .faddr 1 (.slot 3)⟩,
  ⟨some 76, some (67, false), .load false 1 (.slot 75)⟩,
  ⟨some 77, some (67, false), .len false (.slot 76)⟩,
  ⟨some 78, some (67, false), .idx 1 (.slot 74) (.slot 77)⟩,
  ⟨some 79, some (67, false), .load false 1 (.slot 78)⟩,
  ⟨some 80, some (67, false), .bin .neq (.slot 79) (.const (.int .i64 77))⟩,
  ⟨some 81, none, .pick (.slot 67) (.const (.bool true)) (.slot 80)⟩,
  ⟨some 82, none, .mov (.slot 81)⟩,
  ⟨some 83, some (82, false), .load true 2 (.slot 3)⟩,
  ⟨some 84, some (82, false), .call .frz n_token_May [(.slot 83)]⟩,
  ⟨some 85, some (82, false), .load true 2 (.slot 3)⟩,
  ⟨some 86, some (82, false), .call .frz n_ref27_May [(.slot 85)]⟩,
  ⟨some 87, some (82, false), .eq false [.kb] true (.slot 84) (.slot 86)⟩,
  ⟨some 88, none, .pick (.slot 82) (.const (.bool true)) (.slot 87)⟩]
def q6R11 : List AOper := [⟨some 6, none, .mov (.const (.bool false))⟩]
def q6R12 : List AOper := [⟨some 89, none, .load true 2 (.slot 3)⟩,
  ⟨some 90, none, .call .frz n_ref27_May [(.slot 89)]⟩,
  ⟨some 91, none, .not (.slot 90)⟩]
def q6R13 : List AOper := ⟨some 92, none, .mov (.slot 9)⟩ ::
  ⟨some 93, none, .bin .eql (.slot 92) (.const (.int .i64 2))⟩ ::
  ⟨some 94, none, .mov (.slot 93)⟩ ::
  ⟨some 95, some (94, true), .mov (.slot 11)⟩ ::
  ⟨some 96, some (94, true), .bin .eql (.slot 95) (.const (.int .i64 2))⟩ ::
  ⟨some 97, none, .pick (.slot 94) (.slot 96) (.const (.bool false))⟩ ::
  ⟨some 98, none, .mov (.slot 97)⟩ ::
  ⟨some 99, some (98, true), .mov (.slot 13)⟩ ::
  ⟨some 100, some (98, true), .bin .eql (.slot 99) (.const (.int .i64 2))⟩ ::
  ⟨some 101, none, .pick (.slot 98) (.slot 100) (.const (.bool false))⟩ ::
  ⟨some 102, none, .mov (.slot 101)⟩ ::
  ⟨some 103, some (102, true), .load true 2 (.slot 8)⟩ ::
  ⟨some 104, some (102, true), .build [.int .i64 0, .data false 1 [] true] []⟩ ::
  ⟨some 105, some (102, true), .call .frz n_ref27_Same [(.slot 103), (.slot 104)]⟩ ::
  ⟨some 106, none, .pick (.slot 102) (.slot 105) (.const (.bool false))⟩ ::
  ⟨some 107, none, .mov (.slot 106)⟩ ::
  ⟨some 108, some (107, true), .load true 2 (.slot 10)⟩ ::
  ⟨some 109, some (107, true), .load true 2 (.slot 8)⟩ ::
  ⟨some 110, some (107, true), .call .frz n_ref27_Same [(.slot 108), (.slot 109)]⟩ ::
  ⟨some 111, none, .pick (.slot 107) (.slot 110) (.const (.bool false))⟩ ::
  ⟨some 112, none, .mov (.slot 111)⟩ ::
  ⟨some 113, some (112, true), .load true 2 (.slot 12)⟩ ::
  ⟨some 114, some (112, true), .load true 2 (.slot 8)⟩ ::
  ⟨some 115, some (112, true), .call .frz n_ref27_Same [(.slot 113), (.slot 114)]⟩ ::
  ⟨some 116, none, .pick (.slot 112) (.slot 115) (.const (.bool false))⟩ ::
  ⟨some 117, none, .mov (.slot 116)⟩ ::
  ⟨some 118, some (117, true), .mov (.slot 14)⟩ ::
  ⟨some 119, some (117, true), .bin .eql (.slot 118) (.const (.int .i64 (-1)))⟩ ::
  ⟨some 120, none, .pick (.slot 117) (.slot 119) (.const (.bool false))⟩ ::
  ⟨some 6, none, .mov (.slot 120)⟩ :: []
def q6R14 : List AOper := [⟨some 121, none, .mov (.slot 13)⟩,
  ⟨some 122, none, .bin .neq (.slot 121) (.const (.int .i64 0))⟩,
  ⟨some 123, none, .mov (.slot 122)⟩,
  ⟨some 124, some (123, false), .load true 2 (.slot 12)⟩,
  ⟨some 125, some (123, false), .load true 2 (.slot 3)⟩,
  ⟨some 126, some (123, false), .mov (.slot 2)⟩,
  ⟨some 127, some (123, false), .call .frz n_ref27_Keep [(.slot 125), (.slot 126)]⟩,
  ⟨some 128, some (123, false), .call .frz n_ref27_Same [(.slot 124), (.slot 127)]⟩,
  ⟨some 129, some (123, false), .not (.slot 128)⟩,
  ⟨some 130, none, .pick (.slot 123) (.const (.bool true)) (.slot 129)⟩]
def q6R15 : List AOper := [⟨some 6, none, .mov (.const (.bool false))⟩]
def q6R16 : List AOper := [⟨some 131, none, .mov (.slot 1)⟩,
  ⟨some 132, none, .bin .lss (.slot 131) (.const (.int .i64 1))⟩,
  ⟨some 133, none, .mov (.slot 132)⟩,
  ⟨some 134, some (133, false), .mov (.slot 1)⟩,
  ⟨some 135, some (133, false), .bin .gtr (.slot 134) (.const (.int .i64 8))⟩,
  ⟨some 136, none, .pick (.slot 133) (.const (.bool true)) (.slot 135)⟩]
def q6R17 : List AOper := [⟨some 137, none, .mov (.slot 9)⟩,
  ⟨some 138, none, .bin .eql (.slot 137) (.const (.int .i64 2))⟩,
  ⟨some 139, none, .mov (.slot 138)⟩,
  ⟨some 140, some (139, true), .mov (.slot 11)⟩,
  ⟨some 141, some (139, true), .bin .eql (.slot 140) (.const (.int .i64 2))⟩,
  ⟨some 142, none, .pick (.slot 139) (.slot 141) (.const (.bool false))⟩,
  ⟨some 143, none, .mov (.slot 142)⟩,
  ⟨some 144, some (143, true), .load true 2 (.slot 8)⟩,
  ⟨some 145, some (143, true), .build [.int .i64 0, .data false 1 [] true] []⟩,
  ⟨some 146, some (143, true), .call .frz n_ref27_Same [(.slot 144), (.slot 145)]⟩,
  ⟨some 147, none, .pick (.slot 143) (.slot 146) (.const (.bool false))⟩,
  ⟨some 148, none, .mov (.slot 147)⟩,
  ⟨some 149, some (148, true), .load true 2 (.slot 10)⟩,
  ⟨some 150, some (148, true), .load true 2 (.slot 8)⟩,
  ⟨some 151, some (148, true), .call .frz n_ref27_Same [(.slot 149), (.slot 150)]⟩,
  ⟨some 152, none, .pick (.slot 148) (.slot 151) (.const (.bool false))⟩,
  ⟨some 153, none, .mov (.slot 152)⟩,
  ⟨some 154, some (153, true), .mov (.slot 14)⟩,
  ⟨some 155, some (153, true), .bin .eql (.slot 154) (.const (.int .i64 (-1)))⟩,
  ⟨some 156, none, .pick (.slot 153) (.slot 155) (.const (.bool false))⟩,
  ⟨some 6, none, .mov (.slot 156)⟩]
def q6R18 : List AOper := [⟨some 157, none, .load true 2 (.slot 3)⟩,
  ⟨some 158, none, .call .frz n_ref27_All [(.slot 157)]⟩,
  ⟨some 15, none, .mov (.slot 158)⟩]
def q6R19 : List AOper := [⟨some 16, none, .mov (.const (.int .i64 (-1)))⟩]
def q6R20 : List AOper := [⟨some 17, none, .mov (.const (.int .i64 0))⟩]
def q6R21 : List AOper := [⟨some 159, none, .mov (.slot 17)⟩,
  ⟨some 160, none, .mov (.slot 15)⟩,
  ⟨some 161, none, .len false (.slot 160)⟩,
  ⟨some 162, none, .bin .lss (.slot 159) (.slot 161)⟩]
def q6R23 : List AOper := [⟨some 165, none, .mov (.slot 15)⟩,
  ⟨some 166, none, .mov (.slot 17)⟩,
  ⟨some 167, none, .idx 1 (.slot 165) (.slot 166)⟩,
  ⟨some 168, none, .load false 1 (.slot 167)⟩,
  ⟨some 169, none, .mov (.slot 1)⟩,
  ⟨some 170, none, .bin .eql (.slot 168) (.slot 169)⟩]
def q6R24 : List AOper := [⟨some 171, none, .mov (.slot 17)⟩,
  ⟨some 16, none, .mov (.slot 171)⟩]
def q6R22 : List AOper := [⟨some 163, none, .mov (.slot 17)⟩,
  ⟨some 164, none, .bin .add (.slot 163) (.const (.int .i64 1))⟩,
  ⟨some 17, none, .mov (.slot 164)⟩]
def c_law27_TokenEdits_L0 : ACode := (.seq (.seq (.region q6R21 false [1, 3, 8, 9, 10, 11, 14, 15, 16, 17, 162]) (.cond (.slot 162) .skip (.exit 0))) (.seq (.block 1 (.seq (.region q6R23 false [1, 3, 8, 9, 10, 11, 14, 15, 16, 17, 170]) (.cond (.slot 170) (.region q6R24 false [1, 3, 8, 9, 10, 11, 14, 15, 16, 17]) .skip))) (.region q6R22 false [1, 3, 8, 9, 10, 11, 14, 15, 16, 17])))
def lp_law27_TokenEdits_0 : ACode := .loop [1, 3, 8, 9, 10, 11, 14, 15, 16, 17] c_law27_TokenEdits_L0
def q6R25 : List AOper := [⟨some 172, none, .mov (.slot 9)⟩,
  ⟨some 173, none, .bin .eql (.slot 172) (.const (.int .i64 0))⟩,
  ⟨some 174, none, .mov (.slot 173)⟩,
  ⟨some 175, some (174, true), .mov (.slot 11)⟩,
  ⟨some 176, some (174, true), .bin .eql (.slot 175) (.const (.int .i64 0))⟩,
  ⟨some 177, none, .pick (.slot 174) (.slot 176) (.const (.bool false))⟩,
  ⟨some 178, none, .mov (.slot 177)⟩,
  ⟨some 179, some (178, true), .load true 2 (.slot 8)⟩,
  ⟨some 180, some (178, true), .load true 2 (.slot 3)⟩,
  ⟨some 181, some (178, true), .mov (.slot 1)⟩,
  ⟨some 182, some (178, true), .call .frz n_ref27_Ask [(.slot 180), (.slot 181)]⟩,
  ⟨some 183, some (178, true), .call .frz n_ref27_Same [(.slot 179), (.slot 182)]⟩,
  ⟨some 184, none, .pick (.slot 178) (.slot 183) (.const (.bool false))⟩,
  ⟨some 185, none, .mov (.slot 184)⟩,
  ⟨some 186, some (185, true), .load true 2 (.slot 10)⟩,
  ⟨some 187, some (185, true), .load true 2 (.slot 3)⟩,
  ⟨some 188, some (185, true), .mov (.slot 1)⟩,
  ⟨some 189, some (185, true), .call .frz n_ref27_Free [(.slot 187), (.slot 188)]⟩,
  ⟨some 190, some (185, true), .call .frz n_ref27_Same [(.slot 186), (.slot 189)]⟩,
  ⟨some 191, none, .pick (.slot 185) (.slot 190) (.const (.bool false))⟩,
  ⟨some 192, none, .mov (.slot 191)⟩,
  ⟨some 193, some (192, true), .mov (.slot 14)⟩,
  ⟨some 194, some (192, true), .mov (.slot 16)⟩,
  ⟨some 195, some (192, true), .bin .eql (.slot 193) (.slot 194)⟩,
  ⟨some 196, none, .pick (.slot 192) (.slot 195) (.const (.bool false))⟩,
  ⟨some 6, none, .mov (.slot 196)⟩]
def c_law27_TokenEdits : AFn := ⟨(.seq (.region q6R0 false [1, 2, 3]) (.seq (.seq (.region q6R1 false [1, 2, 3, 19]) (.cond (.slot 19) (.seq (.region q6R2 false [6]) .ret) .skip)) (.seq (.seq (.region q6R3 false [1, 2, 3, 28]) (.cond (.slot 28) (.seq (.region q6R4 false [6]) .ret) .skip)) (.seq (.regionQ q6R5 [0, 1, 2, 3, 4, 6, 8, 9, 10, 13, 5, 7, 11, 12, 14] [(1, [10, 11, 14]), (5, [10, 11]), (7, [10, 11, 14]), (9, [10, 11, 14])] [1, 2, 3, 7]) (.seq (.region q6R6 false [1, 2, 3, 7, 8, 9]) (.seq (.region q6R7 false [1, 2, 3, 7, 8, 9, 10, 11]) (.seq (.region q6R8 false [1, 2, 3, 7, 8, 9, 10, 11, 12, 13]) (.seq (.region q6R9 false [1, 2, 3, 7, 8, 9, 10, 11, 12, 13, 14]) (.seq (.seq (.region q6R10 true [1, 2, 3, 8, 9, 10, 11, 12, 13, 14, 88]) (.cond (.slot 88) (.seq (.region q6R11 false [6]) .ret) .skip)) (.seq (.seq (.region q6R12 false [1, 2, 3, 8, 9, 10, 11, 12, 13, 14, 91]) (.cond (.slot 91) (.seq (.region q6R13 false [6]) .ret) .skip)) (.seq (.seq (.region q6R14 true [1, 3, 8, 9, 10, 11, 14, 130]) (.cond (.slot 130) (.seq (.region q6R15 false [6]) .ret) .skip)) (.seq (.seq (.region q6R16 false [1, 3, 8, 9, 10, 11, 14, 136]) (.cond (.slot 136) (.seq (.region q6R17 false [6]) .ret) .skip)) (.seq (.region q6R18 false [1, 3, 8, 9, 10, 11, 14, 15]) (.seq (.region q6R19 false [1, 3, 8, 9, 10, 11, 14, 15, 16]) (.seq (.seq (.region q6R20 false [1, 3, 8, 9, 10, 11, 14, 15, 16, 17]) (.block 0 lp_law27_TokenEdits_0)) (.seq (.region q6R25 true [6]) .ret)))))))))))))))), [.slot 6]⟩
/-- The seat's functions. -/
def FT : Nat → Option AEnt
  | 61 => some (.fn c_token_number)
  | 35 => some (.fn c_token_May)
  | 70 => some (.fn c_slices_Index_int)
  | 33 => some (.fn c_token_Place)
  | 85 => some (.ext (extClone 1))
  | 86 => some (.fn c_token_arbiter_on)
  | 62 => some (.fn c_token_change)
  | 65 => some (.fn c_slices_Delete_int)
  | 64 => some (.fn c_token_Free_1)
  | 31 => some (.fn c_token_Free)
  | 67 => some (.fn c_slices_Contains_int)
  | 66 => some (.fn c_token_Keep_1)
  | 87 => some (.fn c_slices_IndexFunc_int)
  | 69 => some (.fn c_slices_DeleteFunc_int)
  | 68 => some (.fn c_token_Keep_2)
  | 32 => some (.fn c_token_Keep)
  | 34 => some (.fn c_ref27_Same)
  | 63 => some (.fn c_token_Ask_1)
  | 30 => some (.fn c_token_Ask)
  | 60 => some (.fn c_law27_asked)
  | 29 => some (.fn c_law27_known)
  | 38 => some (.fn c_ref27_All)
  | 71 => some (.fn c_ref27_Has)
  | 36 => some (.fn c_ref27_May)
  | 72 => some (.fn c_ref27_Of)
  | 37 => some (.fn c_ref27_Keep)
  | 39 => some (.fn c_ref27_Ask)
  | 40 => some (.fn c_ref27_Free)
  | 7 => some (.fn c_law27_TokenEdits)
  | _ => none
variable (G : Nat → Option (List AV)) (args : List AV) (h : List ARow)
theorem run_token_number : aR G FT n_token_number args h = (aE G FT h.length c_token_number.body ⟨aenter args, h⟩).bind (afinish c_token_number.res) := y_fn G FT rfl args h
theorem run_token_May : aR G FT n_token_May args h = (aE G FT h.length c_token_May.body ⟨aenter args, h⟩).bind (afinish c_token_May.res) := y_fn G FT rfl args h
theorem run_slices_Index_int : aR G FT n_slices_Index_int args h = (aE G FT h.length c_slices_Index_int.body ⟨aenter args, h⟩).bind (afinish c_slices_Index_int.res) := y_fn G FT rfl args h
theorem run_token_Place : aR G FT n_token_Place args h = (aE G FT h.length c_token_Place.body ⟨aenter args, h⟩).bind (afinish c_token_Place.res) := y_fn G FT rfl args h
theorem run_token_arbiter_on : aR G FT n_token_arbiter_on args h = (aE G FT h.length c_token_arbiter_on.body ⟨aenter args, h⟩).bind (afinish c_token_arbiter_on.res) := y_fn G FT rfl args h
theorem run_token_change : aR G FT n_token_change args h = (aE G FT h.length c_token_change.body ⟨aenter args, h⟩).bind (afinish c_token_change.res) := y_fn G FT rfl args h
theorem run_slices_Delete_int : aR G FT n_slices_Delete_int args h = (aE G FT h.length c_slices_Delete_int.body ⟨aenter args, h⟩).bind (afinish c_slices_Delete_int.res) := y_fn G FT rfl args h
theorem run_token_Free_1 : aR G FT n_token_Free_1 args h = (aE G FT h.length c_token_Free_1.body ⟨aenter args, h⟩).bind (afinish c_token_Free_1.res) := y_fn G FT rfl args h
theorem run_token_Free : aR G FT n_token_Free args h = (aE G FT h.length c_token_Free.body ⟨aenter args, h⟩).bind (afinish c_token_Free.res) := y_fn G FT rfl args h
theorem run_slices_Contains_int : aR G FT n_slices_Contains_int args h = (aE G FT h.length c_slices_Contains_int.body ⟨aenter args, h⟩).bind (afinish c_slices_Contains_int.res) := y_fn G FT rfl args h
theorem run_token_Keep_1 : aR G FT n_token_Keep_1 args h = (aE G FT h.length c_token_Keep_1.body ⟨aenter args, h⟩).bind (afinish c_token_Keep_1.res) := y_fn G FT rfl args h
theorem run_slices_IndexFunc_int : aR G FT n_slices_IndexFunc_int args h = (aE G FT h.length c_slices_IndexFunc_int.body ⟨aenter args, h⟩).bind (afinish c_slices_IndexFunc_int.res) := y_fn G FT rfl args h
theorem run_slices_DeleteFunc_int : aR G FT n_slices_DeleteFunc_int args h = (aE G FT h.length c_slices_DeleteFunc_int.body ⟨aenter args, h⟩).bind (afinish c_slices_DeleteFunc_int.res) := y_fn G FT rfl args h
theorem run_token_Keep_2 : aR G FT n_token_Keep_2 args h = (aE G FT h.length c_token_Keep_2.body ⟨aenter args, h⟩).bind (afinish c_token_Keep_2.res) := y_fn G FT rfl args h
theorem run_token_Keep : aR G FT n_token_Keep args h = (aE G FT h.length c_token_Keep.body ⟨aenter args, h⟩).bind (afinish c_token_Keep.res) := y_fn G FT rfl args h
theorem run_ref27_Same : aR G FT n_ref27_Same args h = (aE G FT h.length c_ref27_Same.body ⟨aenter args, h⟩).bind (afinish c_ref27_Same.res) := y_fn G FT rfl args h
theorem run_token_Ask_1 : aR G FT n_token_Ask_1 args h = (aE G FT h.length c_token_Ask_1.body ⟨aenter args, h⟩).bind (afinish c_token_Ask_1.res) := y_fn G FT rfl args h
theorem run_token_Ask : aR G FT n_token_Ask args h = (aE G FT h.length c_token_Ask.body ⟨aenter args, h⟩).bind (afinish c_token_Ask.res) := y_fn G FT rfl args h
theorem run_ref27_All : aR G FT n_ref27_All args h = (aE G FT h.length c_ref27_All.body ⟨aenter args, h⟩).bind (afinish c_ref27_All.res) := y_fn G FT rfl args h
theorem run_ref27_Has : aR G FT n_ref27_Has args h = (aE G FT h.length c_ref27_Has.body ⟨aenter args, h⟩).bind (afinish c_ref27_Has.res) := y_fn G FT rfl args h
theorem run_ref27_May : aR G FT n_ref27_May args h = (aE G FT h.length c_ref27_May.body ⟨aenter args, h⟩).bind (afinish c_ref27_May.res) := y_fn G FT rfl args h
theorem run_ref27_Of : aR G FT n_ref27_Of args h = (aE G FT h.length c_ref27_Of.body ⟨aenter args, h⟩).bind (afinish c_ref27_Of.res) := y_fn G FT rfl args h
theorem run_ref27_Keep : aR G FT n_ref27_Keep args h = (aE G FT h.length c_ref27_Keep.body ⟨aenter args, h⟩).bind (afinish c_ref27_Keep.res) := y_fn G FT rfl args h
theorem run_ref27_Ask : aR G FT n_ref27_Ask args h = (aE G FT h.length c_ref27_Ask.body ⟨aenter args, h⟩).bind (afinish c_ref27_Ask.res) := y_fn G FT rfl args h
theorem run_ref27_Free : aR G FT n_ref27_Free args h = (aE G FT h.length c_ref27_Free.body ⟨aenter args, h⟩).bind (afinish c_ref27_Free.res) := y_fn G FT rfl args h
theorem run_law27_TokenEdits : aR G FT n_law27_TokenEdits args h = (aE G FT h.length c_law27_TokenEdits.body ⟨aenter args, h⟩).bind (afinish c_law27_TokenEdits.res) := y_fn G FT rfl args h
end Go.Proofs.Ytfnonledcniojaa
