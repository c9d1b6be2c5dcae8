/- The small machine's code of the seat's functions. Conditions: none. -/
import Derived.Test.YtfnonledcniojaaM3
set_option linter.unusedVariables false
set_option linter.unusedSimpArgs false
set_option linter.unusedSectionVars false
namespace Go.Proofs.Ytfnonledcniojaa
open Go

def n_bytes_Clone : Nat := 83
def n_law28_MergeOrder : Nat := 5
def n_law28_known : Nat := 14
def n_merge_Drop : Nat := 19
def n_merge_Drop_1 : Nat := 58
def n_merge_May : Nat := 20
def n_merge_Pop : Nat := 18
def n_merge_Push : Nat := 17
def n_merge_Size : Nat := 23
def n_merge_copied : Nat := 55
def n_merge_piece : Nat := 56
def n_slices_DeleteFunc_Typed : Nat := 57
def n_slices_IndexFunc_Typed : Nat := 84
/- oriel/merge.piece -/
def q27R0 : List AOper := [⟨some 1, none, .box 3 (.slot 0)⟩,
  ⟨some 2, none, .mov (.const (.bool false))⟩]
def q27R1 : List AOper := ⟨some 3, none, .faddr 0 (.slot 1)⟩ ::
  ⟨some 4, none, .load false 1 (.slot 3)⟩ ::
  ⟨some 5, none, .bin .geq (.slot 4) (.const (.int .i64 1))⟩ ::
  ⟨some 6, none, .mov (.slot 5)⟩ ::
  ⟨some 7, some (6, true), .faddr 0 (.slot 1)⟩ ::
  ⟨some 8, some (6, true), .load false 1 (.slot 7)⟩ ::
  ⟨some 9, some (6, true), .bin .leq (.slot 8) (.const (.int .i64 8))⟩ ::
  ⟨some 10, none, .pick (.slot 6) (.slot 9) (.const (.bool false))⟩ ::
  ⟨some 11, none, .mov (.slot 10)⟩ ::
  ⟨some 12, some (11, true), .faddr 1 (.slot 1)⟩ ::
  ⟨some 13, some (11, true), .load false 1 (.slot 12)⟩ ::
  ⟨some 14, some (11, true), .bin .geq (.slot 13) (.const (.int .i64 1))⟩ ::
  ⟨some 15, none, .pick (.slot 11) (.slot 14) (.const (.bool false))⟩ ::
  ⟨some 16, none, .mov (.slot 15)⟩ ::
  ⟨some 17, some (16, true), .faddr 1 (.slot 1)⟩ ::
  ⟨some 18, some (16, true), .load false 1 (.slot 17)⟩ ::
  ⟨some 19, some (16, true), .bin .leq (.slot 18) (.const (.int .i64 1073741824))⟩ ::
  ⟨some 20, none, .pick (.slot 16) (.slot 19) (.const (.bool false))⟩ ::
  ⟨some 21, none, .mov (.slot 20)⟩ ::
  ⟨some 22, some (21, true), .faddr 2 (.slot 1)⟩ ::
  ⟨some 23, some (21, true), .load false 1 (.slot 22)⟩ ::
  ⟨some 24, some (21, true), .len false (.slot 23)⟩ ::
  ⟨some 25, some (21, true), .bin .geq (.slot 24) (.const (.int .i64 1))⟩ ::
  ⟨some 26, none, .pick (.slot 21) (.slot 25) (.const (.bool false))⟩ ::
  ⟨some 27, none, .mov (.slot 26)⟩ ::
  ⟨some 28, some (27, true), .faddr 2 (.slot 1)⟩ ::
  ⟨some 29, some (27, true), .load false 1 (.slot 28)⟩ ::
  ⟨some 30, some (27, true), .len false (.slot 29)⟩ ::
  ⟨some 31, some (27, true), .bin .leq (.slot 30) (.const (.int .i64 16))⟩ ::
  ⟨some 32, none, .pick (.slot 27) (.slot 31) (.const (.bool false))⟩ ::
  ⟨some 2, none, .mov (.slot 32)⟩ :: []
def c_merge_piece : AFn := ⟨(.seq (.region q27R0 false [1]) (.seq (.region q27R1 false [2]) .ret)), [.slot 2]⟩
/- oriel/merge.May -/
def q22R0 : List AOper := [⟨some 2, none, .mov (.const (.bool false))⟩]
def q22R1 : List AOper := [⟨some 3, none, .mov (.const (.int .i64 0))⟩]
def q22R2 : List AOper := [⟨some 6, none, .mov (.slot 0)⟩,
  ⟨some 7, none, .len false (.slot 6)⟩,
  ⟨some 8, none, .mov (.const (.int .i64 0))⟩]
def q22R3 : List AOper := [⟨some 9, none, .bin .lss (.slot 8) (.slot 7)⟩]
def q22R4 : List AOper := [⟨some 10, none, .idx 3 (.slot 6) (.slot 8)⟩,
  ⟨some 11, none, .load true 3 (.slot 10)⟩,
  ⟨some 5, none, .alloc [.int .i64 0, .int .i64 0, .data false 1 [] true]⟩,
  ⟨none, none, .store true 3 (.slot 5) (.slot 11)⟩]
def q22R5 : List AOper := [⟨some 12, none, .mov (.slot 3)⟩,
  ⟨some 13, none, .faddr 2 (.slot 5)⟩,
  ⟨some 14, none, .load false 1 (.slot 13)⟩,
  ⟨some 15, none, .len false (.slot 14)⟩,
  ⟨some 16, none, .bin .add (.slot 12) (.slot 15)⟩,
  ⟨some 3, none, .mov (.slot 16)⟩]
def q22R6 : List AOper := [⟨some 17, none, .load true 3 (.slot 5)⟩,
  ⟨some 18, none, .call .frz n_merge_piece [(.slot 17)]⟩,
  ⟨some 19, none, .not (.slot 18)⟩,
  ⟨some 20, none, .mov (.slot 19)⟩,
  ⟨some 21, some (20, false), .mov (.slot 3)⟩,
  ⟨some 22, some (20, false), .bin .gtr (.slot 21) (.const (.int .i64 64))⟩,
  ⟨some 23, none, .pick (.slot 20) (.const (.bool true)) (.slot 22)⟩]
def q22R7 : List AOper := [⟨some 2, none, .mov (.const (.bool false))⟩]
def q22R8 : List AOper := [⟨some 24, none, .bin .add (.slot 8) (.const (.int .i64 1))⟩,
  ⟨some 8, none, .mov (.slot 24)⟩]
def c_merge_May_L0 : ACode := (.seq (.region q22R3 false [3, 6, 7, 8, 9]) (.seq (.cond (.slot 9) .skip (.exit 0)) (.seq (.block 1 (.seq (.region q22R4 false [3, 5, 6, 7, 8]) (.seq (.region q22R5 false [3, 5, 6, 7, 8]) (.seq (.region q22R6 false [3, 6, 7, 8, 23]) (.cond (.slot 23) (.seq (.region q22R7 false [2]) .ret) .skip))))) (.region q22R8 false [3, 6, 7, 8]))))
def lp_merge_May_0 : ACode := .loop [3, 6, 7, 8] c_merge_May_L0
def q22R9 : List AOper := [⟨some 2, none, .mov (.const (.bool true))⟩]
def c_merge_May : AFn := ⟨(.seq (.region q22R0 false [0]) (.seq (.region q22R1 false [0, 3]) (.seq (.seq (.region q22R2 false [3, 6, 7, 8]) (.block 0 lp_merge_May_0)) (.seq (.region q22R9 false [2]) .ret)))), [.slot 2]⟩
/- bytes.Clone -/
def q0R0 : List AOper := [⟨some 2, none, .mov (.const (.data false 1 [] true))⟩]
def q0R1 : List AOper := [⟨some 3, none, .mov (.slot 0)⟩,
  ⟨some 4, none, .isnil .ks false (.slot 3)⟩]
def q0R2 : List AOper := [⟨some 2, none, .mov (.const (.data false 1 [] true))⟩]
def q0R3 : List AOper := [⟨some 5, none, .mkslice 1 0 [.int .u8 0] []⟩,
  ⟨some 6, none, .mov (.slot 0)⟩,
  ⟨some 7, none, .append 1 1 (.slot 5) (.slot 6)⟩,
  ⟨some 2, none, .mov (.slot 7)⟩]
def c_bytes_Clone : AFn := ⟨(.seq (.region q0R0 false [0]) (.seq (.seq (.region q0R1 false [0, 4]) (.cond (.slot 4) (.seq (.region q0R2 false [2]) .ret) .skip)) (.seq (.region q0R3 false [2]) .ret))), [.slot 2]⟩
/- oriel/merge.copied -/
def q26R0 : List AOper := [⟨some 2, none, .mov (.const (.data false 3 [] true))⟩]
def q26R1 : List AOper := [⟨some 3, none, .mknil 3⟩]
def q26R2 : List AOper := [⟨some 6, none, .mov (.slot 0)⟩,
  ⟨some 7, none, .len false (.slot 6)⟩,
  ⟨some 8, none, .mov (.const (.int .i64 0))⟩]
def q26R3 : List AOper := [⟨some 9, none, .bin .lss (.slot 8) (.slot 7)⟩]
def q26R4 : List AOper := [⟨some 10, none, .idx 3 (.slot 6) (.slot 8)⟩,
  ⟨some 11, none, .load true 3 (.slot 10)⟩,
  ⟨some 5, none, .alloc [.int .i64 0, .int .i64 0, .data false 1 [] true]⟩,
  ⟨none, none, .store true 3 (.slot 5) (.slot 11)⟩]
def q26R5 : List AOper := [⟨some 12, none, .faddr 2 (.slot 5)⟩,
  ⟨some 13, none, .load false 1 (.slot 12)⟩,
  ⟨some 14, none, .call .frz n_bytes_Clone [(.slot 13)]⟩,
  ⟨some 15, none, .faddr 2 (.slot 5)⟩,
  ⟨none, none, .store false 1 (.slot 15) (.slot 14)⟩]
def q26R6 : List AOper := [⟨some 16, none, .mov (.slot 3)⟩,
  ⟨some 17, none, .load true 3 (.slot 5)⟩,
  ⟨some 18, none, .mkslice 3 1 [.int .i64 0, .int .i64 0, .data false 1 [] true] [(0, (.slot 17))]⟩,
  ⟨some 19, none, .append 3 40 (.slot 16) (.slot 18)⟩,
  ⟨some 3, none, .mov (.slot 19)⟩]
def q26R7 : List AOper := [⟨some 20, none, .bin .add (.slot 8) (.const (.int .i64 1))⟩,
  ⟨some 8, none, .mov (.slot 20)⟩]
def c_merge_copied_L0 : ACode := (.seq (.region q26R3 false [3, 6, 7, 8, 9]) (.seq (.cond (.slot 9) .skip (.exit 0)) (.seq (.block 1 (.seq (.region q26R4 false [3, 5, 6, 7, 8]) (.seq (.region q26R5 false [3, 5, 6, 7, 8]) (.region q26R6 false [3, 6, 7, 8])))) (.region q26R7 false [3, 6, 7, 8]))))
def lp_merge_copied_0 : ACode := .loop [3, 6, 7, 8] c_merge_copied_L0
def q26R8 : List AOper := [⟨some 21, none, .mov (.slot 3)⟩,
  ⟨some 2, none, .mov (.slot 21)⟩]
def c_merge_copied : AFn := ⟨(.seq (.region q26R0 false [0]) (.seq (.region q26R1 false [0, 3]) (.seq (.seq (.region q26R2 false [3, 6, 7, 8]) (.block 0 lp_merge_copied_0)) (.seq (.region q26R8 false [2]) .ret)))), [.slot 2]⟩
/- oriel/merge.Push -/
def q24R0 : List AOper := [⟨some 3, none, .box 3 (.slot 1)⟩,
  ⟨some 4, none, .mov (.const (.data false 3 [] true))⟩,
  ⟨some 5, none, .mov (.const (.bool false))⟩]
def q24R1 : List AOper := [⟨some 7, none, .mov (.slot 0)⟩,
  ⟨some 8, none, .call .frz n_merge_May [(.slot 7)]⟩,
  ⟨some 9, none, .not (.slot 8)⟩]
def q24R2 : List AOper := [⟨some 4, none, .mov (.const (.data false 3 [] true))⟩,
  ⟨some 5, none, .mov (.const (.bool false))⟩]
def q24R3 : List AOper := [⟨some 10, none, .mov (.slot 0)⟩,
  ⟨some 11, none, .call .adp n_merge_copied [(.slot 10)]⟩,
  ⟨some 6, none, .mov (.slot 11)⟩]
def q24R4 : List AOper := [⟨some 12, none, .load true 3 (.slot 3)⟩,
  ⟨some 13, none, .call .frz n_merge_piece [(.slot 12)]⟩,
  ⟨some 14, none, .not (.slot 13)⟩,
  ⟨some 15, none, .mov (.slot 14)⟩,
  ⟨some 16, some (15, false), .mov (.slot 0)⟩,
  ⟨some 17, some (15, false), .call .frz n_merge_Size [(.slot 16)]⟩,
  ⟨some 18, some (15, false), .faddr 2 (.slot 3)⟩,
  ⟨some 19, some (15, false), .load false 1 (.slot 18)⟩,
  ⟨some 20, some (15, false), .len false (.slot 19)⟩,
  ⟨some 21, some (15, false), .bin .add (.slot 17) (.slot 20)⟩,
  ⟨some 22, some (15, false), .bin .gtr (.slot 21) (.const (.int .i64 64))⟩,
  ⟨some 23, none, .pick (.slot 15) (.const (.bool true)) (.slot 22)⟩]
def q24R5 : List AOper := [⟨some 24, none, .mov (.slot 6)⟩,
  ⟨some 4, none, .mov (.slot 24)⟩,
  ⟨some 5, none, .mov (.const (.bool false))⟩]
def q24R6 : List AOper := [⟨some 25, none, .mov (.slot 6)⟩,
  ⟨some 26, none, .load true 3 (.slot 3)⟩,
  ⟨some 27, none, .mkslice 3 1 [.int .i64 0, .int .i64 0, .data false 1 [] true] [(0, (.slot 26))]⟩,
  ⟨some 28, none, .call .inl n_merge_copied [(.slot 27)]⟩,
  ⟨some 29, none, .append 3 40 (.slot 25) (.slot 28)⟩,
  ⟨some 4, none, .mov (.slot 29)⟩,
  ⟨some 5, none, .mov (.const (.bool true))⟩]
def c_merge_Push : AFn := ⟨(.seq (.region q24R0 false [0, 3]) (.seq (.seq (.region q24R1 false [0, 3, 9]) (.cond (.slot 9) (.seq (.region q24R2 false [4, 5]) .ret) .skip)) (.seq (.region q24R3 false [0, 3, 6]) (.seq (.seq (.region q24R4 true [3, 6, 23]) (.cond (.slot 23) (.seq (.region q24R5 false [4, 5]) .ret) .skip)) (.seq (.region q24R6 false [4, 5]) .ret))))), [.slot 4, .slot 5]⟩
/- oriel/merge.Pop -/
def q23R0 : List AOper := [⟨some 4, none, .mov (.const (.data false 3 [] true))⟩,
  ⟨some 5, none, .mov (.const (.data false 3 [] true))⟩]
def q23R1 : List AOper := [⟨some 7, none, .mov (.slot 0)⟩,
  ⟨some 8, none, .call .frz n_merge_May [(.slot 7)]⟩,
  ⟨some 9, none, .not (.slot 8)⟩]
def q23R2 : List AOper := [⟨some 4, none, .mov (.const (.data false 3 [] true))⟩,
  ⟨some 5, none, .mov (.const (.data false 3 [] true))⟩]
def q23R3 : List AOper := [⟨some 6, none, .mov (.const (.int .i64 0))⟩]
def q23R4 : List AOper := [⟨some 10, none, .mov (.slot 6)⟩,
  ⟨some 11, none, .mov (.slot 0)⟩,
  ⟨some 12, none, .len false (.slot 11)⟩,
  ⟨some 13, none, .bin .lss (.slot 10) (.slot 12)⟩,
  ⟨some 14, none, .mov (.slot 13)⟩,
  ⟨some 15, some (14, true), .mov (.slot 0)⟩,
  ⟨some 16, some (14, true), .mov (.slot 6)⟩,
  ⟨some 17, some (14, true), .idx 3 (.slot 15) (.slot 16)⟩,
  ⟨some 18, some (14, true), .faddr 2 (.slot 17)⟩,
  ⟨some 19, some (14, true), .load false 1 (.slot 18)⟩,
  ⟨some 20, some (14, true), .len false (.slot 19)⟩,
  ⟨some 21, some (14, true), .mov (.slot 1)⟩,
  ⟨some 22, some (14, true), .bin .leq (.slot 20) (.slot 21)⟩,
  ⟨some 23, none, .pick (.slot 14) (.slot 22) (.const (.bool false))⟩]
def q23R5 : List AOper := [⟨some 24, none, .mov (.slot 1)⟩,
  ⟨some 25, none, .mov (.slot 0)⟩,
  ⟨some 26, none, .mov (.slot 6)⟩,
  ⟨some 27, none, .idx 3 (.slot 25) (.slot 26)⟩,
  ⟨some 28, none, .faddr 2 (.slot 27)⟩,
  ⟨some 29, none, .load false 1 (.slot 28)⟩,
  ⟨some 30, none, .len false (.slot 29)⟩,
  ⟨some 31, none, .bin .sub (.slot 24) (.slot 30)⟩,
  ⟨some 1, none, .mov (.slot 31)⟩]
def q23R6 : List AOper := [⟨some 32, none, .mov (.slot 6)⟩,
  ⟨some 33, none, .bin .add (.slot 32) (.const (.int .i64 1))⟩,
  ⟨some 6, none, .mov (.slot 33)⟩]
def c_merge_Pop_L0 : ACode := (.seq (.seq (.region q23R4 false [0, 1, 6, 23]) (.cond (.slot 23) .skip (.exit 0))) (.block 1 (.seq (.region q23R5 false [0, 1, 6]) (.region q23R6 false [0, 1, 6]))))
def lp_merge_Pop_0 : ACode := .loop [0, 1, 6] c_merge_Pop_L0
def q23R7 : List AOper := [⟨some 34, none, .mov (.slot 0)⟩,
  ⟨some 35, none, .mov (.slot 6)⟩,
  ⟨some 36, none, .mov (.slot 0)⟩,
  ⟨some 37, none, .len false (.slot 36)⟩,
  ⟨some 38, none, .mov (.slot 0)⟩,
  ⟨some 39, none, .len false (.slot 38)⟩,
  ⟨some 40, none, .sl 3 (.slot 34) (some (.slot 35)) (some (.slot 37)) (some (.slot 39))⟩,
  ⟨some 41, none, .call .frz n_merge_copied [(.slot 40)]⟩,
  ⟨some 42, none, .mov (.slot 0)⟩,
  ⟨some 43, none, .mov (.slot 6)⟩,
  ⟨some 44, none, .mov (.slot 6)⟩,
  ⟨some 45, none, .sl 3 (.slot 42) none (some (.slot 43)) (some (.slot 44))⟩,
  ⟨some 46, none, .call .frz n_merge_copied [(.slot 45)]⟩,
  ⟨some 4, none, .mov (.slot 41)⟩,
  ⟨some 5, none, .mov (.slot 46)⟩]
def c_merge_Pop : AFn := ⟨(.seq (.region q23R0 false [0, 1]) (.seq (.seq (.region q23R1 false [0, 1, 9]) (.cond (.slot 9) (.seq (.region q23R2 false [4, 5]) .ret) .skip)) (.seq (.region q23R3 false [0, 1, 6]) (.seq (.block 0 lp_merge_Pop_0) (.seq (.region q23R7 true [4, 5]) .ret))))), [.slot 4, .slot 5]⟩
/- slices.IndexFunc[[]oriel/api.Typed,oriel/api.Typed] -/
def q72R0 : List AOper := [⟨some 4, none, .mov (.const (.int .i64 0))⟩]
def q72R1 : List AOper := [⟨some 6, none, .mov (.slot 0)⟩,
  ⟨some 7, none, .len false (.slot 6)⟩,
  ⟨some 8, none, .mov (.const (.int .i64 0))⟩]
def q72R2 : List AOper := [⟨some 9, none, .bin .lss (.slot 8) (.slot 7)⟩]
def q72R3 : List AOper := [⟨some 10, none, .mov (.slot 8)⟩,
  ⟨some 5, none, .mov (.slot 10)⟩]
def q72R4 : List AOper := [⟨some 11, none, .mov (.slot 1)⟩,
  ⟨some 12, none, .mov (.slot 0)⟩,
  ⟨some 13, none, .mov (.slot 5)⟩,
  ⟨some 14, none, .idx 3 (.slot 12) (.slot 13)⟩,
  ⟨some 15, none, .load true 3 (.slot 14)⟩,
  ⟨some 16, none, .callv (.slot 11) [(.slot 15)]⟩]
def q72R5 : List AOper := [⟨some 17, none, .mov (.slot 5)⟩,
  ⟨some 4, none, .mov (.slot 17)⟩]
def q72R6 : List AOper := [⟨some 18, none, .bin .add (.slot 8) (.const (.int .i64 1))⟩,
  ⟨some 8, none, .mov (.slot 18)⟩]
def c_slices_IndexFunc_Typed_L0 : ACode := (.seq (.region q72R2 false [0, 1, 7, 8, 9]) (.seq (.cond (.slot 9) .skip (.exit 0)) (.seq (.block 1 (.seq (.region q72R3 false [0, 1, 5, 7, 8]) (.seq (.region q72R4 false [0, 1, 5, 7, 8, 16]) (.cond (.slot 16) (.seq (.region q72R5 false [4]) .ret) .skip)))) (.region q72R6 false [0, 1, 7, 8]))))
def lp_slices_IndexFunc_Typed_0 : ACode := .loop [0, 1, 7, 8] c_slices_IndexFunc_Typed_L0
def q72R7 : List AOper := [⟨some 4, none, .mov (.const (.int .i64 (-1)))⟩]
def c_slices_IndexFunc_Typed : AFn := ⟨(.seq (.region q72R0 false [0, 1]) (.seq (.seq (.region q72R1 false [0, 1, 7, 8]) (.block 0 lp_slices_IndexFunc_Typed_0)) (.seq (.region q72R7 false [4]) .ret))), [.slot 4]⟩
/- slices.DeleteFunc[[]oriel/api.Typed,oriel/api.Typed] -/
def q68R0 : List AOper := [⟨some 4, none, .mov (.const (.data false 3 [] true))⟩]
def q68R1 : List AOper := [⟨some 8, none, .mov (.slot 0)⟩,
  ⟨some 9, none, .mov (.slot 1)⟩,
  ⟨some 10, none, .call .inl n_slices_IndexFunc_Typed [(.slot 8), (.slot 9)]⟩,
  ⟨some 5, none, .mov (.slot 10)⟩]
def q68R2 : List AOper := [⟨some 11, none, .mov (.slot 5)⟩,
  ⟨some 12, none, .bin .eql (.slot 11) (.const (.int .i64 (-1)))⟩]
def q68R3 : List AOper := [⟨some 13, none, .mov (.slot 0)⟩,
  ⟨some 4, none, .mov (.slot 13)⟩]
def q68R4 : List AOper := [⟨some 14, none, .mov (.slot 5)⟩,
  ⟨some 15, none, .bin .add (.slot 14) (.const (.int .i64 1))⟩,
  ⟨some 6, none, .mov (.slot 15)⟩]
def q68R5 : List AOper := [⟨some 16, none, .mov (.slot 6)⟩,
  ⟨some 17, none, .mov (.slot 0)⟩,
  ⟨some 18, none, .len false (.slot 17)⟩,
  ⟨some 19, none, .bin .lss (.slot 16) (.slot 18)⟩]
def q68R7 : List AOper := [⟨some 22, none, .mov (.slot 0)⟩,
  ⟨some 23, none, .mov (.slot 6)⟩,
  ⟨some 24, none, .idx 3 (.slot 22) (.slot 23)⟩,
  ⟨some 25, none, .load true 3 (.slot 24)⟩,
  ⟨some 7, none, .alloc [.int .i64 0, .int .i64 0, .data false 1 [] true]⟩,
  ⟨none, none, .store true 3 (.slot 7) (.slot 25)⟩]
def q68R8 : List AOper := [⟨some 26, none, .mov (.slot 1)⟩,
  ⟨some 27, none, .load true 3 (.slot 7)⟩,
  ⟨some 28, none, .callv (.slot 26) [(.slot 27)]⟩,
  ⟨some 29, none, .not (.slot 28)⟩]
def q68R9 : List AOper := [⟨some 30, none, .mov (.slot 0)⟩,
  ⟨some 31, none, .mov (.slot 5)⟩,
  ⟨some 32, none, .load true 3 (.slot 7)⟩,
  ⟨some 33, none, .idx 3 (.slot 30) (.slot 31)⟩,
  ⟨none, none, .store true 3 (.slot 33) (.slot 32)⟩]
def q68R10 : List AOper := [⟨some 34, none, .mov (.slot 5)⟩,
  ⟨some 35, none, .bin .add (.slot 34) (.const (.int .i64 1))⟩,
  ⟨some 5, none, .mov (.slot 35)⟩]
def q68R6 : List AOper := [⟨some 20, none, .mov (.slot 6)⟩,
  ⟨some 21, none, .bin .add (.slot 20) (.const (.int .i64 1))⟩,
  ⟨some 6, none, .mov (.slot 21)⟩]
def c_slices_DeleteFunc_Typed_L0 : ACode := (.seq (.seq (.region q68R5 false [0, 1, 5, 6, 19]) (.cond (.slot 19) .skip (.exit 0))) (.seq (.block 1 (.seq (.region q68R7 false [0, 1, 5, 6, 7]) (.seq (.region q68R8 false [0, 1, 5, 6, 7, 29]) (.cond (.slot 29) (.seq (.region q68R9 false [0, 1, 5, 6]) (.region q68R10 false [0, 1, 5, 6])) .skip)))) (.region q68R6 false [0, 1, 5, 6])))
def lp_slices_DeleteFunc_Typed_0 : ACode := .loop [0, 1, 5, 6] c_slices_DeleteFunc_Typed_L0
def q68R11 : List AOper := [⟨some 36, none, .mov (.slot 0)⟩,
  ⟨some 37, none, .mov (.slot 5)⟩,
  ⟨some 38, none, .sl 3 (.slot 36) (some (.slot 37)) none none⟩,
  ⟨none, none, .clear [.int .i64 0, .int .i64 0, .data false 1 [] true] (.slot 38)⟩]
def q68R12 : List AOper := [⟨some 39, none, .mov (.slot 0)⟩,
  ⟨some 40, none, .mov (.slot 5)⟩,
  ⟨some 41, none, .sl 3 (.slot 39) none (some (.slot 40)) none⟩,
  ⟨some 4, none, .mov (.slot 41)⟩]
def c_slices_DeleteFunc_Typed : AFn := ⟨(.seq (.region q68R0 false [0, 1]) (.seq (.region q68R1 false [0, 1, 5]) (.seq (.seq (.region q68R2 false [0, 1, 5, 12]) (.cond (.slot 12) (.seq (.region q68R3 false [4]) .ret) .skip)) (.seq (.seq (.region q68R4 false [0, 1, 5, 6]) (.block 0 lp_slices_DeleteFunc_Typed_0)) (.seq (.region q68R11 false [0, 5]) (.seq (.region q68R12 false [4]) .ret)))))), [.slot 4]⟩
/- oriel/merge.Drop'1 -/
def q21R0 : List AOper := [⟨some 2, none, .box 3 (.slot 0)⟩,
  ⟨some 3, none, .mov (.const (.bool false))⟩]
def q21R1 : List AOper := [⟨some 4, none, .faddr 0 (.slot 2)⟩,
  ⟨some 5, none, .load false 1 (.slot 4)⟩,
  ⟨some 6, none, .load false 1 (.slot 1)⟩,
  ⟨some 7, none, .bin .eql (.slot 5) (.slot 6)⟩,
  ⟨some 3, none, .mov (.slot 7)⟩]
def c_merge_Drop_1 : AFn := ⟨(.seq (.region q21R0 false [1, 2]) (.seq (.region q21R1 false [3]) .ret)), [.slot 3]⟩
/- oriel/merge.Drop -/
def q20R0 : List AOper := [⟨some 3, none, .box 1 (.slot 1)⟩,
  ⟨some 4, none, .mov (.const (.data false 3 [] true))⟩]
def q20R1 : List AOper := [⟨some 5, none, .mov (.slot 0)⟩,
  ⟨some 6, none, .call .frz n_merge_May [(.slot 5)]⟩,
  ⟨some 7, none, .not (.slot 6)⟩]
def q20R2 : List AOper := [⟨some 4, none, .mov (.const (.data false 3 [] true))⟩]
def q20R3 : List AOper := [⟨some 8, none, .mov (.slot 0)⟩,
  ⟨some 9, none, .call .adp n_merge_copied [(.slot 8)]⟩,
  ⟨some 10, none, .mkfn (.func n_merge_Drop_1) [] [(.slot 3)]⟩,
  ⟨some 11, none, .call .inl n_slices_DeleteFunc_Typed [(.slot 9), (.slot 10)]⟩,
  ⟨some 4, none, .mov (.slot 11)⟩]
def c_merge_Drop : AFn := ⟨(.seq (.region q20R0 false [0, 3]) (.seq (.seq (.region q20R1 false [0, 3, 7]) (.cond (.slot 7) (.seq (.region q20R2 false [4]) .ret) .skip)) (.seq (.region q20R3 false [4]) .ret))), [.slot 4]⟩
/- oriel/oriellaw28.known -/
def q17R0 : List AOper := [⟨some 0, none, .mov (.const (.bool false))⟩]
def q17R1 : List AOper := [⟨some 7, none, .mkslice 1 2 [.int .u8 0] [(0, (.const (.int .u8 97))), (1, (.const (.int .u8 98)))]⟩,
  ⟨some 8, none, .mark (.slot 7)⟩,
  ⟨some 9, none, .build [.int .i64 0, .int .i64 0, .data false 1 [] true] [(0, 1, (.const (.int .i64 3))), (1, 1, (.const (.int .i64 1))), (2, 1, (.slot 8))]⟩,
  ⟨some 10, none, .call .frz n_merge_Push [(.const (.data false 3 [] true)), (.slot 9)]⟩,
  ⟨some 6, none, .mov (.slot 10)⟩,
  ⟨some 11, none, .extract 0 (.slot 6)⟩,
  ⟨some 12, none, .extract 1 (.slot 6)⟩,
  ⟨some 1, none, .mov (.slot 11)⟩,
  ⟨some 2, none, .mov (.slot 12)⟩]
def q17R2 : List AOper := [⟨some 14, none, .mov (.slot 1)⟩,
  ⟨some 15, none, .mkslice 1 1 [.int .u8 0] [(0, (.const (.int .u8 99)))]⟩,
  ⟨some 16, none, .mark (.slot 15)⟩,
  ⟨some 17, none, .build [.int .i64 0, .int .i64 0, .data false 1 [] true] [(0, 1, (.const (.int .i64 5))), (1, 1, (.const (.int .i64 1))), (2, 1, (.slot 16))]⟩,
  ⟨some 18, none, .call .frz n_merge_Push [(.slot 14), (.slot 17)]⟩,
  ⟨some 13, none, .mov (.slot 18)⟩,
  ⟨some 19, none, .extract 0 (.slot 13)⟩,
  ⟨some 20, none, .extract 1 (.slot 13)⟩,
  ⟨some 1, none, .mov (.slot 19)⟩,
  ⟨some 3, none, .mov (.slot 20)⟩]
def q17R3 : List AOper := [⟨some 22, none, .mov (.slot 1)⟩,
  ⟨some 23, none, .call .frz n_merge_Pop [(.slot 22), (.const (.int .i64 2))]⟩,
  ⟨some 21, none, .mov (.slot 23)⟩,
  ⟨some 24, none, .extract 0 (.slot 21)⟩,
  ⟨some 25, none, .extract 1 (.slot 21)⟩,
  ⟨some 4, none, .mov (.slot 24)⟩,
  ⟨some 5, none, .mov (.slot 25)⟩]
def q17R4 : List AOper := ⟨some 26, none, .mov (.slot 2)⟩ ::
  ⟨some 27, none, .mov (.slot 26)⟩ ::
  ⟨some 28, some (27, true), .mov (.slot 3)⟩ ::
  ⟨some 29, none, .pick (.slot 27) (.slot 28) (.const (.bool false))⟩ ::
  ⟨some 30, none, .mov (.slot 29)⟩ ::
  ⟨some 31, some (30, true), .mov (.slot 1)⟩ ::
  ⟨some 32, some (30, true), .call .frz n_merge_Size [(.slot 31)]⟩ ::
  ⟨some 33, some (30, true), .bin .eql (.slot 32) (.const (.int .i64 3))⟩ ::
  ⟨some 34, none, .pick (.slot 30) (.slot 33) (.const (.bool false))⟩ ::
  ⟨some 35, none, .mov (.slot 34)⟩ ::
  ⟨some 36, some (35, true), .mov (.slot 4)⟩ ::
  ⟨some 37, some (35, true), .len false (.slot 36)⟩ ::
  ⟨some 38, some (35, true), .bin .eql (.slot 37) (.const (.int .i64 1))⟩ ::
  ⟨some 39, none, .pick (.slot 35) (.slot 38) (.const (.bool false))⟩ ::
  ⟨some 40, none, .mov (.slot 39)⟩ ::
  ⟨some 41, some (40, true), .mov (.slot 5)⟩ ::
  ⟨some 42, some (40, true), .len false (.slot 41)⟩ ::
  ⟨some 43, some (40, true), .bin .eql (.slot 42) (.const (.int .i64 1))⟩ ::
  ⟨some 44, none, .pick (.slot 40) (.slot 43) (.const (.bool false))⟩ ::
  ⟨some 45, none, .mov (.slot 44)⟩ ::
  ⟨some 46, some (45, true), .mov (.slot 5)⟩ ::
  ⟨some 47, some (45, true), .idx 3 (.slot 46) (.const (.int .i64 0))⟩ ::
  ⟨some 48, some (45, true), .faddr 2 (.slot 47)⟩ ::
  ⟨some 49, some (45, true), .load false 1 (.slot 48)⟩ ::
  ⟨some 50, some (45, true), .bstr (.slot 49)⟩ ::
  ⟨some 51, some (45, true), .eq false [.ks] false (.slot 50) (.const (.str ⟨#[97, 98]⟩))⟩ ::
  ⟨some 52, none, .pick (.slot 45) (.slot 51) (.const (.bool false))⟩ ::
  ⟨some 53, none, .mov (.slot 52)⟩ ::
  ⟨some 54, some (53, true), .mov (.slot 1)⟩ ::
  ⟨some 55, some (53, true), .call .frz n_merge_Drop [(.slot 54), (.const (.int .i64 3))]⟩ ::
  ⟨some 56, some (53, true), .len false (.slot 55)⟩ ::
  ⟨some 57, some (53, true), .bin .eql (.slot 56) (.const (.int .i64 1))⟩ ::
  ⟨some 58, none, .pick (.slot 53) (.slot 57) (.const (.bool false))⟩ ::
  ⟨some 0, none, .mov (.slot 58)⟩ :: []
def c_law28_known : AFn := ⟨(.seq (.region q17R0 false []) (.seq (.region q17R1 false [1, 2]) (.seq (.region q17R2 false [1, 2, 3]) (.seq (.region q17R3 false [1, 2, 3, 4, 5]) (.seq (.region q17R4 false [0]) .ret))))), [.slot 0]⟩
/- oriel/oriellaw28.MergeOrder -/
def q14R0 : List AOper := [⟨some 2, none, .mov (.const (.bool false))⟩]
def q14R1 : List AOper := [⟨some 19, none, .call .frz n_law28_known []⟩,
  ⟨some 20, none, .not (.slot 19)⟩]
def q14R2 : List AOper := [⟨some 2, none, .mov (.const (.bool false))⟩]
def q14R3 : List AOper := [⟨some 21, none, .mov (.slot 0)⟩,
  ⟨some 22, none, .len false (.slot 21)⟩,
  ⟨some 23, none, .bin .gtr (.slot 22) (.const (.int .i64 150))⟩]
def q14R4 : List AOper := [⟨some 2, none, .mov (.const (.bool true))⟩]
def q14R5 : List AOper := [⟨some 3, none, .mov (.const (.data false 3 [] true))⟩]
def q14R6 : List AOper := [⟨some 4, none, .mknil 1⟩,
  ⟨some 5, none, .mknil 1⟩]
def q14R7 : List AOper := [⟨some 6, none, .mov (.const (.int .i64 0))⟩]
def q14R8 : List AOper := [⟨some 7, none, .mov (.const (.int .i64 0))⟩]
def q14R9 : List AOper := [⟨some 24, none, .mov (.slot 7)⟩,
  ⟨some 25, none, .mov (.slot 0)⟩,
  ⟨some 26, none, .len false (.slot 25)⟩,
  ⟨some 27, none, .bin .lss (.slot 24) (.slot 26)⟩]
def q14R11 : List AOper := [⟨some 30, none, .mov (.slot 0)⟩,
  ⟨some 31, none, .mov (.slot 7)⟩,
  ⟨some 32, none, .idx 5 (.slot 30) (.slot 31)⟩,
  ⟨some 33, none, .faddr 2 (.slot 32)⟩,
  ⟨some 34, none, .faddr 2 (.slot 33)⟩,
  ⟨some 35, none, .load false 1 (.slot 34)⟩,
  ⟨some 36, none, .len false (.slot 35)⟩,
  ⟨some 37, none, .bin .gtr (.slot 36) (.const (.int .i64 100))⟩]
def q14R12 : List AOper := [⟨some 2, none, .mov (.const (.bool true))⟩]
def q14R13 : List AOper := [⟨some 38, none, .mov (.slot 0)⟩,
  ⟨some 39, none, .mov (.slot 7)⟩,
  ⟨some 40, none, .idx 5 (.slot 38) (.slot 39)⟩,
  ⟨some 41, none, .faddr 0 (.slot 40)⟩,
  ⟨some 42, none, .load false 1 (.slot 41)⟩]
def q14R14 : List AOper := [⟨some 44, none, .bin .eql (.slot 42) (.const (.int .i64 0))⟩,
  ⟨some 43, none, .mov (.slot 44)⟩]
def q14R15 : List AOper := [⟨some 45, none, .mov (.slot 0)⟩,
  ⟨some 46, none, .mov (.slot 7)⟩,
  ⟨some 47, none, .idx 5 (.slot 45) (.slot 46)⟩,
  ⟨some 48, none, .faddr 2 (.slot 47)⟩,
  ⟨some 49, none, .load true 3 (.slot 48)⟩,
  ⟨some 8, none, .alloc [.int .i64 0, .int .i64 0, .data false 1 [] true]⟩,
  ⟨none, none, .store true 3 (.slot 8) (.slot 49)⟩]
def q14R16 : List AOper := [⟨some 50, none, .mov (.slot 4)⟩,
  ⟨some 51, none, .len false (.slot 50)⟩,
  ⟨some 52, none, .bin .add (.slot 51) (.const (.int .i64 1))⟩,
  ⟨some 53, none, .faddr 1 (.slot 8)⟩,
  ⟨none, none, .store false 1 (.slot 53) (.slot 52)⟩]
def q14R17 : List AOper := [⟨some 55, none, .mov (.slot 3)⟩,
  ⟨some 56, none, .load true 3 (.slot 8)⟩,
  ⟨some 57, none, .call .frz n_merge_Push [(.slot 55), (.slot 56)]⟩,
  ⟨some 54, none, .mov (.slot 57)⟩,
  ⟨some 58, none, .extract 0 (.slot 54)⟩,
  ⟨some 59, none, .extract 1 (.slot 54)⟩,
  ⟨some 9, none, .mov (.slot 58)⟩,
  ⟨some 10, none, .mov (.slot 59)⟩]
def q14R18 : List AOper := [⟨some 60, none, .mov (.slot 4)⟩,
  ⟨some 61, none, .faddr 0 (.slot 8)⟩,
  ⟨some 62, none, .load false 1 (.slot 61)⟩,
  ⟨some 63, none, .mkslice 1 1 [.int .i64 0] [(0, (.slot 62))]⟩,
  ⟨some 64, none, .append 1 8 (.slot 60) (.slot 63)⟩,
  ⟨some 4, none, .mov (.slot 64)⟩]
def q14R19 : List AOper := [⟨some 65, none, .mov (.slot 5)⟩,
  ⟨some 66, none, .mkslice 1 1 [.int .i64 0] [(0, (.const (.int .i64 0)))]⟩,
  ⟨some 67, none, .append 1 8 (.slot 65) (.slot 66)⟩,
  ⟨some 5, none, .mov (.slot 67)⟩]
def q14R20 : List AOper := [⟨some 68, none, .mov (.slot 10)⟩]
def q14R21 : List AOper := [⟨some 69, none, .mov (.slot 5)⟩,
  ⟨some 70, none, .faddr 1 (.slot 8)⟩,
  ⟨some 71, none, .load false 1 (.slot 70)⟩,
  ⟨some 72, none, .bin .sub (.slot 71) (.const (.int .i64 1))⟩,
  ⟨some 73, none, .idx 1 (.slot 69) (.slot 72)⟩,
  ⟨none, none, .store false 1 (.slot 73) (.const (.int .i64 1))⟩]
def q14R22 : List AOper := [⟨some 74, none, .mov (.slot 9)⟩,
  ⟨some 3, none, .mov (.slot 74)⟩]
def q14R23 : List AOper := [⟨some 76, none, .bin .eql (.slot 42) (.const (.int .i64 1))⟩,
  ⟨some 75, none, .mov (.slot 76)⟩]
def q14R24 : List AOper := [⟨some 78, none, .mov (.slot 3)⟩,
  ⟨some 79, none, .mov (.slot 0)⟩,
  ⟨some 80, none, .mov (.slot 7)⟩,
  ⟨some 81, none, .idx 5 (.slot 79) (.slot 80)⟩,
  ⟨some 82, none, .faddr 1 (.slot 81)⟩,
  ⟨some 83, none, .load false 1 (.slot 82)⟩,
  ⟨some 84, none, .call .frz n_merge_Pop [(.slot 78), (.slot 83)]⟩,
  ⟨some 77, none, .mov (.slot 84)⟩,
  ⟨some 85, none, .extract 0 (.slot 77)⟩,
  ⟨some 86, none, .extract 1 (.slot 77)⟩,
  ⟨some 11, none, .mov (.slot 85)⟩,
  ⟨some 12, none, .mov (.slot 86)⟩]
def q14R25 : List AOper := [⟨some 13, none, .mov (.const (.int .i64 0))⟩]
def q14R26 : List AOper := [⟨some 87, none, .mov (.slot 13)⟩,
  ⟨some 88, none, .mov (.slot 12)⟩,
  ⟨some 89, none, .len false (.slot 88)⟩,
  ⟨some 90, none, .bin .lss (.slot 87) (.slot 89)⟩]
def q14R28 : List AOper := [⟨some 93, none, .mov (.slot 12)⟩,
  ⟨some 94, none, .mov (.slot 13)⟩,
  ⟨some 95, none, .idx 3 (.slot 93) (.slot 94)⟩,
  ⟨some 96, none, .faddr 1 (.slot 95)⟩,
  ⟨some 97, none, .load false 1 (.slot 96)⟩,
  ⟨some 14, none, .mov (.slot 97)⟩]
def q14R29 : List AOper := ⟨some 98, none, .mov (.slot 14)⟩ ::
  ⟨some 99, none, .mov (.slot 6)⟩ ::
  ⟨some 100, none, .bin .leq (.slot 98) (.slot 99)⟩ ::
  ⟨some 101, none, .mov (.slot 100)⟩ ::
  ⟨some 102, some (101, false), .mov (.slot 14)⟩ ::
  ⟨some 103, some (101, false), .mov (.slot 4)⟩ ::
  ⟨some 104, some (101, false), .len false (.slot 103)⟩ ::
  ⟨some 105, some (101, false), .bin .gtr (.slot 102) (.slot 104)⟩ ::
  ⟨some 106, none, .pick (.slot 101) (.const (.bool true)) (.slot 105)⟩ ::
  ⟨some 107, none, .mov (.slot 106)⟩ ::
  ⟨some 108, some (107, false), .mov (.slot 5)⟩ ::
  ⟨some 109, some (107, false), .mov (.slot 14)⟩ ::
  ⟨some 110, some (107, false), .bin .sub (.slot 109) (.const (.int .i64 1))⟩ ::
  ⟨some 111, some (107, false), .idx 1 (.slot 108) (.slot 110)⟩ ::
  ⟨some 112, some (107, false), .load false 1 (.slot 111)⟩ ::
  ⟨some 113, some (107, false), .bin .neq (.slot 112) (.const (.int .i64 1))⟩ ::
  ⟨some 114, none, .pick (.slot 107) (.const (.bool true)) (.slot 113)⟩ ::
  ⟨some 115, none, .mov (.slot 114)⟩ ::
  ⟨some 116, some (115, false), .mov (.slot 4)⟩ ::
  ⟨some 117, some (115, false), .mov (.slot 14)⟩ ::
  ⟨some 118, some (115, false), .bin .sub (.slot 117) (.const (.int .i64 1))⟩ ::
  ⟨some 119, some (115, false), .idx 1 (.slot 116) (.slot 118)⟩ ::
  ⟨some 120, some (115, false), .load false 1 (.slot 119)⟩ ::
  ⟨some 121, some (115, false), .mov (.slot 12)⟩ ::
  ⟨some 122, some (115, false), .mov (.slot 13)⟩ ::
  ⟨some 123, some (115, false), .idx 3 (.slot 121) (.slot 122)⟩ ::
  ⟨some 124, some (115, false), .faddr 0 (.slot 123)⟩ ::
  ⟨some 125, some (115, false), .load false 1 (.slot 124)⟩ ::
  ⟨some 126, some (115, false), .bin .neq (.slot 120) (.slot 125)⟩ ::
  ⟨some 127, none, .pick (.slot 115) (.const (.bool true)) (.slot 126)⟩ :: []
def q14R30 : List AOper := [⟨some 2, none, .mov (.const (.bool false))⟩]
def q14R31 : List AOper := [⟨some 128, none, .mov (.slot 6)⟩,
  ⟨some 15, none, .mov (.slot 128)⟩]
def q14R32 : List AOper := [⟨some 129, none, .mov (.slot 15)⟩,
  ⟨some 130, none, .mov (.slot 14)⟩,
  ⟨some 131, none, .bin .sub (.slot 130) (.const (.int .i64 1))⟩,
  ⟨some 132, none, .bin .lss (.slot 129) (.slot 131)⟩]
def q14R34 : List AOper := [⟨some 135, none, .mov (.slot 5)⟩,
  ⟨some 136, none, .mov (.slot 15)⟩,
  ⟨some 137, none, .idx 1 (.slot 135) (.slot 136)⟩,
  ⟨some 138, none, .load false 1 (.slot 137)⟩,
  ⟨some 139, none, .bin .eql (.slot 138) (.const (.int .i64 1))⟩]
def q14R35 : List AOper := [⟨some 2, none, .mov (.const (.bool false))⟩]
def q14R33 : List AOper := [⟨some 133, none, .mov (.slot 15)⟩,
  ⟨some 134, none, .bin .add (.slot 133) (.const (.int .i64 1))⟩,
  ⟨some 15, none, .mov (.slot 134)⟩]
def c_law28_MergeOrder_L2 : ACode := (.seq (.seq (.region q14R32 false [0, 4, 5, 7, 11, 12, 13, 14, 15, 132]) (.cond (.slot 132) .skip (.exit 5))) (.seq (.block 6 (.seq (.region q14R34 false [0, 4, 5, 7, 11, 12, 13, 14, 15, 139]) (.cond (.slot 139) (.seq (.region q14R35 false [2]) .ret) .skip))) (.region q14R33 false [0, 4, 5, 7, 11, 12, 13, 14, 15])))
def lp_law28_MergeOrder_2 : ACode := .loop [0, 4, 5, 7, 11, 12, 13, 14, 15] c_law28_MergeOrder_L2
def q14R36 : List AOper := [⟨some 140, none, .mov (.slot 5)⟩,
  ⟨some 141, none, .mov (.slot 14)⟩,
  ⟨some 142, none, .bin .sub (.slot 141) (.const (.int .i64 1))⟩,
  ⟨some 143, none, .idx 1 (.slot 140) (.slot 142)⟩,
  ⟨none, none, .store false 1 (.slot 143) (.const (.int .i64 2))⟩]
def q14R37 : List AOper := [⟨some 144, none, .mov (.slot 14)⟩,
  ⟨some 6, none, .mov (.slot 144)⟩]
def q14R27 : List AOper := [⟨some 91, none, .mov (.slot 13)⟩,
  ⟨some 92, none, .bin .add (.slot 91) (.const (.int .i64 1))⟩,
  ⟨some 13, none, .mov (.slot 92)⟩]
def c_law28_MergeOrder_L1 : ACode := (.seq (.seq (.region q14R26 false [0, 4, 5, 6, 7, 11, 12, 13, 90]) (.cond (.slot 90) .skip (.exit 3))) (.seq (.block 4 (.seq (.region q14R28 false [0, 4, 5, 6, 7, 11, 12, 13, 14]) (.seq (.seq (.region q14R29 true [0, 4, 5, 6, 7, 11, 12, 13, 14, 127]) (.cond (.slot 127) (.seq (.region q14R30 false [2]) .ret) .skip)) (.seq (.seq (.region q14R31 false [0, 4, 5, 7, 11, 12, 13, 14, 15]) (.block 5 lp_law28_MergeOrder_2)) (.seq (.region q14R36 false [0, 4, 5, 7, 11, 12, 13, 14]) (.region q14R37 false [0, 4, 5, 6, 7, 11, 12, 13])))))) (.region q14R27 false [0, 4, 5, 6, 7, 11, 12, 13])))
def lp_law28_MergeOrder_1 : ACode := .loop [0, 4, 5, 6, 7, 11, 12, 13] c_law28_MergeOrder_L1
def q14R38 : List AOper := [⟨some 145, none, .mov (.slot 11)⟩,
  ⟨some 3, none, .mov (.slot 145)⟩]
def q14R39 : List AOper := [⟨some 147, none, .bin .eql (.slot 42) (.const (.int .i64 2))⟩,
  ⟨some 146, none, .mov (.slot 147)⟩]
def q14R40 : List AOper := [⟨some 148, none, .mov (.slot 3)⟩,
  ⟨some 149, none, .mov (.slot 0)⟩,
  ⟨some 150, none, .mov (.slot 7)⟩,
  ⟨some 151, none, .idx 5 (.slot 149) (.slot 150)⟩,
  ⟨some 152, none, .faddr 1 (.slot 151)⟩,
  ⟨some 153, none, .load false 1 (.slot 152)⟩,
  ⟨some 154, none, .call .frz n_merge_Drop [(.slot 148), (.slot 153)]⟩,
  ⟨some 3, none, .mov (.slot 154)⟩]
def q14R41 : List AOper := [⟨some 16, none, .mov (.const (.int .i64 0))⟩]
def q14R42 : List AOper := [⟨some 155, none, .mov (.slot 16)⟩,
  ⟨some 156, none, .mov (.slot 4)⟩,
  ⟨some 157, none, .len false (.slot 156)⟩,
  ⟨some 158, none, .bin .lss (.slot 155) (.slot 157)⟩]
def q14R44 : List AOper := [⟨some 161, none, .mov (.slot 4)⟩,
  ⟨some 162, none, .mov (.slot 16)⟩,
  ⟨some 163, none, .idx 1 (.slot 161) (.slot 162)⟩,
  ⟨some 164, none, .load false 1 (.slot 163)⟩,
  ⟨some 165, none, .mov (.slot 0)⟩,
  ⟨some 166, none, .mov (.slot 7)⟩,
  ⟨some 167, none, .idx 5 (.slot 165) (.slot 166)⟩,
  ⟨some 168, none, .faddr 1 (.slot 167)⟩,
  ⟨some 169, none, .load false 1 (.slot 168)⟩,
  ⟨some 170, none, .bin .eql (.slot 164) (.slot 169)⟩,
  ⟨some 171, none, .mov (.slot 170)⟩,
  ⟨some 172, some (171, true), .mov (.slot 5)⟩,
  ⟨some 173, some (171, true), .mov (.slot 16)⟩,
  ⟨some 174, some (171, true), .idx 1 (.slot 172) (.slot 173)⟩,
  ⟨some 175, some (171, true), .load false 1 (.slot 174)⟩,
  ⟨some 176, some (171, true), .bin .eql (.slot 175) (.const (.int .i64 1))⟩,
  ⟨some 177, none, .pick (.slot 171) (.slot 176) (.const (.bool false))⟩]
def q14R45 : List AOper := [⟨some 178, none, .mov (.slot 5)⟩,
  ⟨some 179, none, .mov (.slot 16)⟩,
  ⟨some 180, none, .idx 1 (.slot 178) (.slot 179)⟩,
  ⟨none, none, .store false 1 (.slot 180) (.const (.int .i64 0))⟩]
def q14R43 : List AOper := [⟨some 159, none, .mov (.slot 16)⟩,
  ⟨some 160, none, .bin .add (.slot 159) (.const (.int .i64 1))⟩,
  ⟨some 16, none, .mov (.slot 160)⟩]
def c_law28_MergeOrder_L3 : ACode := (.seq (.seq (.region q14R42 false [0, 3, 4, 5, 6, 7, 16, 158]) (.cond (.slot 158) .skip (.exit 7))) (.seq (.block 8 (.seq (.region q14R44 true [0, 3, 4, 5, 6, 7, 16, 177]) (.cond (.slot 177) (.region q14R45 false [0, 3, 4, 5, 6, 7, 16]) .skip))) (.region q14R43 false [0, 3, 4, 5, 6, 7, 16])))
def lp_law28_MergeOrder_3 : ACode := .loop [0, 3, 4, 5, 6, 7, 16] c_law28_MergeOrder_L3
def q14R46 : List AOper := [⟨some 17, none, .mov (.const (.int .i64 0))⟩]
def q14R47 : List AOper := [⟨some 18, none, .mov (.const (.int .i64 0))⟩]
def q14R48 : List AOper := [⟨some 181, none, .mov (.slot 18)⟩,
  ⟨some 182, none, .mov (.slot 5)⟩,
  ⟨some 183, none, .len false (.slot 182)⟩,
  ⟨some 184, none, .bin .lss (.slot 181) (.slot 183)⟩]
def q14R50 : List AOper := [⟨some 187, none, .mov (.slot 5)⟩,
  ⟨some 188, none, .mov (.slot 18)⟩,
  ⟨some 189, none, .idx 1 (.slot 187) (.slot 188)⟩,
  ⟨some 190, none, .load false 1 (.slot 189)⟩,
  ⟨some 191, none, .bin .eql (.slot 190) (.const (.int .i64 1))⟩]
def q14R51 : List AOper := [⟨some 192, none, .mov (.slot 17)⟩,
  ⟨some 193, none, .bin .add (.slot 192) (.const (.int .i64 1))⟩,
  ⟨some 17, none, .mov (.slot 193)⟩]
def q14R49 : List AOper := [⟨some 185, none, .mov (.slot 18)⟩,
  ⟨some 186, none, .bin .add (.slot 185) (.const (.int .i64 1))⟩,
  ⟨some 18, none, .mov (.slot 186)⟩]
def c_law28_MergeOrder_L4 : ACode := (.seq (.seq (.region q14R48 false [0, 3, 4, 5, 6, 7, 17, 18, 184]) (.cond (.slot 184) .skip (.exit 9))) (.seq (.block 10 (.seq (.region q14R50 false [0, 3, 4, 5, 6, 7, 17, 18, 191]) (.cond (.slot 191) (.region q14R51 false [0, 3, 4, 5, 6, 7, 17, 18]) .skip))) (.region q14R49 false [0, 3, 4, 5, 6, 7, 17, 18])))
def lp_law28_MergeOrder_4 : ACode := .loop [0, 3, 4, 5, 6, 7, 17, 18] c_law28_MergeOrder_L4
def q14R52 : List AOper := [⟨some 194, none, .mov (.slot 3)⟩,
  ⟨some 195, none, .call .frz n_merge_May [(.slot 194)]⟩,
  ⟨some 196, none, .not (.slot 195)⟩,
  ⟨some 197, none, .mov (.slot 196)⟩,
  ⟨some 198, some (197, false), .mov (.slot 3)⟩,
  ⟨some 199, some (197, false), .len false (.slot 198)⟩,
  ⟨some 200, some (197, false), .mov (.slot 17)⟩,
  ⟨some 201, some (197, false), .bin .neq (.slot 199) (.slot 200)⟩,
  ⟨some 202, none, .pick (.slot 197) (.const (.bool true)) (.slot 201)⟩,
  ⟨some 203, none, .mov (.slot 202)⟩,
  ⟨some 204, some (203, false), .mov (.slot 3)⟩,
  ⟨some 205, some (203, false), .call .frz n_merge_Size [(.slot 204)]⟩,
  ⟨some 206, some (203, false), .bin .gtr (.slot 205) (.const (.int .i64 64))⟩,
  ⟨some 207, none, .pick (.slot 203) (.const (.bool true)) (.slot 206)⟩]
def q14R53 : List AOper := [⟨some 2, none, .mov (.const (.bool false))⟩]
def q14R10 : List AOper := [⟨some 28, none, .mov (.slot 7)⟩,
  ⟨some 29, none, .bin .add (.slot 28) (.const (.int .i64 1))⟩,
  ⟨some 7, none, .mov (.slot 29)⟩]
def c_law28_MergeOrder_L0 : ACode := (.seq (.seq (.region q14R9 false [0, 3, 4, 5, 6, 7, 27]) (.cond (.slot 27) .skip (.exit 0))) (.seq (.block 1 (.seq (.seq (.region q14R11 false [0, 3, 4, 5, 6, 7, 37]) (.cond (.slot 37) (.seq (.region q14R12 false [2]) .ret) .skip)) (.seq (.seq (.region q14R13 false [0, 3, 4, 5, 6, 7, 42]) (.block 2 (.seq (.region q14R14 false [0, 3, 4, 5, 6, 7, 42, 43]) (.cond (.slot 43) (.seq (.region q14R15 false [0, 3, 4, 5, 6, 7, 8]) (.seq (.region q14R16 false [0, 3, 4, 5, 6, 7, 8]) (.seq (.region q14R17 false [0, 4, 5, 6, 7, 8, 9, 10]) (.seq (.region q14R18 false [0, 4, 5, 6, 7, 8, 9, 10]) (.seq (.region q14R19 false [0, 4, 5, 6, 7, 8, 9, 10]) (.seq (.seq (.region q14R20 false [0, 4, 5, 6, 7, 8, 9, 68]) (.cond (.slot 68) (.region q14R21 false [0, 4, 5, 6, 7, 9]) .skip)) (.region q14R22 false [0, 3, 4, 5, 6, 7]))))))) (.seq (.region q14R23 false [0, 3, 4, 5, 6, 7, 42, 75]) (.cond (.slot 75) (.seq (.region q14R24 false [0, 4, 5, 6, 7, 11, 12]) (.seq (.seq (.region q14R25 false [0, 4, 5, 6, 7, 11, 12, 13]) (.block 3 lp_law28_MergeOrder_1)) (.region q14R38 false [0, 3, 4, 5, 6, 7]))) (.seq (.region q14R39 false [0, 3, 4, 5, 6, 7, 146]) (.cond (.slot 146) (.seq (.region q14R40 false [0, 3, 4, 5, 6, 7]) (.seq (.region q14R41 false [0, 3, 4, 5, 6, 7, 16]) (.block 7 lp_law28_MergeOrder_3))) .skip)))))))) (.seq (.region q14R46 false [0, 3, 4, 5, 6, 7, 17]) (.seq (.seq (.region q14R47 false [0, 3, 4, 5, 6, 7, 17, 18]) (.block 9 lp_law28_MergeOrder_4)) (.seq (.region q14R52 false [0, 3, 4, 5, 6, 7, 207]) (.cond (.slot 207) (.seq (.region q14R53 false [2]) .ret) .skip))))))) (.region q14R10 false [0, 3, 4, 5, 6, 7])))
def lp_law28_MergeOrder_0 : ACode := .loop [0, 3, 4, 5, 6, 7] c_law28_MergeOrder_L0
def q14R54 : List AOper := [⟨some 2, none, .mov (.const (.bool true))⟩]
def c_law28_MergeOrder : AFn := ⟨(.seq (.region q14R0 false [0]) (.seq (.seq (.region q14R1 false [0, 20]) (.cond (.slot 20) (.seq (.region q14R2 false [2]) .ret) .skip)) (.seq (.seq (.region q14R3 false [0, 23]) (.cond (.slot 23) (.seq (.region q14R4 false [2]) .ret) .skip)) (.seq (.region q14R5 false [0, 3]) (.seq (.region q14R6 false [0, 3, 4, 5]) (.seq (.region q14R7 false [0, 3, 4, 5, 6]) (.seq (.seq (.region q14R8 false [0, 3, 4, 5, 6, 7]) (.block 0 lp_law28_MergeOrder_0)) (.seq (.region q14R54 false [2]) .ret)))))))), [.slot 2]⟩
/-- The seat's functions. -/
def FT : Nat → Option AEnt
  | 56 => some (.fn c_merge_piece)
  | 20 => some (.fn c_merge_May)
  | 23 => some (.ext (extSize))
  | 83 => some (.ext (extClone 1))
  | 55 => some (.fn c_merge_copied)
  | 17 => some (.fn c_merge_Push)
  | 18 => some (.fn c_merge_Pop)
  | 84 => some (.fn c_slices_IndexFunc_Typed)
  | 57 => some (.fn c_slices_DeleteFunc_Typed)
  | 58 => some (.fn c_merge_Drop_1)
  | 19 => some (.fn c_merge_Drop)
  | 14 => some (.fn c_law28_known)
  | 5 => some (.fn c_law28_MergeOrder)
  | _ => none
variable (G : Nat → Option (List AV)) (args : List AV) (h : List ARow)
theorem run_merge_copied : aR G FT n_merge_copied args h = (aE G FT h.length c_merge_copied.body ⟨aenter args, h⟩).bind (afinish c_merge_copied.res) := y_fn G FT rfl args h
theorem run_merge_Push : aR G FT n_merge_Push args h = (aE G FT h.length c_merge_Push.body ⟨aenter args, h⟩).bind (afinish c_merge_Push.res) := y_fn G FT rfl args h
theorem run_merge_Pop : aR G FT n_merge_Pop args h = (aE G FT h.length c_merge_Pop.body ⟨aenter args, h⟩).bind (afinish c_merge_Pop.res) := y_fn G FT rfl args h
theorem run_slices_IndexFunc_Typed : aR G FT n_slices_IndexFunc_Typed args h = (aE G FT h.length c_slices_IndexFunc_Typed.body ⟨aenter args, h⟩).bind (afinish c_slices_IndexFunc_Typed.res) := y_fn G FT rfl args h
theorem run_slices_DeleteFunc_Typed : aR G FT n_slices_DeleteFunc_Typed args h = (aE G FT h.length c_slices_DeleteFunc_Typed.body ⟨aenter args, h⟩).bind (afinish c_slices_DeleteFunc_Typed.res) := y_fn G FT rfl args h
theorem run_merge_Drop_1 : aR G FT n_merge_Drop_1 args h = (aE G FT h.length c_merge_Drop_1.body ⟨aenter args, h⟩).bind (afinish c_merge_Drop_1.res) := y_fn G FT rfl args h
theorem run_merge_Drop : aR G FT n_merge_Drop args h = (aE G FT h.length c_merge_Drop.body ⟨aenter args, h⟩).bind (afinish c_merge_Drop.res) := y_fn G FT rfl args h
theorem run_law28_MergeOrder : aR G FT n_law28_MergeOrder args h = (aE G FT h.length c_law28_MergeOrder.body ⟨aenter args, h⟩).bind (afinish c_law28_MergeOrder.res) := y_fn G FT rfl args h
end Go.Proofs.Ytfnonledcniojaa
