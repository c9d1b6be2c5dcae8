/- The small machine's code of the seat's functions. Conditions: none. -/
import Derived.Test.YtfnonledcniojaaM3
set_option linter.unusedVariables false
set_option linter.unusedSimpArgs false
set_option linter.unusedSectionVars false
namespace Go.Proofs.Ytfnonledcniojaa
open Go

def n_bytes_Clone : Nat := 83
def n_law28_great : Nat := 15
def n_law28_known : Nat := 14
def n_merge_Bytes : Nat := 28
def n_merge_Bytes_1 : Nat := 59
def n_merge_Drop : Nat := 19
def n_merge_Drop_1 : Nat := 58
def n_merge_May : Nat := 20
def n_merge_Pop : Nat := 18
def n_merge_Push : Nat := 17
def n_merge_Size : Nat := 23
def n_merge_copied : Nat := 55
def n_merge_piece : Nat := 56
def n_ref28_May : Nat := 21
def n_ref28_Piece : Nat := 27
def n_ref28_Size : Nat := 25
def n_slices_DeleteFunc_Typed : Nat := 57
def n_slices_IndexFunc_Typed : Nat := 84
/- oriel/merge.piece -/
def q27R0 : List AOper := [⟨some 1, none, .box 3 (.slot 0)⟩,
  ⟨some 2, none, .mov (.const (.bool false))⟩]
def q27R1 : List AOper := ⟨some 3, none, .faddr 0 (.slot 1)⟩ ::
  ⟨some 4, none, .load false 1 (.slot 3)⟩ ::
  ⟨some 5, none, .bin .geq (.slot 4) (.const (.int .i64 1))⟩ ::
  ⟨some 6, none, .mov (.slot 5)⟩ ::
  ⟨some 7, some (6, true), .faddr 0 (.slot 1)⟩ ::
  ⟨some 8, some (6, true), .load false 1 (.slot 7)⟩ ::
  ⟨some 9, some (6, true), .bin .leq (.slot 8) (.const (.int .i64 8))⟩ ::
  ⟨some 10, none, .pick (.slot 6) (.slot 9) (.const (.bool false))⟩ ::
  ⟨some 11, none, .mov (.slot 10)⟩ ::
  ⟨some 12, some (11, true), .faddr 1 (.slot 1)⟩ ::
  ⟨some 13, some (11, true), .load false 1 (.slot 12)⟩ ::
  ⟨some 14, some (11, true), .bin .geq (.slot 13) (.const (.int .i64 1))⟩ ::
  ⟨some 15, none, .pick (.slot 11) (.slot 14) (.const (.bool false))⟩ ::
  ⟨some 16, none, .mov (.slot 15)⟩ ::
  ⟨some 17, some (16, true), .faddr 1 (.slot 1)⟩ ::
  ⟨some 18, some (16, true), .load false 1 (.slot 17)⟩ ::
  ⟨some 19, some (16, true), .bin .leq (.slot 18) (.const (.int .i64 1073741824))⟩ ::
  ⟨some 20, none, .pick (.slot 16) (.slot 19) (.const (.bool false))⟩ ::
  ⟨some 21, none, .mov (.slot 20)⟩ ::
  ⟨some 22, some (21, true), .faddr 2 (.slot 1)⟩ ::
  ⟨some 23, some (21, true), .load false 1 (.slot 22)⟩ ::
  ⟨some 24, some (21, true), .len false (.slot 23)⟩ ::
  ⟨some 25, some (21, true), .bin .geq (.slot 24) (.const (.int .i64 1))⟩ ::
  ⟨some 26, none, .pick (.slot 21) (.slot 25) (.const (.bool false))⟩ ::
  ⟨some 27, none, .mov (.slot 26)⟩ ::
  ⟨some 28, some (27, true), .faddr 2 (.slot 1)⟩ ::
  ⟨some 29, some (27, true), .load false 1 (.slot 28)⟩ ::
  ⟨some 30, some (27, true), .len false (.slot 29)⟩ ::
  ⟨some 31, some (27, true), .bin .leq (.slot 30) (.const (.int .i64 16))⟩ ::
  ⟨some 32, none, .pick (.slot 27) (.slot 31) (.const (.bool false))⟩ ::
  ⟨some 2, none, .mov (.slot 32)⟩ :: []
def c_merge_piece : AFn := ⟨(.seq (.region q27R0 false [1]) (.seq (.region q27R1 false [2]) .ret)), [.slot 2]⟩
/- oriel/merge.May -/
def q22R0 : List AOper := [⟨some 2, none, .mov (.const (.bool false))⟩]
def q22R1 : List AOper := [⟨some 3, none, .mov (.const (.int .i64 0))⟩]
def q22R2 : List AOper := [⟨some 6, none, .mov (.slot 0)⟩,
  ⟨some 7, none, .len false (.slot 6)⟩,
  ⟨some 8, none, .mov (.const (.int .i64 0))⟩]
def q22R3 : List AOper := [⟨some 9, none, .bin .lss (.slot 8) (.slot 7)⟩]
def q22R4 : List AOper := [⟨some 10, none, .idx 3 (.slot 6) (.slot 8)⟩,
  ⟨some 11, none, .load true 3 (.slot 10)⟩,
  ⟨some 5, none, .alloc [.int .i64 0, .int .i64 0, .data false 1 [] true]⟩,
  ⟨none, none, .store true 3 (.slot 5) (.slot 11)⟩]
def q22R5 : List AOper := [⟨some 12, none, .mov (.slot 3)⟩,
  ⟨some 13, none, .faddr 2 (.slot 5)⟩,
  ⟨some 14, none, .load false 1 (.slot 13)⟩,
  ⟨some 15, none, .len false (.slot 14)⟩,
  ⟨some 16, none, .bin .add (.slot 12) (.slot 15)⟩,
  ⟨some 3, none, .mov (.slot 16)⟩]
def q22R6 : List AOper := [⟨some 17, none, .load true 3 (.slot 5)⟩,
  ⟨some 18, none, .call .frz n_merge_piece [(.slot 17)]⟩,
  ⟨some 19, none, .not (.slot 18)⟩,
  ⟨some 20, none, .mov (.slot 19)⟩,
  ⟨some 21, some (20, false), .mov (.slot 3)⟩,
  ⟨some 22, some (20, false), .bin .gtr (.slot 21) (.const (.int .i64 64))⟩,
  ⟨some 23, none, .pick (.slot 20) (.const (.bool true)) (.slot 22)⟩]
def q22R7 : List AOper := [⟨some 2, none, .mov (.const (.bool false))⟩]
def q22R8 : List AOper := [⟨some 24, none, .bin .add (.slot 8) (.const (.int .i64 1))⟩,
  ⟨some 8, none, .mov (.slot 24)⟩]
def c_merge_May_L0 : ACode := (.seq (.region q22R3 false [3, 6, 7, 8, 9]) (.seq (.cond (.slot 9) .skip (.exit 0)) (.seq (.block 1 (.seq (.region q22R4 false [3, 5, 6, 7, 8]) (.seq (.region q22R5 false [3, 5, 6, 7, 8]) (.seq (.region q22R6 false [3, 6, 7, 8, 23]) (.cond (.slot 23) (.seq (.region q22R7 false [2]) .ret) .skip))))) (.region q22R8 false [3, 6, 7, 8]))))
def lp_merge_May_0 : ACode := .loop [3, 6, 7, 8] c_merge_May_L0
def q22R9 : List AOper := [⟨some 2, none, .mov (.const (.bool true))⟩]
def c_merge_May : AFn := ⟨(.seq (.region q22R0 false [0]) (.seq (.region q22R1 false [0, 3]) (.seq (.seq (.region q22R2 false [3, 6, 7, 8]) (.block 0 lp_merge_May_0)) (.seq (.region q22R9 false [2]) .ret)))), [.slot 2]⟩
/- bytes.Clone -/
def q0R0 : List AOper := [⟨some 2, none, .mov (.const (.data false 1 [] true))⟩]
def q0R1 : List AOper := [⟨some 3, none, .mov (.slot 0)⟩,
  ⟨some 4, none, .isnil .ks false (.slot 3)⟩]
def q0R2 : List AOper := [⟨some 2, none, .mov (.const (.data false 1 [] true))⟩]
def q0R3 : List AOper := [⟨some 5, none, .mkslice 1 0 [.int .u8 0] []⟩,
  ⟨some 6, none, .mov (.slot 0)⟩,
  ⟨some 7, none, .append 1 1 (.slot 5) (.slot 6)⟩,
  ⟨some 2, none, .mov (.slot 7)⟩]
def c_bytes_Clone : AFn := ⟨(.seq (.region q0R0 false [0]) (.seq (.seq (.region q0R1 false [0, 4]) (.cond (.slot 4) (.seq (.region q0R2 false [2]) .ret) .skip)) (.seq (.region q0R3 false [2]) .ret))), [.slot 2]⟩
/- oriel/merge.copied -/
def q26R0 : List AOper := [⟨some 2, none, .mov (.const (.data false 3 [] true))⟩]
def q26R1 : List AOper := [⟨some 3, none, .mknil 3⟩]
def q26R2 : List AOper := [⟨some 6, none, .mov (.slot 0)⟩,
  ⟨some 7, none, .len false (.slot 6)⟩,
  ⟨some 8, none, .mov (.const (.int .i64 0))⟩]
def q26R3 : List AOper := [⟨some 9, none, .bin .lss (.slot 8) (.slot 7)⟩]
def q26R4 : List AOper := [⟨some 10, none, .idx 3 (.slot 6) (.slot 8)⟩,
  ⟨some 11, none, .load true 3 (.slot 10)⟩,
  ⟨some 5, none, .alloc [.int .i64 0, .int .i64 0, .data false 1 [] true]⟩,
  ⟨none, none, .store true 3 (.slot 5) (.slot 11)⟩]
def q26R5 : List AOper := [⟨some 12, none, .faddr 2 (.slot 5)⟩,
  ⟨some 13, none, .load false 1 (.slot 12)⟩,
  ⟨some 14, none, .call .frz n_bytes_Clone [(.slot 13)]⟩,
  ⟨some 15, none, .faddr 2 (.slot 5)⟩,
  ⟨none, none, .store false 1 (.slot 15) (.slot 14)⟩]
def q26R6 : List AOper := [⟨some 16, none, .mov (.slot 3)⟩,
  ⟨some 17, none, .load true 3 (.slot 5)⟩,
  ⟨some 18, none, .mkslice 3 1 [.int .i64 0, .int .i64 0, .data false 1 [] true] [(0, (.slot 17))]⟩,
  ⟨some 19, none, .append 3 40 (.slot 16) (.slot 18)⟩,
  ⟨some 3, none, .mov (.slot 19)⟩]
def q26R7 : List AOper := [⟨some 20, none, .bin .add (.slot 8) (.const (.int .i64 1))⟩,
  ⟨some 8, none, .mov (.slot 20)⟩]
def c_merge_copied_L0 : ACode := (.seq (.region q26R3 false [3, 6, 7, 8, 9]) (.seq (.cond (.slot 9) .skip (.exit 0)) (.seq (.block 1 (.seq (.region q26R4 false [3, 5, 6, 7, 8]) (.seq (.region q26R5 false [3, 5, 6, 7, 8]) (.region q26R6 false [3, 6, 7, 8])))) (.region q26R7 false [3, 6, 7, 8]))))
def lp_merge_copied_0 : ACode := .loop [3, 6, 7, 8] c_merge_copied_L0
def q26R8 : List AOper := [⟨some 21, none, .mov (.slot 3)⟩,
  ⟨some 2, none, .mov (.slot 21)⟩]
def c_merge_copied : AFn := ⟨(.seq (.region q26R0 false [0]) (.seq (.region q26R1 false [0, 3]) (.seq (.seq (.region q26R2 false [3, 6, 7, 8]) (.block 0 lp_merge_copied_0)) (.seq (.region q26R8 false [2]) .ret)))), [.slot 2]⟩
/- oriel/merge.Push -/
def q24R0 : List AOper := [⟨some 3, none, .box 3 (.slot 1)⟩,
  ⟨some 4, none, .mov (.const (.data false 3 [] true))⟩,
  ⟨some 5, none, .mov (.const (.bool false))⟩]
def q24R1 : List AOper := [⟨some 7, none, .mov (.slot 0)⟩,
  ⟨some 8, none, .call .frz n_merge_May [(.slot 7)]⟩,
  ⟨some 9, none, .not (.slot 8)⟩]
def q24R2 : List AOper := [⟨some 4, none, .mov (.const (.data false 3 [] true))⟩,
  ⟨some 5, none, .mov (.const (.bool false))⟩]
def q24R3 : List AOper := [⟨some 10, none, .mov (.slot 0)⟩,
  ⟨some 11, none, .call .adp n_merge_copied [(.slot 10)]⟩,
  ⟨some 6, none, .mov (.slot 11)⟩]
def q24R4 : List AOper := [⟨some 12, none, .load true 3 (.slot 3)⟩,
  ⟨some 13, none, .call .frz n_merge_piece [(.slot 12)]⟩,
  ⟨some 14, none, .not (.slot 13)⟩,
  ⟨some 15, none, .mov (.slot 14)⟩,
  ⟨some 16, some (15, false), .mov (.slot 0)⟩,
  ⟨some 17, some (15, false), .call .frz n_merge_Size [(.slot 16)]⟩,
  ⟨some 18, some (15, false), .faddr 2 (.slot 3)⟩,
  ⟨some 19, some (15, false), .load false 1 (.slot 18)⟩,
  ⟨some 20, some (15, false), .len false (.slot 19)⟩,
  ⟨some 21, some (15, false), .bin .add (.slot 17) (.slot 20)⟩,
  ⟨some 22, some (15, false), .bin .gtr (.slot 21) (.const (.int .i64 64))⟩,
  ⟨some 23, none, .pick (.slot 15) (.const (.bool true)) (.slot 22)⟩]
def q24R5 : List AOper := [⟨some 24, none, .mov (.slot 6)⟩,
  ⟨some 4, none, .mov (.slot 24)⟩,
  ⟨some 5, none, .mov (.const (.bool false))⟩]
def q24R6 : List AOper := [⟨some 25, none, .mov (.slot 6)⟩,
  ⟨some 26, none, .load true 3 (.slot 3)⟩,
  ⟨some 27, none, .mkslice 3 1 [.int .i64 0, .int .i64 0, .data false 1 [] true] [(0, (.slot 26))]⟩,
  ⟨some 28, none, .call .inl n_merge_copied [(.slot 27)]⟩,
  ⟨some 29, none, .append 3 40 (.slot 25) (.slot 28)⟩,
  ⟨some 4, none, .mov (.slot 29)⟩,
  ⟨some 5, none, .mov (.const (.bool true))⟩]
def c_merge_Push : AFn := ⟨(.seq (.region q24R0 false [0, 3]) (.seq (.seq (.region q24R1 false [0, 3, 9]) (.cond (.slot 9) (.seq (.region q24R2 false [4, 5]) .ret) .skip)) (.seq (.region q24R3 false [0, 3, 6]) (.seq (.seq (.region q24R4 true [3, 6, 23]) (.cond (.slot 23) (.seq (.region q24R5 false [4, 5]) .ret) .skip)) (.seq (.region q24R6 false [4, 5]) .ret))))), [.slot 4, .slot 5]⟩
/- oriel/merge.Pop -/
def q23R0 : List AOper := [⟨some 4, none, .mov (.const (.data false 3 [] true))⟩,
  ⟨some 5, none, .mov (.const (.data false 3 [] true))⟩]
def q23R1 : List AOper := [⟨some 7, none, .mov (.slot 0)⟩,
  ⟨some 8, none, .call .frz n_merge_May [(.slot 7)]⟩,
  ⟨some 9, none, .not (.slot 8)⟩]
def q23R2 : List AOper := [⟨some 4, none, .mov (.const (.data false 3 [] true))⟩,
  ⟨some 5, none, .mov (.const (.data false 3 [] true))⟩]
def q23R3 : List AOper := [⟨some 6, none, .mov (.const (.int .i64 0))⟩]
def q23R4 : List AOper := [⟨some 10, none, .mov (.slot 6)⟩,
  ⟨some 11, none, .mov (.slot 0)⟩,
  ⟨some 12, none, .len false (.slot 11)⟩,
  ⟨some 13, none, .bin .lss (.slot 10) (.slot 12)⟩,
  ⟨some 14, none, .mov (.slot 13)⟩,
  ⟨some 15, some (14, true), .mov (.slot 0)⟩,
  ⟨some 16, some (14, true), .mov (.slot 6)⟩,
  ⟨some 17, some (14, true), .idx 3 (.slot 15) (.slot 16)⟩,
  ⟨some 18, some (14, true), .faddr 2 (.slot 17)⟩,
  ⟨some 19, some (14, true), .load false 1 (.slot 18)⟩,
  ⟨some 20, some (14, true), .len false (.slot 19)⟩,
  ⟨some 21, some (14, true), .mov (.slot 1)⟩,
  ⟨some 22, some (14, true), .bin .leq (.slot 20) (.slot 21)⟩,
  ⟨some 23, none, .pick (.slot 14) (.slot 22) (.const (.bool false))⟩]
def q23R5 : List AOper := [⟨some 24, none, .mov (.slot 1)⟩,
  ⟨some 25, none, .mov (.slot 0)⟩,
  ⟨some 26, none, .mov (.slot 6)⟩,
  ⟨some 27, none, .idx 3 (.slot 25) (.slot 26)⟩,
  ⟨some 28, none, .faddr 2 (.slot 27)⟩,
  ⟨some 29, none, .load false 1 (.slot 28)⟩,
  ⟨some 30, none, .len false (.slot 29)⟩,
  ⟨some 31, none, .bin .sub (.slot 24) (.slot 30)⟩,
  ⟨some 1, none, .mov (.slot 31)⟩]
def q23R6 : List AOper := [⟨some 32, none, .mov (.slot 6)⟩,
  ⟨some 33, none, .bin .add (.slot 32) (.const (.int .i64 1))⟩,
  ⟨some 6, none, .mov (.slot 33)⟩]
def c_merge_Pop_L0 : ACode := (.seq (.seq (.region q23R4 false [0, 1, 6, 23]) (.cond (.slot 23) .skip (.exit 0))) (.block 1 (.seq (.region q23R5 false [0, 1, 6]) (.region q23R6 false [0, 1, 6]))))
def lp_merge_Pop_0 : ACode := .loop [0, 1, 6] c_merge_Pop_L0
def q23R7 : List AOper := [⟨some 34, none, .mov (.slot 0)⟩,
  ⟨some 35, none, .mov (.slot 6)⟩,
  ⟨some 36, none, .mov (.slot 0)⟩,
  ⟨some 37, none, .len false (.slot 36)⟩,
  ⟨some 38, none, .mov (.slot 0)⟩,
  ⟨some 39, none, .len false (.slot 38)⟩,
  ⟨some 40, none, .sl 3 (.slot 34) (some (.slot 35)) (some (.slot 37)) (some (.slot 39))⟩,
  ⟨some 41, none, .call .frz n_merge_copied [(.slot 40)]⟩,
  ⟨some 42, none, .mov (.slot 0)⟩,
  ⟨some 43, none, .mov (.slot 6)⟩,
  ⟨some 44, none, .mov (.slot 6)⟩,
  ⟨some 45, none, .sl 3 (.slot 42) none (some (.slot 43)) (some (.slot 44))⟩,
  ⟨some 46, none, .call .frz n_merge_copied [(.slot 45)]⟩,
  ⟨some 4, none, .mov (.slot 41)⟩,
  ⟨some 5, none, .mov (.slot 46)⟩]
def c_merge_Pop : AFn := ⟨(.seq (.region q23R0 false [0, 1]) (.seq (.seq (.region q23R1 false [0, 1, 9]) (.cond (.slot 9) (.seq (.region q23R2 false [4, 5]) .ret) .skip)) (.seq (.region q23R3 false [0, 1, 6]) (.seq (.block 0 lp_merge_Pop_0) (.seq (.region q23R7 true [4, 5]) .ret))))), [.slot 4, .slot 5]⟩
/- slices.IndexFunc[[]oriel/api.Typed,oriel/api.Typed] -/
def q72R0 : List AOper := [⟨some 4, none, .mov (.const (.int .i64 0))⟩]
def q72R1 : List AOper := [⟨some 6, none, .mov (.slot 0)⟩,
  ⟨some 7, none, .len false (.slot 6)⟩,
  ⟨some 8, none, .mov (.const (.int .i64 0))⟩]
def q72R2 : List AOper := [⟨some 9, none, .bin .lss (.slot 8) (.slot 7)⟩]
def q72R3 : List AOper := [⟨some 10, none, .mov (.slot 8)⟩,
  ⟨some 5, none, .mov (.slot 10)⟩]
def q72R4 : List AOper := [⟨some 11, none, .mov (.slot 1)⟩,
  ⟨some 12, none, .mov (.slot 0)⟩,
  ⟨some 13, none, .mov (.slot 5)⟩,
  ⟨some 14, none, .idx 3 (.slot 12) (.slot 13)⟩,
  ⟨some 15, none, .load true 3 (.slot 14)⟩,
  ⟨some 16, none, .callv (.slot 11) [(.slot 15)]⟩]
def q72R5 : List AOper := [⟨some 17, none, .mov (.slot 5)⟩,
  ⟨some 4, none, .mov (.slot 17)⟩]
def q72R6 : List AOper := [⟨some 18, none, .bin .add (.slot 8) (.const (.int .i64 1))⟩,
  ⟨some 8, none, .mov (.slot 18)⟩]
def c_slices_IndexFunc_Typed_L0 : ACode := (.seq (.region q72R2 false [0, 1, 7, 8, 9]) (.seq (.cond (.slot 9) .skip (.exit 0)) (.seq (.block 1 (.seq (.region q72R3 false [0, 1, 5, 7, 8]) (.seq (.region q72R4 false [0, 1, 5, 7, 8, 16]) (.cond (.slot 16) (.seq (.region q72R5 false [4]) .ret) .skip)))) (.region q72R6 false [0, 1, 7, 8]))))
def lp_slices_IndexFunc_Typed_0 : ACode := .loop [0, 1, 7, 8] c_slices_IndexFunc_Typed_L0
def q72R7 : List AOper := [⟨some 4, none, .mov (.const (.int .i64 (-1)))⟩]
def c_slices_IndexFunc_Typed : AFn := ⟨(.seq (.region q72R0 false [0, 1]) (.seq (.seq (.region q72R1 false [0, 1, 7, 8]) (.block 0 lp_slices_IndexFunc_Typed_0)) (.seq (.region q72R7 false [4]) .ret))), [.slot 4]⟩
/- slices.DeleteFunc[[]oriel/api.Typed,oriel/api.Typed] -/
def q68R0 : List AOper := [⟨some 4, none, .mov (.const (.data false 3 [] true))⟩]
def q68R1 : List AOper := [⟨some 8, none, .mov (.slot 0)⟩,
  ⟨some 9, none, .mov (.slot 1)⟩,
  ⟨some 10, none, .call .inl n_slices_IndexFunc_Typed [(.slot 8), (.slot 9)]⟩,
  ⟨some 5, none, .mov (.slot 10)⟩]
def q68R2 : List AOper := [⟨some 11, none, .mov (.slot 5)⟩,
  ⟨some 12, none, .bin .eql (.slot 11) (.const (.int .i64 (-1)))⟩]
def q68R3 : List AOper := [⟨some 13, none, .mov (.slot 0)⟩,
  ⟨some 4, none, .mov (.slot 13)⟩]
def q68R4 : List AOper := [⟨some 14, none, .mov (.slot 5)⟩,
  ⟨some 15, none, .bin .add (.slot 14) (.const (.int .i64 1))⟩,
  ⟨some 6, none, .mov (.slot 15)⟩]
def q68R5 : List AOper := [⟨some 16, none, .mov (.slot 6)⟩,
  ⟨some 17, none, .mov (.slot 0)⟩,
  ⟨some 18, none, .len false (.slot 17)⟩,
  ⟨some 19, none, .bin .lss (.slot 16) (.slot 18)⟩]
def q68R7 : List AOper := [⟨some 22, none, .mov (.slot 0)⟩,
  ⟨some 23, none, .mov (.slot 6)⟩,
  ⟨some 24, none, .idx 3 (.slot 22) (.slot 23)⟩,
  ⟨some 25, none, .load true 3 (.slot 24)⟩,
  ⟨some 7, none, .alloc [.int .i64 0, .int .i64 0, .data false 1 [] true]⟩,
  ⟨none, none, .store true 3 (.slot 7) (.slot 25)⟩]
def q68R8 : List AOper := [⟨some 26, none, .mov (.slot 1)⟩,
  ⟨some 27, none, .load true 3 (.slot 7)⟩,
  ⟨some 28, none, .callv (.slot 26) [(.slot 27)]⟩,
  ⟨some 29, none, .not (.slot 28)⟩]
def q68R9 : List AOper := [⟨some 30, none, .mov (.slot 0)⟩,
  ⟨some 31, none, .mov (.slot 5)⟩,
  ⟨some 32, none, .load true 3 (.slot 7)⟩,
  ⟨some 33, none, .idx 3 (.slot 30) (.slot 31)⟩,
  ⟨none, none, .store true 3 (.slot 33) (.slot 32)⟩]
def q68R10 : List AOper := [⟨some 34, none, .mov (.slot 5)⟩,
  ⟨some 35, none, .bin .add (.slot 34) (.const (.int .i64 1))⟩,
  ⟨some 5, none, .mov (.slot 35)⟩]
def q68R6 : List AOper := [⟨some 20, none, .mov (.slot 6)⟩,
  ⟨some 21, none, .bin .add (.slot 20) (.const (.int .i64 1))⟩,
  ⟨some 6, none, .mov (.slot 21)⟩]
def c_slices_DeleteFunc_Typed_L0 : ACode := (.seq (.seq (.region q68R5 false [0, 1, 5, 6, 19]) (.cond (.slot 19) .skip (.exit 0))) (.seq (.block 1 (.seq (.region q68R7 false [0, 1, 5, 6, 7]) (.seq (.region q68R8 false [0, 1, 5, 6, 7, 29]) (.cond (.slot 29) (.seq (.region q68R9 false [0, 1, 5, 6]) (.region q68R10 false [0, 1, 5, 6])) .skip)))) (.region q68R6 false [0, 1, 5, 6])))
def lp_slices_DeleteFunc_Typed_0 : ACode := .loop [0, 1, 5, 6] c_slices_DeleteFunc_Typed_L0
def q68R11 : List AOper := [⟨some 36, none, .mov (.slot 0)⟩,
  ⟨some 37, none, .mov (.slot 5)⟩,
  ⟨some 38, none, .sl 3 (.slot 36) (some (.slot 37)) none none⟩,
  ⟨none, none, .clear [.int .i64 0, .int .i64 0, .data false 1 [] true] (.slot 38)⟩]
def q68R12 : List AOper := [⟨some 39, none, .mov (.slot 0)⟩,
  ⟨some 40, none, .mov (.slot 5)⟩,
  ⟨some 41, none, .sl 3 (.slot 39) none (some (.slot 40)) none⟩,
  ⟨some 4, none, .mov (.slot 41)⟩]
def c_slices_DeleteFunc_Typed : AFn := ⟨(.seq (.region q68R0 false [0, 1]) (.seq (.region q68R1 false [0, 1, 5]) (.seq (.seq (.region q68R2 false [0, 1, 5, 12]) (.cond (.slot 12) (.seq (.region q68R3 false [4]) .ret) .skip)) (.seq (.seq (.region q68R4 false [0, 1, 5, 6]) (.block 0 lp_slices_DeleteFunc_Typed_0)) (.seq (.region q68R11 false [0, 5]) (.seq (.region q68R12 false [4]) .ret)))))), [.slot 4]⟩
/- oriel/merge.Drop'1 -/
def q21R0 : List AOper := [⟨some 2, none, .box 3 (.slot 0)⟩,
  ⟨some 3, none, .mov (.const (.bool false))⟩]
def q21R1 : List AOper := [⟨some 4, none, .faddr 0 (.slot 2)⟩,
  ⟨some 5, none, .load false 1 (.slot 4)⟩,
  ⟨some 6, none, .load false 1 (.slot 1)⟩,
  ⟨some 7, none, .bin .eql (.slot 5) (.slot 6)⟩,
  ⟨some 3, none, .mov (.slot 7)⟩]
def c_merge_Drop_1 : AFn := ⟨(.seq (.region q21R0 false [1, 2]) (.seq (.region q21R1 false [3]) .ret)), [.slot 3]⟩
/- oriel/merge.Drop -/
def q20R0 : List AOper := [⟨some 3, none, .box 1 (.slot 1)⟩,
  ⟨some 4, none, .mov (.const (.data false 3 [] true))⟩]
def q20R1 : List AOper := [⟨some 5, none, .mov (.slot 0)⟩,
  ⟨some 6, none, .call .frz n_merge_May [(.slot 5)]⟩,
  ⟨some 7, none, .not (.slot 6)⟩]
def q20R2 : List AOper := [⟨some 4, none, .mov (.const (.data false 3 [] true))⟩]
def q20R3 : List AOper := [⟨some 8, none, .mov (.slot 0)⟩,
  ⟨some 9, none, .call .adp n_merge_copied [(.slot 8)]⟩,
  ⟨some 10, none, .mkfn (.func n_merge_Drop_1) [] [(.slot 3)]⟩,
  ⟨some 11, none, .call .inl n_slices_DeleteFunc_Typed [(.slot 9), (.slot 10)]⟩,
  ⟨some 4, none, .mov (.slot 11)⟩]
def c_merge_Drop : AFn := ⟨(.seq (.region q20R0 false [0, 3]) (.seq (.seq (.region q20R1 false [0, 3, 7]) (.cond (.slot 7) (.seq (.region q20R2 false [4]) .ret) .skip)) (.seq (.region q20R3 false [4]) .ret))), [.slot 4]⟩
/- oriel/oriellaw28.known -/
def q17R0 : List AOper := [⟨some 0, none, .mov (.const (.bool false))⟩]
def q17R1 : List AOper := [⟨some 7, none, .mkslice 1 2 [.int .u8 0] [(0, (.const (.int .u8 97))), (1, (.const (.int .u8 98)))]⟩,
  ⟨some 8, none, .mark (.slot 7)⟩,
  ⟨some 9, none, .build [.int .i64 0, .int .i64 0, .data false 1 [] true] [(0, 1, (.const (.int .i64 3))), (1, 1, (.const (.int .i64 1))), (2, 1, (.slot 8))]⟩,
  ⟨some 10, none, .call .frz n_merge_Push [(.const (.data false 3 [] true)), (.slot 9)]⟩,
  ⟨some 6, none, .mov (.slot 10)⟩,
  ⟨some 11, none, .extract 0 (.slot 6)⟩,
  ⟨some 12, none, .extract 1 (.slot 6)⟩,
  ⟨some 1, none, .mov (.slot 11)⟩,
  ⟨some 2, none, .mov (.slot 12)⟩]
def q17R2 : List AOper := [⟨some 14, none, .mov (.slot 1)⟩,
  ⟨some 15, none, .mkslice 1 1 [.int .u8 0] [(0, (.const (.int .u8 99)))]⟩,
  ⟨some 16, none, .mark (.slot 15)⟩,
  ⟨some 17, none, .build [.int .i64 0, .int .i64 0, .data false 1 [] true] [(0, 1, (.const (.int .i64 5))), (1, 1, (.const (.int .i64 1))), (2, 1, (.slot 16))]⟩,
  ⟨some 18, none, .call .frz n_merge_Push [(.slot 14), (.slot 17)]⟩,
  ⟨some 13, none, .mov (.slot 18)⟩,
  ⟨some 19, none, .extract 0 (.slot 13)⟩,
  ⟨some 20, none, .extract 1 (.slot 13)⟩,
  ⟨some 1, none, .mov (.slot 19)⟩,
  ⟨some 3, none, .mov (.slot 20)⟩]
def q17R3 : List AOper := [⟨some 22, none, .mov (.slot 1)⟩,
  ⟨some 23, none, .call .frz n_merge_Pop [(.slot 22), (.const (.int .i64 2))]⟩,
  ⟨some 21, none, .mov (.slot 23)⟩,
  ⟨some 24, none, .extract 0 (.slot 21)⟩,
  ⟨some 25, none, .extract 1 (.slot 21)⟩,
  ⟨some 4, none, .mov (.slot 24)⟩,
  ⟨some 5, none, .mov (.slot 25)⟩]
def q17R4 : List AOper := ⟨some 26, none, .mov (.slot 2)⟩ ::
  ⟨some 27, none, .mov (.slot 26)⟩ ::
  ⟨some 28, some (27, true), .mov (.slot 3)⟩ ::
  ⟨some 29, none, .pick (.slot 27) (.slot 28) (.const (.bool false))⟩ ::
  ⟨some 30, none, .mov (.slot 29)⟩ ::
  ⟨some 31, some (30, true), .mov (.slot 1)⟩ ::
  ⟨some 32, some (30, true), .call .frz n_merge_Size [(.slot 31)]⟩ ::
  ⟨some 33, some (30, true), .bin .eql (.slot 32) (.const (.int .i64 3))⟩ ::
  ⟨some 34, none, .pick (.slot 30) (.slot 33) (.const (.bool false))⟩ ::
  ⟨some 35, none, .mov (.slot 34)⟩ ::
  ⟨some 36, some (35, true), .mov (.slot 4)⟩ ::
  ⟨some 37, some (35, true), .len false (.slot 36)⟩ ::
  ⟨some 38, some (35, true), .bin .eql (.slot 37) (.const (.int .i64 1))⟩ ::
  ⟨some 39, none, .pick (.slot 35) (.slot 38) (.const (.bool false))⟩ ::
  ⟨some 40, none, .mov (.slot 39)⟩ ::
  ⟨some 41, some (40, true), .mov (.slot 5)⟩ ::
  ⟨some 42, some (40, true), .len false (.slot 41)⟩ ::
  ⟨some 43, some (40, true), .bin .eql (.slot 42) (.const (.int .i64 1))⟩ ::
  ⟨some 44, none, .pick (.slot 40) (.slot 43) (.const (.bool false))⟩ ::
  ⟨some 45, none, .mov (.slot 44)⟩ ::
  ⟨some 46, some (45, true), .mov (.slot 5)⟩ ::
  ⟨some 47, some (45, true), .idx 3 (.slot 46) (.const (.int .i64 0))⟩ ::
  ⟨some 48, some (45, true), .faddr 2 (.slot 47)⟩ ::
  ⟨some 49, some (45, true), .load false 1 (.slot 48)⟩ ::
  ⟨some 50, some (45, true), .bstr (.slot 49)⟩ ::
  ⟨some 51, some (45, true), .eq false [.ks] false (.slot 50) (.const (.str ⟨#[97, 98]⟩))⟩ ::
  ⟨some 52, none, .pick (.slot 45) (.slot 51) (.const (.bool false))⟩ ::
  ⟨some 53, none, .mov (.slot 52)⟩ ::
  ⟨some 54, some (53, true), .mov (.slot 1)⟩ ::
  ⟨some 55, some (53, true), .call .frz n_merge_Drop [(.slot 54), (.const (.int .i64 3))]⟩ ::
  ⟨some 56, some (53, true), .len false (.slot 55)⟩ ::
  ⟨some 57, some (53, true), .bin .eql (.slot 56) (.const (.int .i64 1))⟩ ::
  ⟨some 58, none, .pick (.slot 53) (.slot 57) (.const (.bool false))⟩ ::
  ⟨some 0, none, .mov (.slot 58)⟩ :: []
def c_law28_known : AFn := ⟨(.seq (.region q17R0 false []) (.seq (.region q17R1 false [1, 2]) (.seq (.region q17R2 false [1, 2, 3]) (.seq (.region q17R3 false [1, 2, 3, 4, 5]) (.seq (.region q17R4 false [0]) .ret))))), [.slot 0]⟩
/- oriel/oriellaw28.great -/
def q16R0 : List AOper := [⟨some 2, none, .mov (.const (.bool false))⟩]
def q16R1 : List AOper := [⟨some 4, none, .mov (.slot 0)⟩,
  ⟨some 5, none, .len false (.slot 4)⟩,
  ⟨some 6, none, .bin .gtr (.slot 5) (.const (.int .i64 100))⟩]
def q16R2 : List AOper := [⟨some 2, none, .mov (.const (.bool true))⟩]
def q16R3 : List AOper := [⟨some 3, none, .mov (.const (.int .i64 0))⟩]
def q16R4 : List AOper := [⟨some 7, none, .mov (.slot 3)⟩,
  ⟨some 8, none, .mov (.slot 0)⟩,
  ⟨some 9, none, .len false (.slot 8)⟩,
  ⟨some 10, none, .bin .lss (.slot 7) (.slot 9)⟩]
def q16R6 : List AOper := [⟨some 13, none, .mov (.slot 0)⟩,
  ⟨some 14, none, .mov (.slot 3)⟩,
  ⟨some 15, none, .idx 3 (.slot 13) (.slot 14)⟩,
  ⟨some 16, none, .faddr 2 (.slot 15)⟩,
  ⟨some 17, none, .load false 1 (.slot 16)⟩,
  ⟨some 18, none, .len false (.slot 17)⟩,
  ⟨some 19, none, .bin .gtr (.slot 18) (.const (.int .i64 100))⟩]
def q16R7 : List AOper := [⟨some 2, none, .mov (.const (.bool true))⟩]
def q16R5 : List AOper := [⟨some 11, none, .mov (.slot 3)⟩,
  ⟨some 12, none, .bin .add (.slot 11) (.const (.int .i64 1))⟩,
  ⟨some 3, none, .mov (.slot 12)⟩]
def c_law28_great_L0 : ACode := (.seq (.seq (.region q16R4 false [0, 3, 10]) (.cond (.slot 10) .skip (.exit 0))) (.seq (.block 1 (.seq (.region q16R6 false [0, 3, 19]) (.cond (.slot 19) (.seq (.region q16R7 false [2]) .ret) .skip))) (.region q16R5 false [0, 3])))
def lp_law28_great_0 : ACode := .loop [0, 3] c_law28_great_L0
def q16R8 : List AOper := [⟨some 2, none, .mov (.const (.bool false))⟩]
def c_law28_great : AFn := ⟨(.seq (.region q16R0 false [0]) (.seq (.seq (.region q16R1 false [0, 6]) (.cond (.slot 6) (.seq (.region q16R2 false [2]) .ret) .skip)) (.seq (.seq (.region q16R3 false [0, 3]) (.block 0 lp_law28_great_0)) (.seq (.region q16R8 false [2]) .ret)))), [.slot 2]⟩
/- oriel/orielref28.Size -/
def q50R0 : List AOper := [⟨some 2, none, .mov (.const (.int .i64 0))⟩]
def q50R1 : List AOper := [⟨some 3, none, .mov (.const (.int .i64 0))⟩]
def q50R2 : List AOper := [⟨some 4, none, .mov (.const (.int .i64 0))⟩]
def q50R3 : List AOper := [⟨some 5, none, .mov (.slot 4)⟩,
  ⟨some 6, none, .mov (.slot 0)⟩,
  ⟨some 7, none, .len false (.slot 6)⟩,
  ⟨some 8, none, .bin .lss (.slot 5) (.slot 7)⟩]
def q50R5 : List AOper := [⟨some 11, none, .mov (.slot 3)⟩,
  ⟨some 12, none, .mov (.slot 0)⟩,
  ⟨some 13, none, .mov (.slot 4)⟩,
  ⟨some 14, none, .idx 3 (.slot 12) (.slot 13)⟩,
  ⟨some 15, none, .faddr 2 (.slot 14)⟩,
  ⟨some 16, none, .load false 1 (.slot 15)⟩,
  ⟨some 17, none, .len false (.slot 16)⟩,
  ⟨some 18, none, .bin .add (.slot 11) (.slot 17)⟩,
  ⟨some 3, none, .mov (.slot 18)⟩]
def q50R4 : List AOper := [⟨some 9, none, .mov (.slot 4)⟩,
  ⟨some 10, none, .bin .add (.slot 9) (.const (.int .i64 1))⟩,
  ⟨some 4, none, .mov (.slot 10)⟩]
def c_ref28_Size_L0 : ACode := (.seq (.seq (.region q50R3 false [0, 3, 4, 8]) (.cond (.slot 8) .skip (.exit 0))) (.seq (.block 1 (.region q50R5 false [0, 3, 4])) (.region q50R4 false [0, 3, 4])))
def lp_ref28_Size_0 : ACode := .loop [0, 3, 4] c_ref28_Size_L0
def q50R6 : List AOper := [⟨some 19, none, .mov (.slot 3)⟩,
  ⟨some 2, none, .mov (.slot 19)⟩]
def c_ref28_Size : AFn := ⟨(.seq (.region q50R0 false [0]) (.seq (.region q50R1 false [0, 3]) (.seq (.seq (.region q50R2 false [0, 3, 4]) (.block 0 lp_ref28_Size_0)) (.seq (.region q50R6 false [2]) .ret)))), [.slot 2]⟩
/- oriel/orielref28.Piece -/
def q48R0 : List AOper := [⟨some 1, none, .box 3 (.slot 0)⟩,
  ⟨some 2, none, .mov (.const (.bool false))⟩]
def q48R1 : List AOper := ⟨some 3, none, .faddr 0 (.slot 1)⟩ ::
  ⟨some 4, none, .load false 1 (.slot 3)⟩ ::
  ⟨some 5, none, .bin .gtr (.slot 4) (.const (.int .i64 0))⟩ ::
  ⟨some 6, none, .mov (.slot 5)⟩ ::
  ⟨some 7, some (6, true), .faddr 0 (.slot 1)⟩ ::
  ⟨some 8, some (6, true), .load false 1 (.slot 7)⟩ ::
  ⟨some 9, some (6, true), .bin .lss (.slot 8) (.const (.int .i64 9))⟩ ::
  ⟨some 10, none, .pick (.slot 6) (.slot 9) (.const (.bool false))⟩ ::
  ⟨some 11, none, .mov (.slot 10)⟩ ::
  ⟨some 12, some (11, true), .faddr 1 (.slot 1)⟩ ::
  ⟨some 13, some (11, true), .load false 1 (.slot 12)⟩ ::
  ⟨some 14, some (11, true), .bin .gtr (.slot 13) (.const (.int .i64 0))⟩ ::
  ⟨some 15, none, .pick (.slot 11) (.slot 14) (.const (.bool false))⟩ ::
  ⟨some 16, none, .mov (.slot 15)⟩ ::
  ⟨some 17, some (16, true), .faddr 1 (.slot 1)⟩ ::
  ⟨some 18, some (16, true), .load false 1 (.slot 17)⟩ ::
  ⟨some 19, some (16, true), .bin .leq (.slot 18) (.const (.int .i64 1073741824))⟩ ::
  ⟨some 20, none, .pick (.slot 16) (.slot 19) (.const (.bool false))⟩ ::
  ⟨some 21, none, .mov (.slot 20)⟩ ::
  ⟨some 22, some (21, true), .faddr 2 (.slot 1)⟩ ::
  ⟨some 23, some (21, true), .load false 1 (.slot 22)⟩ ::
  ⟨some 24, some (21, true), .len false (.slot 23)⟩ ::
  ⟨some 25, some (21, true), .bin .gtr (.slot 24) (.const (.int .i64 0))⟩ ::
  ⟨some 26, none, .pick (.slot 21) (.slot 25) (.const (.bool false))⟩ ::
  ⟨some 27, none, .mov (.slot 26)⟩ ::
  ⟨some 28, some (27, true), .faddr 2 (.slot 1)⟩ ::
  ⟨some 29, some (27, true), .load false 1 (.slot 28)⟩ ::
  ⟨some 30, some (27, true), .len false (.slot 29)⟩ ::
  ⟨some 31, some (27, true), .bin .lss (.slot 30) (.const (.int .i64 17))⟩ ::
  ⟨some 32, none, .pick (.slot 27) (.slot 31) (.const (.bool false))⟩ ::
  ⟨some 2, none, .mov (.slot 32)⟩ :: []
def c_ref28_Piece : AFn := ⟨(.seq (.region q48R0 false [1]) (.seq (.region q48R1 false [2]) .ret)), [.slot 2]⟩
/- oriel/orielref28.May -/
def q47R0 : List AOper := [⟨some 2, none, .mov (.const (.bool false))⟩]
def q47R1 : List AOper := [⟨some 3, none, .mov (.const (.int .i64 0))⟩]
def q47R2 : List AOper := [⟨some 4, none, .mov (.slot 3)⟩,
  ⟨some 5, none, .mov (.slot 0)⟩,
  ⟨some 6, none, .len false (.slot 5)⟩,
  ⟨some 7, none, .bin .lss (.slot 4) (.slot 6)⟩]
def q47R4 : List AOper := [⟨some 10, none, .mov (.slot 0)⟩,
  ⟨some 11, none, .mov (.slot 3)⟩,
  ⟨some 12, none, .idx 3 (.slot 10) (.slot 11)⟩,
  ⟨some 13, none, .load true 3 (.slot 12)⟩,
  ⟨some 14, none, .call .frz n_ref28_Piece [(.slot 13)]⟩,
  ⟨some 15, none, .not (.slot 14)⟩]
def q47R5 : List AOper := [⟨some 2, none, .mov (.const (.bool false))⟩]
def q47R3 : List AOper := [⟨some 8, none, .mov (.slot 3)⟩,
  ⟨some 9, none, .bin .add (.slot 8) (.const (.int .i64 1))⟩,
  ⟨some 3, none, .mov (.slot 9)⟩]
def c_ref28_May_L0 : ACode := (.seq (.seq (.region q47R2 false [0, 3, 7]) (.cond (.slot 7) .skip (.exit 0))) (.seq (.block 1 (.seq (.region q47R4 false [0, 3, 15]) (.cond (.slot 15) (.seq (.region q47R5 false [2]) .ret) .skip))) (.region q47R3 false [0, 3])))
def lp_ref28_May_0 : ACode := .loop [0, 3] c_ref28_May_L0
def q47R6 : List AOper := [⟨some 16, none, .mov (.slot 0)⟩,
  ⟨some 17, none, .call .frz n_ref28_Size [(.slot 16)]⟩,
  ⟨some 18, none, .bin .leq (.slot 17) (.const (.int .i64 64))⟩,
  ⟨some 2, none, .mov (.slot 18)⟩]
def c_ref28_May : AFn := ⟨(.seq (.region q47R0 false [0]) (.seq (.seq (.region q47R1 false [0, 3]) (.block 0 lp_ref28_May_0)) (.seq (.region q47R6 false [2]) .ret))), [.slot 2]⟩
/- oriel/merge.Bytes'1 -/
def q19R0 : List AOper := [⟨some 7, none, .load false 1 (.slot 1)⟩,
  ⟨some 8, none, .call .frz n_merge_May [(.slot 7)]⟩,
  ⟨some 9, none, .not (.slot 8)⟩]
def q19R1 : List AOper := [⟨some 10, none, .load false 1 (.slot 1)⟩,
  ⟨some 11, none, .len false (.slot 10)⟩,
  ⟨some 12, none, .mov (.const (.int .i64 0))⟩]
def q19R2 : List AOper := [⟨some 13, none, .bin .lss (.slot 12) (.slot 11)⟩]
def q19R3 : List AOper := [⟨some 14, none, .idx 3 (.slot 10) (.slot 12)⟩,
  ⟨some 15, none, .load true 3 (.slot 14)⟩,
  ⟨some 4, none, .alloc [.int .i64 0, .int .i64 0, .data false 1 [] true]⟩,
  ⟨none, none, .store true 3 (.slot 4) (.slot 15)⟩]
def q19R4 : List AOper := [⟨some 16, none, .faddr 2 (.slot 4)⟩,
  ⟨some 17, none, .load false 1 (.slot 16)⟩,
  ⟨some 18, none, .len false (.slot 17)⟩,
  ⟨some 19, none, .mov (.const (.int .i64 0))⟩]
def q19R5 : List AOper := [⟨some 20, none, .bin .lss (.slot 19) (.slot 18)⟩]
def q19R6 : List AOper := [⟨some 21, none, .idx 1 (.slot 17) (.slot 19)⟩,
  ⟨some 22, none, .load false 1 (.slot 21)⟩,
  ⟨some 6, none, .mov (.slot 22)⟩]
def q19R7 : List AOper := [⟨some 23, none, .mov (.slot 0)⟩,
  ⟨some 24, none, .faddr 0 (.slot 4)⟩,
  ⟨some 25, none, .load false 1 (.slot 24)⟩,
  ⟨some 26, none, .mov (.slot 6)⟩,
  ⟨some 27, none, .callv (.slot 23) [(.slot 25), (.slot 26)]⟩,
  ⟨some 28, none, .not (.slot 27)⟩]
def q19R8 : List AOper := [⟨some 29, none, .bin .add (.slot 19) (.const (.int .i64 1))⟩,
  ⟨some 19, none, .mov (.slot 29)⟩]
def c_merge_Bytes_1_L1 : ACode := (.seq (.region q19R5 false [0, 4, 10, 11, 12, 17, 18, 19, 20]) (.seq (.cond (.slot 20) .skip (.exit 2)) (.seq (.block 3 (.seq (.region q19R6 false [0, 4, 6, 10, 11, 12, 17, 18, 19]) (.seq (.region q19R7 false [0, 4, 10, 11, 12, 17, 18, 19, 28]) (.cond (.slot 28) .ret .skip)))) (.region q19R8 false [0, 4, 10, 11, 12, 17, 18, 19]))))
def lp_merge_Bytes_1_1 : ACode := .loop [0, 4, 10, 11, 12, 17, 18, 19] c_merge_Bytes_1_L1
def q19R9 : List AOper := [⟨some 30, none, .bin .add (.slot 12) (.const (.int .i64 1))⟩,
  ⟨some 12, none, .mov (.slot 30)⟩]
def c_merge_Bytes_1_L0 : ACode := (.seq (.region q19R2 false [0, 10, 11, 12, 13]) (.seq (.cond (.slot 13) .skip (.exit 0)) (.seq (.block 1 (.seq (.region q19R3 false [0, 4, 10, 11, 12]) (.seq (.region q19R4 false [0, 4, 10, 11, 12, 17, 18, 19]) (.block 2 lp_merge_Bytes_1_1)))) (.region q19R9 false [0, 10, 11, 12]))))
def lp_merge_Bytes_1_0 : ACode := .loop [0, 10, 11, 12] c_merge_Bytes_1_L0
def c_merge_Bytes_1 : AFn := ⟨(.seq (.seq (.region q19R0 false [0, 1, 9]) (.cond (.slot 9) .ret .skip)) (.seq (.region q19R1 false [0, 10, 11, 12]) (.block 0 lp_merge_Bytes_1_0))), []⟩
/- oriel/merge.Bytes -/
def q18R0 : List AOper := [⟨some 1, none, .box 1 (.slot 0)⟩,
  ⟨some 2, none, .mov (.const .nilfn)⟩]
def q18R1 : List AOper := [⟨some 3, none, .mkfn (.func n_merge_Bytes_1) [] [(.slot 1)]⟩,
  ⟨some 2, none, .mov (.slot 3)⟩]
def c_merge_Bytes : AFn := ⟨(.seq (.region q18R0 false [1]) (.seq (.region q18R1 false [2]) .ret)), [.slot 2]⟩
/- oriel/oriellaw28.MergeBytes -/
def q12R0 : List AOper := [⟨some 3, none, .box 1 (.slot 1)⟩,
  ⟨some 4, none, .alloc [.bool false]⟩]
def q12R1 : List AOper := [⟨some 14, none, .call .frz n_law28_known []⟩,
  ⟨some 15, none, .not (.slot 14)⟩]
def q12R2 : List AOper := [⟨none, none, .store false 1 (.slot 4) (.const (.bool false))⟩]
def q12R3 : List AOper := [⟨some 16, none, .mov (.slot 0)⟩,
  ⟨some 17, none, .call .frz n_law28_great [(.slot 16)]⟩]
def q12R4 : List AOper := [⟨none, none, .store false 1 (.slot 4) (.const (.bool true))⟩]
def q12R5 : List AOper := [⟨some 18, none, .mov (.slot 0)⟩,
  ⟨some 19, none, .call .inl n_merge_Bytes [(.slot 18)]⟩,
  ⟨some 5, none, .mov (.slot 19)⟩]
def q12R6 : List AOper := [⟨some 20, none, .mov (.slot 5)⟩,
  ⟨some 21, none, .isnil .kf false (.slot 20)⟩]
def q12R7 : List AOper := [⟨none, none, .store false 1 (.slot 4) (.const (.bool false))⟩]
def q12R8 : List AOper := [⟨some 6, none, .alloc [.data false 1 [] true]⟩]
def q12R9 : List AOper := [⟨some 7, none, .alloc [.data false 1 [] true]⟩]
def q12R10 : List AOper := [⟨some 8, none, .mov (.const (.int .i64 0))⟩]
def q12R11 : List AOper := [⟨some 22, none, .mov (.slot 8)⟩,
  ⟨some 23, none, .mov (.slot 0)⟩,
  ⟨some 24, none, .len false (.slot 23)⟩,
  ⟨some 25, none, .bin .lss (.slot 22) (.slot 24)⟩,
  ⟨some 26, none, .mov (.slot 25)⟩,
  ⟨some 27, some (26, true), .mov (.slot 0)⟩,
  ⟨some 28, some (26, true), .call .frz n_ref28_May [(.slot 27)]⟩,
  ⟨some 29, none, .pick (.slot 26) (.slot 28) (.const (.bool false))⟩]
def q12R13 : List AOper := [⟨some 9, none, .mov (.const (.int .i64 0))⟩]
def q12R14 : List AOper := [⟨some 32, none, .mov (.slot 9)⟩,
  ⟨some 33, none, .mov (.slot 0)⟩,
  ⟨some 34, none, .mov (.slot 8)⟩,
  ⟨some 35, none, .idx 3 (.slot 33) (.slot 34)⟩,
  ⟨some 36, none, .faddr 2 (.slot 35)⟩,
  ⟨some 37, none, .load false 1 (.slot 36)⟩,
  ⟨some 38, none, .len false (.slot 37)⟩,
  ⟨some 39, none, .bin .lss (.slot 32) (.slot 38)⟩]
def q12R16 : List AOper := [⟨some 42, none, .load false 1 (.slot 6)⟩,
  ⟨some 43, none, .mov (.slot 0)⟩,
  ⟨some 44, none, .mov (.slot 8)⟩,
  ⟨some 45, none, .idx 3 (.slot 43) (.slot 44)⟩,
  ⟨some 46, none, .faddr 0 (.slot 45)⟩,
  ⟨some 47, none, .load false 1 (.slot 46)⟩,
  ⟨some 48, none, .mkslice 1 1 [.int .i64 0] [(0, (.slot 47))]⟩,
  ⟨some 49, none, .append 1 8 (.slot 42) (.slot 48)⟩,
  ⟨none, none, .store false 1 (.slot 6) (.slot 49)⟩]
def q12R17 : List AOper := [⟨some 50, none, .load false 1 (.slot 7)⟩,
  ⟨some 51, none, .mov (.slot 0)⟩,
  ⟨some 52, none, .mov (.slot 8)⟩,
  ⟨some 53, none, .idx 3 (.slot 51) (.slot 52)⟩,
  ⟨some 54, none, .faddr 2 (.slot 53)⟩,
  ⟨some 55, none, .load false 1 (.slot 54)⟩,
  ⟨some 56, none, .mov (.slot 9)⟩,
  ⟨some 57, none, .idx 1 (.slot 55) (.slot 56)⟩,
  ⟨some 58, none, .load false 1 (.slot 57)⟩,
  ⟨some 59, none, .mkslice 1 1 [.int .u8 0] [(0, (.slot 58))]⟩,
  ⟨some 60, none, .append 1 1 (.slot 50) (.slot 59)⟩,
  ⟨none, none, .store false 1 (.slot 7) (.slot 60)⟩]
def q12R15 : List AOper := [⟨some 40, none, .mov (.slot 9)⟩,
  ⟨some 41, none, .bin .add (.slot 40) (.const (.int .i64 1))⟩,
  ⟨some 9, none, .mov (.slot 41)⟩]
def c_law28_MergeBytes_L1 : ACode := (.seq (.seq (.region q12R14 false [0, 3, 4, 5, 6, 7, 8, 9, 39]) (.cond (.slot 39) .skip (.exit 2))) (.seq (.block 3 (.seq (.region q12R16 true [0, 3, 4, 5, 6, 7, 8, 9]) (.region q12R17 true [0, 3, 4, 5, 6, 7, 8, 9]))) (.region q12R15 false [0, 3, 4, 5, 6, 7, 8, 9])))
def lp_law28_MergeBytes_1 : ACode := .loop [0, 3, 4, 5, 6, 7, 8, 9] c_law28_MergeBytes_L1
def q12R12 : List AOper := [⟨some 30, none, .mov (.slot 8)⟩,
  ⟨some 31, none, .bin .add (.slot 30) (.const (.int .i64 1))⟩,
  ⟨some 8, none, .mov (.slot 31)⟩]
def c_law28_MergeBytes_L0 : ACode := (.seq (.seq (.region q12R11 false [0, 3, 4, 5, 6, 7, 8, 29]) (.cond (.slot 29) .skip (.exit 0))) (.seq (.block 1 (.seq (.region q12R13 false [0, 3, 4, 5, 6, 7, 8, 9]) (.block 2 lp_law28_MergeBytes_1))) (.region q12R12 false [0, 3, 4, 5, 6, 7, 8])))
def lp_law28_MergeBytes_0 : ACode := .loop [0, 3, 4, 5, 6, 7, 8] c_law28_MergeBytes_L0
def q12R18 : List AOper := [⟨some 10, none, .alloc [.int .i64 0]⟩,
  ⟨none, none, .store false 1 (.slot 10) (.const (.int .i64 0))⟩]
def q12R19 : List AOper := [⟨some 61, none, .load false 1 (.slot 10)⟩,
  ⟨some 62, none, .bin .lss (.slot 61) (.const (.int .i64 2))⟩]
def q12R21 : List AOper := [⟨some 11, none, .alloc [.int .i64 0]⟩,
  ⟨none, none, .store false 1 (.slot 11) (.const (.int .i64 0))⟩]
def q12R22 : List AOper := [⟨some 65, none, .mov (.slot 5)⟩]
def q12R23 : List AOper := [⟨some 12, none, .mov (.slot 66)⟩]
def q12R24 : List AOper := [⟨some 13, none, .mov (.slot 67)⟩]
def q12R25 : List AOper := [⟨some 68, none, .load false 1 (.slot 11)⟩,
  ⟨some 69, none, .load false 1 (.slot 6)⟩,
  ⟨some 70, none, .len false (.slot 69)⟩,
  ⟨some 71, none, .bin .geq (.slot 68) (.slot 70)⟩,
  ⟨some 72, none, .mov (.slot 71)⟩,
  ⟨some 73, some (72, false), .mov (.slot 12)⟩,
  ⟨some 74, some (72, false), .load false 1 (.slot 6)⟩,
  ⟨some 75, some (72, false), .load false 1 (.slot 11)⟩,
  ⟨some 76, some (72, false), .idx 1 (.slot 74) (.slot 75)⟩,
  ⟨some 77, some (72, false), .load false 1 (.slot 76)⟩,
  ⟨some 78, some (72, false), .bin .neq (.slot 73) (.slot 77)⟩,
  ⟨some 79, none, .pick (.slot 72) (.const (.bool true)) (.slot 78)⟩,
  ⟨some 80, none, .mov (.slot 79)⟩,
  ⟨some 81, some (80, false), .mov (.slot 13)⟩,
  ⟨some 82, some (80, false), .load false 1 (.slot 7)⟩,
  ⟨some 83, some (80, false), .load false 1 (.slot 11)⟩,
  ⟨some 84, some (80, false), .idx 1 (.slot 82) (.slot 83)⟩,
  ⟨some 85, some (80, false), .load false 1 (.slot 84)⟩,
  ⟨some 86, some (80, false), .bin .neq (.slot 81) (.slot 85)⟩,
  ⟨some 87, none, .pick (.slot 80) (.const (.bool true)) (.slot 86)⟩]
def q12R26 : List AOper := [⟨none, none, .store false 1 (.slot 4) (.const (.bool false))⟩]
def q12R27 : List AOper := [⟨some 88, none, .load false 1 (.slot 11)⟩,
  ⟨some 89, none, .bin .add (.slot 88) (.const (.int .i64 1))⟩,
  ⟨none, none, .store false 1 (.slot 11) (.slot 89)⟩]
def q12R28 : List AOper := [⟨some 90, none, .load false 1 (.slot 10)⟩,
  ⟨some 91, none, .bin .eql (.slot 90) (.const (.int .i64 0))⟩,
  ⟨some 92, none, .mov (.slot 91)⟩,
  ⟨some 93, some (92, true), .load false 1 (.slot 11)⟩,
  ⟨some 94, some (92, true), .load false 1 (.slot 3)⟩,
  ⟨some 95, some (92, true), .bin .geq (.slot 93) (.slot 94)⟩,
  ⟨some 96, none, .pick (.slot 92) (.slot 95) (.const (.bool false))⟩]
def rb_law28_MergeBytes_body : ACode := (.block 7 (.seq (.seq (.region q12R25 false [3, 4, 5, 6, 7, 10, 11, 65, 87]) (.cond (.slot 87) (.seq (.region q12R26 false [4]) .ret) .skip)) (.seq (.region q12R27 false [3, 4, 5, 6, 7, 10, 11, 65]) (.seq (.region q12R28 false [3, 4, 5, 6, 7, 10, 11, 65, 96]) (.cond (.slot 96) (.exit 6) .skip)))))
def q12R29 : List AOper := [⟨some 97, none, .load false 1 (.slot 10)⟩,
  ⟨some 98, none, .bin .eql (.slot 97) (.const (.int .i64 1))⟩,
  ⟨some 99, none, .mov (.slot 98)⟩,
  ⟨some 100, some (99, true), .load false 1 (.slot 11)⟩,
  ⟨some 101, some (99, true), .load false 1 (.slot 6)⟩,
  ⟨some 102, some (99, true), .len false (.slot 101)⟩,
  ⟨some 103, some (99, true), .bin .neq (.slot 100) (.slot 102)⟩,
  ⟨some 104, none, .pick (.slot 99) (.slot 103) (.const (.bool false))⟩]
def q12R30 : List AOper := [⟨none, none, .store false 1 (.slot 4) (.const (.bool false))⟩]
def q12R31 : List AOper := [⟨some 105, none, .load false 1 (.slot 10)⟩]
def q12R32 : List AOper := [⟨some 10, none, .alloc [.int .i64 0]⟩,
  ⟨none, none, .store false 1 (.slot 10) (.slot 105)⟩]
def q12R20 : List AOper := [⟨some 63, none, .load false 1 (.slot 10)⟩,
  ⟨some 64, none, .bin .add (.slot 63) (.const (.int .i64 1))⟩,
  ⟨none, none, .store false 1 (.slot 10) (.slot 64)⟩]
def c_law28_MergeBytes_L2 : ACode := (.seq (.seq (.region q12R19 false [3, 4, 5, 6, 7, 10, 62]) (.cond (.slot 62) .skip (.exit 4))) (.seq (.block 5 (.seq (.region q12R21 false [3, 4, 5, 6, 7, 10, 11]) (.seq (.seq (.region q12R22 false [3, 4, 5, 6, 7, 10, 11, 65]) (.block 6 .dead)) (.seq (.region q12R29 false [3, 4, 5, 6, 7, 10, 104]) (.cond (.slot 104) (.seq (.region q12R30 false [4]) .ret) .skip))))) (.seq (.seq (.region q12R31 false [3, 4, 5, 6, 7, 105]) (.region q12R32 false [3, 4, 5, 6, 7, 10])) (.region q12R20 false [3, 4, 5, 6, 7, 10]))))
def lp_law28_MergeBytes_2 : ACode := .loop [3, 4, 5, 6, 7, 10] c_law28_MergeBytes_L2
def q12R33 : List AOper := [⟨none, none, .store false 1 (.slot 4) (.const (.bool true))⟩]
def c_law28_MergeBytes : AFn := ⟨(.seq (.region q12R0 false [0, 3, 4]) (.seq (.seq (.region q12R1 false [0, 3, 4, 15]) (.cond (.slot 15) (.seq (.region q12R2 false [4]) .ret) .skip)) (.seq (.seq (.region q12R3 false [0, 3, 4, 17]) (.cond (.slot 17) (.seq (.region q12R4 false [4]) .ret) .skip)) (.seq (.region q12R5 false [0, 3, 4, 5]) (.seq (.seq (.region q12R6 false [0, 3, 4, 5, 21]) (.cond (.slot 21) (.seq (.region q12R7 false [4]) .ret) .skip)) (.seq (.region q12R8 false [0, 3, 4, 5, 6]) (.seq (.region q12R9 false [0, 3, 4, 5, 6, 7]) (.seq (.seq (.region q12R10 false [0, 3, 4, 5, 6, 7, 8]) (.block 0 lp_law28_MergeBytes_0)) (.seq (.seq (.region q12R18 false [3, 4, 5, 6, 7, 10]) (.block 4 lp_law28_MergeBytes_2)) (.seq (.region q12R33 false [4]) .ret)))))))))), [.cell 4 false 1]⟩
/-- The seat's functions. -/
def FT : Nat → Option AEnt
  | 56 => some (.fn c_merge_piece)
  | 20 => some (.fn c_merge_May)
  | 23 => some (.ext (extSize))
  | 83 => some (.ext (extClone 1))
  | 55 => some (.fn c_merge_copied)
  | 17 => some (.fn c_merge_Push)
  | 18 => some (.fn c_merge_Pop)
  | 84 => some (.fn c_slices_IndexFunc_Typed)
  | 57 => some (.fn c_slices_DeleteFunc_Typed)
  | 58 => some (.fn c_merge_Drop_1)
  | 19 => some (.fn c_merge_Drop)
  | 14 => some (.fn c_law28_known)
  | 15 => some (.fn c_law28_great)
  | 25 => some (.fn c_ref28_Size)
  | 27 => some (.fn c_ref28_Piece)
  | 21 => some (.fn c_ref28_May)
  | 59 => some (.fn c_merge_Bytes_1)
  | 28 => some (.fn c_merge_Bytes)
  | 4 => some (.fn c_law28_MergeBytes)
  | _ => none
variable (G : Nat → Option (List AV)) (args : List AV) (h : List ARow)
theorem run_law28_great : aR G FT n_law28_great args h = (aE G FT h.length c_law28_great.body ⟨aenter args, h⟩).bind (afinish c_law28_great.res) := y_fn G FT rfl args h
theorem run_ref28_Size : aR G FT n_ref28_Size args h = (aE G FT h.length c_ref28_Size.body ⟨aenter args, h⟩).bind (afinish c_ref28_Size.res) := y_fn G FT rfl args h
theorem run_ref28_Piece : aR G FT n_ref28_Piece args h = (aE G FT h.length c_ref28_Piece.body ⟨aenter args, h⟩).bind (afinish c_ref28_Piece.res) := y_fn G FT rfl args h
theorem run_ref28_May : aR G FT n_ref28_May args h = (aE G FT h.length c_ref28_May.body ⟨aenter args, h⟩).bind (afinish c_ref28_May.res) := y_fn G FT rfl args h
theorem run_merge_Bytes : aR G FT n_merge_Bytes args h = (aE G FT h.length c_merge_Bytes.body ⟨aenter args, h⟩).bind (afinish c_merge_Bytes.res) := y_fn G FT rfl args h
end Go.Proofs.Ytfnonledcniojaa
