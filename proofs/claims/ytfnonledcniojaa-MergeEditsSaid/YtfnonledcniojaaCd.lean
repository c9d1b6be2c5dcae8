/- The small machine's code of the seat's functions. Conditions: none. -/
import Derived.Test.YtfnonledcniojaaM3
set_option linter.unusedVariables false
set_option linter.unusedSimpArgs false
set_option linter.unusedSectionVars false
namespace Go.Proofs.Ytfnonledcniojaa
open Go

def n_bytes_Clone : Nat := 83
def n_law28_great : Nat := 15
def n_law28_known : Nat := 14
def n_merge_Drop : Nat := 19
def n_merge_Drop_1 : Nat := 58
def n_merge_May : Nat := 20
def n_merge_Pop : Nat := 18
def n_merge_Push : Nat := 17
def n_merge_Size : Nat := 23
def n_merge_copied : Nat := 55
def n_merge_piece : Nat := 56
def n_ref28_Copy : Nat := 16
def n_ref28_Drop : Nat := 26
def n_ref28_First : Nat := 24
def n_ref28_May : Nat := 21
def n_ref28_Piece : Nat := 27
def n_ref28_Same : Nat := 22
def n_ref28_Size : Nat := 25
def n_slices_DeleteFunc_Typed : Nat := 57
def n_slices_IndexFunc_Typed : Nat := 84
/- oriel/merge.piece -/
def q27R0 : List AOper := [⟨some 1, none, .box 3 (.slot 0)⟩,
  ⟨some 2, none, .mov (.const (.bool false))⟩]
def q27R1 : List AOper := ⟨some 3, none, .faddr 0 (.slot 1)⟩ ::
  ⟨some 4, none, .load false 1 (.slot 3)⟩ ::
  ⟨some 5, none, .bin .geq (.slot 4) (.const (.int .i64 1))⟩ ::
  ⟨some 6, none, .mov (.slot 5)⟩ ::
  ⟨some 7, some (6, true), .faddr 0 (.slot 1)⟩ ::
  ⟨some 8, some (6, true), .load false 1 (.slot 7)⟩ ::
  ⟨some 9, some (6, true), .bin .leq (.slot 8) (.const (.int .i64 8))⟩ ::
  ⟨some 10, none, .pick (.slot 6) (.slot 9) (.const (.bool false))⟩ ::
  ⟨some 11, none, .mov (.slot 10)⟩ ::
  ⟨some 12, some (11, true), .faddr 1 (.slot 1)⟩ ::
  ⟨some 13, some (11, true), .load false 1 (.slot 12)⟩ ::
  ⟨some 14, some (11, true), .bin .geq (.slot 13) (.const (.int .i64 1))⟩ ::
  ⟨some 15, none, .pick (.slot 11) (.slot 14) (.const (.bool false))⟩ ::
  ⟨some 16, none, .mov (.slot 15)⟩ ::
  ⟨some 17, some (16, true), .faddr 1 (.slot 1)⟩ ::
  ⟨some 18, some (16, true), .load false 1 (.slot 17)⟩ ::
  ⟨some 19, some (16, true), .bin .leq (.slot 18) (.const (.int .i64 1073741824))⟩ ::
  ⟨some 20, none, .pick (.slot 16) (.slot 19) (.const (.bool false))⟩ ::
  ⟨some 21, none, .mov (.slot 20)⟩ ::
  ⟨some 22, some (21, true), .faddr 2 (.slot 1)⟩ ::
  ⟨some 23, some (21, true), .load false 1 (.slot 22)⟩ ::
  ⟨some 24, some (21, true), .len false (.slot 23)⟩ ::
  ⟨some 25, some (21, true), .bin .geq (.slot 24) (.const (.int .i64 1))⟩ ::
  ⟨some 26, none, .pick (.slot 21) (.slot 25) (.const (.bool false))⟩ ::
  ⟨some 27, none, .mov (.slot 26)⟩ ::
  ⟨some 28, some (27, true), .faddr 2 (.slot 1)⟩ ::
  ⟨some 29, some (27, true), .load false 1 (.slot 28)⟩ ::
  ⟨some 30, some (27, true), .len false (.slot 29)⟩ ::
  ⟨some 31, some (27, true), .bin .leq (.slot 30) (.const (.int .i64 16))⟩ ::
  ⟨some 32, none, .pick (.slot 27) (.slot 31) (.const (.bool false))⟩ ::
  ⟨some 2, none, .mov (.slot 32)⟩ :: []
def c_merge_piece : AFn := ⟨(.seq (.region q27R0 false [1]) (.seq (.region q27R1 false [2]) .ret)), [.slot 2]⟩
/- oriel/merge.May -/
def q22R0 : List AOper := [⟨some 2, none, .mov (.const (.bool false))⟩]
def q22R1 : List AOper := [⟨some 3, none, .mov (.const (.int .i64 0))⟩]
def q22R2 : List AOper := [⟨some 6, none, .mov (.slot 0)⟩,
  ⟨some 7, none, .len false (.slot 6)⟩,
  ⟨some 8, none, .mov (.const (.int .i64 0))⟩]
def q22R3 : List AOper := [⟨some 9, none, .bin .lss (.slot 8) (.slot 7)⟩]
def q22R4 : List AOper := [⟨some 10, none, .idx 3 (.slot 6) (.slot 8)⟩,
  ⟨some 11, none, .load true 3 (.slot 10)⟩,
  ⟨some 5, none, .alloc [.int .i64 0, .int .i64 0, .data false 1 [] true]⟩,
  ⟨none, none, .store true 3 (.slot 5) (.slot 11)⟩]
def q22R5 : List AOper := [⟨some 12, none, .mov (.slot 3)⟩,
  ⟨some 13, none, .faddr 2 (.slot 5)⟩,
  ⟨some 14, none, .load false 1 (.slot 13)⟩,
  ⟨some 15, none, .len false (.slot 14)⟩,
  ⟨some 16, none, .bin .add (.slot 12) (.slot 15)⟩,
  ⟨some 3, none, .mov (.slot 16)⟩]
def q22R6 : List AOper := [⟨some 17, none, .load true 3 (.slot 5)⟩,
  ⟨some 18, none, .call .frz n_merge_piece [(.slot 17)]⟩,
  ⟨some 19, none, .not (.slot 18)⟩,
  ⟨some 20, none, .mov (.slot 19)⟩,
  ⟨some 21, some (20, false), .mov (.slot 3)⟩,
  ⟨some 22, some (20, false), .bin .gtr (.slot 21) (.const (.int .i64 64))⟩,
  ⟨some 23, none, .pick (.slot 20) (.const (.bool true)) (.slot 22)⟩]
def q22R7 : List AOper := [⟨some 2, none, .mov (.const (.bool false))⟩]
def q22R8 : List AOper := [⟨some 24, none, .bin .add (.slot 8) (.const (.int .i64 1))⟩,
  ⟨some 8, none, .mov (.slot 24)⟩]
def c_merge_May_L0 : ACode := (.seq (.region q22R3 false [3, 6, 7, 8, 9]) (.seq (.cond (.slot 9) .skip (.exit 0)) (.seq (.block 1 (.seq (.region q22R4 false [3, 5, 6, 7, 8]) (.seq (.region q22R5 false [3, 5, 6, 7, 8]) (.seq (.region q22R6 false [3, 6, 7, 8, 23]) (.cond (.slot 23) (.seq (.region q22R7 false [2]) .ret) .skip))))) (.region q22R8 false [3, 6, 7, 8]))))
def lp_merge_May_0 : ACode := .loop [3, 6, 7, 8] c_merge_May_L0
def q22R9 : List AOper := [⟨some 2, none, .mov (.const (.bool true))⟩]
def c_merge_May : AFn := ⟨(.seq (.region q22R0 false [0]) (.seq (.region q22R1 false [0, 3]) (.seq (.seq (.region q22R2 false [3, 6, 7, 8]) (.block 0 lp_merge_May_0)) (.seq (.region q22R9 false [2]) .ret)))), [.slot 2]⟩
/- bytes.Clone -/
def q0R0 : List AOper := [⟨some 2, none, .mov (.const (.data false 1 [] true))⟩]
def q0R1 : List AOper := [⟨some 3, none, .mov (.slot 0)⟩,
  ⟨some 4, none, .isnil .ks false (.slot 3)⟩]
def q0R2 : List AOper := [⟨some 2, none, .mov (.const (.data false 1 [] true))⟩]
def q0R3 : List AOper := [⟨some 5, none, .mkslice 1 0 [.int .u8 0] []⟩,
  ⟨some 6, none, .mov (.slot 0)⟩,
  ⟨some 7, none, .append 1 1 (.slot 5) (.slot 6)⟩,
  ⟨some 2, none, .mov (.slot 7)⟩]
def c_bytes_Clone : AFn := ⟨(.seq (.region q0R0 false [0]) (.seq (.seq (.region q0R1 false [0, 4]) (.cond (.slot 4) (.seq (.region q0R2 false [2]) .ret) .skip)) (.seq (.region q0R3 false [2]) .ret))), [.slot 2]⟩
/- oriel/merge.copied -/
def q26R0 : List AOper := [⟨some 2, none, .mov (.const (.data false 3 [] true))⟩]
def q26R1 : List AOper := [⟨some 3, none, .mknil 3⟩]
def q26R2 : List AOper := [⟨some 6, none, .mov (.slot 0)⟩,
  ⟨some 7, none, .len false (.slot 6)⟩,
  ⟨some 8, none, .mov (.const (.int .i64 0))⟩]
def q26R3 : List AOper := [⟨some 9, none, .bin .lss (.slot 8) (.slot 7)⟩]
def q26R4 : List AOper := [⟨some 10, none, .idx 3 (.slot 6) (.slot 8)⟩,
  ⟨some 11, none, .load true 3 (.slot 10)⟩,
  ⟨some 5, none, .alloc [.int .i64 0, .int .i64 0, .data false 1 [] true]⟩,
  ⟨none, none, .store true 3 (.slot 5) (.slot 11)⟩]
def q26R5 : List AOper := [⟨some 12, none, .faddr 2 (.slot 5)⟩,
  ⟨some 13, none, .load false 1 (.slot 12)⟩,
  ⟨some 14, none, .call .frz n_bytes_Clone [(.slot 13)]⟩,
  ⟨some 15, none, .faddr 2 (.slot 5)⟩,
  ⟨none, none, .store false 1 (.slot 15) (.slot 14)⟩]
def q26R6 : List AOper := [⟨some 16, none, .mov (.slot 3)⟩,
  ⟨some 17, none, .load true 3 (.slot 5)⟩,
  ⟨some 18, none, .mkslice 3 1 [.int .i64 0, .int .i64 0, .data false 1 [] true] [(0, (.slot 17))]⟩,
  ⟨some 19, none, .append 3 40 (.slot 16) (.slot 18)⟩,
  ⟨some 3, none, .mov (.slot 19)⟩]
def q26R7 : List AOper := [⟨some 20, none, .bin .add (.slot 8) (.const (.int .i64 1))⟩,
  ⟨some 8, none, .mov (.slot 20)⟩]
def c_merge_copied_L0 : ACode := (.seq (.region q26R3 false [3, 6, 7, 8, 9]) (.seq (.cond (.slot 9) .skip (.exit 0)) (.seq (.block 1 (.seq (.region q26R4 false [3, 5, 6, 7, 8]) (.seq (.region q26R5 false [3, 5, 6, 7, 8]) (.region q26R6 false [3, 6, 7, 8])))) (.region q26R7 false [3, 6, 7, 8]))))
def lp_merge_copied_0 : ACode := .loop [3, 6, 7, 8] c_merge_copied_L0
def q26R8 : List AOper := [⟨some 21, none, .mov (.slot 3)⟩,
  ⟨some 2, none, .mov (.slot 21)⟩]
def c_merge_copied : AFn := ⟨(.seq (.region q26R0 false [0]) (.seq (.region q26R1 false [0, 3]) (.seq (.seq (.region q26R2 false [3, 6, 7, 8]) (.block 0 lp_merge_copied_0)) (.seq (.region q26R8 false [2]) .ret)))), [.slot 2]⟩
/- oriel/merge.Push -/
def q24R0 : List AOper := [⟨some 3, none, .box 3 (.slot 1)⟩,
  ⟨some 4, none, .mov (.const (.data false 3 [] true))⟩,
  ⟨some 5, none, .mov (.const (.bool false))⟩]
def q24R1 : List AOper := [⟨some 7, none, .mov (.slot 0)⟩,
  ⟨some 8, none, .call .frz n_merge_May [(.slot 7)]⟩,
  ⟨some 9, none, .not (.slot 8)⟩]
def q24R2 : List AOper := [⟨some 4, none, .mov (.const (.data false 3 [] true))⟩,
  ⟨some 5, none, .mov (.const (.bool false))⟩]
def q24R3 : List AOper := [⟨some 10, none, .mov (.slot 0)⟩,
  ⟨some 11, none, .call .adp n_merge_copied [(.slot 10)]⟩,
  ⟨some 6, none, .mov (.slot 11)⟩]
def q24R4 : List AOper := [⟨some 12, none, .load true 3 (.slot 3)⟩,
  ⟨some 13, none, .call .frz n_merge_piece [(.slot 12)]⟩,
  ⟨some 14, none, .not (.slot 13)⟩,
  ⟨some 15, none, .mov (.slot 14)⟩,
  ⟨some 16, some (15, false), .mov (.slot 0)⟩,
  ⟨some 17, some (15, false), .call .frz n_merge_Size [(.slot 16)]⟩,
  ⟨some 18, some (15, false), .faddr 2 (.slot 3)⟩,
  ⟨some 19, some (15, false), .load false 1 (.slot 18)⟩,
  ⟨some 20, some (15, false), .len false (.slot 19)⟩,
  ⟨some 21, some (15, false), .bin .add (.slot 17) (.slot 20)⟩,
  ⟨some 22, some (15, false), .bin .gtr (.slot 21) (.const (.int .i64 64))⟩,
  ⟨some 23, none, .pick (.slot 15) (.const (.bool true)) (.slot 22)⟩]
def q24R5 : List AOper := [⟨some 24, none, .mov (.slot 6)⟩,
  ⟨some 4, none, .mov (.slot 24)⟩,
  ⟨some 5, none, .mov (.const (.bool false))⟩]
def q24R6 : List AOper := [⟨some 25, none, .mov (.slot 6)⟩,
  ⟨some 26, none, .load true 3 (.slot 3)⟩,
  ⟨some 27, none, .mkslice 3 1 [.int .i64 0, .int .i64 0, .data false 1 [] true] [(0, (.slot 26))]⟩,
  ⟨some 28, none, .call .inl n_merge_copied [(.slot 27)]⟩,
  ⟨some 29, none, .append 3 40 (.slot 25) (.slot 28)⟩,
  ⟨some 4, none, .mov (.slot 29)⟩,
  ⟨some 5, none, .mov (.const (.bool true))⟩]
def c_merge_Push : AFn := ⟨(.seq (.region q24R0 false [0, 3]) (.seq (.seq (.region q24R1 false [0, 3, 9]) (.cond (.slot 9) (.seq (.region q24R2 false [4, 5]) .ret) .skip)) (.seq (.region q24R3 false [0, 3, 6]) (.seq (.seq (.region q24R4 true [3, 6, 23]) (.cond (.slot 23) (.seq (.region q24R5 false [4, 5]) .ret) .skip)) (.seq (.region q24R6 false [4, 5]) .ret))))), [.slot 4, .slot 5]⟩
/- oriel/merge.Pop -/
def q23R0 : List AOper := [⟨some 4, none, .mov (.const (.data false 3 [] true))⟩,
  ⟨some 5, none, .mov (.const (.data false 3 [] true))⟩]
def q23R1 : List AOper := [⟨some 7, none, .mov (.slot 0)⟩,
  ⟨some 8, none, .call .frz n_merge_May [(.slot 7)]⟩,
  ⟨some 9, none, .not (.slot 8)⟩]
def q23R2 : List AOper := [⟨some 4, none, .mov (.const (.data false 3 [] true))⟩,
  ⟨some 5, none, .mov (.const (.data false 3 [] true))⟩]
def q23R3 : List AOper := [⟨some 6, none, .mov (.const (.int .i64 0))⟩]
def q23R4 : List AOper := [⟨some 10, none, .mov (.slot 6)⟩,
  ⟨some 11, none, .mov (.slot 0)⟩,
  ⟨some 12, none, .len false (.slot 11)⟩,
  ⟨some 13, none, .bin .lss (.slot 10) (.slot 12)⟩,
  ⟨some 14, none, .mov (.slot 13)⟩,
  ⟨some 15, some (14, true), .mov (.slot 0)⟩,
  ⟨some 16, some (14, true), .mov (.slot 6)⟩,
  ⟨some 17, some (14, true), .idx 3 (.slot 15) (.slot 16)⟩,
  ⟨some 18, some (14, true), .faddr 2 (.slot 17)⟩,
  ⟨some 19, some (14, true), .load false 1 (.slot 18)⟩,
  ⟨some 20, some (14, true), .len false (.slot 19)⟩,
  ⟨some 21, some (14, true), .mov (.slot 1)⟩,
  ⟨some 22, some (14, true), .bin .leq (.slot 20) (.slot 21)⟩,
  ⟨some 23, none, .pick (.slot 14) (.slot 22) (.const (.bool false))⟩]
def q23R5 : List AOper := [⟨some 24, none, .mov (.slot 1)⟩,
  ⟨some 25, none, .mov (.slot 0)⟩,
  ⟨some 26, none, .mov (.slot 6)⟩,
  ⟨some 27, none, .idx 3 (.slot 25) (.slot 26)⟩,
  ⟨some 28, none, .faddr 2 (.slot 27)⟩,
  ⟨some 29, none, .load false 1 (.slot 28)⟩,
  ⟨some 30, none, .len false (.slot 29)⟩,
  ⟨some 31, none, .bin .sub (.slot 24) (.slot 30)⟩,
  ⟨some 1, none, .mov (.slot 31)⟩]
def q23R6 : List AOper := [⟨some 32, none, .mov (.slot 6)⟩,
  ⟨some 33, none, .bin .add (.slot 32) (.const (.int .i64 1))⟩,
  ⟨some 6, none, .mov (.slot 33)⟩]
def c_merge_Pop_L0 : ACode := (.seq (.seq (.region q23R4 false [0, 1, 6, 23]) (.cond (.slot 23) .skip (.exit 0))) (.block 1 (.seq (.region q23R5 false [0, 1, 6]) (.region q23R6 false [0, 1, 6]))))
def lp_merge_Pop_0 : ACode := .loop [0, 1, 6] c_merge_Pop_L0
def q23R7 : List AOper := [⟨some 34, none, .mov (.slot 0)⟩,
  ⟨some 35, none, .mov (.slot 6)⟩,
  ⟨some 36, none, .mov (.slot 0)⟩,
  ⟨some 37, none, .len false (.slot 36)⟩,
  ⟨some 38, none, .mov (.slot 0)⟩,
  ⟨some 39, none, .len false (.slot 38)⟩,
  ⟨some 40, none, .sl 3 (.slot 34) (some (.slot 35)) (some (.slot 37)) (some (.slot 39))⟩,
  ⟨some 41, none, .call .frz n_merge_copied [(.slot 40)]⟩,
  ⟨some 42, none, .mov (.slot 0)⟩,
  ⟨some 43, none, .mov (.slot 6)⟩,
  ⟨some 44, none, .mov (.slot 6)⟩,
  ⟨some 45, none, .sl 3 (.slot 42) none (some (.slot 43)) (some (.slot 44))⟩,
  ⟨some 46, none, .call .frz n_merge_copied [(.slot 45)]⟩,
  ⟨some 4, none, .mov (.slot 41)⟩,
  ⟨some 5, none, .mov (.slot 46)⟩]
def c_merge_Pop : AFn := ⟨(.seq (.region q23R0 false [0, 1]) (.seq (.seq (.region q23R1 false [0, 1, 9]) (.cond (.slot 9) (.seq (.region q23R2 false [4, 5]) .ret) .skip)) (.seq (.region q23R3 false [0, 1, 6]) (.seq (.block 0 lp_merge_Pop_0) (.seq (.region q23R7 true [4, 5]) .ret))))), [.slot 4, .slot 5]⟩
/- slices.IndexFunc[[]oriel/api.Typed,oriel/api.Typed] -/
def q72R0 : List AOper := [⟨some 4, none, .mov (.const (.int .i64 0))⟩]
def q72R1 : List AOper := [⟨some 6, none, .mov (.slot 0)⟩,
  ⟨some 7, none, .len false (.slot 6)⟩,
  ⟨some 8, none, .mov (.const (.int .i64 0))⟩]
def q72R2 : List AOper := [⟨some 9, none, .bin .lss (.slot 8) (.slot 7)⟩]
def q72R3 : List AOper := [⟨some 10, none, .mov (.slot 8)⟩,
  ⟨some 5, none, .mov (.slot 10)⟩]
def q72R4 : List AOper := [⟨some 11, none, .mov (.slot 1)⟩,
  ⟨some 12, none, .mov (.slot 0)⟩,
  ⟨some 13, none, .mov (.slot 5)⟩,
  ⟨some 14, none, .idx 3 (.slot 12) (.slot 13)⟩,
  ⟨some 15, none, .load true 3 (.slot 14)⟩,
  ⟨some 16, none, .callv (.slot 11) [(.slot 15)]⟩]
def q72R5 : List AOper := [⟨some 17, none, .mov (.slot 5)⟩,
  ⟨some 4, none, .mov (.slot 17)⟩]
def q72R6 : List AOper := [⟨some 18, none, .bin .add (.slot 8) (.const (.int .i64 1))⟩,
  ⟨some 8, none, .mov (.slot 18)⟩]
def c_slices_IndexFunc_Typed_L0 : ACode := (.seq (.region q72R2 false [0, 1, 7, 8, 9]) (.seq (.cond (.slot 9) .skip (.exit 0)) (.seq (.block 1 (.seq (.region q72R3 false [0, 1, 5, 7, 8]) (.seq (.region q72R4 false [0, 1, 5, 7, 8, 16]) (.cond (.slot 16) (.seq (.region q72R5 false [4]) .ret) .skip)))) (.region q72R6 false [0, 1, 7, 8]))))
def lp_slices_IndexFunc_Typed_0 : ACode := .loop [0, 1, 7, 8] c_slices_IndexFunc_Typed_L0
def q72R7 : List AOper := [⟨some 4, none, .mov (.const (.int .i64 (-1)))⟩]
def c_slices_IndexFunc_Typed : AFn := ⟨(.seq (.region q72R0 false [0, 1]) (.seq (.seq (.region q72R1 false [0, 1, 7, 8]) (.block 0 lp_slices_IndexFunc_Typed_0)) (.seq (.region q72R7 false [4]) .ret))), [.slot 4]⟩
/- slices.DeleteFunc[[]oriel/api.Typed,oriel/api.Typed] -/
def q68R0 : List AOper := [⟨some 4, none, .mov (.const (.data false 3 [] true))⟩]
def q68R1 : List AOper := [⟨some 8, none, .mov (.slot 0)⟩,
  ⟨some 9, none, .mov (.slot 1)⟩,
  ⟨some 10, none, .call .inl n_slices_IndexFunc_Typed [(.slot 8), (.slot 9)]⟩,
  ⟨some 5, none, .mov (.slot 10)⟩]
def q68R2 : List AOper := [⟨some 11, none, .mov (.slot 5)⟩,
  ⟨some 12, none, .bin .eql (.slot 11) (.const (.int .i64 (-1)))⟩]
def q68R3 : List AOper := [⟨some 13, none, .mov (.slot 0)⟩,
  ⟨some 4, none, .mov (.slot 13)⟩]
def q68R4 : List AOper := [⟨some 14, none, .mov (.slot 5)⟩,
  ⟨some 15, none, .bin .add (.slot 14) (.const (.int .i64 1))⟩,
  ⟨some 6, none, .mov (.slot 15)⟩]
def q68R5 : List AOper := [⟨some 16, none, .mov (.slot 6)⟩,
  ⟨some 17, none, .mov (.slot 0)⟩,
  ⟨some 18, none, .len false (.slot 17)⟩,
  ⟨some 19, none, .bin .lss (.slot 16) (.slot 18)⟩]
def q68R7 : List AOper := [⟨some 22, none, .mov (.slot 0)⟩,
  ⟨some 23, none, .mov (.slot 6)⟩,
  ⟨some 24, none, .idx 3 (.slot 22) (.slot 23)⟩,
  ⟨some 25, none, .load true 3 (.slot 24)⟩,
  ⟨some 7, none, .alloc [.int .i64 0, .int .i64 0, .data false 1 [] true]⟩,
  ⟨none, none, .store true 3 (.slot 7) (.slot 25)⟩]
def q68R8 : List AOper := [⟨some 26, none, .mov (.slot 1)⟩,
  ⟨some 27, none, .load true 3 (.slot 7)⟩,
  ⟨some 28, none, .callv (.slot 26) [(.slot 27)]⟩,
  ⟨some 29, none, .not (.slot 28)⟩]
def q68R9 : List AOper := [⟨some 30, none, .mov (.slot 0)⟩,
  ⟨some 31, none, .mov (.slot 5)⟩,
  ⟨some 32, none, .load true 3 (.slot 7)⟩,
  ⟨some 33, none, .idx 3 (.slot 30) (.slot 31)⟩,
  ⟨none, none, .store true 3 (.slot 33) (.slot 32)⟩]
def q68R10 : List AOper := [⟨some 34, none, .mov (.slot 5)⟩,
  ⟨some 35, none, .bin .add (.slot 34) (.const (.int .i64 1))⟩,
  ⟨some 5, none, .mov (.slot 35)⟩]
def q68R6 : List AOper := [⟨some 20, none, .mov (.slot 6)⟩,
  ⟨some 21, none, .bin .add (.slot 20) (.const (.int .i64 1))⟩,
  ⟨some 6, none, .mov (.slot 21)⟩]
def c_slices_DeleteFunc_Typed_L0 : ACode := (.seq (.seq (.region q68R5 false [0, 1, 5, 6, 19]) (.cond (.slot 19) .skip (.exit 0))) (.seq (.block 1 (.seq (.region q68R7 false [0, 1, 5, 6, 7]) (.seq (.region q68R8 false [0, 1, 5, 6, 7, 29]) (.cond (.slot 29) (.seq (.region q68R9 false [0, 1, 5, 6]) (.region q68R10 false [0, 1, 5, 6])) .skip)))) (.region q68R6 false [0, 1, 5, 6])))
def lp_slices_DeleteFunc_Typed_0 : ACode := .loop [0, 1, 5, 6] c_slices_DeleteFunc_Typed_L0
def q68R11 : List AOper := [⟨some 36, none, .mov (.slot 0)⟩,
  ⟨some 37, none, .mov (.slot 5)⟩,
  ⟨some 38, none, .sl 3 (.slot 36) (some (.slot 37)) none none⟩,
  ⟨none, none, .clear [.int .i64 0, .int .i64 0, .data false 1 [] true] (.slot 38)⟩]
def q68R12 : List AOper := [⟨some 39, none, .mov (.slot 0)⟩,
  ⟨some 40, none, .mov (.slot 5)⟩,
  ⟨some 41, none, .sl 3 (.slot 39) none (some (.slot 40)) none⟩,
  ⟨some 4, none, .mov (.slot 41)⟩]
def c_slices_DeleteFunc_Typed : AFn := ⟨(.seq (.region q68R0 false [0, 1]) (.seq (.region q68R1 false [0, 1, 5]) (.seq (.seq (.region q68R2 false [0, 1, 5, 12]) (.cond (.slot 12) (.seq (.region q68R3 false [4]) .ret) .skip)) (.seq (.seq (.region q68R4 false [0, 1, 5, 6]) (.block 0 lp_slices_DeleteFunc_Typed_0)) (.seq (.region q68R11 false [0, 5]) (.seq (.region q68R12 false [4]) .ret)))))), [.slot 4]⟩
/- oriel/merge.Drop'1 -/
def q21R0 : List AOper := [⟨some 2, none, .box 3 (.slot 0)⟩,
  ⟨some 3, none, .mov (.const (.bool false))⟩]
def q21R1 : List AOper := [⟨some 4, none, .faddr 0 (.slot 2)⟩,
  ⟨some 5, none, .load false 1 (.slot 4)⟩,
  ⟨some 6, none, .load false 1 (.slot 1)⟩,
  ⟨some 7, none, .bin .eql (.slot 5) (.slot 6)⟩,
  ⟨some 3, none, .mov (.slot 7)⟩]
def c_merge_Drop_1 : AFn := ⟨(.seq (.region q21R0 false [1, 2]) (.seq (.region q21R1 false [3]) .ret)), [.slot 3]⟩
/- oriel/merge.Drop -/
def q20R0 : List AOper := [⟨some 3, none, .box 1 (.slot 1)⟩,
  ⟨some 4, none, .mov (.const (.data false 3 [] true))⟩]
def q20R1 : List AOper := [⟨some 5, none, .mov (.slot 0)⟩,
  ⟨some 6, none, .call .frz n_merge_May [(.slot 5)]⟩,
  ⟨some 7, none, .not (.slot 6)⟩]
def q20R2 : List AOper := [⟨some 4, none, .mov (.const (.data false 3 [] true))⟩]
def q20R3 : List AOper := [⟨some 8, none, .mov (.slot 0)⟩,
  ⟨some 9, none, .call .adp n_merge_copied [(.slot 8)]⟩,
  ⟨some 10, none, .mkfn (.func n_merge_Drop_1) [] [(.slot 3)]⟩,
  ⟨some 11, none, .call .inl n_slices_DeleteFunc_Typed [(.slot 9), (.slot 10)]⟩,
  ⟨some 4, none, .mov (.slot 11)⟩]
def c_merge_Drop : AFn := ⟨(.seq (.region q20R0 false [0, 3]) (.seq (.seq (.region q20R1 false [0, 3, 7]) (.cond (.slot 7) (.seq (.region q20R2 false [4]) .ret) .skip)) (.seq (.region q20R3 false [4]) .ret))), [.slot 4]⟩
/- oriel/oriellaw28.known -/
def q17R0 : List AOper := [⟨some 0, none, .mov (.const (.bool false))⟩]
def q17R1 : List AOper := [⟨some 7, none, .mkslice 1 2 [.int .u8 0] [(0, (.const (.int .u8 97))), (1, (.const (.int .u8 98)))]⟩,
  ⟨some 8, none, .mark (.slot 7)⟩,
  ⟨some 9, none, .build [.int .i64 0, .int .i64 0, .data false 1 [] true] [(0, 1, (.const (.int .i64 3))), (1, 1, (.const (.int .i64 1))), (2, 1, (.slot 8))]⟩,
  ⟨some 10, none, .call .frz n_merge_Push [(.const (.data false 3 [] true)), (.slot 9)]⟩,
  ⟨some 6, none, .mov (.slot 10)⟩,
  ⟨some 11, none, .extract 0 (.slot 6)⟩,
  ⟨some 12, none, .extract 1 (.slot 6)⟩,
  ⟨some 1, none, .mov (.slot 11)⟩,
  ⟨some 2, none, .mov (.slot 12)⟩]
def q17R2 : List AOper := [⟨some 14, none, .mov (.slot 1)⟩,
  ⟨some 15, none, .mkslice 1 1 [.int .u8 0] [(0, (.const (.int .u8 99)))]⟩,
  ⟨some 16, none, .mark (.slot 15)⟩,
  ⟨some 17, none, .build [.int .i64 0, .int .i64 0, .data false 1 [] true] [(0, 1, (.const (.int .i64 5))), (1, 1, (.const (.int .i64 1))), (2, 1, (.slot 16))]⟩,
  ⟨some 18, none, .call .frz n_merge_Push [(.slot 14), (.slot 17)]⟩,
  ⟨some 13, none, .mov (.slot 18)⟩,
  ⟨some 19, none, .extract 0 (.slot 13)⟩,
  ⟨some 20, none, .extract 1 (.slot 13)⟩,
  ⟨some 1, none, .mov (.slot 19)⟩,
  ⟨some 3, none, .mov (.slot 20)⟩]
def q17R3 : List AOper := [⟨some 22, none, .mov (.slot 1)⟩,
  ⟨some 23, none, .call .frz n_merge_Pop [(.slot 22), (.const (.int .i64 2))]⟩,
  ⟨some 21, none, .mov (.slot 23)⟩,
  ⟨some 24, none, .extract 0 (.slot 21)⟩,
  ⟨some 25, none, .extract 1 (.slot 21)⟩,
  ⟨some 4, none, .mov (.slot 24)⟩,
  ⟨some 5, none, .mov (.slot 25)⟩]
def q17R4 : List AOper := ⟨some 26, none, .mov (.slot 2)⟩ ::
  ⟨some 27, none, .mov (.slot 26)⟩ ::
  ⟨some 28, some (27, true), .mov (.slot 3)⟩ ::
  ⟨some 29, none, .pick (.slot 27) (.slot 28) (.const (.bool false))⟩ ::
  ⟨some 30, none, .mov (.slot 29)⟩ ::
  ⟨some 31, some (30, true), .mov (.slot 1)⟩ ::
  ⟨some 32, some (30, true), .call .frz n_merge_Size [(.slot 31)]⟩ ::
  ⟨some 33, some (30, true), .bin .eql (.slot 32) (.const (.int .i64 3))⟩ ::
  ⟨some 34, none, .pick (.slot 30) (.slot 33) (.const (.bool false))⟩ ::
  ⟨some 35, none, .mov (.slot 34)⟩ ::
  ⟨some 36, some (35, true), .mov (.slot 4)⟩ ::
  ⟨some 37, some (35, true), .len false (.slot 36)⟩ ::
  ⟨some 38, some (35, true), .bin .eql (.slot 37) (.const (.int .i64 1))⟩ ::
  ⟨some 39, none, .pick (.slot 35) (.slot 38) (.const (.bool false))⟩ ::
  ⟨some 40, none, .mov (.slot 39)⟩ ::
  ⟨some 41, some (40, true), .mov (.slot 5)⟩ ::
  ⟨some 42, some (40, true), .len false (.slot 41)⟩ ::
  ⟨some 43, some (40, true), .bin .eql (.slot 42) (.const (.int .i64 1))⟩ ::
  ⟨some 44, none, .pick (.slot 40) (.slot 43) (.const (.bool false))⟩ ::
  ⟨some 45, none, .mov (.slot 44)⟩ ::
  ⟨some 46, some (45, true), .mov (.slot 5)⟩ ::
  ⟨some 47, some (45, true), .idx 3 (.slot 46) (.const (.int .i64 0))⟩ ::
  ⟨some 48, some (45, true), .faddr 2 (.slot 47)⟩ ::
  ⟨some 49, some (45, true), .load false 1 (.slot 48)⟩ ::
  ⟨some 50, some (45, true), .bstr (.slot 49)⟩ ::
  ⟨some 51, some (45, true), .eq false [.ks] false (.slot 50) (.const (.str ⟨#[97, 98]⟩))⟩ ::
  ⟨some 52, none, .pick (.slot 45) (.slot 51) (.const (.bool false))⟩ ::
  ⟨some 53, none, .mov (.slot 52)⟩ ::
  ⟨some 54, some (53, true), .mov (.slot 1)⟩ ::
  ⟨some 55, some (53, true), .call .frz n_merge_Drop [(.slot 54), (.const (.int .i64 3))]⟩ ::
  ⟨some 56, some (53, true), .len false (.slot 55)⟩ ::
  ⟨some 57, some (53, true), .bin .eql (.slot 56) (.const (.int .i64 1))⟩ ::
  ⟨some 58, none, .pick (.slot 53) (.slot 57) (.const (.bool false))⟩ ::
  ⟨some 0, none, .mov (.slot 58)⟩ :: []
def c_law28_known : AFn := ⟨(.seq (.region q17R0 false []) (.seq (.region q17R1 false [1, 2]) (.seq (.region q17R2 false [1, 2, 3]) (.seq (.region q17R3 false [1, 2, 3, 4, 5]) (.seq (.region q17R4 false [0]) .ret))))), [.slot 0]⟩
/- oriel/oriellaw28.great -/
def q16R0 : List AOper := [⟨some 2, none, .mov (.const (.bool false))⟩]
def q16R1 : List AOper := [⟨some 4, none, .mov (.slot 0)⟩,
  ⟨some 5, none, .len false (.slot 4)⟩,
  ⟨some 6, none, .bin .gtr (.slot 5) (.const (.int .i64 100))⟩]
def q16R2 : List AOper := [⟨some 2, none, .mov (.const (.bool true))⟩]
def q16R3 : List AOper := [⟨some 3, none, .mov (.const (.int .i64 0))⟩]
def q16R4 : List AOper := [⟨some 7, none, .mov (.slot 3)⟩,
  ⟨some 8, none, .mov (.slot 0)⟩,
  ⟨some 9, none, .len false (.slot 8)⟩,
  ⟨some 10, none, .bin .lss (.slot 7) (.slot 9)⟩]
def q16R6 : List AOper := [⟨some 13, none, .mov (.slot 0)⟩,
  ⟨some 14, none, .mov (.slot 3)⟩,
  ⟨some 15, none, .idx 3 (.slot 13) (.slot 14)⟩,
  ⟨some 16, none, .faddr 2 (.slot 15)⟩,
  ⟨some 17, none, .load false 1 (.slot 16)⟩,
  ⟨some 18, none, .len false (.slot 17)⟩,
  ⟨some 19, none, .bin .gtr (.slot 18) (.const (.int .i64 100))⟩]
def q16R7 : List AOper := [⟨some 2, none, .mov (.const (.bool true))⟩]
def q16R5 : List AOper := [⟨some 11, none, .mov (.slot 3)⟩,
  ⟨some 12, none, .bin .add (.slot 11) (.const (.int .i64 1))⟩,
  ⟨some 3, none, .mov (.slot 12)⟩]
def c_law28_great_L0 : ACode := (.seq (.seq (.region q16R4 false [0, 3, 10]) (.cond (.slot 10) .skip (.exit 0))) (.seq (.block 1 (.seq (.region q16R6 false [0, 3, 19]) (.cond (.slot 19) (.seq (.region q16R7 false [2]) .ret) .skip))) (.region q16R5 false [0, 3])))
def lp_law28_great_0 : ACode := .loop [0, 3] c_law28_great_L0
def q16R8 : List AOper := [⟨some 2, none, .mov (.const (.bool false))⟩]
def c_law28_great : AFn := ⟨(.seq (.region q16R0 false [0]) (.seq (.seq (.region q16R1 false [0, 6]) (.cond (.slot 6) (.seq (.region q16R2 false [2]) .ret) .skip)) (.seq (.seq (.region q16R3 false [0, 3]) (.block 0 lp_law28_great_0)) (.seq (.region q16R8 false [2]) .ret)))), [.slot 2]⟩
/- oriel/orielref28.Copy -/
def q44R0 : List AOper := [⟨some 2, none, .mov (.const (.data false 3 [] true))⟩]
def q44R1 : List AOper := [⟨some 3, none, .mknil 3⟩]
def q44R2 : List AOper := [⟨some 4, none, .mov (.const (.int .i64 0))⟩]
def q44R3 : List AOper := [⟨some 6, none, .mov (.slot 4)⟩,
  ⟨some 7, none, .mov (.slot 0)⟩,
  ⟨some 8, none, .len false (.slot 7)⟩,
  ⟨some 9, none, .bin .lss (.slot 6) (.slot 8)⟩]
def q44R5 : List AOper := [⟨some 12, none, .mov (.slot 0)⟩,
  ⟨some 13, none, .mov (.slot 4)⟩,
  ⟨some 14, none, .idx 3 (.slot 12) (.slot 13)⟩,
  ⟨some 15, none, .load true 3 (.slot 14)⟩,
  ⟨some 5, none, .alloc [.int .i64 0, .int .i64 0, .data false 1 [] true]⟩,
  ⟨none, none, .store true 3 (.slot 5) (.slot 15)⟩]
def q44R6 : List AOper := [⟨some 16, none, .mkdata 1 0 [.int .u8 0] []⟩,
  ⟨some 17, none, .faddr 2 (.slot 5)⟩,
  ⟨some 18, none, .load false 1 (.slot 17)⟩,
  ⟨some 19, none, .appendD 1 1 (.slot 16) (.slot 18)⟩,
  ⟨some 20, none, .faddr 2 (.slot 5)⟩,
  ⟨none, none, .store false 1 (.slot 20) (.slot 19)⟩]
def q44R7 : List AOper := [⟨some 21, none, .mov (.slot 3)⟩,
  ⟨some 22, none, .load true 3 (.slot 5)⟩,
  ⟨some 23, none, .mkslice 3 1 [.int .i64 0, .int .i64 0, .data false 1 [] true] [(0, (.slot 22))]⟩,
  ⟨some 24, none, .append 3 40 (.slot 21) (.slot 23)⟩,
  ⟨some 3, none, .mov (.slot 24)⟩]
def q44R4 : List AOper := [⟨some 10, none, .mov (.slot 4)⟩,
  ⟨some 11, none, .bin .add (.slot 10) (.const (.int .i64 1))⟩,
  ⟨some 4, none, .mov (.slot 11)⟩]
def c_ref28_Copy_L0 : ACode := (.seq (.seq (.region q44R3 false [0, 3, 4, 9]) (.cond (.slot 9) .skip (.exit 0))) (.seq (.block 1 (.seq (.region q44R5 false [0, 3, 4, 5]) (.seq (.region q44R6 false [0, 3, 4, 5]) (.region q44R7 false [0, 3, 4])))) (.region q44R4 false [0, 3, 4])))
def lp_ref28_Copy_0 : ACode := .loop [0, 3, 4] c_ref28_Copy_L0
def q44R8 : List AOper := [⟨some 25, none, .mov (.slot 3)⟩,
  ⟨some 2, none, .mov (.slot 25)⟩]
def c_ref28_Copy : AFn := ⟨(.seq (.region q44R0 false [0]) (.seq (.region q44R1 false [0, 3]) (.seq (.seq (.region q44R2 false [0, 3, 4]) (.block 0 lp_ref28_Copy_0)) (.seq (.region q44R8 false [2]) .ret)))), [.slot 2]⟩
/- oriel/orielref28.Size -/
def q50R0 : List AOper := [⟨some 2, none, .mov (.const (.int .i64 0))⟩]
def q50R1 : List AOper := [⟨some 3, none, .mov (.const (.int .i64 0))⟩]
def q50R2 : List AOper := [⟨some 4, none, .mov (.const (.int .i64 0))⟩]
def q50R3 : List AOper := [⟨some 5, none, .mov (.slot 4)⟩,
  ⟨some 6, none, .mov (.slot 0)⟩,
  ⟨some 7, none, .len false (.slot 6)⟩,
  ⟨some 8, none, .bin .lss (.slot 5) (.slot 7)⟩]
def q50R5 : List AOper := [⟨some 11, none, .mov (.slot 3)⟩,
  ⟨some 12, none, .mov (.slot 0)⟩,
  ⟨some 13, none, .mov (.slot 4)⟩,
  ⟨some 14, none, .idx 3 (.slot 12) (.slot 13)⟩,
  ⟨some 15, none, .faddr 2 (.slot 14)⟩,
  ⟨some 16, none, .load false 1 (.slot 15)⟩,
  ⟨some 17, none, .len false (.slot 16)⟩,
  ⟨some 18, none, .bin .add (.slot 11) (.slot 17)⟩,
  ⟨some 3, none, .mov (.slot 18)⟩]
def q50R4 : List AOper := [⟨some 9, none, .mov (.slot 4)⟩,
  ⟨some 10, none, .bin .add (.slot 9) (.const (.int .i64 1))⟩,
  ⟨some 4, none, .mov (.slot 10)⟩]
def c_ref28_Size_L0 : ACode := (.seq (.seq (.region q50R3 false [0, 3, 4, 8]) (.cond (.slot 8) .skip (.exit 0))) (.seq (.block 1 (.region q50R5 false [0, 3, 4])) (.region q50R4 false [0, 3, 4])))
def lp_ref28_Size_0 : ACode := .loop [0, 3, 4] c_ref28_Size_L0
def q50R6 : List AOper := [⟨some 19, none, .mov (.slot 3)⟩,
  ⟨some 2, none, .mov (.slot 19)⟩]
def c_ref28_Size : AFn := ⟨(.seq (.region q50R0 false [0]) (.seq (.region q50R1 false [0, 3]) (.seq (.seq (.region q50R2 false [0, 3, 4]) (.block 0 lp_ref28_Size_0)) (.seq (.region q50R6 false [2]) .ret)))), [.slot 2]⟩
/- oriel/orielref28.Piece -/
def q48R0 : List AOper := [⟨some 1, none, .box 3 (.slot 0)⟩,
  ⟨some 2, none, .mov (.const (.bool false))⟩]
def q48R1 : List AOper := ⟨some 3, none, .faddr 0 (.slot 1)⟩ ::
  ⟨some 4, none, .load false 1 (.slot 3)⟩ ::
  ⟨some 5, none, .bin .gtr (.slot 4) (.const (.int .i64 0))⟩ ::
  ⟨some 6, none, .mov (.slot 5)⟩ ::
  ⟨some 7, some (6, true), .faddr 0 (.slot 1)⟩ ::
  ⟨some 8, some (6, true), .load false 1 (.slot 7)⟩ ::
  ⟨some 9, some (6, true), .bin .lss (.slot 8) (.const (.int .i64 9))⟩ ::
  ⟨some 10, none, .pick (.slot 6) (.slot 9) (.const (.bool false))⟩ ::
  ⟨some 11, none, .mov (.slot 10)⟩ ::
  ⟨some 12, some (11, true), .faddr 1 (.slot 1)⟩ ::
  ⟨some 13, some (11, true), .load false 1 (.slot 12)⟩ ::
  ⟨some 14, some (11, true), .bin .gtr (.slot 13) (.const (.int .i64 0))⟩ ::
  ⟨some 15, none, .pick (.slot 11) (.slot 14) (.const (.bool false))⟩ ::
  ⟨some 16, none, .mov (.slot 15)⟩ ::
  ⟨some 17, some (16, true), .faddr 1 (.slot 1)⟩ ::
  ⟨some 18, some (16, true), .load false 1 (.slot 17)⟩ ::
  ⟨some 19, some (16, true), .bin .leq (.slot 18) (.const (.int .i64 1073741824))⟩ ::
  ⟨some 20, none, .pick (.slot 16) (.slot 19) (.const (.bool false))⟩ ::
  ⟨some 21, none, .mov (.slot 20)⟩ ::
  ⟨some 22, some (21, true), .faddr 2 (.slot 1)⟩ ::
  ⟨some 23, some (21, true), .load false 1 (.slot 22)⟩ ::
  ⟨some 24, some (21, true), .len false (.slot 23)⟩ ::
  ⟨some 25, some (21, true), .bin .gtr (.slot 24) (.const (.int .i64 0))⟩ ::
  ⟨some 26, none, .pick (.slot 21) (.slot 25) (.const (.bool false))⟩ ::
  ⟨some 27, none, .mov (.slot 26)⟩ ::
  ⟨some 28, some (27, true), .faddr 2 (.slot 1)⟩ ::
  ⟨some 29, some (27, true), .load false 1 (.slot 28)⟩ ::
  ⟨some 30, some (27, true), .len false (.slot 29)⟩ ::
  ⟨some 31, some (27, true), .bin .lss (.slot 30) (.const (.int .i64 17))⟩ ::
  ⟨some 32, none, .pick (.slot 27) (.slot 31) (.const (.bool false))⟩ ::
  ⟨some 2, none, .mov (.slot 32)⟩ :: []
def c_ref28_Piece : AFn := ⟨(.seq (.region q48R0 false [1]) (.seq (.region q48R1 false [2]) .ret)), [.slot 2]⟩
/- oriel/orielref28.May -/
def q47R0 : List AOper := [⟨some 2, none, .mov (.const (.bool false))⟩]
def q47R1 : List AOper := [⟨some 3, none, .mov (.const (.int .i64 0))⟩]
def q47R2 : List AOper := [⟨some 4, none, .mov (.slot 3)⟩,
  ⟨some 5, none, .mov (.slot 0)⟩,
  ⟨some 6, none, .len false (.slot 5)⟩,
  ⟨some 7, none, .bin .lss (.slot 4) (.slot 6)⟩]
def q47R4 : List AOper := [⟨some 10, none, .mov (.slot 0)⟩,
  ⟨some 11, none, .mov (.slot 3)⟩,
  ⟨some 12, none, .idx 3 (.slot 10) (.slot 11)⟩,
  ⟨some 13, none, .load true 3 (.slot 12)⟩,
  ⟨some 14, none, .call .frz n_ref28_Piece [(.slot 13)]⟩,
  ⟨some 15, none, .not (.slot 14)⟩]
def q47R5 : List AOper := [⟨some 2, none, .mov (.const (.bool false))⟩]
def q47R3 : List AOper := [⟨some 8, none, .mov (.slot 3)⟩,
  ⟨some 9, none, .bin .add (.slot 8) (.const (.int .i64 1))⟩,
  ⟨some 3, none, .mov (.slot 9)⟩]
def c_ref28_May_L0 : ACode := (.seq (.seq (.region q47R2 false [0, 3, 7]) (.cond (.slot 7) .skip (.exit 0))) (.seq (.block 1 (.seq (.region q47R4 false [0, 3, 15]) (.cond (.slot 15) (.seq (.region q47R5 false [2]) .ret) .skip))) (.region q47R3 false [0, 3])))
def lp_ref28_May_0 : ACode := .loop [0, 3] c_ref28_May_L0
def q47R6 : List AOper := [⟨some 16, none, .mov (.slot 0)⟩,
  ⟨some 17, none, .call .frz n_ref28_Size [(.slot 16)]⟩,
  ⟨some 18, none, .bin .leq (.slot 17) (.const (.int .i64 64))⟩,
  ⟨some 2, none, .mov (.slot 18)⟩]
def c_ref28_May : AFn := ⟨(.seq (.region q47R0 false [0]) (.seq (.seq (.region q47R1 false [0, 3]) (.block 0 lp_ref28_May_0)) (.seq (.region q47R6 false [2]) .ret))), [.slot 2]⟩
/- oriel/orielref28.Same -/
def q49R0 : List AOper := [⟨some 4, none, .mov (.const (.bool false))⟩]
def q49R1 : List AOper := [⟨some 6, none, .mov (.slot 0)⟩,
  ⟨some 7, none, .len false (.slot 6)⟩,
  ⟨some 8, none, .mov (.slot 1)⟩,
  ⟨some 9, none, .len false (.slot 8)⟩,
  ⟨some 10, none, .bin .neq (.slot 7) (.slot 9)⟩]
def q49R2 : List AOper := [⟨some 4, none, .mov (.const (.bool false))⟩]
def q49R3 : List AOper := [⟨some 5, none, .mov (.const (.int .i64 0))⟩]
def q49R4 : List AOper := [⟨some 11, none, .mov (.slot 5)⟩,
  ⟨some 12, none, .mov (.slot 0)⟩,
  ⟨some 13, none, .len false (.slot 12)⟩,
  ⟨some 14, none, .bin .lss (.slot 11) (.slot 13)⟩]
def q49R6 : List AOper := ⟨some 17, none, .mov (.slot 0)⟩ ::
  ⟨some 18, none, .mov (.slot 5)⟩ ::
  ⟨some 19, none, .idx 3 (.slot 17) (.slot 18)⟩ ::
  ⟨some 20, none, .faddr 0 (.slot 19)⟩ ::
  ⟨some 21, none, .load false 1 (.slot 20)⟩ ::
  ⟨some 22, none, .mov (.slot 1)⟩ ::
  ⟨some 23, none, .mov (.slot 5)⟩ ::
  ⟨some 24, none, .idx 3 (.slot 22) (.slot 23)⟩ ::
  ⟨some 25, none, .faddr 0 (.slot 24)⟩ ::
  ⟨some 26, none, .load false 1 (.slot 25)⟩ ::
  ⟨some 27, none, .bin .neq (.slot 21) (.slot 26)⟩ ::
  ⟨some 28, none, .mov (.slot 27)⟩ ::
  ⟨some 29, some (28, false), .mov (.slot 0)⟩ ::
  ⟨some 30, some (28, false), .mov (.slot 5)⟩ ::
  ⟨some 31, some (28, false), .idx 3 (.slot 29) (.slot 30)⟩ ::
  ⟨some 32, some (28, false), .faddr 1 (.slot 31)⟩ ::
  ⟨some 33, some (28, false), .load false 1 (.slot 32)⟩ ::
  ⟨some 34, some (28, false), .mov (.slot 1)⟩ ::
  ⟨some 35, some (28, false), .mov (.slot 5)⟩ ::
  ⟨some 36, some (28, false), .idx 3 (.slot 34) (.slot 35)⟩ ::
  ⟨some 37, some (28, false), .faddr 1 (.slot 36)⟩ ::
  ⟨some 38, some (28, false), .load false 1 (.slot 37)⟩ ::
  ⟨some 39, some (28, false), .bin .neq (.slot 33) (.slot 38)⟩ ::
  ⟨some 40, none, .pick (.slot 28) (.const (.bool true)) (.slot 39)⟩ ::
  ⟨some 41, none, .mov (.slot 40)⟩ ::
  ⟨some 42, some (41, false), .mov (.slot 0)⟩ ::
  ⟨some 43, some (41, false), .mov (.slot 5)⟩ ::
  ⟨some 44, some (41, false), .idx 3 (.slot 42) (.slot 43)⟩ ::
  ⟨some 45, some (41, false), .faddr 2 (.slot 44)⟩ ::
  ⟨some 46, some (41, false), .load false 1 (.slot 45)⟩ ::
  ⟨some 47, some (41, false), .bstr (.slot 46)⟩ ::
  ⟨some 48, some (41, false), .mov (.slot 1)⟩ ::
  ⟨some 49, some (41, false), .mov (.slot 5)⟩ ::
  ⟨some 50, some (41, false), .idx 3 (.slot 48) (.slot 49)⟩ ::
  ⟨some 51, some (41, false), .faddr 2 (.slot 50)⟩ ::
  ⟨some 52, some (41, false), .load false 1 (.slot 51)⟩ ::
  ⟨some 53, some (41, false), .bstr (.slot 52)⟩ ::
  ⟨some 54, some (41, false), .eq false [.ks] true (.slot 47) (.slot 53)⟩ ::
  ⟨some 55, none, .pick (.slot 41) (.const (.bool true)) (.slot 54)⟩ :: []
def q49R7 : List AOper := [⟨some 4, none, .mov (.const (.bool false))⟩]
def q49R5 : List AOper := [⟨some 15, none, .mov (.slot 5)⟩,
  ⟨some 16, none, .bin .add (.slot 15) (.const (.int .i64 1))⟩,
  ⟨some 5, none, .mov (.slot 16)⟩]
def c_ref28_Same_L0 : ACode := (.seq (.seq (.region q49R4 false [0, 1, 5, 14]) (.cond (.slot 14) .skip (.exit 0))) (.seq (.block 1 (.seq (.region q49R6 true [0, 1, 5, 55]) (.cond (.slot 55) (.seq (.region q49R7 false [4]) .ret) .skip))) (.region q49R5 false [0, 1, 5])))
def lp_ref28_Same_0 : ACode := .loop [0, 1, 5] c_ref28_Same_L0
def q49R8 : List AOper := [⟨some 4, none, .mov (.const (.bool true))⟩]
def c_ref28_Same : AFn := ⟨(.seq (.region q49R0 false [0, 1]) (.seq (.seq (.region q49R1 false [0, 1, 10]) (.cond (.slot 10) (.seq (.region q49R2 false [4]) .ret) .skip)) (.seq (.seq (.region q49R3 false [0, 1, 5]) (.block 0 lp_ref28_Same_0)) (.seq (.region q49R8 false [4]) .ret)))), [.slot 4]⟩
/- oriel/orielref28.First -/
def q46R0 : List AOper := [⟨some 4, none, .mov (.const (.int .i64 0))⟩]
def q46R1 : List AOper := [⟨some 6, none, .mov (.slot 0)⟩,
  ⟨some 7, none, .len false (.slot 6)⟩,
  ⟨some 5, none, .mov (.slot 7)⟩]
def q46R2 : List AOper := [⟨some 8, none, .mov (.slot 5)⟩,
  ⟨some 9, none, .bin .gtr (.slot 8) (.const (.int .i64 0))⟩]
def q46R4 : List AOper := [⟨some 12, none, .mov (.slot 0)⟩,
  ⟨some 13, none, .mov (.slot 5)⟩,
  ⟨some 14, none, .sl 3 (.slot 12) none (some (.slot 13)) none⟩,
  ⟨some 15, none, .call .frz n_ref28_Size [(.slot 14)]⟩,
  ⟨some 16, none, .mov (.slot 1)⟩,
  ⟨some 17, none, .bin .leq (.slot 15) (.slot 16)⟩]
def q46R5 : List AOper := [⟨some 18, none, .mov (.slot 5)⟩,
  ⟨some 4, none, .mov (.slot 18)⟩]
def q46R3 : List AOper := [⟨some 10, none, .mov (.slot 5)⟩,
  ⟨some 11, none, .bin .sub (.slot 10) (.const (.int .i64 1))⟩,
  ⟨some 5, none, .mov (.slot 11)⟩]
def c_ref28_First_L0 : ACode := (.seq (.seq (.region q46R2 false [0, 1, 5, 9]) (.cond (.slot 9) .skip (.exit 0))) (.seq (.block 1 (.seq (.region q46R4 false [0, 1, 5, 17]) (.cond (.slot 17) (.seq (.region q46R5 false [4]) .ret) .skip))) (.region q46R3 false [0, 1, 5])))
def lp_ref28_First_0 : ACode := .loop [0, 1, 5] c_ref28_First_L0
def q46R6 : List AOper := [⟨some 4, none, .mov (.const (.int .i64 0))⟩]
def c_ref28_First : AFn := ⟨(.seq (.region q46R0 false [0, 1]) (.seq (.seq (.region q46R1 false [0, 1, 5]) (.block 0 lp_ref28_First_0)) (.seq (.region q46R6 false [4]) .ret))), [.slot 4]⟩
/- oriel/orielref28.Drop -/
def q45R0 : List AOper := [⟨some 4, none, .mov (.const (.data false 3 [] true))⟩]
def q45R1 : List AOper := [⟨some 5, none, .mknil 3⟩]
def q45R2 : List AOper := [⟨some 6, none, .mov (.const (.int .i64 0))⟩]
def q45R3 : List AOper := [⟨some 7, none, .mov (.slot 6)⟩,
  ⟨some 8, none, .mov (.slot 0)⟩,
  ⟨some 9, none, .len false (.slot 8)⟩,
  ⟨some 10, none, .bin .lss (.slot 7) (.slot 9)⟩]
def q45R5 : List AOper := [⟨some 13, none, .mov (.slot 0)⟩,
  ⟨some 14, none, .mov (.slot 6)⟩,
  ⟨some 15, none, .idx 3 (.slot 13) (.slot 14)⟩,
  ⟨some 16, none, .faddr 0 (.slot 15)⟩,
  ⟨some 17, none, .load false 1 (.slot 16)⟩,
  ⟨some 18, none, .mov (.slot 1)⟩,
  ⟨some 19, none, .bin .neq (.slot 17) (.slot 18)⟩]
def q45R6 : List AOper := [⟨some 20, none, .mov (.slot 5)⟩,
  ⟨some 21, none, .mov (.slot 0)⟩,
  ⟨some 22, none, .mov (.slot 6)⟩,
  ⟨some 23, none, .idx 3 (.slot 21) (.slot 22)⟩,
  ⟨some 24, none, .load true 3 (.slot 23)⟩,
  ⟨some 25, none, .mkslice 3 1 [.int .i64 0, .int .i64 0, .data false 1 [] true] [(0, (.slot 24))]⟩,
  ⟨some 26, none, .append 3 40 (.slot 20) (.slot 25)⟩,
  ⟨some 5, none, .mov (.slot 26)⟩]
def q45R4 : List AOper := [⟨some 11, none, .mov (.slot 6)⟩,
  ⟨some 12, none, .bin .add (.slot 11) (.const (.int .i64 1))⟩,
  ⟨some 6, none, .mov (.slot 12)⟩]
def c_ref28_Drop_L0 : ACode := (.seq (.seq (.region q45R3 false [0, 1, 5, 6, 10]) (.cond (.slot 10) .skip (.exit 0))) (.seq (.block 1 (.seq (.region q45R5 false [0, 1, 5, 6, 19]) (.cond (.slot 19) (.region q45R6 false [0, 1, 5, 6]) .skip))) (.region q45R4 false [0, 1, 5, 6])))
def lp_ref28_Drop_0 : ACode := .loop [0, 1, 5, 6] c_ref28_Drop_L0
def q45R7 : List AOper := [⟨some 27, none, .mov (.slot 5)⟩,
  ⟨some 4, none, .mov (.slot 27)⟩]
def c_ref28_Drop : AFn := ⟨(.seq (.region q45R0 false [0, 1]) (.seq (.region q45R1 false [0, 1, 5]) (.seq (.seq (.region q45R2 false [0, 1, 5, 6]) (.block 0 lp_ref28_Drop_0)) (.seq (.region q45R7 false [4]) .ret)))), [.slot 4]⟩
/- oriel/oriellaw28.MergeEdits -/
def q13R0 : List AOper := [⟨some 5, none, .box 3 (.slot 1)⟩,
  ⟨some 8, none, .mov (.const (.bool false))⟩]
def q13R1 : List AOper := [⟨some 21, none, .call .frz n_law28_known []⟩,
  ⟨some 22, none, .not (.slot 21)⟩]
def q13R2 : List AOper := [⟨some 8, none, .mov (.const (.bool false))⟩]
def q13R3 : List AOper := [⟨some 23, none, .mov (.slot 0)⟩,
  ⟨some 24, none, .call .frz n_law28_great [(.slot 23)]⟩,
  ⟨some 25, none, .mov (.slot 24)⟩,
  ⟨some 26, some (25, false), .faddr 2 (.slot 5)⟩,
  ⟨some 27, some (25, false), .load false 1 (.slot 26)⟩,
  ⟨some 28, some (25, false), .len false (.slot 27)⟩,
  ⟨some 29, some (25, false), .bin .gtr (.slot 28) (.const (.int .i64 100))⟩,
  ⟨some 30, none, .pick (.slot 25) (.const (.bool true)) (.slot 29)⟩]
def q13R4 : List AOper := [⟨some 8, none, .mov (.const (.bool true))⟩]
def q13R5 : List AOper := [⟨some 31, none, .mov (.slot 0)⟩,
  ⟨some 32, none, .call .frz n_ref28_Copy [(.slot 31)]⟩,
  ⟨some 9, none, .mov (.slot 32)⟩]
def q13R6 : List AOper := [⟨some 34, none, .mov (.slot 9)⟩,
  ⟨some 35, none, .load true 3 (.slot 5)⟩,
  ⟨some 36, none, .call .frz n_merge_Push [(.slot 34), (.slot 35)]⟩,
  ⟨some 33, none, .mov (.slot 36)⟩,
  ⟨some 37, none, .extract 0 (.slot 33)⟩,
  ⟨some 38, none, .extract 1 (.slot 33)⟩,
  ⟨some 10, none, .mov (.slot 37)⟩,
  ⟨some 11, none, .mov (.slot 38)⟩]
def q13R7 : List AOper := [⟨some 40, none, .mov (.slot 9)⟩,
  ⟨some 41, none, .mov (.slot 2)⟩,
  ⟨some 42, none, .call .frz n_merge_Pop [(.slot 40), (.slot 41)]⟩,
  ⟨some 39, none, .mov (.slot 42)⟩,
  ⟨some 43, none, .extract 0 (.slot 39)⟩,
  ⟨some 44, none, .extract 1 (.slot 39)⟩,
  ⟨some 12, none, .mov (.slot 43)⟩,
  ⟨some 13, none, .mov (.slot 44)⟩]
def q13R8 : List AOper := [⟨some 45, none, .mov (.slot 9)⟩,
  ⟨some 46, none, .mov (.slot 3)⟩,
  ⟨some 47, none, .call .frz n_merge_Drop [(.slot 45), (.slot 46)]⟩,
  ⟨some 14, none, .mov (.slot 47)⟩]
def q13R9 : List AOper := [⟨some 48, none, .mov (.slot 9)⟩,
  ⟨some 49, none, .call .frz n_merge_May [(.slot 48)]⟩,
  ⟨some 50, none, .mov (.slot 0)⟩,
  ⟨some 51, none, .call .frz n_ref28_May [(.slot 50)]⟩,
  ⟨some 52, none, .eq false [.kb] true (.slot 49) (.slot 51)⟩,
  ⟨some 53, none, .mov (.slot 52)⟩,
  ⟨some 54, some (53, false), .mov (.slot 9)⟩,
  ⟨some 55, some (53, false), .mov (.slot 0)⟩,
  ⟨some 56, some (53, false), .call .frz n_ref28_Same [(.slot 54), (.slot 55)]⟩,
  ⟨some 57, some (53, false), .not (.slot 56)⟩,
  ⟨some 58, none, .pick (.slot 53) (.const (.bool true)) (.slot 57)⟩]
def q13R10 : List AOper := [⟨some 8, none, .mov (.const (.bool false))⟩]
def q13R11 : List AOper := [⟨some 59, none, .mov (.slot 0)⟩,
  ⟨some 60, none, .call .frz n_ref28_May [(.slot 59)]⟩,
  ⟨some 61, none, .not (.slot 60)⟩]
def q13R12 : List AOper := [⟨some 62, none, .mov (.slot 11)⟩,
  ⟨some 63, none, .not (.slot 62)⟩,
  ⟨some 64, none, .mov (.slot 63)⟩,
  ⟨some 65, some (64, true), .mov (.slot 10)⟩,
  ⟨some 66, some (64, true), .len false (.slot 65)⟩,
  ⟨some 67, some (64, true), .mov (.slot 12)⟩,
  ⟨some 68, some (64, true), .len false (.slot 67)⟩,
  ⟨some 69, some (64, true), .bin .add (.slot 66) (.slot 68)⟩,
  ⟨some 70, some (64, true), .mov (.slot 13)⟩,
  ⟨some 71, some (64, true), .len false (.slot 70)⟩,
  ⟨some 72, some (64, true), .bin .add (.slot 69) (.slot 71)⟩,
  ⟨some 73, some (64, true), .mov (.slot 14)⟩,
  ⟨some 74, some (64, true), .len false (.slot 73)⟩,
  ⟨some 75, some (64, true), .bin .add (.slot 72) (.slot 74)⟩,
  ⟨some 76, some (64, true), .bin .eql (.slot 75) (.const (.int .i64 0))⟩,
  ⟨some 77, none, .pick (.slot 64) (.slot 76) (.const (.bool false))⟩,
  ⟨some 78, none, .mov (.slot 77)⟩,
  ⟨some 79, some (78, true), .mov (.slot 0)⟩,
  ⟨some 80, some (78, true), .call .frz n_merge_Size [(.slot 79)]⟩,
  ⟨some 81, some (78, true), .bin .eql (.slot 80) (.const (.int .i64 0))⟩,
  ⟨some 82, none, .pick (.slot 78) (.slot 81) (.const (.bool false))⟩,
  ⟨some 8, none, .mov (.slot 82)⟩]
def q13R13 : List AOper := [⟨some 83, none, .mov (.slot 0)⟩,
  ⟨some 84, none, .mov (.slot 2)⟩,
  ⟨some 85, none, .call .frz n_ref28_First [(.slot 83), (.slot 84)]⟩,
  ⟨some 15, none, .mov (.slot 85)⟩]
def q13R14 : List AOper := ⟨some 86, none, .mov (.slot 0)⟩ ::
  ⟨some 87, none, .call .frz n_merge_Size [(.slot 86)]⟩ ::
  ⟨some 88, none, .mov (.slot 0)⟩ ::
  ⟨some 89, none, .call .frz n_ref28_Size [(.slot 88)]⟩ ::
  ⟨some 90, none, .bin .neq (.slot 87) (.slot 89)⟩ ::
  ⟨some 91, none, .mov (.slot 90)⟩ ::
  ⟨some 92, some (91, false), .mov (.slot 12)⟩ ::
  ⟨some 93, some (91, false), .mov (.slot 0)⟩ ::
  ⟨some 94, some (91, false), .mov (.slot 15)⟩ ::
  ⟨some 95, some (91, false), .sl 3 (.slot 93) (some (.slot 94)) none none⟩ ::
  ⟨some 96, some (91, false), .call .frz n_ref28_Same [(.slot 92), (.slot 95)]⟩ ::
  ⟨some 97, some (91, false), .not (.slot 96)⟩ ::
  ⟨some 98, none, .pick (.slot 91) (.const (.bool true)) (.slot 97)⟩ ::
  ⟨some 99, none, .mov (.slot 98)⟩ ::
  ⟨some 100, some (99, false), .mov (.slot 13)⟩ ::
  ⟨some 101, some (99, false), .mov (.slot 0)⟩ ::
  ⟨some 102, some (99, false), .mov (.slot 15)⟩ ::
  ⟨some 103, some (99, false), .sl 3 (.slot 101) none (some (.slot 102)) none⟩ ::
  ⟨some 104, some (99, false), .call .frz n_ref28_Same [(.slot 100), (.slot 103)]⟩ ::
  ⟨some 105, some (99, false), .not (.slot 104)⟩ ::
  ⟨some 106, none, .pick (.slot 99) (.const (.bool true)) (.slot 105)⟩ ::
  ⟨some 107, none, .mov (.slot 106)⟩ ::
  ⟨some 108, some (107, false), .mov (.slot 14)⟩ ::
  ⟨some 109, some (107, false), .mov (.slot 0)⟩ ::
  ⟨some 110, some (107, false), .mov (.slot 3)⟩ ::
  ⟨some 111, some (107, false), .call .frz n_ref28_Drop [(.slot 109), (.slot 110)]⟩ ::
  ⟨some 112, some (107, false), .call .frz n_ref28_Same [(.slot 108), (.slot 111)]⟩ ::
  ⟨some 113, some (107, false), .not (.slot 112)⟩ ::
  ⟨some 114, none, .pick (.slot 107) (.const (.bool true)) (.slot 113)⟩ :: []
def q13R15 : List AOper := [⟨some 8, none, .mov (.const (.bool false))⟩]
def q13R16 : List AOper := [⟨some 115, none, .load true 3 (.slot 5)⟩,
  ⟨some 116, none, .call .frz n_ref28_Piece [(.slot 115)]⟩,
  ⟨some 117, none, .mov (.slot 116)⟩,
  ⟨some 118, some (117, true), .mov (.slot 0)⟩,
  ⟨some 119, some (117, true), .call .frz n_ref28_Size [(.slot 118)]⟩,
  ⟨some 120, some (117, true), .faddr 2 (.slot 5)⟩,
  ⟨some 121, some (117, true), .load false 1 (.slot 120)⟩,
  ⟨some 122, some (117, true), .len false (.slot 121)⟩,
  ⟨some 123, some (117, true), .bin .add (.slot 119) (.slot 122)⟩,
  ⟨some 124, some (117, true), .bin .leq (.slot 123) (.const (.int .i64 64))⟩,
  ⟨some 125, none, .pick (.slot 117) (.slot 124) (.const (.bool false))⟩,
  ⟨some 16, none, .mov (.slot 125)⟩]
def q13R17 : List AOper := [⟨some 126, none, .mov (.slot 0)⟩,
  ⟨some 127, none, .call .adp n_ref28_Copy [(.slot 126)]⟩,
  ⟨some 17, none, .mov (.slot 127)⟩]
def q13R18 : List AOper := [⟨some 128, none, .mov (.slot 16)⟩]
def q13R19 : List AOper := [⟨some 129, none, .mov (.slot 17)⟩,
  ⟨some 130, none, .load true 3 (.slot 5)⟩,
  ⟨some 131, none, .mkslice 3 1 [.int .i64 0, .int .i64 0, .data false 1 [] true] [(0, (.slot 130))]⟩,
  ⟨some 132, none, .append 3 40 (.slot 129) (.slot 131)⟩,
  ⟨some 17, none, .mov (.slot 132)⟩]
def q13R20 : List AOper := [⟨some 133, none, .mov (.slot 11)⟩,
  ⟨some 134, none, .mov (.slot 16)⟩,
  ⟨some 135, none, .eq false [.kb] true (.slot 133) (.slot 134)⟩,
  ⟨some 136, none, .mov (.slot 135)⟩,
  ⟨some 137, some (136, false), .mov (.slot 10)⟩,
  ⟨some 138, some (136, false), .mov (.slot 17)⟩,
  ⟨some 139, some (136, false), .call .frz n_ref28_Same [(.slot 137), (.slot 138)]⟩,
  ⟨some 140, some (136, false), .not (.slot 139)⟩,
  ⟨some 141, none, .pick (.slot 136) (.const (.bool true)) (.slot 140)⟩]
def q13R21 : List AOper := [⟨some 8, none, .mov (.const (.bool false))⟩]
def q13R22 : List AOper := [⟨some 142, none, .mkslice 3 0 [.int .i64 0, .int .i64 0, .data false 1 [] true] []⟩,
  ⟨some 143, none, .mov (.slot 10)⟩,
  ⟨some 144, none, .append 3 40 (.slot 142) (.slot 143)⟩,
  ⟨some 145, none, .mov (.slot 12)⟩,
  ⟨some 146, none, .append 3 40 (.slot 144) (.slot 145)⟩,
  ⟨some 147, none, .mkslice 3 0 [.int .i64 0, .int .i64 0, .data false 1 [] true] []⟩,
  ⟨some 148, none, .mov (.slot 13)⟩,
  ⟨some 149, none, .append 3 40 (.slot 147) (.slot 148)⟩,
  ⟨some 150, none, .mov (.slot 14)⟩,
  ⟨some 151, none, .append 3 40 (.slot 149) (.slot 150)⟩,
  ⟨some 152, none, .append 3 40 (.slot 146) (.slot 151)⟩,
  ⟨some 18, none, .mov (.slot 152)⟩]
def q13R23 : List AOper := [⟨some 19, none, .mov (.const (.int .i64 0))⟩]
def q13R24 : List AOper := [⟨some 153, none, .mov (.slot 19)⟩,
  ⟨some 154, none, .mov (.slot 18)⟩,
  ⟨some 155, none, .len false (.slot 154)⟩,
  ⟨some 156, none, .bin .lss (.slot 153) (.slot 155)⟩]
def q13R26 : List AOper := [⟨some 20, none, .mov (.const (.int .i64 0))⟩]
def q13R27 : List AOper := [⟨some 159, none, .mov (.slot 20)⟩,
  ⟨some 160, none, .mov (.slot 18)⟩,
  ⟨some 161, none, .mov (.slot 19)⟩,
  ⟨some 162, none, .idx 3 (.slot 160) (.slot 161)⟩,
  ⟨some 163, none, .faddr 2 (.slot 162)⟩,
  ⟨some 164, none, .load false 1 (.slot 163)⟩,
  ⟨some 165, none, .len false (.slot 164)⟩,
  ⟨some 166, none, .bin .lss (.slot 159) (.slot 165)⟩]
def q13R29 : List AOper := [⟨some 169, none, .mov (.slot 18)⟩,
  ⟨some 170, none, .mov (.slot 19)⟩,
  ⟨some 171, none, .idx 3 (.slot 169) (.slot 170)⟩,
  ⟨some 172, none, .faddr 2 (.slot 171)⟩,
  ⟨some 173, none, .load false 1 (.slot 172)⟩,
  ⟨some 174, none, .mov (.slot 20)⟩,
  ⟨some 175, none, .idx 1 (.slot 173) (.slot 174)⟩,
  ⟨some 176, none, .load false 1 (.slot 175)⟩,
  ⟨some 177, none, .bin .add (.slot 176) (.const (.int .u8 1))⟩,
  ⟨some 178, none, .idx 1 (.slot 173) (.slot 174)⟩,
  ⟨none, none, .store false 1 (.slot 178) (.slot 177)⟩]
def q13R28 : List AOper := [⟨some 167, none, .mov (.slot 20)⟩,
  ⟨some 168, none, .bin .add (.slot 167) (.const (.int .i64 1))⟩,
  ⟨some 20, none, .mov (.slot 168)⟩]
def c_law28_MergeEdits_L1 : ACode := (.seq (.seq (.region q13R27 false [0, 9, 18, 19, 20, 166]) (.cond (.slot 166) .skip (.exit 2))) (.seq (.block 3 (.region q13R29 false [0, 9, 18, 19, 20])) (.region q13R28 false [0, 9, 18, 19, 20])))
def lp_law28_MergeEdits_1 : ACode := .loop [0, 9, 18, 19, 20] c_law28_MergeEdits_L1
def q13R25 : List AOper := [⟨some 157, none, .mov (.slot 19)⟩,
  ⟨some 158, none, .bin .add (.slot 157) (.const (.int .i64 1))⟩,
  ⟨some 19, none, .mov (.slot 158)⟩]
def c_law28_MergeEdits_L0 : ACode := (.seq (.seq (.region q13R24 false [0, 9, 18, 19, 156]) (.cond (.slot 156) .skip (.exit 0))) (.seq (.block 1 (.seq (.region q13R26 false [0, 9, 18, 19, 20]) (.block 2 lp_law28_MergeEdits_1))) (.region q13R25 false [0, 9, 18, 19])))
def lp_law28_MergeEdits_0 : ACode := .loop [0, 9, 18, 19] c_law28_MergeEdits_L0
def q13R30 : List AOper := [⟨some 179, none, .mov (.slot 9)⟩,
  ⟨some 180, none, .mov (.slot 0)⟩,
  ⟨some 181, none, .call .frz n_ref28_Same [(.slot 179), (.slot 180)]⟩,
  ⟨some 8, none, .mov (.slot 181)⟩]
def c_law28_MergeEdits : AFn := ⟨(.seq (.region q13R0 false [0, 2, 3, 5]) (.seq (.seq (.region q13R1 false [0, 2, 3, 5, 22]) (.cond (.slot 22) (.seq (.region q13R2 false [8]) .ret) .skip)) (.seq (.seq (.region q13R3 false [0, 2, 3, 5, 30]) (.cond (.slot 30) (.seq (.region q13R4 false [8]) .ret) .skip)) (.seq (.region q13R5 false [0, 2, 3, 5, 9]) (.seq (.region q13R6 false [0, 2, 3, 5, 9, 10, 11]) (.seq (.region q13R7 false [0, 2, 3, 5, 9, 10, 11, 12, 13]) (.seq (.region q13R8 false [0, 2, 3, 5, 9, 10, 11, 12, 13, 14]) (.seq (.seq (.region q13R9 false [0, 2, 3, 5, 9, 10, 11, 12, 13, 14, 58]) (.cond (.slot 58) (.seq (.region q13R10 false [8]) .ret) .skip)) (.seq (.seq (.region q13R11 false [0, 2, 3, 5, 9, 10, 11, 12, 13, 14, 61]) (.cond (.slot 61) (.seq (.region q13R12 false [8]) .ret) .skip)) (.seq (.region q13R13 false [0, 3, 5, 9, 10, 11, 12, 13, 14, 15]) (.seq (.seq (.region q13R14 false [0, 5, 9, 10, 11, 12, 13, 14, 114]) (.cond (.slot 114) (.seq (.region q13R15 false [8]) .ret) .skip)) (.seq (.region q13R16 true [0, 5, 9, 10, 11, 12, 13, 14, 16]) (.seq (.region q13R17 false [0, 5, 9, 10, 11, 12, 13, 14, 16, 17]) (.seq (.seq (.region q13R18 false [0, 5, 9, 10, 11, 12, 13, 14, 16, 17, 128]) (.cond (.slot 128) (.region q13R19 false [0, 9, 10, 11, 12, 13, 14, 16, 17]) .skip)) (.seq (.seq (.region q13R20 false [0, 9, 10, 12, 13, 14, 141]) (.cond (.slot 141) (.seq (.region q13R21 false [8]) .ret) .skip)) (.seq (.region q13R22 false [0, 9, 18]) (.seq (.seq (.region q13R23 false [0, 9, 18, 19]) (.block 0 lp_law28_MergeEdits_0)) (.seq (.region q13R30 false [8]) .ret)))))))))))))))))), [.slot 8]⟩
/-- The seat's functions. -/
def FT : Nat → Option AEnt
  | 56 => some (.fn c_merge_piece)
  | 20 => some (.fn c_merge_May)
  | 23 => some (.ext (extSize))
  | 83 => some (.ext (extClone 1))
  | 55 => some (.fn c_merge_copied)
  | 17 => some (.fn c_merge_Push)
  | 18 => some (.fn c_merge_Pop)
  | 84 => some (.fn c_slices_IndexFunc_Typed)
  | 57 => some (.fn c_slices_DeleteFunc_Typed)
  | 58 => some (.fn c_merge_Drop_1)
  | 19 => some (.fn c_merge_Drop)
  | 14 => some (.fn c_law28_known)
  | 15 => some (.fn c_law28_great)
  | 16 => some (.fn c_ref28_Copy)
  | 25 => some (.fn c_ref28_Size)
  | 27 => some (.fn c_ref28_Piece)
  | 21 => some (.fn c_ref28_May)
  | 22 => some (.fn c_ref28_Same)
  | 24 => some (.fn c_ref28_First)
  | 26 => some (.fn c_ref28_Drop)
  | 3 => some (.fn c_law28_MergeEdits)
  | _ => none
variable (G : Nat → Option (List AV)) (args : List AV) (h : List ARow)
theorem run_merge_copied : aR G FT n_merge_copied args h = (aE G FT h.length c_merge_copied.body ⟨aenter args, h⟩).bind (afinish c_merge_copied.res) := y_fn G FT rfl args h
theorem run_merge_Push : aR G FT n_merge_Push args h = (aE G FT h.length c_merge_Push.body ⟨aenter args, h⟩).bind (afinish c_merge_Push.res) := y_fn G FT rfl args h
theorem run_merge_Pop : aR G FT n_merge_Pop args h = (aE G FT h.length c_merge_Pop.body ⟨aenter args, h⟩).bind (afinish c_merge_Pop.res) := y_fn G FT rfl args h
theorem run_slices_IndexFunc_Typed : aR G FT n_slices_IndexFunc_Typed args h = (aE G FT h.length c_slices_IndexFunc_Typed.body ⟨aenter args, h⟩).bind (afinish c_slices_IndexFunc_Typed.res) := y_fn G FT rfl args h
theorem run_slices_DeleteFunc_Typed : aR G FT n_slices_DeleteFunc_Typed args h = (aE G FT h.length c_slices_DeleteFunc_Typed.body ⟨aenter args, h⟩).bind (afinish c_slices_DeleteFunc_Typed.res) := y_fn G FT rfl args h
theorem run_merge_Drop_1 : aR G FT n_merge_Drop_1 args h = (aE G FT h.length c_merge_Drop_1.body ⟨aenter args, h⟩).bind (afinish c_merge_Drop_1.res) := y_fn G FT rfl args h
theorem run_merge_Drop : aR G FT n_merge_Drop args h = (aE G FT h.length c_merge_Drop.body ⟨aenter args, h⟩).bind (afinish c_merge_Drop.res) := y_fn G FT rfl args h
theorem run_law28_great : aR G FT n_law28_great args h = (aE G FT h.length c_law28_great.body ⟨aenter args, h⟩).bind (afinish c_law28_great.res) := y_fn G FT rfl args h
theorem run_ref28_Copy : aR G FT n_ref28_Copy args h = (aE G FT h.length c_ref28_Copy.body ⟨aenter args, h⟩).bind (afinish c_ref28_Copy.res) := y_fn G FT rfl args h
theorem run_ref28_Size : aR G FT n_ref28_Size args h = (aE G FT h.length c_ref28_Size.body ⟨aenter args, h⟩).bind (afinish c_ref28_Size.res) := y_fn G FT rfl args h
theorem run_ref28_Piece : aR G FT n_ref28_Piece args h = (aE G FT h.length c_ref28_Piece.body ⟨aenter args, h⟩).bind (afinish c_ref28_Piece.res) := y_fn G FT rfl args h
theorem run_ref28_May : aR G FT n_ref28_May args h = (aE G FT h.length c_ref28_May.body ⟨aenter args, h⟩).bind (afinish c_ref28_May.res) := y_fn G FT rfl args h
theorem run_ref28_Same : aR G FT n_ref28_Same args h = (aE G FT h.length c_ref28_Same.body ⟨aenter args, h⟩).bind (afinish c_ref28_Same.res) := y_fn G FT rfl args h
theorem run_ref28_First : aR G FT n_ref28_First args h = (aE G FT h.length c_ref28_First.body ⟨aenter args, h⟩).bind (afinish c_ref28_First.res) := y_fn G FT rfl args h
theorem run_ref28_Drop : aR G FT n_ref28_Drop args h = (aE G FT h.length c_ref28_Drop.body ⟨aenter args, h⟩).bind (afinish c_ref28_Drop.res) := y_fn G FT rfl args h
end Go.Proofs.Ytfnonledcniojaa
