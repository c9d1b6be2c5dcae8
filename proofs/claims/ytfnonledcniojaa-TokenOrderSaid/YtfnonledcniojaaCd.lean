/- The small machine's code of the seat's functions. Conditions: none. -/
import Derived.Test.YtfnonledcniojaaM3
import Derived.Test.YtfnonledcniojaaCda
set_option linter.unusedVariables false
set_option linter.unusedSimpArgs false
set_option linter.unusedSectionVars false
namespace Go.Proofs.Ytfnonledcniojaa
open Go

/- oriel/roster.Change -/
def c_roster_Change_R0 : List AOper := [⟨some 6, none, .mov (.const (.data false 2 [] true))⟩,
  ⟨some 7, none, .mov (.const (.int .i64 0))⟩]
def c_roster_Change_R1 : List AOper := [⟨some 13, none, .mov (.slot 0)⟩,
  ⟨some 14, none, .call .frz n_roster_May [(.slot 13)]⟩,
  ⟨some 15, none, .not (.slot 14)⟩,
  ⟨some 16, none, .mov (.slot 15)⟩,
  ⟨some 17, some (16, false), .mov (.slot 2)⟩,
  ⟨some 18, some (16, false), .call .frz n_roster_role [(.slot 17)]⟩,
  ⟨some 19, some (16, false), .not (.slot 18)⟩,
  ⟨some 20, none, .pick (.slot 16) (.const (.bool true)) (.slot 19)⟩]
def c_roster_Change_R2 : List AOper := [⟨some 6, none, .mov (.const (.data false 2 [] true))⟩,
  ⟨some 7, none, .mov (.const (.int .i64 2))⟩]
def c_roster_Change_R3 : List AOper := [⟨some 22, none, .mov (.slot 0)⟩,
  ⟨some 23, none, .mov (.slot 1)⟩,
  ⟨some 24, none, .call .frz n_roster_Find [(.slot 22), (.slot 23)]⟩,
  ⟨some 21, none, .mov (.slot 24)⟩,
  ⟨some 25, none, .extract 0 (.slot 21)⟩,
  ⟨some 26, none, .extract 1 (.slot 21)⟩,
  ⟨some 8, none, .alloc [.int .i64 0, .int .i64 0]⟩,
  ⟨none, none, .store true 2 (.slot 8) (.slot 25)⟩,
  ⟨some 9, none, .mov (.slot 26)⟩]
def c_roster_Change_R4 : List AOper := [⟨some 27, none, .mov (.slot 9)⟩,
  ⟨some 28, none, .not (.slot 27)⟩]
def c_roster_Change_R5 : List AOper := [⟨some 6, none, .mov (.const (.data false 2 [] true))⟩,
  ⟨some 7, none, .mov (.const (.int .i64 6))⟩]
def c_roster_Change_R6 : List AOper := [⟨some 29, none, .mov (.slot 0)⟩,
  ⟨some 30, none, .call .frz n_slices_Clone_Member [(.slot 29)]⟩,
  ⟨some 10, none, .mov (.slot 30)⟩]
def c_roster_Change_R7 : List AOper := [⟨some 32, none, .mov (.slot 0)⟩,
  ⟨some 33, none, .mov (.slot 1)⟩,
  ⟨some 34, none, .call .frz n_roster_place [(.slot 32), (.slot 33)]⟩,
  ⟨some 31, none, .mov (.slot 34)⟩,
  ⟨some 35, none, .extract 0 (.slot 31)⟩,
  ⟨some 36, none, .extract 1 (.slot 31)⟩,
  ⟨some 11, none, .mov (.slot 35)⟩,
  ⟨some 12, none, .mov (.slot 36)⟩]
def c_roster_Change_R8 : List AOper := [⟨some 37, none, .mov (.slot 10)⟩,
  ⟨some 38, none, .mov (.slot 11)⟩,
  ⟨some 39, none, .mov (.slot 2)⟩,
  ⟨some 40, none, .idx 2 (.slot 37) (.slot 38)⟩,
  ⟨some 41, none, .faddr 1 (.slot 40)⟩,
  ⟨none, none, .store false 1 (.slot 41) (.slot 39)⟩]
def c_roster_Change_R9 : List AOper := [⟨some 42, none, .mov (.slot 10)⟩,
  ⟨some 6, none, .mov (.slot 42)⟩,
  ⟨some 7, none, .mov (.const (.int .i64 0))⟩]
def c_roster_Change : AFn := ⟨(.seq (.region c_roster_Change_R0 false [0, 1, 2]) (.seq (.seq (.region c_roster_Change_R1 false [0, 1, 2, 20]) (.cond (.slot 20) (.seq (.region c_roster_Change_R2 false [6, 7]) .ret) .skip)) (.seq (.seq (.region c_roster_Change_R3 false [0, 1, 2, 9]) (.seq (.region c_roster_Change_R4 false [0, 1, 2, 28]) (.cond (.slot 28) (.seq (.region c_roster_Change_R5 false [6, 7]) .ret) .skip))) (.seq (.region c_roster_Change_R6 false [0, 1, 2, 10]) (.seq (.region c_roster_Change_R7 false [2, 10, 11]) (.seq (.region c_roster_Change_R8 false [10]) (.seq (.region c_roster_Change_R9 false [6, 7]) .ret))))))), [.slot 6, .slot 7]⟩
/- oriel/orielref26.With -/
def c_ref26_With_R0 : List AOper := [⟨some 6, none, .mov (.const (.data false 2 [] true))⟩]
def c_ref26_With_R1 : List AOper := [⟨some 7, none, .mknil 2⟩]
def c_ref26_With_R2 : List AOper := [⟨some 8, none, .mov (.const (.int .i64 1))⟩]
def c_ref26_With_R3 : List AOper := [⟨some 10, none, .mov (.slot 8)⟩,
  ⟨some 11, none, .bin .leq (.slot 10) (.const (.int .i64 8))⟩]
def c_ref26_With_R5 : List AOper := [⟨some 14, none, .mov (.slot 0)⟩,
  ⟨some 15, none, .mov (.slot 8)⟩,
  ⟨some 16, none, .call .frz n_ref26_Role [(.slot 14), (.slot 15)]⟩,
  ⟨some 9, none, .mov (.slot 16)⟩]
def c_ref26_With_R6 : List AOper := [⟨some 17, none, .mov (.slot 8)⟩,
  ⟨some 18, none, .mov (.slot 1)⟩,
  ⟨some 19, none, .bin .eql (.slot 17) (.slot 18)⟩]
def c_ref26_With_R7 : List AOper := [⟨some 20, none, .mov (.slot 2)⟩,
  ⟨some 9, none, .mov (.slot 20)⟩]
def c_ref26_With_R8 : List AOper := [⟨some 21, none, .mov (.slot 9)⟩,
  ⟨some 22, none, .bin .neq (.slot 21) (.const (.int .i64 0))⟩]
def c_ref26_With_R9 : List AOper := [⟨some 23, none, .mov (.slot 7)⟩,
  ⟨some 24, none, .mov (.slot 8)⟩,
  ⟨some 25, none, .mov (.slot 9)⟩,
  ⟨some 26, none, .build [.int .i64 0, .int .i64 0] [(0, 1, (.slot 24)), (1, 1, (.slot 25))]⟩,
  ⟨some 27, none, .mkslice 2 1 [.int .i64 0, .int .i64 0] [(0, (.slot 26))]⟩,
  ⟨some 28, none, .append 2 16 (.slot 23) (.slot 27)⟩,
  ⟨some 7, none, .mov (.slot 28)⟩]
def c_ref26_With_R4 : List AOper := [⟨some 12, none, .mov (.slot 8)⟩,
  ⟨some 13, none, .bin .add (.slot 12) (.const (.int .i64 1))⟩,
  ⟨some 8, none, .mov (.slot 13)⟩]
def c_ref26_With_L0 : ACode := (.seq (.seq (.region c_ref26_With_R3 false [0, 1, 2, 7, 8, 11]) (.cond (.slot 11) .skip (.exit 0))) (.seq (.block 1 (.seq (.region c_ref26_With_R5 false [0, 1, 2, 7, 8, 9]) (.seq (.seq (.region c_ref26_With_R6 false [0, 1, 2, 7, 8, 9, 19]) (.cond (.slot 19) (.region c_ref26_With_R7 false [0, 1, 2, 7, 8, 9]) .skip)) (.seq (.region c_ref26_With_R8 false [0, 1, 2, 7, 8, 9, 22]) (.cond (.slot 22) (.region c_ref26_With_R9 false [0, 1, 2, 7, 8]) .skip))))) (.region c_ref26_With_R4 false [0, 1, 2, 7, 8])))
def lp_ref26_With_0 : ACode := .loop [0, 1, 2, 7, 8] c_ref26_With_L0
def c_ref26_With_R10 : List AOper := [⟨some 29, none, .mov (.slot 7)⟩,
  ⟨some 6, none, .mov (.slot 29)⟩]
def c_ref26_With : AFn := ⟨(.seq (.region c_ref26_With_R0 false [0, 1, 2]) (.seq (.region c_ref26_With_R1 false [0, 1, 2, 7]) (.seq (.seq (.region c_ref26_With_R2 false [0, 1, 2, 7, 8]) (.block 0 lp_ref26_With_0)) (.seq (.region c_ref26_With_R10 false [6]) .ret)))), [.slot 6]⟩
/- oriel/orielref26.Join -/
def c_ref26_Join_R0 : List AOper := [⟨some 6, none, .mov (.const (.data false 2 [] true))⟩,
  ⟨some 7, none, .mov (.const (.int .i64 0))⟩]
def c_ref26_Join_R1 : List AOper := [⟨some 8, none, .mov (.slot 0)⟩,
  ⟨some 9, none, .call .frz n_ref26_May [(.slot 8)]⟩,
  ⟨some 10, none, .not (.slot 9)⟩,
  ⟨some 11, none, .mov (.slot 10)⟩,
  ⟨some 12, some (11, false), .mov (.slot 1)⟩,
  ⟨some 13, some (11, false), .bin .lss (.slot 12) (.const (.int .i64 1))⟩,
  ⟨some 14, none, .pick (.slot 11) (.const (.bool true)) (.slot 13)⟩,
  ⟨some 15, none, .mov (.slot 14)⟩,
  ⟨some 16, some (15, false), .mov (.slot 1)⟩,
  ⟨some 17, some (15, false), .bin .gtr (.slot 16) (.const (.int .i64 8))⟩,
  ⟨some 18, none, .pick (.slot 15) (.const (.bool true)) (.slot 17)⟩,
  ⟨some 19, none, .mov (.slot 18)⟩,
  ⟨some 20, some (19, false), .mov (.slot 2)⟩,
  ⟨some 21, some (19, false), .bin .lss (.slot 20) (.const (.int .i64 1))⟩,
  ⟨some 22, none, .pick (.slot 19) (.const (.bool true)) (.slot 21)⟩,
  ⟨some 23, none, .mov (.slot 22)⟩,
  ⟨some 24, some (23, false), .mov (.slot 2)⟩,
  ⟨some 25, some (23, false), .bin .gtr (.slot 24) (.const (.int .i64 2))⟩,
  ⟨some 26, none, .pick (.slot 23) (.const (.bool true)) (.slot 25)⟩]
def c_ref26_Join_R2 : List AOper := [⟨some 6, none, .mov (.const (.data false 2 [] true))⟩,
  ⟨some 7, none, .mov (.const (.int .i64 2))⟩]
def c_ref26_Join_R3 : List AOper := [⟨some 27, none, .mov (.slot 0)⟩,
  ⟨some 28, none, .mov (.slot 1)⟩,
  ⟨some 29, none, .call .frz n_ref26_Role [(.slot 27), (.slot 28)]⟩,
  ⟨some 30, none, .bin .neq (.slot 29) (.const (.int .i64 0))⟩]
def c_ref26_Join_R4 : List AOper := [⟨some 6, none, .mov (.const (.data false 2 [] true))⟩,
  ⟨some 7, none, .mov (.const (.int .i64 260))⟩]
def c_ref26_Join_R5 : List AOper := [⟨some 31, none, .mov (.slot 0)⟩,
  ⟨some 32, none, .mov (.slot 1)⟩,
  ⟨some 33, none, .mov (.slot 2)⟩,
  ⟨some 34, none, .call .frz n_ref26_With [(.slot 31), (.slot 32), (.slot 33)]⟩,
  ⟨some 6, none, .mov (.slot 34)⟩,
  ⟨some 7, none, .mov (.const (.int .i64 0))⟩]
def c_ref26_Join : AFn := ⟨(.seq (.region c_ref26_Join_R0 false [0, 1, 2]) (.seq (.seq (.region c_ref26_Join_R1 false [0, 1, 2, 26]) (.cond (.slot 26) (.seq (.region c_ref26_Join_R2 false [6, 7]) .ret) .skip)) (.seq (.seq (.region c_ref26_Join_R3 false [0, 1, 2, 30]) (.cond (.slot 30) (.seq (.region c_ref26_Join_R4 false [6, 7]) .ret) .skip)) (.seq (.region c_ref26_Join_R5 false [6, 7]) .ret)))), [.slot 6, .slot 7]⟩
/- oriel/orielref26.Leave -/
def c_ref26_Leave_R0 : List AOper := [⟨some 4, none, .mov (.const (.data false 2 [] true))⟩,
  ⟨some 5, none, .mov (.const (.int .i64 0))⟩]
def c_ref26_Leave_R1 : List AOper := [⟨some 6, none, .mov (.slot 0)⟩,
  ⟨some 7, none, .call .frz n_ref26_May [(.slot 6)]⟩,
  ⟨some 8, none, .not (.slot 7)⟩]
def c_ref26_Leave_R2 : List AOper := [⟨some 4, none, .mov (.const (.data false 2 [] true))⟩,
  ⟨some 5, none, .mov (.const (.int .i64 2))⟩]
def c_ref26_Leave_R3 : List AOper := [⟨some 9, none, .mov (.slot 0)⟩,
  ⟨some 10, none, .mov (.slot 1)⟩,
  ⟨some 11, none, .call .frz n_ref26_Role [(.slot 9), (.slot 10)]⟩,
  ⟨some 12, none, .bin .eql (.slot 11) (.const (.int .i64 0))⟩]
def c_ref26_Leave_R4 : List AOper := [⟨some 4, none, .mov (.const (.data false 2 [] true))⟩,
  ⟨some 5, none, .mov (.const (.int .i64 6))⟩]
def c_ref26_Leave_R5 : List AOper := [⟨some 13, none, .mov (.slot 0)⟩,
  ⟨some 14, none, .mov (.slot 1)⟩,
  ⟨some 15, none, .call .frz n_ref26_With [(.slot 13), (.slot 14), (.const (.int .i64 0))]⟩,
  ⟨some 4, none, .mov (.slot 15)⟩,
  ⟨some 5, none, .mov (.const (.int .i64 0))⟩]
def c_ref26_Leave : AFn := ⟨(.seq (.region c_ref26_Leave_R0 false [0, 1]) (.seq (.seq (.region c_ref26_Leave_R1 false [0, 1, 8]) (.cond (.slot 8) (.seq (.region c_ref26_Leave_R2 false [4, 5]) .ret) .skip)) (.seq (.seq (.region c_ref26_Leave_R3 false [0, 1, 12]) (.cond (.slot 12) (.seq (.region c_ref26_Leave_R4 false [4, 5]) .ret) .skip)) (.seq (.region c_ref26_Leave_R5 false [4, 5]) .ret)))), [.slot 4, .slot 5]⟩
/- oriel/orielref26.Change -/
def c_ref26_Change_R0 : List AOper := [⟨some 6, none, .mov (.const (.data false 2 [] true))⟩,
  ⟨some 7, none, .mov (.const (.int .i64 0))⟩]
def c_ref26_Change_R1 : List AOper := [⟨some 8, none, .mov (.slot 0)⟩,
  ⟨some 9, none, .call .frz n_ref26_May [(.slot 8)]⟩,
  ⟨some 10, none, .not (.slot 9)⟩,
  ⟨some 11, none, .mov (.slot 10)⟩,
  ⟨some 12, some (11, false), .mov (.slot 2)⟩,
  ⟨some 13, some (11, false), .bin .lss (.slot 12) (.const (.int .i64 1))⟩,
  ⟨some 14, none, .pick (.slot 11) (.const (.bool true)) (.slot 13)⟩,
  ⟨some 15, none, .mov (.slot 14)⟩,
  ⟨some 16, some (15, false), .mov (.slot 2)⟩,
  ⟨some 17, some (15, false), .bin .gtr (.slot 16) (.const (.int .i64 2))⟩,
  ⟨some 18, none, .pick (.slot 15) (.const (.bool true)) (.slot 17)⟩]
def c_ref26_Change_R2 : List AOper := [⟨some 6, none, .mov (.const (.data false 2 [] true))⟩,
  ⟨some 7, none, .mov (.const (.int .i64 2))⟩]
def c_ref26_Change_R3 : List AOper := [⟨some 19, none, .mov (.slot 0)⟩,
  ⟨some 20, none, .mov (.slot 1)⟩,
  ⟨some 21, none, .call .frz n_ref26_Role [(.slot 19), (.slot 20)]⟩,
  ⟨some 22, none, .bin .eql (.slot 21) (.const (.int .i64 0))⟩]
def c_ref26_Change_R4 : List AOper := [⟨some 6, none, .mov (.const (.data false 2 [] true))⟩,
  ⟨some 7, none, .mov (.const (.int .i64 6))⟩]
def c_ref26_Change_R5 : List AOper := [⟨some 23, none, .mov (.slot 0)⟩,
  ⟨some 24, none, .mov (.slot 1)⟩,
  ⟨some 25, none, .mov (.slot 2)⟩,
  ⟨some 26, none, .call .frz n_ref26_With [(.slot 23), (.slot 24), (.slot 25)]⟩,
  ⟨some 6, none, .mov (.slot 26)⟩,
  ⟨some 7, none, .mov (.const (.int .i64 0))⟩]
def c_ref26_Change : AFn := ⟨(.seq (.region c_ref26_Change_R0 false [0, 1, 2]) (.seq (.seq (.region c_ref26_Change_R1 false [0, 1, 2, 18]) (.cond (.slot 18) (.seq (.region c_ref26_Change_R2 false [6, 7]) .ret) .skip)) (.seq (.seq (.region c_ref26_Change_R3 false [0, 1, 2, 22]) (.cond (.slot 22) (.seq (.region c_ref26_Change_R4 false [6, 7]) .ret) .skip)) (.seq (.region c_ref26_Change_R5 false [6, 7]) .ret)))), [.slot 6, .slot 7]⟩
/- oriel/orielref26.Same -/
def c_ref26_Same_R0 : List AOper := [⟨some 4, none, .mov (.const (.bool false))⟩]
def c_ref26_Same_R1 : List AOper := [⟨some 6, none, .mov (.slot 0)⟩,
  ⟨some 7, none, .len false (.slot 6)⟩,
  ⟨some 8, none, .mov (.slot 1)⟩,
  ⟨some 9, none, .len false (.slot 8)⟩,
  ⟨some 10, none, .bin .neq (.slot 7) (.slot 9)⟩]
def c_ref26_Same_R2 : List AOper := [⟨some 4, none, .mov (.const (.bool false))⟩]
def c_ref26_Same_R3 : List AOper := [⟨some 5, none, .mov (.const (.int .i64 0))⟩]
def c_ref26_Same_R4 : List AOper := [⟨some 11, none, .mov (.slot 5)⟩,
  ⟨some 12, none, .mov (.slot 0)⟩,
  ⟨some 13, none, .len false (.slot 12)⟩,
  ⟨some 14, none, .bin .lss (.slot 11) (.slot 13)⟩]
def c_ref26_Same_R6 : List AOper := [⟨some 17, none, .mov (.slot 0)⟩,
  ⟨some 18, none, .mov (.slot 5)⟩,
  ⟨some 19, none, .idx 2 (.slot 17) (.slot 18)⟩,
  ⟨some 20, none, .load true 2 (.slot 19)⟩,
  ⟨some 21, none, .mov (.slot 1)⟩,
  ⟨some 22, none, .mov (.slot 5)⟩,
  ⟨some 23, none, .idx 2 (.slot 21) (.slot 22)⟩,
  ⟨some 24, none, .load true 2 (.slot 23)⟩,
  ⟨some 25, none, .eq true [.ki, .ki] true (.slot 20) (.slot 24)⟩]
def c_ref26_Same_R7 : List AOper := [⟨some 4, none, .mov (.const (.bool false))⟩]
def c_ref26_Same_R5 : List AOper := [⟨some 15, none, .mov (.slot 5)⟩,
  ⟨some 16, none, .bin .add (.slot 15) (.const (.int .i64 1))⟩,
  ⟨some 5, none, .mov (.slot 16)⟩]
def c_ref26_Same_L0 : ACode := (.seq (.seq (.region c_ref26_Same_R4 false [0, 1, 5, 14]) (.cond (.slot 14) .skip (.exit 0))) (.seq (.block 1 (.seq (.region c_ref26_Same_R6 true [0, 1, 5, 25]) (.cond (.slot 25) (.seq (.region c_ref26_Same_R7 false [4]) .ret) .skip))) (.region c_ref26_Same_R5 false [0, 1, 5])))
def lp_ref26_Same_0 : ACode := .loop [0, 1, 5] c_ref26_Same_L0
def c_ref26_Same_R8 : List AOper := [⟨some 4, none, .mov (.const (.bool true))⟩]
def c_ref26_Same : AFn := ⟨(.seq (.region c_ref26_Same_R0 false [0, 1]) (.seq (.seq (.region c_ref26_Same_R1 false [0, 1, 10]) (.cond (.slot 10) (.seq (.region c_ref26_Same_R2 false [4]) .ret) .skip)) (.seq (.seq (.region c_ref26_Same_R3 false [0, 1, 5]) (.block 0 lp_ref26_Same_0)) (.seq (.region c_ref26_Same_R8 false [4]) .ret)))), [.slot 4]⟩
/- oriel/oriellaw26.RosterEdits -/
def c_law26_RosterEdits_R0 : List AOper := [⟨some 6, none, .mov (.const (.bool false))⟩]
def c_law26_RosterEdits_R1 : List AOper := [⟨some 20, none, .call .frz n_law26_known []⟩,
  ⟨some 21, none, .not (.slot 20)⟩]
def c_law26_RosterEdits_R2 : List AOper := [⟨some 6, none, .mov (.const (.bool false))⟩]
def c_law26_RosterEdits_R3 : List AOper := [⟨some 22, none, .mov (.slot 0)⟩,
  ⟨some 23, none, .len false (.slot 22)⟩,
  ⟨some 24, none, .bin .gtr (.slot 23) (.const (.int .i64 100))⟩]
def c_law26_RosterEdits_R4 : List AOper := [⟨some 6, none, .mov (.const (.bool true))⟩]
def c_law26_RosterEdits_R5 : List AOper := [⟨some 25, none, .mkslice 2 0 [.int .i64 0, .int .i64 0] []⟩,
  ⟨some 26, none, .mov (.slot 0)⟩,
  ⟨some 27, none, .append 2 16 (.slot 25) (.slot 26)⟩,
  ⟨some 28, none, .build [.int .i64 0, .int .i64 0] [(0, 1, (.const (.int .i64 77)))]⟩,
  ⟨some 29, none, .mkslice 2 1 [.int .i64 0, .int .i64 0] [(0, (.slot 28))]⟩,
  ⟨some 30, none, .append 2 16 (.slot 27) (.slot 29)⟩,
  ⟨some 31, none, .mov (.slot 0)⟩,
  ⟨some 32, none, .len false (.slot 31)⟩,
  ⟨some 33, none, .sl 2 (.slot 30) none (some (.slot 32)) none⟩,
  ⟨some 7, none, .mov (.slot 33)⟩]
def c_law26_RosterEdits_R6 : List AOper := [⟨some 35, none, .mov (.slot 7)⟩,
  ⟨some 36, none, .mov (.slot 1)⟩,
  ⟨some 37, none, .mov (.slot 2)⟩,
  ⟨some 38, none, .call .frz n_roster_Join [(.slot 35), (.slot 36), (.slot 37)]⟩,
  ⟨some 34, none, .mov (.slot 38)⟩,
  ⟨some 39, none, .extract 0 (.slot 34)⟩,
  ⟨some 40, none, .extract 1 (.slot 34)⟩,
  ⟨some 8, none, .mov (.slot 39)⟩,
  ⟨some 9, none, .mov (.slot 40)⟩]
def c_law26_RosterEdits_R7 : List AOper := [⟨some 42, none, .mov (.slot 7)⟩,
  ⟨some 43, none, .mov (.slot 1)⟩,
  ⟨some 44, none, .call .frz n_roster_Leave [(.slot 42), (.slot 43)]⟩,
  ⟨some 41, none, .mov (.slot 44)⟩,
  ⟨some 45, none, .extract 0 (.slot 41)⟩,
  ⟨some 46, none, .extract 1 (.slot 41)⟩,
  ⟨some 10, none, .mov (.slot 45)⟩,
  ⟨some 11, none, .mov (.slot 46)⟩]
def c_law26_RosterEdits_R8 : List AOper := [⟨some 48, none, .mov (.slot 7)⟩,
  ⟨some 49, none, .mov (.slot 1)⟩,
  ⟨some 50, none, .mov (.slot 2)⟩,
  ⟨some 51, none, .call .frz n_roster_Change [(.slot 48), (.slot 49), (.slot 50)]⟩,
  ⟨some 47, none, .mov (.slot 51)⟩,
  ⟨some 52, none, .extract 0 (.slot 47)⟩,
  ⟨some 53, none, .extract 1 (.slot 47)⟩,
  ⟨some 12, none, .mov (.slot 52)⟩,
  ⟨some 13, none, .mov (.slot 53)⟩]
def c_law26_RosterEdits_R9 : List AOper := [⟨some 55, none, .mov (.slot 0)⟩,
  ⟨some 56, none, .mov (.slot 1)⟩,
  ⟨some 57, none, .mov (.slot 2)⟩,
  ⟨some 58, none, .call .frz n_ref26_Join [(.slot 55), (.slot 56), (.slot 57)]⟩,
  ⟨some 54, none, .mov (.slot 58)⟩,
  ⟨some 59, none, .extract 0 (.slot 54)⟩,
  ⟨some 60, none, .extract 1 (.slot 54)⟩,
  ⟨some 14, none, .mov (.slot 59)⟩,
  ⟨some 15, none, .mov (.slot 60)⟩]
def c_law26_RosterEdits_R10 : List AOper := [⟨some 62, none, .mov (.slot 0)⟩,
  ⟨some 63, none, .mov (.slot 1)⟩,
  ⟨some 64, none, .call .frz n_ref26_Leave [(.slot 62), (.slot 63)]⟩,
  ⟨some 61, none, .mov (.slot 64)⟩,
  ⟨some 65, none, .extract 0 (.slot 61)⟩,
  ⟨some 66, none, .extract 1 (.slot 61)⟩,
  ⟨some 16, none, .mov (.slot 65)⟩,
  ⟨some 17, none, .mov (.slot 66)⟩]
def c_law26_RosterEdits_R11 : List AOper := [⟨some 68, none, .mov (.slot 0)⟩,
  ⟨some 69, none, .mov (.slot 1)⟩,
  ⟨some 70, none, .mov (.slot 2)⟩,
  ⟨some 71, none, .call .frz n_ref26_Change [(.slot 68), (.slot 69), (.slot 70)]⟩,
  ⟨some 67, none, .mov (.slot 71)⟩,
  ⟨some 72, none, .extract 0 (.slot 67)⟩,
  ⟨some 73, none, .extract 1 (.slot 67)⟩,
  ⟨some 18, none, .mov (.slot 72)⟩,
  ⟨some 19, none, .mov (.slot 73)⟩]
def c_law26_RosterEdits_R12 : List AOper := [⟨some 74, none, .mov (.slot 9)⟩,
  ⟨some 75, none, .mov (.slot 15)⟩,
  ⟨some 76, none, .bin .eql (.slot 74) (.slot 75)⟩,
  ⟨some 77, none, .mov (.slot 76)⟩,
  ⟨some 78, some (77, true), .mov (.slot 11)⟩,
  ⟨some 79, some (77, true), .mov (.slot 17)⟩,
  ⟨some 80, some (77, true), .bin .eql (.slot 78) (.slot 79)⟩,
  ⟨some 81, none, .pick (.slot 77) (.slot 80) (.const (.bool false))⟩,
  ⟨some 82, none, .mov (.slot 81)⟩,
  ⟨some 83, some (82, true), .mov (.slot 13)⟩,
  ⟨some 84, some (82, true), .mov (.slot 19)⟩,
  ⟨some 85, some (82, true), .bin .eql (.slot 83) (.slot 84)⟩,
  ⟨some 86, none, .pick (.slot 82) (.slot 85) (.const (.bool false))⟩,
  ⟨some 87, none, .mov (.slot 86)⟩,
  ⟨some 88, some (87, true), .mov (.slot 8)⟩,
  ⟨some 89, some (87, true), .mov (.slot 14)⟩,
  ⟨some 90, some (87, true), .call .frz n_ref26_Same [(.slot 88), (.slot 89)]⟩,
  ⟨some 91, none, .pick (.slot 87) (.slot 90) (.const (.bool false))⟩,
  ⟨some 92, none, .mov (.slot 91)⟩,
  ⟨some 93, some (92, true), .mov (.slot 10)⟩,
  ⟨some 94, some (92, true), .mov (.slot 16)⟩,
  ⟨some 95, some (92, true), .call .frz n_ref26_Same [(.slot 93), (.slot 94)]⟩,
  ⟨some 96, none, .pick (.slot 92) (.slot 95) (.const (.bool false))⟩,
  ⟨some 97, none, .mov (.slot 96)⟩,
  ⟨some 98, some (97, true), .mov (.slot 12)⟩,
  ⟨some 99, some (97, true), .mov (.slot 18)⟩,
  ⟨some 100, some (97, true), .call .frz n_ref26_Same [(.slot 98), (.slot 99)]⟩,
  ⟨some 101, none, .pick (.slot 97) (.slot 100) (.const (.bool false))⟩,
  ⟨some 102, none, .mov (.slot 101)⟩,
  ⟨some 103, some (102, true), .mov (.slot 7)⟩,
  ⟨some 104, some (102, true), .mov (.slot 0)⟩,
  ⟨some 105, some (102, true), .call .frz n_ref26_Same [(.slot 103), (.slot 104)]⟩,
  ⟨some 106, none, .pick (.slot 102) (.slot 105) (.const (.bool false))⟩,
  ⟨some 107, none, .mov (.slot 106)⟩,
  ⟨some 108, some (107, true), .mov (.slot 7)⟩,
  ⟨some 109, some (107, true), .mov (.slot 0)⟩,
  ⟨some 110, some (107, true), .len false (.slot 109)⟩,
  ⟨some 111, some (107, true), .bin .add (.slot 110) (.const (.int .i64 1))⟩,
  ⟨some 112, some (107, true), .sl 2 (.slot 108) none (some (.slot 111)) none⟩,
  ⟨some 113, some (107, true), .mov (.slot 0)⟩,
  ⟨some 114, some (107, true), .len false (.slot 113)⟩,
  ⟨some 115, some (107, true), .idx 2 (.slot 112) (.slot 114)⟩,
  ⟨some 116, some (107, true), .faddr 0 (.slot 115)⟩,
  ⟨some 117, some (107, true), .load false 1 (.slot 116)⟩,
  ⟨some 118, some (107, true), .bin .eql (.slot 117) (.const (.int .i64 77))⟩,
  ⟨some 119, none, .pick (.slot 107) (.slot 118) (.const (.bool false))⟩,
  ⟨some 6, none, .mov (.slot 119)⟩]
def c_law26_RosterEdits : AFn := ⟨(.seq (.region c_law26_RosterEdits_R0 false [0, 1, 2]) (.seq (.seq (.region c_law26_RosterEdits_R1 false [0, 1, 2, 21]) (.cond (.slot 21) (.seq (.region c_law26_RosterEdits_R2 false [6]) .ret) .skip)) (.seq (.seq (.region c_law26_RosterEdits_R3 false [0, 1, 2, 24]) (.cond (.slot 24) (.seq (.region c_law26_RosterEdits_R4 false [6]) .ret) .skip)) (.seq (.region c_law26_RosterEdits_R5 false [0, 1, 2, 7]) (.seq (.region c_law26_RosterEdits_R6 false [0, 1, 2, 7, 8, 9]) (.seq (.region c_law26_RosterEdits_R7 false [0, 1, 2, 7, 8, 9, 10, 11]) (.seq (.region c_law26_RosterEdits_R8 false [0, 1, 2, 7, 8, 9, 10, 11, 12, 13]) (.seq (.region c_law26_RosterEdits_R9 false [0, 1, 2, 7, 8, 9, 10, 11, 12, 13, 14, 15]) (.seq (.region c_law26_RosterEdits_R10 false [0, 1, 2, 7, 8, 9, 10, 11, 12, 13, 14, 15, 16, 17]) (.seq (.region c_law26_RosterEdits_R11 false [0, 7, 8, 9, 10, 11, 12, 13, 14, 15, 16, 17, 18, 19]) (.seq (.region c_law26_RosterEdits_R12 false [6]) .ret))))))))))), [.slot 6]⟩
/- oriel/oriellaw26.RosterAlone -/
def c_law26_RosterAlone_R0 : List AOper := [⟨some 2, none, .mov (.const (.bool false))⟩]
def c_law26_RosterAlone_R1 : List AOper := [⟨some 12, none, .call .frz n_law26_known []⟩,
  ⟨some 13, none, .not (.slot 12)⟩]
def c_law26_RosterAlone_R2 : List AOper := [⟨some 2, none, .mov (.const (.bool false))⟩]
def c_law26_RosterAlone_R3 : List AOper := [⟨some 14, none, .mov (.slot 0)⟩,
  ⟨some 15, none, .len false (.slot 14)⟩,
  ⟨some 16, none, .bin .gtr (.slot 15) (.const (.int .i64 100))⟩]
def c_law26_RosterAlone_R4 : List AOper := [⟨some 2, none, .mov (.const (.bool true))⟩]
def c_law26_RosterAlone_R5 : List AOper := [⟨some 3, none, .mov (.const (.data false 2 [] true))⟩]
def c_law26_RosterAlone_R6 : List AOper := [⟨some 4, none, .mov (.const (.int .i64 0))⟩]
def c_law26_RosterAlone_R7 : List AOper := [⟨some 17, none, .mov (.slot 4)⟩,
  ⟨some 18, none, .mov (.slot 0)⟩,
  ⟨some 19, none, .len false (.slot 18)⟩,
  ⟨some 20, none, .bin .lss (.slot 17) (.slot 19)⟩]
def c_law26_RosterAlone_R9 : List AOper := [⟨some 5, none, .mov (.const (.data false 2 [] true))⟩]
def c_law26_RosterAlone_R10 : List AOper := [⟨some 6, none, .mov (.const (.int .i64 2))⟩]
def c_law26_RosterAlone_R11 : List AOper := [⟨some 23, none, .mov (.slot 0)⟩,
  ⟨some 24, none, .mov (.slot 4)⟩,
  ⟨some 25, none, .idx 3 (.slot 23) (.slot 24)⟩,
  ⟨some 26, none, .faddr 0 (.slot 25)⟩,
  ⟨some 27, none, .load false 1 (.slot 26)⟩]
def c_law26_RosterAlone_R12 : List AOper := [⟨some 29, none, .bin .eql (.slot 27) (.const (.int .i64 0))⟩,
  ⟨some 28, none, .mov (.slot 29)⟩]
def c_law26_RosterAlone_R13 : List AOper := [⟨some 31, none, .mov (.slot 3)⟩,
  ⟨some 32, none, .mov (.slot 0)⟩,
  ⟨some 33, none, .mov (.slot 4)⟩,
  ⟨some 34, none, .idx 3 (.slot 32) (.slot 33)⟩,
  ⟨some 35, none, .faddr 1 (.slot 34)⟩,
  ⟨some 36, none, .load false 1 (.slot 35)⟩,
  ⟨some 37, none, .mov (.slot 0)⟩,
  ⟨some 38, none, .mov (.slot 4)⟩,
  ⟨some 39, none, .idx 3 (.slot 37) (.slot 38)⟩,
  ⟨some 40, none, .faddr 2 (.slot 39)⟩,
  ⟨some 41, none, .load false 1 (.slot 40)⟩,
  ⟨some 42, none, .call .frz n_roster_Join [(.slot 31), (.slot 36), (.slot 41)]⟩,
  ⟨some 30, none, .mov (.slot 42)⟩,
  ⟨some 43, none, .extract 0 (.slot 30)⟩,
  ⟨some 44, none, .extract 1 (.slot 30)⟩,
  ⟨some 5, none, .mov (.slot 43)⟩,
  ⟨some 6, none, .mov (.slot 44)⟩]
def c_law26_RosterAlone_R14 : List AOper := [⟨some 46, none, .bin .eql (.slot 27) (.const (.int .i64 1))⟩,
  ⟨some 45, none, .mov (.slot 46)⟩]
def c_law26_RosterAlone_R15 : List AOper := [⟨some 48, none, .mov (.slot 3)⟩,
  ⟨some 49, none, .mov (.slot 0)⟩,
  ⟨some 50, none, .mov (.slot 4)⟩,
  ⟨some 51, none, .idx 3 (.slot 49) (.slot 50)⟩,
  ⟨some 52, none, .faddr 1 (.slot 51)⟩,
  ⟨some 53, none, .load false 1 (.slot 52)⟩,
  ⟨some 54, none, .call .frz n_roster_Leave [(.slot 48), (.slot 53)]⟩,
  ⟨some 47, none, .mov (.slot 54)⟩,
  ⟨some 55, none, .extract 0 (.slot 47)⟩,
  ⟨some 56, none, .extract 1 (.slot 47)⟩,
  ⟨some 5, none, .mov (.slot 55)⟩,
  ⟨some 6, none, .mov (.slot 56)⟩]
def c_law26_RosterAlone_R16 : List AOper := [⟨some 58, none, .bin .eql (.slot 27) (.const (.int .i64 2))⟩,
  ⟨some 57, none, .mov (.slot 58)⟩]
def c_law26_RosterAlone_R17 : List AOper := [⟨some 60, none, .mov (.slot 3)⟩,
  ⟨some 61, none, .mov (.slot 0)⟩,
  ⟨some 62, none, .mov (.slot 4)⟩,
  ⟨some 63, none, .idx 3 (.slot 61) (.slot 62)⟩,
  ⟨some 64, none, .faddr 1 (.slot 63)⟩,
  ⟨some 65, none, .load false 1 (.slot 64)⟩,
  ⟨some 66, none, .mov (.slot 0)⟩,
  ⟨some 67, none, .mov (.slot 4)⟩,
  ⟨some 68, none, .idx 3 (.slot 66) (.slot 67)⟩,
  ⟨some 69, none, .faddr 2 (.slot 68)⟩,
  ⟨some 70, none, .load false 1 (.slot 69)⟩,
  ⟨some 71, none, .call .frz n_roster_Change [(.slot 60), (.slot 65), (.slot 70)]⟩,
  ⟨some 59, none, .mov (.slot 71)⟩,
  ⟨some 72, none, .extract 0 (.slot 59)⟩,
  ⟨some 73, none, .extract 1 (.slot 59)⟩,
  ⟨some 5, none, .mov (.slot 72)⟩,
  ⟨some 6, none, .mov (.slot 73)⟩]
def c_law26_RosterAlone_R18 : List AOper := [⟨some 74, none, .mov (.slot 6)⟩,
  ⟨some 75, none, .bin .neq (.slot 74) (.const (.int .i64 0))⟩]
def c_law26_RosterAlone_R19 : List AOper := [⟨some 76, none, .mov (.slot 5)⟩,
  ⟨some 77, none, .len false (.slot 76)⟩,
  ⟨some 78, none, .bin .gtr (.slot 77) (.const (.int .i64 0))⟩]
def c_law26_RosterAlone_R20 : List AOper := [⟨some 2, none, .mov (.const (.bool false))⟩]
def c_law26_RosterAlone_R21 : List AOper := [⟨some 79, none, .mov (.slot 5)⟩,
  ⟨some 80, none, .call .frz n_roster_May [(.slot 79)]⟩,
  ⟨some 81, none, .not (.slot 80)⟩,
  ⟨some 82, none, .mov (.slot 81)⟩,
  ⟨some 83, some (82, false), .mov (.slot 5)⟩,
  ⟨some 84, some (82, false), .len false (.slot 83)⟩,
  ⟨some 85, some (82, false), .bin .gtr (.slot 84) (.const (.int .i64 8))⟩,
  ⟨some 86, none, .pick (.slot 82) (.const (.bool true)) (.slot 85)⟩]
def c_law26_RosterAlone_R22 : List AOper := [⟨some 2, none, .mov (.const (.bool false))⟩]
def c_law26_RosterAlone_R23 : List AOper := [⟨some 7, none, .mov (.const (.int .i64 1))⟩]
def c_law26_RosterAlone_R24 : List AOper := [⟨some 87, none, .mov (.slot 7)⟩,
  ⟨some 88, none, .bin .leq (.slot 87) (.const (.int .i64 8))⟩]
def c_law26_RosterAlone_R26 : List AOper := [⟨some 92, none, .mov (.slot 3)⟩,
  ⟨some 93, none, .mov (.slot 7)⟩,
  ⟨some 94, none, .call .frz n_roster_Find [(.slot 92), (.slot 93)]⟩,
  ⟨some 91, none, .mov (.slot 94)⟩,
  ⟨some 95, none, .extract 0 (.slot 91)⟩,
  ⟨some 96, none, .extract 1 (.slot 91)⟩,
  ⟨some 8, none, .alloc [.int .i64 0, .int .i64 0]⟩,
  ⟨none, none, .store true 2 (.slot 8) (.slot 95)⟩,
  ⟨some 9, none, .mov (.slot 96)⟩]
def c_law26_RosterAlone_R27 : List AOper := [⟨some 98, none, .mov (.slot 5)⟩,
  ⟨some 99, none, .mov (.slot 7)⟩,
  ⟨some 100, none, .call .frz n_roster_Find [(.slot 98), (.slot 99)]⟩,
  ⟨some 97, none, .mov (.slot 100)⟩,
  ⟨some 101, none, .extract 0 (.slot 97)⟩,
  ⟨some 102, none, .extract 1 (.slot 97)⟩,
  ⟨some 10, none, .alloc [.int .i64 0, .int .i64 0]⟩,
  ⟨none, none, .store true 2 (.slot 10) (.slot 101)⟩,
  ⟨some 11, none, .mov (.slot 102)⟩]
def c_law26_RosterAlone_R28 : List AOper := [⟨some 103, none, .mov (.slot 7)⟩,
  ⟨some 104, none, .mov (.slot 0)⟩,
  ⟨some 105, none, .mov (.slot 4)⟩,
  ⟨some 106, none, .idx 3 (.slot 104) (.slot 105)⟩,
  ⟨some 107, none, .faddr 1 (.slot 106)⟩,
  ⟨some 108, none, .load false 1 (.slot 107)⟩,
  ⟨some 109, none, .bin .neq (.slot 103) (.slot 108)⟩,
  ⟨some 110, none, .mov (.slot 109)⟩,
  ⟨some 111, some (110, true), .load true 2 (.slot 8)⟩,
  ⟨some 112, some (110, true), .load true 2 (.slot 10)⟩,
  ⟨some 113, some (110, true), .eq true [.ki, .ki] true (.slot 111) (.slot 112)⟩,
  ⟨some 114, some (110, true), .mov (.slot 113)⟩,
  ⟨some 115, some (114, false), .mov (.slot 9)⟩,
  ⟨some 116, some (114, false), .mov (.slot 11)⟩,
  ⟨some 117, some (114, false), .eq false [.kb] true (.slot 115) (.slot 116)⟩,
  ⟨some 118, some (110, true), .pick (.slot 114) (.const (.bool true)) (.slot 117)⟩,
  ⟨some 119, none, .pick (.slot 110) (.slot 118) (.const (.bool false))⟩,
  ⟨some 120, none, .mov (.slot 119)⟩,
  ⟨some 121, some (120, false), .mov (.slot 7)⟩,
  ⟨some 122, some (120, false), .mov (.slot 0)⟩,
  ⟨some 123, some (120, false), .mov (.slot 4)⟩,
  ⟨some 124, some (120, false), .idx 3 (.slot 122) (.slot 123)⟩,
  ⟨some 125, some (120, false), .faddr 1 (.slot 124)⟩,
  ⟨some 126, some (120, false), .load false 1 (.slot 125)⟩,
  ⟨some 127, some (120, false), .bin .eql (.slot 121) (.slot 126)⟩,
  ⟨some 128, some (120, false), .mov (.slot 127)⟩,
  ⟨some 129, some (128, true), .mov (.slot 11)⟩,
  ⟨some 130, some (128, true), .mov (.slot 0)⟩,
  ⟨some 131, some (128, true), .mov (.slot 4)⟩,
  ⟨some 132, some (128, true), .idx 3 (.slot 130) (.slot 131)⟩,
  ⟨some 133, some (128, true), .faddr 0 (.slot 132)⟩,
  ⟨some 134, some (128, true), .load false 1 (.slot 133)⟩,
  ⟨some 135, some (128, true), .bin .neq (.slot 134) (.const (.int .i64 1))⟩,
  ⟨some 136, some (128, true), .eq false [.kb] true (.slot 129) (.slot 135)⟩,
  ⟨some 137, some (120, false), .pick (.slot 128) (.slot 136) (.const (.bool false))⟩,
  ⟨some 138, none, .pick (.slot 120) (.const (.bool true)) (.slot 137)⟩,
  ⟨some 139, none, .mov (.slot 138)⟩,
  ⟨some 140, some (139, false), .mov (.slot 7)⟩,
  ⟨some 141, some (139, false), .mov (.slot 0)⟩,
  ⟨some 142, some (139, false), .mov (.slot 4)⟩,
  ⟨some 143, some (139, false), .idx 3 (.slot 141) (.slot 142)⟩,
  ⟨some 144, some (139, false), .faddr 1 (.slot 143)⟩,
  ⟨some 145, some (139, false), .load false 1 (.slot 144)⟩,
  ⟨some 146, some (139, false), .bin .eql (.slot 140) (.slot 145)⟩,
  ⟨some 147, some (139, false), .mov (.slot 146)⟩,
  ⟨some 148, some (147, true), .mov (.slot 11)⟩,
  ⟨some 149, some (139, false), .pick (.slot 147) (.slot 148) (.const (.bool false))⟩,
  ⟨some 150, some (139, false), .mov (.slot 149)⟩,
  ⟨some 151, some (150, true), .faddr 1 (.slot 10)⟩,
  ⟨some 152, some (150, true), .load false 1 (.slot 151)⟩,
  ⟨some 153, some (150, true), .mov (.slot 0)⟩,
  ⟨some 154, some (150, true), .mov (.slot 4)⟩,
  ⟨some 155, some (150, true), .idx 3 (.slot 153) (.slot 154)⟩,
  ⟨some 156, some (150, true), .faddr 2 (.slot 155)⟩,
  ⟨some 157, some (150, true), .load false 1 (.slot 156)⟩,
  ⟨some 158, some (150, true), .bin .neq (.slot 152) (.slot 157)⟩,
  ⟨some 159, some (139, false), .pick (.slot 150) (.slot 158) (.const (.bool false))⟩,
  ⟨some 160, none, .pick (.slot 139) (.const (.bool true)) (.slot 159)⟩]
def c_law26_RosterAlone_R29 : List AOper := [⟨some 2, none, .mov (.const (.bool false))⟩]
def c_law26_RosterAlone_R25 : List AOper := [⟨some 89, none, .mov (.slot 7)⟩,
  ⟨some 90, none, .bin .add (.slot 89) (.const (.int .i64 1))⟩,
  ⟨some 7, none, .mov (.slot 90)⟩]
def c_law26_RosterAlone_L1 : ACode := (.seq (.seq (.region c_law26_RosterAlone_R24 false [0, 3, 4, 5, 7, 88]) (.cond (.slot 88) .skip (.exit 3))) (.seq (.block 4 (.seq (.region c_law26_RosterAlone_R26 false [0, 3, 4, 5, 7, 8, 9]) (.seq (.region c_law26_RosterAlone_R27 false [0, 3, 4, 5, 7, 8, 9, 10, 11]) (.seq (.region c_law26_RosterAlone_R28 true [0, 3, 4, 5, 7, 160]) (.cond (.slot 160) (.seq (.region c_law26_RosterAlone_R29 false [2]) .ret) .skip))))) (.region c_law26_RosterAlone_R25 false [0, 3, 4, 5, 7])))
def lp_law26_RosterAlone_1 : ACode := .loop [0, 3, 4, 5, 7] c_law26_RosterAlone_L1
def c_law26_RosterAlone_R30 : List AOper := [⟨some 161, none, .mov (.slot 5)⟩,
  ⟨some 3, none, .mov (.slot 161)⟩]
def c_law26_RosterAlone_R8 : List AOper := [⟨some 21, none, .mov (.slot 4)⟩,
  ⟨some 22, none, .bin .add (.slot 21) (.const (.int .i64 1))⟩,
  ⟨some 4, none, .mov (.slot 22)⟩]
def c_law26_RosterAlone_L0 : ACode := (.seq (.seq (.region c_law26_RosterAlone_R7 false [0, 3, 4, 20]) (.cond (.slot 20) .skip (.exit 0))) (.seq (.block 1 (.seq (.region c_law26_RosterAlone_R9 false [0, 3, 4, 5]) (.seq (.region c_law26_RosterAlone_R10 false [0, 3, 4, 5, 6]) (.seq (.seq (.region c_law26_RosterAlone_R11 false [0, 3, 4, 5, 6, 27]) (.block 2 (.seq (.region c_law26_RosterAlone_R12 false [0, 3, 4, 5, 6, 27, 28]) (.cond (.slot 28) (.region c_law26_RosterAlone_R13 true [0, 3, 4, 5, 6]) (.seq (.region c_law26_RosterAlone_R14 false [0, 3, 4, 5, 6, 27, 45]) (.cond (.slot 45) (.region c_law26_RosterAlone_R15 false [0, 3, 4, 5, 6]) (.seq (.region c_law26_RosterAlone_R16 false [0, 3, 4, 5, 6, 57]) (.cond (.slot 57) (.region c_law26_RosterAlone_R17 true [0, 3, 4, 5, 6]) .skip)))))))) (.seq (.seq (.region c_law26_RosterAlone_R18 false [0, 3, 4, 5, 75]) (.cond (.slot 75) (.seq (.seq (.region c_law26_RosterAlone_R19 false [0, 3, 4, 78]) (.cond (.slot 78) (.seq (.region c_law26_RosterAlone_R20 false [2]) .ret) .skip)) (.exit 1)) .skip)) (.seq (.seq (.region c_law26_RosterAlone_R21 false [0, 3, 4, 5, 86]) (.cond (.slot 86) (.seq (.region c_law26_RosterAlone_R22 false [2]) .ret) .skip)) (.seq (.seq (.region c_law26_RosterAlone_R23 false [0, 3, 4, 5, 7]) (.block 3 lp_law26_RosterAlone_1)) (.region c_law26_RosterAlone_R30 false [0, 3, 4])))))))) (.region c_law26_RosterAlone_R8 false [0, 3, 4])))
def lp_law26_RosterAlone_0 : ACode := .loop [0, 3, 4] c_law26_RosterAlone_L0
def c_law26_RosterAlone_R31 : List AOper := [⟨some 2, none, .mov (.const (.bool true))⟩]
def c_law26_RosterAlone : AFn := ⟨(.seq (.region c_law26_RosterAlone_R0 false [0]) (.seq (.seq (.region c_law26_RosterAlone_R1 false [0, 13]) (.cond (.slot 13) (.seq (.region c_law26_RosterAlone_R2 false [2]) .ret) .skip)) (.seq (.seq (.region c_law26_RosterAlone_R3 false [0, 16]) (.cond (.slot 16) (.seq (.region c_law26_RosterAlone_R4 false [2]) .ret) .skip)) (.seq (.region c_law26_RosterAlone_R5 false [0, 3]) (.seq (.seq (.region c_law26_RosterAlone_R6 false [0, 3, 4]) (.block 0 lp_law26_RosterAlone_0)) (.seq (.region c_law26_RosterAlone_R31 false [2]) .ret)))))), [.slot 2]⟩
/- oriel/oriellaw26.RosterBack -/
def c_law26_RosterBack_R0 : List AOper := [⟨some 6, none, .mov (.const (.bool false))⟩]
def c_law26_RosterBack_R1 : List AOper := [⟨some 16, none, .call .frz n_law26_known []⟩,
  ⟨some 17, none, .not (.slot 16)⟩]
def c_law26_RosterBack_R2 : List AOper := [⟨some 6, none, .mov (.const (.bool false))⟩]
def c_law26_RosterBack_R3 : List AOper := [⟨some 18, none, .mov (.slot 0)⟩,
  ⟨some 19, none, .len false (.slot 18)⟩,
  ⟨some 20, none, .bin .gtr (.slot 19) (.const (.int .i64 100))⟩,
  ⟨some 21, none, .mov (.slot 20)⟩,
  ⟨some 22, some (21, false), .mov (.slot 0)⟩,
  ⟨some 23, some (21, false), .call .frz n_roster_May [(.slot 22)]⟩,
  ⟨some 24, some (21, false), .not (.slot 23)⟩,
  ⟨some 25, none, .pick (.slot 21) (.const (.bool true)) (.slot 24)⟩]
def c_law26_RosterBack_R4 : List AOper := [⟨some 6, none, .mov (.const (.bool true))⟩]
def c_law26_RosterBack_R5 : List AOper := [⟨some 27, none, .mov (.slot 0)⟩,
  ⟨some 28, none, .mov (.slot 1)⟩,
  ⟨some 29, none, .call .frz n_roster_Find [(.slot 27), (.slot 28)]⟩,
  ⟨some 26, none, .mov (.slot 29)⟩,
  ⟨some 30, none, .extract 0 (.slot 26)⟩,
  ⟨some 31, none, .extract 1 (.slot 26)⟩,
  ⟨some 7, none, .alloc [.int .i64 0, .int .i64 0]⟩,
  ⟨none, none, .store true 2 (.slot 7) (.slot 30)⟩,
  ⟨some 8, none, .mov (.slot 31)⟩]
def c_law26_RosterBack_R6 : List AOper := [⟨some 33, none, .mov (.slot 0)⟩,
  ⟨some 34, none, .mov (.slot 1)⟩,
  ⟨some 35, none, .mov (.slot 2)⟩,
  ⟨some 36, none, .call .frz n_roster_Join [(.slot 33), (.slot 34), (.slot 35)]⟩,
  ⟨some 32, none, .mov (.slot 36)⟩,
  ⟨some 37, none, .extract 0 (.slot 32)⟩,
  ⟨some 38, none, .extract 1 (.slot 32)⟩,
  ⟨some 9, none, .mov (.slot 37)⟩,
  ⟨some 10, none, .mov (.slot 38)⟩]
def c_law26_RosterBack_R7 : List AOper := [⟨some 40, none, .mov (.slot 0)⟩,
  ⟨some 41, none, .mov (.slot 1)⟩,
  ⟨some 42, none, .mov (.slot 2)⟩,
  ⟨some 43, none, .call .frz n_roster_Change [(.slot 40), (.slot 41), (.slot 42)]⟩,
  ⟨some 39, none, .mov (.slot 43)⟩,
  ⟨some 44, none, .extract 0 (.slot 39)⟩,
  ⟨some 45, none, .extract 1 (.slot 39)⟩,
  ⟨some 11, none, .mov (.slot 44)⟩,
  ⟨some 12, none, .mov (.slot 45)⟩]
def c_law26_RosterBack_R8 : List AOper := [⟨some 46, none, .mov (.slot 9)⟩,
  ⟨some 47, none, .mov (.slot 10)⟩,
  ⟨some 13, none, .mov (.slot 46)⟩,
  ⟨some 14, none, .mov (.slot 47)⟩]
def c_law26_RosterBack_R9 : List AOper := [⟨some 48, none, .mov (.slot 8)⟩]
def c_law26_RosterBack_R10 : List AOper := [⟨some 50, none, .mov (.slot 11)⟩,
  ⟨some 51, none, .mov (.slot 1)⟩,
  ⟨some 52, none, .faddr 1 (.slot 7)⟩,
  ⟨some 53, none, .load false 1 (.slot 52)⟩,
  ⟨some 54, none, .call .frz n_roster_Change [(.slot 50), (.slot 51), (.slot 53)]⟩,
  ⟨some 49, none, .mov (.slot 54)⟩,
  ⟨some 55, none, .extract 0 (.slot 49)⟩,
  ⟨some 56, none, .extract 1 (.slot 49)⟩,
  ⟨some 13, none, .mov (.slot 55)⟩,
  ⟨some 14, none, .mov (.slot 56)⟩]
def c_law26_RosterBack_R11 : List AOper := [⟨some 57, none, .mov (.slot 12)⟩,
  ⟨some 58, none, .bin .neq (.slot 57) (.const (.int .i64 0))⟩]
def c_law26_RosterBack_R12 : List AOper := [⟨some 59, none, .mov (.slot 2)⟩,
  ⟨some 60, none, .bin .neq (.slot 59) (.const (.int .i64 1))⟩,
  ⟨some 61, none, .mov (.slot 60)⟩,
  ⟨some 62, some (61, true), .mov (.slot 2)⟩,
  ⟨some 63, some (61, true), .bin .neq (.slot 62) (.const (.int .i64 2))⟩,
  ⟨some 64, none, .pick (.slot 61) (.slot 63) (.const (.bool false))⟩,
  ⟨some 65, none, .mov (.slot 64)⟩,
  ⟨some 66, some (65, true), .mov (.slot 10)⟩,
  ⟨some 67, some (65, true), .bin .neq (.slot 66) (.const (.int .i64 0))⟩,
  ⟨some 68, none, .pick (.slot 65) (.slot 67) (.const (.bool false))⟩,
  ⟨some 6, none, .mov (.slot 68)⟩]
def c_law26_RosterBack_R13 : List AOper := [⟨some 69, none, .mov (.slot 10)⟩,
  ⟨some 70, none, .bin .eql (.slot 69) (.const (.int .i64 0))⟩]
def c_law26_RosterBack_R14 : List AOper := [⟨some 72, none, .mov (.slot 9)⟩,
  ⟨some 73, none, .mov (.slot 1)⟩,
  ⟨some 74, none, .call .frz n_roster_Leave [(.slot 72), (.slot 73)]⟩,
  ⟨some 71, none, .mov (.slot 74)⟩,
  ⟨some 75, none, .extract 0 (.slot 71)⟩,
  ⟨some 76, none, .extract 1 (.slot 71)⟩,
  ⟨some 13, none, .mov (.slot 75)⟩,
  ⟨some 14, none, .mov (.slot 76)⟩]
def c_law26_RosterBack_R15 : List AOper := [⟨some 77, none, .mov (.slot 12)⟩,
  ⟨some 78, none, .bin .neq (.slot 77) (.const (.int .i64 0))⟩,
  ⟨some 6, none, .mov (.slot 78)⟩]
def c_law26_RosterBack_R16 : List AOper := [⟨some 79, none, .mov (.slot 14)⟩,
  ⟨some 80, none, .bin .neq (.slot 79) (.const (.int .i64 0))⟩,
  ⟨some 81, none, .mov (.slot 80)⟩,
  ⟨some 82, some (81, false), .mov (.slot 13)⟩,
  ⟨some 83, some (81, false), .len false (.slot 82)⟩,
  ⟨some 84, some (81, false), .mov (.slot 0)⟩,
  ⟨some 85, some (81, false), .len false (.slot 84)⟩,
  ⟨some 86, some (81, false), .bin .neq (.slot 83) (.slot 85)⟩,
  ⟨some 87, none, .pick (.slot 81) (.const (.bool true)) (.slot 86)⟩]
def c_law26_RosterBack_R17 : List AOper := [⟨some 6, none, .mov (.const (.bool false))⟩]
def c_law26_RosterBack_R18 : List AOper := [⟨some 15, none, .mov (.const (.int .i64 0))⟩]
def c_law26_RosterBack_R19 : List AOper := [⟨some 88, none, .mov (.slot 15)⟩,
  ⟨some 89, none, .mov (.slot 0)⟩,
  ⟨some 90, none, .len false (.slot 89)⟩,
  ⟨some 91, none, .bin .lss (.slot 88) (.slot 90)⟩]
def c_law26_RosterBack_R21 : List AOper := [⟨some 94, none, .mov (.slot 13)⟩,
  ⟨some 95, none, .mov (.slot 15)⟩,
  ⟨some 96, none, .idx 2 (.slot 94) (.slot 95)⟩,
  ⟨some 97, none, .load true 2 (.slot 96)⟩,
  ⟨some 98, none, .mov (.slot 0)⟩,
  ⟨some 99, none, .mov (.slot 15)⟩,
  ⟨some 100, none, .idx 2 (.slot 98) (.slot 99)⟩,
  ⟨some 101, none, .load true 2 (.slot 100)⟩,
  ⟨some 102, none, .eq true [.ki, .ki] true (.slot 97) (.slot 101)⟩]
def c_law26_RosterBack_R22 : List AOper := [⟨some 6, none, .mov (.const (.bool false))⟩]
def c_law26_RosterBack_R20 : List AOper := [⟨some 92, none, .mov (.slot 15)⟩,
  ⟨some 93, none, .bin .add (.slot 92) (.const (.int .i64 1))⟩,
  ⟨some 15, none, .mov (.slot 93)⟩]
def c_law26_RosterBack_L0 : ACode := (.seq (.seq (.region c_law26_RosterBack_R19 false [0, 13, 15, 91]) (.cond (.slot 91) .skip (.exit 0))) (.seq (.block 1 (.seq (.region c_law26_RosterBack_R21 true [0, 13, 15, 102]) (.cond (.slot 102) (.seq (.region c_law26_RosterBack_R22 false [6]) .ret) .skip))) (.region c_law26_RosterBack_R20 false [0, 13, 15])))
def lp_law26_RosterBack_0 : ACode := .loop [0, 13, 15] c_law26_RosterBack_L0
def c_law26_RosterBack_R23 : List AOper := [⟨some 6, none, .mov (.const (.bool true))⟩]
def c_law26_RosterBack : AFn := ⟨(.seq (.region c_law26_RosterBack_R0 false [0, 1, 2]) (.seq (.seq (.region c_law26_RosterBack_R1 false [0, 1, 2, 17]) (.cond (.slot 17) (.seq (.region c_law26_RosterBack_R2 false [6]) .ret) .skip)) (.seq (.seq (.region c_law26_RosterBack_R3 false [0, 1, 2, 25]) (.cond (.slot 25) (.seq (.region c_law26_RosterBack_R4 false [6]) .ret) .skip)) (.seq (.region c_law26_RosterBack_R5 false [0, 1, 2, 7, 8]) (.seq (.region c_law26_RosterBack_R6 false [0, 1, 2, 7, 8, 9, 10]) (.seq (.region c_law26_RosterBack_R7 false [0, 1, 2, 7, 8, 9, 10, 11, 12]) (.seq (.region c_law26_RosterBack_R8 false [0, 1, 2, 7, 8, 9, 10, 11, 12]) (.seq (.seq (.region c_law26_RosterBack_R9 false [0, 1, 2, 7, 9, 10, 11, 12, 48]) (.cond (.slot 48) (.seq (.region c_law26_RosterBack_R10 false [0, 2, 10, 12, 13, 14]) (.seq (.region c_law26_RosterBack_R11 false [0, 2, 10, 13, 14, 58]) (.cond (.slot 58) (.seq (.region c_law26_RosterBack_R12 false [6]) .ret) .skip))) (.seq (.region c_law26_RosterBack_R13 false [0, 1, 9, 12, 70]) (.cond (.slot 70) (.region c_law26_RosterBack_R14 false [0, 13, 14]) (.seq (.region c_law26_RosterBack_R15 false [6]) .ret))))) (.seq (.seq (.region c_law26_RosterBack_R16 false [0, 13, 87]) (.cond (.slot 87) (.seq (.region c_law26_RosterBack_R17 false [6]) .ret) .skip)) (.seq (.seq (.region c_law26_RosterBack_R18 false [0, 13, 15]) (.block 0 lp_law26_RosterBack_0)) (.seq (.region c_law26_RosterBack_R23 false [6]) .ret))))))))))), [.slot 6]⟩
/-- The seat's functions. -/
def FT : Nat → Option AEnt
  | 56 => some (.fn c_merge_piece)
  | 20 => some (.fn c_merge_May)
  | 59 => some (.fn c_merge_Bytes_1)
  | 28 => some (.fn c_merge_Bytes)
  | 23 => some (.fn c_merge_Size)
  | 83 => some (.ext (extClone 1))
  | 55 => some (.fn c_merge_copied)
  | 17 => some (.fn c_merge_Push)
  | 18 => some (.fn c_merge_Pop)
  | 84 => some (.fn c_slices_IndexFunc_Typed)
  | 57 => some (.fn c_slices_DeleteFunc_Typed)
  | 58 => some (.fn c_merge_Drop_1)
  | 19 => some (.fn c_merge_Drop)
  | 14 => some (.fn c_law28_known)
  | 15 => some (.fn c_law28_great)
  | 16 => some (.fn c_ref28_Copy)
  | 25 => some (.fn c_ref28_Size)
  | 27 => some (.fn c_ref28_Piece)
  | 21 => some (.fn c_ref28_May)
  | 22 => some (.fn c_ref28_Same)
  | 24 => some (.fn c_ref28_First)
  | 26 => some (.fn c_ref28_Drop)
  | 3 => some (.fn c_law28_MergeEdits)
  | 4 => some (.fn c_law28_MergeBytes)
  | 5 => some (.fn c_law28_MergeOrder)
  | 6 => some (.fn c_law28_MergeParts)
  | 61 => some (.fn c_token_number)
  | 35 => some (.fn c_token_May)
  | 70 => some (.fn c_slices_Index_int)
  | 33 => some (.fn c_token_Place)
  | 85 => some (.ext (extClone 1))
  | 86 => some (.fn c_token_arbiter_on)
  | 62 => some (.fn c_token_change)
  | 65 => some (.fn c_slices_Delete_int)
  | 64 => some (.fn c_token_Free_1)
  | 31 => some (.fn c_token_Free)
  | 67 => some (.fn c_slices_Contains_int)
  | 66 => some (.fn c_token_Keep_1)
  | 87 => some (.fn c_slices_IndexFunc_int)
  | 69 => some (.fn c_slices_DeleteFunc_int)
  | 68 => some (.fn c_token_Keep_2)
  | 32 => some (.fn c_token_Keep)
  | 34 => some (.fn c_ref27_Same)
  | 63 => some (.fn c_token_Ask_1)
  | 30 => some (.fn c_token_Ask)
  | 60 => some (.fn c_law27_asked)
  | 29 => some (.fn c_law27_known)
  | 8 => some (.fn c_law27_TokenOrder)
  | 41 => some (.fn c_law27_alike)
  | 9 => some (.fn c_law27_TokenKeeps)
  | 90 => some (.fn c_slices_IndexFunc_Member)
  | 75 => some (.fn c_slices_ContainsFunc_Member)
  | 77 => some (.fn c_roster_role)
  | 76 => some (.fn c_roster_May_1)
  | 46 => some (.fn c_roster_May)
  | 88 => some (.fn c_slices_BinarySearchFunc_Member_int)
  | 89 => some (.fn c_roster_place_1)
  | 74 => some (.fn c_roster_place)
  | 44 => some (.fn c_roster_Find)
  | 47 => some (.fn c_roster_Writers)
  | 94 => some (.fn c_slices_Reverse_Member)
  | 93 => some (.fn c_slices_rotateLeft_Member)
  | 92 => some (.fn c_slices_rotateRight_Member)
  | 78 => some (.fn c_slices_Insert_Member)
  | 79 => some (.ext (extClone 2))
  | 48 => some (.fn c_roster_Join)
  | 80 => some (.fn c_slices_DeleteFunc_Member)
  | 81 => some (.fn c_roster_Leave_1)
  | 49 => some (.fn c_roster_Leave)
  | 42 => some (.fn c_law26_known)
  | 73 => some (.fn c_ref20_List)
  | 43 => some (.fn c_ref26_May)
  | 45 => some (.fn c_ref26_Role)
  | 10 => some (.fn c_law26_RosterAsks)
  | 50 => some (.fn c_roster_Change)
  | 82 => some (.fn c_ref26_With)
  | 51 => some (.fn c_ref26_Join)
  | 52 => some (.fn c_ref26_Leave)
  | 53 => some (.fn c_ref26_Change)
  | 54 => some (.fn c_ref26_Same)
  | 11 => some (.fn c_law26_RosterEdits)
  | 12 => some (.fn c_law26_RosterAlone)
  | 13 => some (.fn c_law26_RosterBack)
  | _ => none
variable (G : Nat → Option (List AV)) (args : List AV) (h : List ARow)
theorem run_merge_piece : aR G FT n_merge_piece args h = (aE G FT h.length c_merge_piece.body ⟨aenter args, h⟩).bind (afinish c_merge_piece.res) := y_fn G FT rfl args h
theorem run_merge_May : aR G FT n_merge_May args h = (aE G FT h.length c_merge_May.body ⟨aenter args, h⟩).bind (afinish c_merge_May.res) := y_fn G FT rfl args h
theorem run_merge_Bytes_1 : aR G FT n_merge_Bytes_1 args h = (aE G FT h.length c_merge_Bytes_1.body ⟨aenter args, h⟩).bind (afinish c_merge_Bytes_1.res) := y_fn G FT rfl args h
theorem run_merge_Bytes : aR G FT n_merge_Bytes args h = (aE G FT h.length c_merge_Bytes.body ⟨aenter args, h⟩).bind (afinish c_merge_Bytes.res) := y_fn G FT rfl args h
theorem run_merge_Size : aR G FT n_merge_Size args h = (aE G FT h.length c_merge_Size.body ⟨aenter args, h⟩).bind (afinish c_merge_Size.res) := y_fn G FT rfl args h
theorem run_merge_copied : aR G FT n_merge_copied args h = (aE G FT h.length c_merge_copied.body ⟨aenter args, h⟩).bind (afinish c_merge_copied.res) := y_fn G FT rfl args h
theorem run_merge_Push : aR G FT n_merge_Push args h = (aE G FT h.length c_merge_Push.body ⟨aenter args, h⟩).bind (afinish c_merge_Push.res) := y_fn G FT rfl args h
theorem run_merge_Pop : aR G FT n_merge_Pop args h = (aE G FT h.length c_merge_Pop.body ⟨aenter args, h⟩).bind (afinish c_merge_Pop.res) := y_fn G FT rfl args h
theorem run_slices_IndexFunc_Typed : aR G FT n_slices_IndexFunc_Typed args h = (aE G FT h.length c_slices_IndexFunc_Typed.body ⟨aenter args, h⟩).bind (afinish c_slices_IndexFunc_Typed.res) := y_fn G FT rfl args h
theorem run_slices_DeleteFunc_Typed : aR G FT n_slices_DeleteFunc_Typed args h = (aE G FT h.length c_slices_DeleteFunc_Typed.body ⟨aenter args, h⟩).bind (afinish c_slices_DeleteFunc_Typed.res) := y_fn G FT rfl args h
theorem run_merge_Drop_1 : aR G FT n_merge_Drop_1 args h = (aE G FT h.length c_merge_Drop_1.body ⟨aenter args, h⟩).bind (afinish c_merge_Drop_1.res) := y_fn G FT rfl args h
theorem run_merge_Drop : aR G FT n_merge_Drop args h = (aE G FT h.length c_merge_Drop.body ⟨aenter args, h⟩).bind (afinish c_merge_Drop.res) := y_fn G FT rfl args h
theorem run_law28_known : aR G FT n_law28_known args h = (aE G FT h.length c_law28_known.body ⟨aenter args, h⟩).bind (afinish c_law28_known.res) := y_fn G FT rfl args h
theorem run_law28_great : aR G FT n_law28_great args h = (aE G FT h.length c_law28_great.body ⟨aenter args, h⟩).bind (afinish c_law28_great.res) := y_fn G FT rfl args h
theorem run_ref28_Copy : aR G FT n_ref28_Copy args h = (aE G FT h.length c_ref28_Copy.body ⟨aenter args, h⟩).bind (afinish c_ref28_Copy.res) := y_fn G FT rfl args h
theorem run_ref28_Size : aR G FT n_ref28_Size args h = (aE G FT h.length c_ref28_Size.body ⟨aenter args, h⟩).bind (afinish c_ref28_Size.res) := y_fn G FT rfl args h
theorem run_ref28_Piece : aR G FT n_ref28_Piece args h = (aE G FT h.length c_ref28_Piece.body ⟨aenter args, h⟩).bind (afinish c_ref28_Piece.res) := y_fn G FT rfl args h
theorem run_ref28_May : aR G FT n_ref28_May args h = (aE G FT h.length c_ref28_May.body ⟨aenter args, h⟩).bind (afinish c_ref28_May.res) := y_fn G FT rfl args h
theorem run_ref28_Same : aR G FT n_ref28_Same args h = (aE G FT h.length c_ref28_Same.body ⟨aenter args, h⟩).bind (afinish c_ref28_Same.res) := y_fn G FT rfl args h
theorem run_ref28_First : aR G FT n_ref28_First args h = (aE G FT h.length c_ref28_First.body ⟨aenter args, h⟩).bind (afinish c_ref28_First.res) := y_fn G FT rfl args h
theorem run_ref28_Drop : aR G FT n_ref28_Drop args h = (aE G FT h.length c_ref28_Drop.body ⟨aenter args, h⟩).bind (afinish c_ref28_Drop.res) := y_fn G FT rfl args h
theorem run_law28_MergeEdits : aR G FT n_law28_MergeEdits args h = (aE G FT h.length c_law28_MergeEdits.body ⟨aenter args, h⟩).bind (afinish c_law28_MergeEdits.res) := y_fn G FT rfl args h
theorem run_law28_MergeBytes : aR G FT n_law28_MergeBytes args h = (aE G FT h.length c_law28_MergeBytes.body ⟨aenter args, h⟩).bind (afinish c_law28_MergeBytes.res) := y_fn G FT rfl args h
theorem run_law28_MergeOrder : aR G FT n_law28_MergeOrder args h = (aE G FT h.length c_law28_MergeOrder.body ⟨aenter args, h⟩).bind (afinish c_law28_MergeOrder.res) := y_fn G FT rfl args h
theorem run_law28_MergeParts : aR G FT n_law28_MergeParts args h = (aE G FT h.length c_law28_MergeParts.body ⟨aenter args, h⟩).bind (afinish c_law28_MergeParts.res) := y_fn G FT rfl args h
theorem run_token_number : aR G FT n_token_number args h = (aE G FT h.length c_token_number.body ⟨aenter args, h⟩).bind (afinish c_token_number.res) := y_fn G FT rfl args h
theorem run_token_May : aR G FT n_token_May args h = (aE G FT h.length c_token_May.body ⟨aenter args, h⟩).bind (afinish c_token_May.res) := y_fn G FT rfl args h
theorem run_slices_Index_int : aR G FT n_slices_Index_int args h = (aE G FT h.length c_slices_Index_int.body ⟨aenter args, h⟩).bind (afinish c_slices_Index_int.res) := y_fn G FT rfl args h
theorem run_token_Place : aR G FT n_token_Place args h = (aE G FT h.length c_token_Place.body ⟨aenter args, h⟩).bind (afinish c_token_Place.res) := y_fn G FT rfl args h
theorem run_token_arbiter_on : aR G FT n_token_arbiter_on args h = (aE G FT h.length c_token_arbiter_on.body ⟨aenter args, h⟩).bind (afinish c_token_arbiter_on.res) := y_fn G FT rfl args h
theorem run_token_change : aR G FT n_token_change args h = (aE G FT h.length c_token_change.body ⟨aenter args, h⟩).bind (afinish c_token_change.res) := y_fn G FT rfl args h
theorem run_slices_Delete_int : aR G FT n_slices_Delete_int args h = (aE G FT h.length c_slices_Delete_int.body ⟨aenter args, h⟩).bind (afinish c_slices_Delete_int.res) := y_fn G FT rfl args h
theorem run_token_Free_1 : aR G FT n_token_Free_1 args h = (aE G FT h.length c_token_Free_1.body ⟨aenter args, h⟩).bind (afinish c_token_Free_1.res) := y_fn G FT rfl args h
theorem run_token_Free : aR G FT n_token_Free args h = (aE G FT h.length c_token_Free.body ⟨aenter args, h⟩).bind (afinish c_token_Free.res) := y_fn G FT rfl args h
theorem run_slices_Contains_int : aR G FT n_slices_Contains_int args h = (aE G FT h.length c_slices_Contains_int.body ⟨aenter args, h⟩).bind (afinish c_slices_Contains_int.res) := y_fn G FT rfl args h
theorem run_token_Keep_1 : aR G FT n_token_Keep_1 args h = (aE G FT h.length c_token_Keep_1.body ⟨aenter args, h⟩).bind (afinish c_token_Keep_1.res) := y_fn G FT rfl args h
theorem run_slices_IndexFunc_int : aR G FT n_slices_IndexFunc_int args h = (aE G FT h.length c_slices_IndexFunc_int.body ⟨aenter args, h⟩).bind (afinish c_slices_IndexFunc_int.res) := y_fn G FT rfl args h
theorem run_slices_DeleteFunc_int : aR G FT n_slices_DeleteFunc_int args h = (aE G FT h.length c_slices_DeleteFunc_int.body ⟨aenter args, h⟩).bind (afinish c_slices_DeleteFunc_int.res) := y_fn G FT rfl args h
theorem run_token_Keep_2 : aR G FT n_token_Keep_2 args h = (aE G FT h.length c_token_Keep_2.body ⟨aenter args, h⟩).bind (afinish c_token_Keep_2.res) := y_fn G FT rfl args h
theorem run_token_Keep : aR G FT n_token_Keep args h = (aE G FT h.length c_token_Keep.body ⟨aenter args, h⟩).bind (afinish c_token_Keep.res) := y_fn G FT rfl args h
theorem run_ref27_Same : aR G FT n_ref27_Same args h = (aE G FT h.length c_ref27_Same.body ⟨aenter args, h⟩).bind (afinish c_ref27_Same.res) := y_fn G FT rfl args h
theorem run_token_Ask_1 : aR G FT n_token_Ask_1 args h = (aE G FT h.length c_token_Ask_1.body ⟨aenter args, h⟩).bind (afinish c_token_Ask_1.res) := y_fn G FT rfl args h
theorem run_token_Ask : aR G FT n_token_Ask args h = (aE G FT h.length c_token_Ask.body ⟨aenter args, h⟩).bind (afinish c_token_Ask.res) := y_fn G FT rfl args h
theorem run_law27_asked : aR G FT n_law27_asked args h = (aE G FT h.length c_law27_asked.body ⟨aenter args, h⟩).bind (afinish c_law27_asked.res) := y_fn G FT rfl args h
theorem run_law27_known : aR G FT n_law27_known args h = (aE G FT h.length c_law27_known.body ⟨aenter args, h⟩).bind (afinish c_law27_known.res) := y_fn G FT rfl args h
theorem run_law27_TokenOrder : aR G FT n_law27_TokenOrder args h = (aE G FT h.length c_law27_TokenOrder.body ⟨aenter args, h⟩).bind (afinish c_law27_TokenOrder.res) := y_fn G FT rfl args h
theorem run_law27_alike : aR G FT n_law27_alike args h = (aE G FT h.length c_law27_alike.body ⟨aenter args, h⟩).bind (afinish c_law27_alike.res) := y_fn G FT rfl args h
theorem run_law27_TokenKeeps : aR G FT n_law27_TokenKeeps args h = (aE G FT h.length c_law27_TokenKeeps.body ⟨aenter args, h⟩).bind (afinish c_law27_TokenKeeps.res) := y_fn G FT rfl args h
theorem run_slices_IndexFunc_Member : aR G FT n_slices_IndexFunc_Member args h = (aE G FT h.length c_slices_IndexFunc_Member.body ⟨aenter args, h⟩).bind (afinish c_slices_IndexFunc_Member.res) := y_fn G FT rfl args h
theorem run_slices_ContainsFunc_Member : aR G FT n_slices_ContainsFunc_Member args h = (aE G FT h.length c_slices_ContainsFunc_Member.body ⟨aenter args, h⟩).bind (afinish c_slices_ContainsFunc_Member.res) := y_fn G FT rfl args h
theorem run_roster_role : aR G FT n_roster_role args h = (aE G FT h.length c_roster_role.body ⟨aenter args, h⟩).bind (afinish c_roster_role.res) := y_fn G FT rfl args h
theorem run_roster_May_1 : aR G FT n_roster_May_1 args h = (aE G FT h.length c_roster_May_1.body ⟨aenter args, h⟩).bind (afinish c_roster_May_1.res) := y_fn G FT rfl args h
theorem run_roster_May : aR G FT n_roster_May args h = (aE G FT h.length c_roster_May.body ⟨aenter args, h⟩).bind (afinish c_roster_May.res) := y_fn G FT rfl args h
theorem run_slices_BinarySearchFunc_Member_int : aR G FT n_slices_BinarySearchFunc_Member_int args h = (aE G FT h.length c_slices_BinarySearchFunc_Member_int.body ⟨aenter args, h⟩).bind (afinish c_slices_BinarySearchFunc_Member_int.res) := y_fn G FT rfl args h
theorem run_roster_place_1 : aR G FT n_roster_place_1 args h = (aE G FT h.length c_roster_place_1.body ⟨aenter args, h⟩).bind (afinish c_roster_place_1.res) := y_fn G FT rfl args h
theorem run_roster_place : aR G FT n_roster_place args h = (aE G FT h.length c_roster_place.body ⟨aenter args, h⟩).bind (afinish c_roster_place.res) := y_fn G FT rfl args h
theorem run_roster_Find : aR G FT n_roster_Find args h = (aE G FT h.length c_roster_Find.body ⟨aenter args, h⟩).bind (afinish c_roster_Find.res) := y_fn G FT rfl args h
theorem run_roster_Writers : aR G FT n_roster_Writers args h = (aE G FT h.length c_roster_Writers.body ⟨aenter args, h⟩).bind (afinish c_roster_Writers.res) := y_fn G FT rfl args h
theorem run_slices_Reverse_Member : aR G FT n_slices_Reverse_Member args h = (aE G FT h.length c_slices_Reverse_Member.body ⟨aenter args, h⟩).bind (afinish c_slices_Reverse_Member.res) := y_fn G FT rfl args h
theorem run_slices_rotateLeft_Member : aR G FT n_slices_rotateLeft_Member args h = (aE G FT h.length c_slices_rotateLeft_Member.body ⟨aenter args, h⟩).bind (afinish c_slices_rotateLeft_Member.res) := y_fn G FT rfl args h
theorem run_slices_rotateRight_Member : aR G FT n_slices_rotateRight_Member args h = (aE G FT h.length c_slices_rotateRight_Member.body ⟨aenter args, h⟩).bind (afinish c_slices_rotateRight_Member.res) := y_fn G FT rfl args h
theorem run_slices_Insert_Member : aR G FT n_slices_Insert_Member args h = (aE G FT h.length c_slices_Insert_Member.body ⟨aenter args, h⟩).bind (afinish c_slices_Insert_Member.res) := y_fn G FT rfl args h
theorem run_roster_Join : aR G FT n_roster_Join args h = (aE G FT h.length c_roster_Join.body ⟨aenter args, h⟩).bind (afinish c_roster_Join.res) := y_fn G FT rfl args h
theorem run_slices_DeleteFunc_Member : aR G FT n_slices_DeleteFunc_Member args h = (aE G FT h.length c_slices_DeleteFunc_Member.body ⟨aenter args, h⟩).bind (afinish c_slices_DeleteFunc_Member.res) := y_fn G FT rfl args h
theorem run_roster_Leave_1 : aR G FT n_roster_Leave_1 args h = (aE G FT h.length c_roster_Leave_1.body ⟨aenter args, h⟩).bind (afinish c_roster_Leave_1.res) := y_fn G FT rfl args h
theorem run_roster_Leave : aR G FT n_roster_Leave args h = (aE G FT h.length c_roster_Leave.body ⟨aenter args, h⟩).bind (afinish c_roster_Leave.res) := y_fn G FT rfl args h
theorem run_law26_known : aR G FT n_law26_known args h = (aE G FT h.length c_law26_known.body ⟨aenter args, h⟩).bind (afinish c_law26_known.res) := y_fn G FT rfl args h
theorem run_ref20_List : aR G FT n_ref20_List args h = (aE G FT h.length c_ref20_List.body ⟨aenter args, h⟩).bind (afinish c_ref20_List.res) := y_fn G FT rfl args h
theorem run_ref26_May : aR G FT n_ref26_May args h = (aE G FT h.length c_ref26_May.body ⟨aenter args, h⟩).bind (afinish c_ref26_May.res) := y_fn G FT rfl args h
theorem run_ref26_Role : aR G FT n_ref26_Role args h = (aE G FT h.length c_ref26_Role.body ⟨aenter args, h⟩).bind (afinish c_ref26_Role.res) := y_fn G FT rfl args h
theorem run_law26_RosterAsks : aR G FT n_law26_RosterAsks args h = (aE G FT h.length c_law26_RosterAsks.body ⟨aenter args, h⟩).bind (afinish c_law26_RosterAsks.res) := y_fn G FT rfl args h
theorem run_roster_Change : aR G FT n_roster_Change args h = (aE G FT h.length c_roster_Change.body ⟨aenter args, h⟩).bind (afinish c_roster_Change.res) := y_fn G FT rfl args h
theorem run_ref26_With : aR G FT n_ref26_With args h = (aE G FT h.length c_ref26_With.body ⟨aenter args, h⟩).bind (afinish c_ref26_With.res) := y_fn G FT rfl args h
theorem run_ref26_Join : aR G FT n_ref26_Join args h = (aE G FT h.length c_ref26_Join.body ⟨aenter args, h⟩).bind (afinish c_ref26_Join.res) := y_fn G FT rfl args h
theorem run_ref26_Leave : aR G FT n_ref26_Leave args h = (aE G FT h.length c_ref26_Leave.body ⟨aenter args, h⟩).bind (afinish c_ref26_Leave.res) := y_fn G FT rfl args h
theorem run_ref26_Change : aR G FT n_ref26_Change args h = (aE G FT h.length c_ref26_Change.body ⟨aenter args, h⟩).bind (afinish c_ref26_Change.res) := y_fn G FT rfl args h
theorem run_ref26_Same : aR G FT n_ref26_Same args h = (aE G FT h.length c_ref26_Same.body ⟨aenter args, h⟩).bind (afinish c_ref26_Same.res) := y_fn G FT rfl args h
theorem run_law26_RosterEdits : aR G FT n_law26_RosterEdits args h = (aE G FT h.length c_law26_RosterEdits.body ⟨aenter args, h⟩).bind (afinish c_law26_RosterEdits.res) := y_fn G FT rfl args h
theorem run_law26_RosterAlone : aR G FT n_law26_RosterAlone args h = (aE G FT h.length c_law26_RosterAlone.body ⟨aenter args, h⟩).bind (afinish c_law26_RosterAlone.res) := y_fn G FT rfl args h
theorem run_law26_RosterBack : aR G FT n_law26_RosterBack args h = (aE G FT h.length c_law26_RosterBack.body ⟨aenter args, h⟩).bind (afinish c_law26_RosterBack.res) := y_fn G FT rfl args h
end Go.Proofs.Ytfnonledcniojaa
