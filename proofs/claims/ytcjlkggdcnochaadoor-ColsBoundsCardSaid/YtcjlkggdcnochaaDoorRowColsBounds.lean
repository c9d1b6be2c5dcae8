/- The statement of ColsBounds: for every input the law returns true and its arguments read as before, the table cols.bounds being as the program text lays it (the card ties it). Conditions: none. -/
import Derived.Test.YtcjlkggdcnochaaDoorRows
import Derived.Test.YtcjlkggdcnochaaDoorCk
import Derived.Test.YtcjlkggdcnochaaDoorM3
import Derived.Test.YtcjlkggdcnochaaDoorColB
import Derived.ChangeOld
import Derived.Test.YtcjlkggdcnochaaDoorTable
import Derived.LaidMore
import Derived.Stop.Joined
import Derived.Test.YtcjlkggdcnochaaDoorCards
import Derived.Test.YtcjlkggdcnochaaDoorTie
set_option linter.unusedVariables false
set_option linter.unusedSimpArgs false
set_option linter.unusedSectionVars false
namespace Go.Proofs.YtcjlkggdcnochaaDoor.rowColsBounds
open Go.ChangeShapes Go.WideShapes Go.ChangeAt Go.RowKit
open Go.ChangeMaps (open_string shut_string)
set_option linter.unusedVariables false

theorem own : ownKnob Tryd.prog.godebug = none := by kernel_rfl
theorem laidOut : laidOutB Tryd.prog = true := by kernel_rfl

abbrev lst {H : Type} : List (String × DataW H) := [("oriel/cols.bounds", Rows.laid_oriel_cols_bounds)]
theorem gBounds : Tryd.prog.globalNamed "oriel/cols.bounds" = some 0 := by kernel_rfl
theorem tBounds : (Tryd.prog.globals[0]?).map (·.type) = some 35 := by kernel_rfl
theorem door_met (os : Os) (args : Array Value) : laidMetH Tryd.prog lst ((World.doorLaid Tryd.prog 4000 os).forCall (fun _ _ => 0) ⟨#[], args, []⟩).memory :=
  laidMetH_of_parts3 (fuel := 8) (laidMet_of_run' 8 (by kernel_rfl) (by kernel_rfl)) (by kernel_rfl) (by kernel_rfl)
def rowsL : List (List Int) := [[768, 879, 0], [1155, 1161, 0], [1425, 1469, 0], [1552, 1562, 0], [1611, 1631, 0], [4352, 4447, 2], [6832, 6911, 0], [7616, 7679, 0], [8203, 8207, 0], [8400, 8447, 0], [11904, 12350, 2], [12353, 42191, 2], [44032, 55203, 2], [63744, 64255, 2], [65024, 65039, 0], [65056, 65071, 0], [65072, 65135, 2], [65280, 65376, 2], [65504, 65510, 2], [127744, 128591, 2], [129280, 129535, 2], [131072, 262141, 2]]
theorem rows_tab : ∀ i, i < 22 → ∀ j, j < 3 → (rowsL.getD i []).getD j 0 = tabL.getD (i * 3 + j) 0 := by decide
theorem of_laid {W : World} (h : laidMetH Tryd.prog lst W) : ∀ j, j < 66 → W.cell? ⟨0, j, none⟩ = some (.int .i32 (tabL.getD j 0)) := by
  rw [MakeChecks.laidMetH_plain _ _ _ (by kernel_rfl)] at h
  obtain ⟨ps, ⟨g0, t0, cs0, f0, p0, q0, hg0, ht0, hv0, hd0, _, _⟩, _, _⟩ := h
  obtain rfl := Option.some.inj (gBounds.symm.trans hg0)
  obtain rfl := Option.some.inj (tBounds.symm.trans ht0)
  have hd : DataW.trod _ Tryd.prog W 0 _ false f0 35 cs0.toList = some (.agg (rowsL.map (rowD .i32)), p0) := hd0
  have hc := table_cells Tryd.underlying35 Tryd.underlying34 Tryd.underlying21 (by kernel_rfl) (by kernel_rfl) hd rfl (by decide)
  intro j hj
  have h1 := hc (j / 3) (j % 3) (by omega) (by omega)
  rw [rows_tab _ (by omega) _ (by omega), Nat.div_add_mod'] at h1
  have h2 := World.var?_cell hg0 hv0 j
  rw [h2]
  simpa using h1

set_option maxRecDepth 100000 in
set_option maxHeartbeats 2000000 in
theorem lifted (os : Os) (started : os.Started) (H : Type) (enc : TypeId × Value → H) :
    ReturnsInHanded {} Tryd.checked os 4 .any (fun w args => (Rows.colsBoundsSpec.pre enc Tryd.prog Tryd.f4 [] false w args ∧ laidMetH Tryd.prog lst w) ∧ sizedMet enc Tryd.prog Tryd.f4 (OpenSpec.ofChange Rows.colsBoundsSpec) false w args)
      (Rows.colsBoundsSpec.post enc Tryd.prog Tryd.f4 false true false false) := by
  refine returnsInHanded_of_change_and (C := Tryd.checked) (X := fun w _ => laidMetH Tryd.prog lst w) (fun _ _ _ hh h => h.of_heap hh) own started (by kernel_rfl) Tryd.func4
    (ChangeSpec.witness_shaped (enc := enc) (C := Tryd.checked) (os := os) (X := fun w _ => laidMetH Tryd.prog lst w) false (World.doorLaid Tryd.prog 4000 os) #[] 8 rfl (World.shaped_of_RefB (by kernel_rfl) (by kernel_rfl)) (by kernel_rfl) (by kernel_rfl) (by kernel_rfl) (door_met os _)) ?_
  intro W base args ds gs before hval0 hW _ _ hL _
  have hT := of_laid hL
  have hval : ∀ (j : Nat) t v, Tryd.f4.params[j]? = some t → args[j]? = some v → Value.okWide Tryd.prog W .any base t v := hval0
  have hW' := hW
  obtain ⟨p, q, hA0, hV, rfl, hfz, hnd⟩ := hW
  have hA : DataW.TrodAll enc Tryd.prog W 0 (fun _ => true) true Tryd.f4.params.toList args.toList ds p := hA0
  rw [Tryd.params4] at hA hval
  obtain ⟨rfl, rfl, rfl⟩ := trodAll_none hA
  obtain ⟨rfl, rfl⟩ := trodVars_none hV
  clear hA0 hval0
  have walk := law_ColsBounds  
  refine (law_P mixFT (entFT _) walk (G13_rep hT) (xs := []) repL_nil).mono fun e W' ⟨he, bel⟩ => ?_
  subst he
  exact ⟨_, rfl, _, _, _, [], _, [], hW', trodAll_mk1 (shut_bool Tryd.underlying4 _), trodAll_mk0, rfl, bel.frame _, fun h => by cases h⟩

theorem over : Rows.colsBoundsRow.holds Tryd.pinned (OpenSpec.ofChange Rows.colsBoundsSpec) :=
  OpenClaim.holds_of_wide 4 Tryd.f4 rfl rfl rfl rfl rfl rfl rfl ⟨rfl, rfl, rfl, rfl, rfl⟩ rfl rfl rfl rfl rfl (by kernel_rfl) Tryd.func4 (by kernel_rfl)
    (of_decide_eq_true (by kernel_rfl)) (by unfold Func.isWrapper; first | (rw [if_pos (by decide +kernel)]; kernel_rfl) | (rw [if_neg (by decide +kernel)]; exact ⟨rfl, rfl⟩))
    (fun os started H enc _ => lifted os started H enc)
end Go.Proofs.YtcjlkggdcnochaaDoor.rowColsBounds
namespace Go.Proofs.YtcjlkggdcnochaaDoor
theorem colsBounds_row : Rows.ColsBoundsSaid := rowColsBounds.over
theorem colsBounds_holds : Rows.ColsBoundsCardSaid :=
  Claim7.holds_tied_plain_at .later [] [.data] true (true, "16720eeb8d2681cf11fad3f42c0f81e7cf2b9a8d7fb4415d3c18e88226f6b135") false
    colsBounds_row (fun _ h => by cases h) (by kernel_rfl) (fun _ h => by cases h) colsBounds_row_tie rfl ⟨rfl, rfl⟩ (by kernel_rfl) rfl
    (fun f fn hf hfn => by
      obtain rfl : f = 4 := Option.some.inj ((show Tryd.prog.funcNamed "oriel/oriellaw13.ColsBounds" = some 4 by kernel_rfl).symm.trans hf) |>.symm
      obtain rfl : fn = Tryd.f4 := (Option.some.inj (Tryd.func4.symm.trans hfn)).symm
      exact ⟨by kernel_rfl, fun j t ht => by
        rw [Tryd.params4] at ht
        have hm : t ∈ [] := by simpa using Array.mem_of_getElem? ht
        have hall : ([].all fun u => !Tryd.prog.wantsStandIn u) = true := by kernel_rfl
        exact (show Tryd.prog.wantsStandIn t = false by simpa using List.all_eq_true.1 hall t hm)⟩)
    (by kernel_rfl)
#print axioms colsBounds_holds
end Go.Proofs.YtcjlkggdcnochaaDoor
