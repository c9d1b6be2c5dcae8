/- The statement of GridWith: for every input the law returns true and its arguments read as before, the table cols.bounds being as the program text lays it (the card ties it). Conditions: none. -/
import Derived.Test.YtmmkjbcklghopaaDoorRows
import Derived.Test.YtmmkjbcklghopaaDoorCk
import Derived.Test.YtmmkjbcklghopaaDoorM3
import Derived.Test.YtmmkjbcklghopaaDoorGrP
import Derived.ChangeOld
import Derived.Test.YtmmkjbcklghopaaDoorTable
import Derived.LaidMore
import Derived.Stop.Joined
import Derived.Test.YtmmkjbcklghopaaDoorCards
import Derived.Test.YtmmkjbcklghopaaDoorTie
set_option linter.unusedVariables false
set_option linter.unusedSimpArgs false
set_option linter.unusedSectionVars false
namespace Go.Proofs.YtmmkjbcklghopaaDoor.rowGridWith
open Go.ChangeShapes Go.WideShapes Go.ChangeAt Go.RowKit
open Go.ChangeMaps (open_string shut_string)
set_option linter.unusedVariables false

theorem own : ownKnob Tryd.prog.godebug = none := by kernel_rfl
theorem laidOut : laidOutB Tryd.prog = true := by kernel_rfl

abbrev lst {H : Type} : List (String × DataW H) := [("oriel/cols.bounds", Rows.laid_oriel_cols_bounds)]
theorem gBounds : Tryd.prog.globalNamed "oriel/cols.bounds" = some 0 := by kernel_rfl
theorem tBounds : (Tryd.prog.globals[0]?).map (·.type) = some 79 := by kernel_rfl
theorem door_met (os : Os) (args : Array Value) : laidMetH Tryd.prog lst ((World.doorLaid Tryd.prog 4000 os).forCall (fun _ _ => 0) ⟨#[], args, []⟩).memory :=
  laidMetH_of_parts3 (fuel := 8) (laidMet_of_run' 8 (by kernel_rfl) (by kernel_rfl)) (by kernel_rfl) (by kernel_rfl)
def rowsL : List (List Int) := [[768, 879, 0], [1155, 1161, 0], [1425, 1469, 0], [1552, 1562, 0], [1611, 1631, 0], [4352, 4447, 2], [6832, 6911, 0], [7616, 7679, 0], [8203, 8207, 0], [8400, 8447, 0], [11904, 12350, 2], [12353, 42191, 2], [44032, 55203, 2], [63744, 64255, 2], [65024, 65039, 0], [65056, 65071, 0], [65072, 65135, 2], [65280, 65376, 2], [65504, 65510, 2], [127744, 128591, 2], [129280, 129535, 2], [131072, 262141, 2]]
theorem rows_tab : ∀ i, i < 22 → ∀ j, j < 3 → (rowsL.getD i []).getD j 0 = tabL.getD (i * 3 + j) 0 := by decide
theorem of_laid {W : World} (h : laidMetH Tryd.prog lst W) : ∀ j, j < 66 → W.cell? ⟨0, j, none⟩ = some (.int .i32 (tabL.getD j 0)) := by
  rw [MakeChecks.laidMetH_plain _ _ _ (by kernel_rfl)] at h
  obtain ⟨ps, ⟨g0, t0, cs0, f0, p0, q0, hg0, ht0, hv0, hd0, _, _⟩, _, _⟩ := h
  obtain rfl := Option.some.inj (gBounds.symm.trans hg0)
  obtain rfl := Option.some.inj (tBounds.symm.trans ht0)
  have hd : DataW.trod _ Tryd.prog W 0 _ false f0 79 cs0.toList = some (.agg (rowsL.map (rowD .i32)), p0) := hd0
  have hc := table_cells Tryd.underlying79 Tryd.underlying78 Tryd.underlying21 (by kernel_rfl) (by kernel_rfl) hd rfl (by decide)
  intro j hj
  have h1 := hc (j / 3) (j % 3) (by omega) (by omega)
  rw [rows_tab _ (by omega) _ (by omega), Nat.div_add_mod'] at h1
  have h2 := World.var?_cell hg0 hv0 j
  rw [h2]
  simpa using h1

set_option maxRecDepth 100000 in
set_option maxHeartbeats 2000000 in
theorem lifted (os : Os) (started : os.Started) (H : Type) (enc : TypeId × Value → H) :
    ReturnsInHanded {} Tryd.checked os 7 .any (fun w args => (Rows.gridWithSpec.pre enc Tryd.prog Tryd.f7 [] false w args ∧ laidMetH Tryd.prog lst w) ∧ sizedMet enc Tryd.prog Tryd.f7 (OpenSpec.ofChange Rows.gridWithSpec) false w args)
      (Rows.gridWithSpec.post enc Tryd.prog Tryd.f7 false true false false) := by
  refine returnsInHanded_of_change_and (C := Tryd.checked) (X := fun w _ => laidMetH Tryd.prog lst w) (fun _ _ _ hh h => h.of_heap hh) own started (by kernel_rfl) Tryd.func7
    (ChangeSpec.witness_shaped (enc := enc) (C := Tryd.checked) (os := os) (X := fun w _ => laidMetH Tryd.prog lst w) false (World.doorLaid Tryd.prog 4000 os) #[.slice none 0 0, .int .i64 0, .slice none 0 0, .int .i64 0, .int .i32 0] 8 rfl (World.shaped_of_RefB (by kernel_rfl) (by kernel_rfl)) (by kernel_rfl) (by kernel_rfl) (by kernel_rfl) (door_met os _)) ?_
  intro W base args ds gs before hval0 hW _ _ hL _
  have hT := of_laid hL
  have hval : ∀ (j : Nat) t v, Tryd.f7.params[j]? = some t → args[j]? = some v → Value.okWide Tryd.prog W .any base t v := hval0
  have hW' := hW
  obtain ⟨p, q, hA0, hV, rfl, hfz, hnd⟩ := hW
  have hA : DataW.TrodAll enc Tryd.prog W 0 (fun _ => true) true Tryd.f7.params.toList args.toList ds p := hA0
  rw [Tryd.params7] at hA hval
  obtain ⟨v0, vs0, d0, ds0, p0, q0, hargs, rfl, rfl, h0, r0⟩ := trodAll_cons hA
  obtain ⟨v1, vs1, d1, ds1, p1, q1, rfl, rfl, rfl, h1, r1⟩ := trodAll_cons r0
  obtain ⟨v2, vs2, d2, ds2, p2, q2, rfl, rfl, rfl, h2, r2⟩ := trodAll_cons r1
  obtain ⟨v3, vs3, d3, ds3, p3, q3, rfl, rfl, rfl, h3, r3⟩ := trodAll_cons r2
  obtain ⟨v4, vs4, d4, ds4, p4, q4, rfl, rfl, rfl, h4, r4⟩ := trodAll_cons r3
  obtain ⟨rfl, rfl, rfl⟩ := trodAll_nil r4
  obtain rfl : args = #[v0, v1, v2, v3, v4] := by cases args; simp_all
  obtain ⟨rfl, rfl⟩ := trodVars_none hV
  have k0 := h0
  have lt0 : ∀ x ∈ p0, x.block < W.heap.size := by obtain ⟨m, hm⟩ := k0; exact DataW.trod_lt m _ _ _ hm
  obtain ⟨a0, t0, e0⟩ := arg_one (d := 8) (t := 22) (ty := .sl [.sl [.int .i32, .int .i32, .int .i32, .int .i64, .int .i64, .int .i64, .int .i64]]) (by kernel_rfl) (show v0.cells = #[v0] by obtain ⟨_, _, _, rfl⟩ := okWide_slice Tryd.underlying22 (hval 0 22 v0 rfl rfl); rfl) h0
  have k1 := h1
  have lt1 : ∀ x ∈ p1, x.block < W.heap.size := by obtain ⟨m, hm⟩ := k1; exact DataW.trod_lt m _ _ _ hm
  obtain ⟨a1, t1, e1⟩ := arg_one (d := 8) (t := 3) (ty := .int .i64) (by kernel_rfl) (show v1.cells = #[v1] by obtain ⟨_, rfl, _⟩ := open_int Tryd.underlying3 (hval 1 3 v1 rfl rfl) h1; rfl) h1
  have k2 := h2
  have lt2 : ∀ x ∈ p2, x.block < W.heap.size := by obtain ⟨m, hm⟩ := k2; exact DataW.trod_lt m _ _ _ hm
  obtain ⟨a2, t2, e2⟩ := arg_one (d := 8) (t := 35) (ty := .sl [.int .i32, .int .i32, .int .i32, .int .i64, .int .i64, .int .i64, .int .i64]) (by kernel_rfl) (show v2.cells = #[v2] by obtain ⟨_, _, _, rfl⟩ := okWide_slice Tryd.underlying35 (hval 2 35 v2 rfl rfl); rfl) h2
  have k3 := h3
  have lt3 : ∀ x ∈ p3, x.block < W.heap.size := by obtain ⟨m, hm⟩ := k3; exact DataW.trod_lt m _ _ _ hm
  obtain ⟨a3, t3, e3⟩ := arg_one (d := 8) (t := 3) (ty := .int .i64) (by kernel_rfl) (show v3.cells = #[v3] by obtain ⟨_, rfl, _⟩ := open_int Tryd.underlying3 (hval 3 3 v3 rfl rfl) h3; rfl) h3
  have k4 := h4
  have lt4 : ∀ x ∈ p4, x.block < W.heap.size := by obtain ⟨m, hm⟩ := k4; exact DataW.trod_lt m _ _ _ hm
  obtain ⟨a4, t4, e4⟩ := arg_one (d := 8) (t := 21) (ty := .int .i32) (by kernel_rfl) (show v4.cells = #[v4] by obtain ⟨_, rfl, _⟩ := open_int Tryd.underlying21 (hval 4 21 v4 rfl rfl) h4; rfl) h4
  clear hA0 hval0
  have walk := law_GridWith a0 a1 a2 a3 a4 t0 t1 t2 t3 t4
  refine (law_P mixFT (entFT _) walk (G13_rep hT) (xs := [v0, v1, v2, v3, v4]) (repL_cons e0 (repL_cons e1 (repL_cons e2 (repL_cons e3 (repL_cons e4 repL_nil)))))).mono fun e W' ⟨he, bel⟩ => ?_
  subst he
  exact ⟨_, rfl, _, _, _, [], _, [], hW', trodAll_mk1 (shut_bool Tryd.underlying4 _), (trodAll_cons_mk (Below.trod laidOut (by kernel_rfl) (of_decide_eq_true (by kernel_rfl)) k0 bel lt0) (trodAll_cons_mk (Below.trod laidOut (by kernel_rfl) (of_decide_eq_true (by kernel_rfl)) k1 bel lt1) (trodAll_cons_mk (Below.trod laidOut (by kernel_rfl) (of_decide_eq_true (by kernel_rfl)) k2 bel lt2) (trodAll_cons_mk (Below.trod laidOut (by kernel_rfl) (of_decide_eq_true (by kernel_rfl)) k3 bel lt3) (trodAll_cons_mk (Below.trod laidOut (by kernel_rfl) (of_decide_eq_true (by kernel_rfl)) k4 bel lt4) trodAll_mk0))))), rfl, bel.frame _, fun h => by cases h⟩

theorem over : Rows.gridWithRow.holds Tryd.pinned (OpenSpec.ofChange Rows.gridWithSpec) :=
  OpenClaim.holds_of_wide 7 Tryd.f7 rfl rfl rfl rfl rfl rfl rfl ⟨rfl, rfl, rfl, rfl, rfl⟩ rfl rfl rfl rfl rfl (by kernel_rfl) Tryd.func7 (by kernel_rfl)
    (of_decide_eq_true (by kernel_rfl)) (by unfold Func.isWrapper; first | (rw [if_pos (by decide +kernel)]; kernel_rfl) | (rw [if_neg (by decide +kernel)]; exact ⟨rfl, rfl⟩))
    (fun os started H enc _ => lifted os started H enc)
end Go.Proofs.YtmmkjbcklghopaaDoor.rowGridWith
namespace Go.Proofs.YtmmkjbcklghopaaDoor
theorem gridWith_row : Rows.GridWithSaid := rowGridWith.over
theorem gridWith_holds : Rows.GridWithCardSaid :=
  Claim7.holds_tied_plain_at .later [] [.data] true (true, "ed0640a4d41f81514abc93d7cbececec70f3af36bb9ab6d8dd90c392c9285976") false
    gridWith_row (fun _ h => by cases h) (by kernel_rfl) (fun _ h => by cases h) gridWith_row_tie rfl ⟨rfl, rfl⟩ (by kernel_rfl) rfl
    (fun f fn hf hfn => by
      obtain rfl : f = 7 := Option.some.inj ((show Tryd.prog.funcNamed "oriel/oriellaw15.GridWith" = some 7 by kernel_rfl).symm.trans hf) |>.symm
      obtain rfl : fn = Tryd.f7 := (Option.some.inj (Tryd.func7.symm.trans hfn)).symm
      exact ⟨by kernel_rfl, fun j t ht => by
        rw [Tryd.params7] at ht
        have hm : t ∈ [22, 3, 35, 3, 21] := by simpa using Array.mem_of_getElem? ht
        have hall : ([22, 3, 35, 3, 21].all fun u => !Tryd.prog.wantsStandIn u) = true := by kernel_rfl
        exact (show Tryd.prog.wantsStandIn t = false by simpa using List.all_eq_true.1 hall t hm)⟩)
    (by kernel_rfl)
#print axioms gridWith_holds
end Go.Proofs.YtmmkjbcklghopaaDoor
