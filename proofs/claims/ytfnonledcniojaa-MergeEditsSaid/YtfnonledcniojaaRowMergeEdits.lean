/- The statement of MergeEdits: for every input the law returns true and its arguments read as before. Conditions: none. -/
import Derived.Test.YtfnonledcniojaaRows
import Derived.Test.YtfnonledcniojaaCk
import Derived.Test.YtfnonledcniojaaM3
import Derived.Test.YtfnonledcniojaaMe4
import Derived.ChangeOld
set_option linter.unusedVariables false
set_option linter.unusedSimpArgs false
set_option linter.unusedSectionVars false
namespace Go.Proofs.Ytfnonledcniojaa.rowMergeEdits
open Go.ChangeShapes Go.WideShapes Go.ChangeAt Go.RowKit
open Go.ChangeMaps (open_string shut_string)
set_option linter.unusedVariables false

theorem own : ownKnob Try.prog.godebug = none := by kernel_rfl
theorem laidOut : laidOutB Try.prog = true := by kernel_rfl

set_option maxRecDepth 100000 in
set_option maxHeartbeats 2000000 in
theorem lifted (os : Os) (started : os.Started) (H : Type) (enc : TypeId × Value → H) :
    ReturnsInHanded {} Try.checked os 3 .any (Rows.mergeEditsSpec.pre6 enc Try.prog Try.f3 Rows.mergeEditsRow.domain false) (Rows.mergeEditsSpec.post enc Try.prog Try.f3 false true false false) := by
  refine returnsInHanded_of_change (C := Try.checked) own started (by kernel_rfl) Try.func3
    (ChangeSpec.witness6 (enc := enc) (C := Try.checked) false ⟨#[], #[.slice none 0 0, .agg #[.int .i64 0, .int .i64 0, .slice none 0 0], .int .i64 0, .int .i64 0], []⟩ 8 (by kernel_rfl) (by kernel_rfl) (by kernel_rfl) (by kernel_rfl)) ?_
  intro W base args ds gs before hval0 hW hcnd _
  have hval : ∀ (j : Nat) t v, Try.f3.params[j]? = some t → args[j]? = some v → Value.okWide Try.prog W .any base t v := hval0
  have hW' := hW
  obtain ⟨p, q, hA0, hV, rfl, hfz, hnd⟩ := hW
  have hA : DataW.TrodAll enc Try.prog W 0 (fun _ => true) true Try.f3.params.toList args.toList ds p := hA0
  rw [Try.params3] at hA hval
  obtain ⟨v0, vs0, d0, ds0, p0, q0, hargs, rfl, rfl, h0, r0⟩ := trodAll_cons hA
  obtain ⟨v1, vs1, d1, ds1, p1, q1, rfl, rfl, rfl, h1, r1⟩ := trodAll_cons r0
  obtain ⟨v2, vs2, d2, ds2, p2, q2, rfl, rfl, rfl, h2, r2⟩ := trodAll_cons r1
  obtain ⟨v3, vs3, d3, ds3, p3, q3, rfl, rfl, rfl, h3, r3⟩ := trodAll_cons r2
  obtain ⟨rfl, rfl, rfl⟩ := trodAll_nil r3
  obtain rfl : args = #[v0, v1, v2, v3] := by cases args; simp_all
  obtain ⟨rfl, rfl⟩ := trodVars_none hV
  have k0 := h0
  have lt0 : ∀ x ∈ p0, x.block < W.heap.size := by obtain ⟨m, hm⟩ := k0; exact DataW.trod_lt m _ _ _ hm
  obtain ⟨a0, t0, e0⟩ := arg_one (d := 8) (t := 22) (ty := .sl [.int .i64, .int .i64, .sl [.int .u8]]) (by kernel_rfl) (show v0.cells = #[v0] by obtain ⟨_, _, _, rfl⟩ := okWide_slice Try.underlying22 (hval 0 22 v0 rfl rfl); rfl) h0
  have k1 := h1
  have lt1 : ∀ x ∈ p1, x.block < W.heap.size := by obtain ⟨m, hm⟩ := k1; exact DataW.trod_lt m _ _ _ hm
  obtain ⟨a1, t1, e1⟩ := arg_agg (d := 8) (t := 25) (ts := [.int .i64, .int .i64, .sl [.int .u8]]) (by kernel_rfl) (.inl ⟨_, Try.underlying25⟩) (hval 1 25 v1 rfl rfl) h1
  have k2 := h2
  have lt2 : ∀ x ∈ p2, x.block < W.heap.size := by obtain ⟨m, hm⟩ := k2; exact DataW.trod_lt m _ _ _ hm
  obtain ⟨a2, t2, e2⟩ := arg_one (d := 8) (t := 3) (ty := .int .i64) (by kernel_rfl) (show v2.cells = #[v2] by obtain ⟨_, rfl, _⟩ := open_int Try.underlying3 (hval 2 3 v2 rfl rfl) h2; rfl) h2
  have k3 := h3
  have lt3 : ∀ x ∈ p3, x.block < W.heap.size := by obtain ⟨m, hm⟩ := k3; exact DataW.trod_lt m _ _ _ hm
  obtain ⟨a3, t3, e3⟩ := arg_one (d := 8) (t := 3) (ty := .int .i64) (by kernel_rfl) (show v3.cells = #[v3] by obtain ⟨_, rfl, _⟩ := open_int Try.underlying3 (hval 3 3 v3 rfl rfl) h3; rfl) h3
  clear hA0 hval0
  obtain ⟨qq, fq, rfl⟩ := ty_pcs t0
  obtain ⟨tt, rfl⟩ := tys_pc t1
  obtain ⟨nn, rfl, hn⟩ := ty_int t2
  obtain ⟨mm, rfl, _⟩ := ty_int t3
  refine (me_calls qq fq tt nn mm (inK_i64.1 hn).2 W v0 v1 v2 v3 (repL_cons e0 (repL_cons e1 (repL_cons e2 (repL_cons e3 repL_nil))))).mono fun e W' ⟨he, bel⟩ => ?_
  subst he
  exact ⟨_, rfl, _, _, _, [], _, [], hW', trodAll_mk1 (shut_bool Try.underlying4 _), (trodAll_cons_mk (Below.trod laidOut (by kernel_rfl) (of_decide_eq_true (by kernel_rfl)) k0 bel lt0) (trodAll_cons_mk (Below.trod laidOut (by kernel_rfl) (of_decide_eq_true (by kernel_rfl)) k1 bel lt1) (trodAll_cons_mk (Below.trod laidOut (by kernel_rfl) (of_decide_eq_true (by kernel_rfl)) k2 bel lt2) (trodAll_cons_mk (Below.trod laidOut (by kernel_rfl) (of_decide_eq_true (by kernel_rfl)) k3 bel lt3) trodAll_mk0)))), rfl, bel.frame _, fun h => by cases h⟩

theorem over : Rows.mergeEditsRow.holds Try.pinned (OpenSpec.ofChange Rows.mergeEditsSpec) :=
  OpenClaim.holds_of_wide 3 Try.f3 rfl rfl rfl rfl rfl rfl rfl ⟨rfl, rfl, rfl, rfl, rfl⟩ rfl rfl rfl rfl rfl (by kernel_rfl) Try.func3 (by kernel_rfl)
    (of_decide_eq_true (by kernel_rfl)) (by unfold Func.isWrapper; first | (rw [if_pos (by decide +kernel)]; kernel_rfl) | (rw [if_neg (by decide +kernel)]; exact ⟨rfl, rfl⟩))
    (fun os started H enc _ => lifted os started H enc)
end Go.Proofs.Ytfnonledcniojaa.rowMergeEdits
namespace Go.Proofs.Ytfnonledcniojaa
theorem mergeEdits_holds : Rows.MergeEditsSaid := rowMergeEdits.over
#print axioms mergeEdits_holds
end Go.Proofs.Ytfnonledcniojaa
