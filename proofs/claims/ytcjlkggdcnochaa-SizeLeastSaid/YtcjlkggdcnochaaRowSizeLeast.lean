/- The statement of SizeLeast: for every input the law returns true and its arguments read as before. Conditions: none. -/
import Derived.Test.YtcjlkggdcnochaaRows
import Derived.Test.YtcjlkggdcnochaaRead
import Derived.Test.YtcjlkggdcnochaaSizeG
import Derived.ChangeOld
namespace Go.Proofs.Ytcjlkggdcnochaa.rowSizeLeast
open Go.ChangeShapes Go.WideShapes Go.ChangeAt Go.RowKit
open Go.ChangeMaps (open_string shut_string)
set_option linter.unusedVariables false

theorem own : ownKnob Try.prog.godebug = none := by kernel_rfl
theorem laidOut : laidOutB Try.prog = true := by kernel_rfl

set_option maxRecDepth 100000 in
set_option maxHeartbeats 2000000 in
theorem lifted (os : Os) (started : os.Started) (H : Type) (enc : TypeId × Value → H) :
    ReturnsInHanded {} Try.checked os 3 .any (Rows.sizeLeastSpec.pre6 enc Try.prog Try.f3 Rows.sizeLeastRow.domain false) (Rows.sizeLeastSpec.post enc Try.prog Try.f3 false true false false) := by
  refine returnsInHanded_of_change (C := Try.checked) own started (by kernel_rfl) Try.func3
    (ChangeSpec.witness6 (enc := enc) (C := Try.checked) false ⟨#[], #[.agg (winCells winZero), .slice none 0 0, .agg #[.int .i64 0, .int .i64 0]], []⟩ 8 (by kernel_rfl) (by kernel_rfl) (by kernel_rfl) (by kernel_rfl)) ?_
  intro W base args ds gs before hval0 hW hcnd _
  have hval : ∀ (j : Nat) t v, Try.f3.params[j]? = some t → args[j]? = some v → Value.okWide Try.prog W .any base t v := hval0
  have hW' := hW
  obtain ⟨p, q, hA0, hV, rfl, hfz, hnd⟩ := hW
  have hA : DataW.TrodAll enc Try.prog W 0 (fun _ => true) true Try.f3.params.toList args.toList ds p := hA0
  rw [Try.params3] at hA hval
  obtain ⟨v0, vs0, d0, ds0, p0, q0, hargs, rfl, rfl, h0, r0⟩ := trodAll_cons hA
  obtain ⟨v1, vs1, d1, ds1, p1, q1, rfl, rfl, rfl, h1, r1⟩ := trodAll_cons r0
  obtain ⟨v2, vs2, d2, ds2, p2, q2, rfl, rfl, rfl, h2, r2⟩ := trodAll_cons r1
  obtain ⟨rfl, rfl, rfl⟩ := trodAll_nil r2
  obtain rfl : args = #[v0, v1, v2] := by cases args; simp_all
  obtain ⟨rfl, rfl⟩ := trodVars_none hV
  have k0 := h0
  have lt0 : ∀ x ∈ p0, x.block < W.heap.size := by obtain ⟨m, hm⟩ := k0; exact DataW.trod_lt m _ _ _ hm
  have k1 := h1
  have lt1 : ∀ x ∈ p1, x.block < W.heap.size := by obtain ⟨m, hm⟩ := k1; exact DataW.trod_lt m _ _ _ hm
  have k2 := h2
  have lt2 : ∀ x ∈ p2, x.block < W.heap.size := by obtain ⟨m, hm⟩ := k2; exact DataW.trod_lt m _ _ _ hm
  obtain ⟨cs0, rfl, hs0⟩ := okWide_array Try.underlying24 (hval 0 24 v0 rfl rfl)
  obtain ⟨x0, rfl⟩ : ∃ x : Nat → Int, cs0 = winCells x := by obtain ⟨f, hf⟩ := h0; exact win_of (flat_read 3 (ks := List.replicate 18 .i64) (by kernel_rfl) hf)
  obtain ⟨a1, len1, cap1, cells1, rfl, hlc1, hcap1, hin1, hrow1⟩ := slice_read (d := 1) (ks := [.i64]) Try.underlying25 (by kernel_rfl) (by kernel_rfl) (by decide) h1 (okWide_slice Try.underlying25 (hval 1 25 v1 rfl rfl))
  rw [flatten_one] at hin1
  obtain ⟨l1, rfl, rfl, hwf1⟩ := hin1.one
  obtain ⟨cs2, rfl, hs2⟩ := okWide_array Try.underlying22 (hval 2 22 v2 rfl rfl)
  obtain ⟨p2, q2, rfl⟩ : ∃ p q : Int, cs2 = #[.int .i64 p, .int .i64 q] := by obtain ⟨f, hf⟩ := h2; exact pair_of (flat_read 2 (ks := [.i64, .i64]) (by kernel_rfl) hf)
  clear hA0 hval0
  refine (law_SizeLeast x0 a1 cap1 l1 p2 q2 W (by omega) hrow1).mono fun e W' ⟨he, bel⟩ => ?_
  subst he
  exact ⟨_, rfl, _, _, _, [], _, [], hW', trodAll_mk1 (shut_bool Try.underlying4 _), (trodAll_cons_mk (Below.trod laidOut (by kernel_rfl) (of_decide_eq_true (by kernel_rfl)) k0 bel lt0) (trodAll_cons_mk (Below.trod laidOut (by kernel_rfl) (of_decide_eq_true (by kernel_rfl)) k1 bel lt1) (trodAll_cons_mk (Below.trod laidOut (by kernel_rfl) (of_decide_eq_true (by kernel_rfl)) k2 bel lt2) trodAll_mk0))), rfl, bel.frame _, fun h => by cases h⟩

theorem over : Rows.sizeLeastRow.holds Try.pinned (OpenSpec.ofChange Rows.sizeLeastSpec) :=
  OpenClaim.holds_of_wide 3 Try.f3 rfl rfl rfl rfl rfl rfl rfl ⟨rfl, rfl, rfl, rfl, rfl⟩ rfl rfl rfl rfl rfl (by kernel_rfl) Try.func3 (by kernel_rfl)
    (of_decide_eq_true (by kernel_rfl)) (by unfold Func.isWrapper; first | (rw [if_pos (by decide +kernel)]; kernel_rfl) | (rw [if_neg (by decide +kernel)]; exact ⟨rfl, rfl⟩))
    (fun os started H enc _ => lifted os started H enc)
end Go.Proofs.Ytcjlkggdcnochaa.rowSizeLeast
namespace Go.Proofs.Ytcjlkggdcnochaa
theorem sizeLeast_holds : Rows.SizeLeastSaid := rowSizeLeast.over
#print axioms sizeLeast_holds
end Go.Proofs.Ytcjlkggdcnochaa
