/- Whatever is done with a line, it stays one that may be: Erase, Insert, Delete, Fit. Plain laws. Conditions: none. -/
import Derived.Test.YtmmkjbcklghopaaDoorLinA
import Derived.Test.YtmmkjbcklghopaaDoorLin7
set_option linter.unusedVariables false
set_option linter.unusedSimpArgs false
set_option linter.unusedSectionVars false
set_option maxRecDepth 20000
set_option maxHeartbeats 1000000
namespace Go.Proofs.YtmmkjbcklghopaaDoor
open Go
theorem mayL_nil : mayL [] = true := by decide
theorem fit_may {l : List Cl} (h : mayL l = true) (n : Int) : mayL (fitT l n) = true ∧ (0 ≤ n → n ≤ 1000 → ((fitT l n).length : Int) = n) := by
  unfold fitT
  by_cases hf : mayL l = true ∧ 0 ≤ n ∧ n ≤ 1000
  case neg => rw [if_neg hf]; exact ⟨mayL_nil, fun h0 h1 => absurd ⟨h, h0, h1⟩ hf⟩
  rw [if_pos hf]
  obtain ⟨_, h0, h1⟩ := hf
  obtain ⟨hl, hm⟩ := (mayL_iff l).1 h
  obtain ⟨y, rfl⟩ : ∃ y : Nat, n = y := ⟨n.toNat, by omega⟩
  rw [Int.toNat_natCast]
  have m := may_torn hm (y : Int)
  have c := cut_torn l y (.inr hm)
  have el := torn_len l (y : Int)
  generalize tornL l (y : Int) = E at *
  have hlen : (List.take (min y l.length) E ++ List.replicate (y - min y l.length) (blankC 0)).length = y := by simp [el]; omega
  refine ⟨(mayL_iff _).2 ⟨by omega, may_app (may_take m (fun hh => ?_) (by omega)) (may_blanks (by decide) _)⟩, fun _ _ => by omega⟩
  have e : min y l.length = y := by omega
  rw [e] at hh ⊢
  exact c hh
end Go.Proofs.YtmmkjbcklghopaaDoor
