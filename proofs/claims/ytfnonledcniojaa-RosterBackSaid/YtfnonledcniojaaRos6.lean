/- RosterEdits, RosterAsks: the laws. Conditions: as each statement says. -/
import Derived.Test.YtfnonledcniojaaRos5
import Derived.Test.YtfnonledcniojaaM3
set_option linter.unusedVariables false
set_option linter.unusedSimpArgs false
set_option linter.unusedSectionVars false
set_option maxRecDepth 20000
set_option maxHeartbeats 4000000
namespace Go.Proofs.Ytfnonledcniojaa
open Go
variable (G : Nat → Option (List AV))
theorem ty_mbs {a : AV} (h : HasTy (.sl [.int .i64, .int .i64]) a) : ∃ l f, a = .data false 2 (mbs l) f := by
  simp only [HasTy] at h
  obtain ⟨es, f, rfl, hl, he⟩ := h
  obtain ⟨l, rfl, _⟩ := list_of (Q := fun _ => True) (f := cm) es (fun g hg => by
    obtain ⟨a, as, rfl, ha, h2⟩ := tys_cons (he g hg)
    obtain ⟨b, bs, rfl, hb, h3⟩ := tys_cons h2
    have := tys_nil h3
    subst this
    obtain ⟨x, rfl, _⟩ := ty_int ha
    obtain ⟨y, rfl, _⟩ := ty_int hb
    exact ⟨(x, y), rfl, trivial⟩)
  exact ⟨l, f, rfl⟩
theorem withM_len (l : List (Int × Int)) (id r : Int) : (withM l id r).length < 1000000 := by have := ros_len (setR (roleOf l) id r) 8 1; unfold withM; omega
/-! ### RosterAsks -/
end Go.Proofs.Ytfnonledcniojaa
