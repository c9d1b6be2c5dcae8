/- MergeParts: the law. Conditions: as each statement says. -/
import Derived.Test.YtfnonledcniojaaMg2
import Derived.Test.YtfnonledcniojaaM3
set_option linter.unusedVariables false
set_option linter.unusedSimpArgs false
set_option linter.unusedSectionVars false
set_option maxRecDepth 20000
set_option maxHeartbeats 4000000
namespace Go.Proofs.Ytfnonledcniojaa
open Go
variable (G : Nat → Option (List AV))
theorem tys_u8 {g : List AV} (h : HasTys [.int .u8] g) : ∃ x, g = [AV.int .u8 x] := by
  obtain ⟨a, as, rfl, ha, h2⟩ := tys_cons h
  have := tys_nil h2
  subst this
  obtain ⟨x, rfl, _⟩ := ty_int ha
  exact ⟨x, rfl⟩
theorem ty_byt {a : AV} (h : HasTy (.sl [.int .u8]) a) : ∃ l f, a = .data false 1 (byt l) f := by
  simp only [HasTy] at h
  obtain ⟨es, f, rfl, hl, he⟩ := h
  obtain ⟨l, rfl, _⟩ := list_of (Q := fun _ => True) (f := fun x => [AV.int .u8 x]) es (fun g hg => by obtain ⟨x, rfl⟩ := tys_u8 (he g hg); exact ⟨x, rfl, trivial⟩)
  exact ⟨l, f, rfl⟩
theorem tys_pc {g : List AV} (h : HasTys [.int .i64, .int .i64, .sl [.int .u8]] g) : ∃ x : Pc, g = pcell x := by
  obtain ⟨a, as, rfl, ha, h2⟩ := tys_cons h
  obtain ⟨b, bs, rfl, hb, h3⟩ := tys_cons h2
  obtain ⟨c, cs, rfl, hc, h4⟩ := tys_cons h3
  have := tys_nil h4
  subst this
  obtain ⟨x, rfl, _⟩ := ty_int ha
  obtain ⟨y, rfl, _⟩ := ty_int hb
  obtain ⟨l, f, rfl⟩ := ty_byt hc
  exact ⟨(x, y, l, f), rfl⟩
theorem ty_pcs {a : AV} (h : HasTy (.sl [.int .i64, .int .i64, .sl [.int .u8]]) a) : ∃ q f, a = .data false 3 (pcs q) f := by
  simp only [HasTy] at h
  obtain ⟨es, f, rfl, hl, he⟩ := h
  obtain ⟨l, rfl, _⟩ := list_of (Q := fun _ => True) (f := pcell) es (fun g hg => by obtain ⟨x, rfl⟩ := tys_pc (he g hg); exact ⟨x, rfl, trivial⟩)
  exact ⟨l, f, rfl⟩
end Go.Proofs.Ytfnonledcniojaa
