/- LineMay. Conditions: none. -/
import Derived.Test.YtmmkjbcklghopaaDoorLinC
set_option linter.unusedVariables false
set_option linter.unusedSimpArgs false
set_option linter.unusedSectionVars false
set_option maxRecDepth 20000
set_option maxHeartbeats 2000000
namespace Go.Proofs.YtmmkjbcklghopaaDoor
open Go
/-- Arguments' shapes. -/
theorem tys_pen {g : List AV} (h : HasTys [.int .i64, .int .i64, .int .i64] g) : ∃ p : Pn, g = penC p ∧ InK .i64 p.b ∧ InK .i64 p.f ∧ InK .i64 p.k := by
  obtain ⟨a, g1, rfl, h1, r1⟩ := tys_cons h
  obtain ⟨b, g2, rfl, h2, r2⟩ := tys_cons r1
  obtain ⟨n1, rfl, k1⟩ := ty_int h1
  obtain ⟨n2, rfl, k2⟩ := ty_int h2
  obtain ⟨n3, rfl, k3⟩ := tys_int1 r2
  exact ⟨⟨n1, n2, n3⟩, rfl, k1, k2, k3⟩
structure OkC (x : Cl) : Prop where
  c : InK .i32 x.c
  m0 : InK .i32 x.m0
  m1 : InK .i32 x.m1
  h : InK .i64 x.h
  b : InK .i64 x.p.b
  f : InK .i64 x.p.f
  k : InK .i64 x.p.k
theorem tys_cell {g : List AV} (h : HasTys [.int .i32, .int .i32, .int .i32, .int .i64, .int .i64, .int .i64, .int .i64] g) : ∃ x : Cl, g = cellC x ∧ OkC x := by
  obtain ⟨a, g1, rfl, h1, r1⟩ := tys_cons h
  obtain ⟨b, g2, rfl, h2, r2⟩ := tys_cons r1
  obtain ⟨c, g3, rfl, h3, r3⟩ := tys_cons r2
  obtain ⟨d, g4, rfl, h4, r4⟩ := tys_cons r3
  obtain ⟨p, rfl, k5, k6, k7⟩ := tys_pen r4
  obtain ⟨n1, rfl, k1⟩ := ty_int h1
  obtain ⟨n2, rfl, k2⟩ := ty_int h2
  obtain ⟨n3, rfl, k3⟩ := ty_int h3
  obtain ⟨n4, rfl, k4⟩ := ty_int h4
  exact ⟨⟨n1, n2, n3, n4, p⟩, rfl, k1, k2, k3, k4, k5, k6, k7⟩
theorem ty_cells {a : AV} (h : HasTy (.sl [.int .i32, .int .i32, .int .i32, .int .i64, .int .i64, .int .i64, .int .i64]) a) : ∃ l f, a = .data false 7 (cells l) f ∧ ∀ x ∈ l, OkC x := by
  simp only [HasTy] at h
  obtain ⟨es, f, rfl, hl, he⟩ := h
  obtain ⟨l, rfl, hq⟩ := list_of (Q := OkC) (f := cellC) es (fun g hg => tys_cell (he g hg))
  exact ⟨l, f, rfl, hq⟩
end Go.Proofs.YtmmkjbcklghopaaDoor
