/- Sessions: the law's arguments as sessions and deeds; plain laws of Take. Conditions: as each statement says. -/
import Derived.Test.YthcnhibjddomdaaGreatSeg
import Derived.Test.YthcnhibjddomdaaGreatM3
import Derived.Test.YthcnhibjddomdaaGreatSei
set_option linter.unusedVariables false
set_option linter.unusedSimpArgs false
set_option linter.unusedSectionVars false
set_option maxRecDepth 20000
set_option maxHeartbeats 4000000
namespace Go.Proofs.YthcnhibjddomdaaGreat
open Go
theorem tys_u8 {g : List AV} (h : HasTys [.int .u8] g) : ∃ x, g = [AV.int .u8 x] := by
  obtain ⟨a, as, rfl, ha, h2⟩ := tys_cons h
  have := tys_nil h2
  subst this
  obtain ⟨x, rfl, _⟩ := ty_int ha
  exact ⟨x, rfl⟩
theorem ty_byt {a : AV} (h : HasTy (.sl [.int .u8]) a) : ∃ l f, a = .data false 1 (byt l) f := by
  simp only [HasTy] at h
  obtain ⟨es, f, rfl, hl, he⟩ := h
  obtain ⟨l, rfl, _⟩ := list_of (Q := fun _ => True) (f := fun x => [AV.int .u8 x]) es (fun g hg => by obtain ⟨x, rfl⟩ := tys_u8 (he g hg); exact ⟨x, rfl, trivial⟩)
  exact ⟨l, f, rfl⟩
theorem tys_pc {g : List AV} (h : HasTys [.int .i64, .int .i64, .sl [.int .u8]] g) : ∃ x : Pc, g = pcell x := by
  obtain ⟨a, as, rfl, ha, h2⟩ := tys_cons h
  obtain ⟨b, bs, rfl, hb, h3⟩ := tys_cons h2
  obtain ⟨c, cs, rfl, hc, h4⟩ := tys_cons h3
  have := tys_nil h4
  subst this
  obtain ⟨x, rfl, _⟩ := ty_int ha
  obtain ⟨y, rfl, _⟩ := ty_int hb
  obtain ⟨l, f, rfl⟩ := ty_byt hc
  exact ⟨(x, y, l, f), rfl⟩
theorem ty_pcs {a : AV} (h : HasTy (.sl [.int .i64, .int .i64, .sl [.int .u8]]) a) : ∃ q f, a = .data false 3 (pcs q) f := by
  simp only [HasTy] at h
  obtain ⟨es, f, rfl, hl, he⟩ := h
  obtain ⟨l, rfl, _⟩ := list_of (Q := fun _ => True) (f := pcell) es (fun g hg => by obtain ⟨x, rfl⟩ := tys_pc (he g hg); exact ⟨x, rfl, trivial⟩)
  exact ⟨l, f, rfl⟩
theorem ty_mbs {a : AV} (h : HasTy (.sl [.int .i64, .int .i64]) a) : ∃ l f, a = .data false 2 (mbs l) f := by
  simp only [HasTy] at h
  obtain ⟨es, f, rfl, hl, he⟩ := h
  obtain ⟨l, rfl, _⟩ := list_of (Q := fun _ => True) (f := cm) es (fun g hg => by
    obtain ⟨x, gs, rfl, hx, h1⟩ := tys_cons (he g hg)
    obtain ⟨y, gs, rfl, hy, h2⟩ := tys_cons h1
    have := tys_nil h2
    subst this
    obtain ⟨x, rfl, _⟩ := ty_int hx
    obtain ⟨y, rfl, _⟩ := ty_int hy
    exact ⟨(x, y), rfl, trivial⟩)
  exact ⟨l, f, rfl⟩
theorem ty_nums : ∀ (n : Nat) (a : List AV), HasTys (List.replicate n (.int .i64)) a → ∃ l : List Int, l.length = n ∧ a = l.map fun x => .int .i64 x
  | 0, a, h => ⟨[], rfl, tys_nil h⟩
  | n + 1, a, h => by
    obtain ⟨x, as, rfl, hx, h1⟩ := tys_cons h
    obtain ⟨x, rfl, _⟩ := ty_int hx
    obtain ⟨l, hl, rfl⟩ := ty_nums n as h1
    exact ⟨x :: l, by simp [hl], rfl⟩
/-- Any cells of a session's types are a session's. -/
theorem ty_ses {a : List AV} (h : HasTys (.sl [.int .i64, .int .i64] :: .int .i64 :: .sl [.int .i64] :: .sl [.int .i64, .int .i64, .sl [.int .u8]] :: List.replicate 29 (.int .i64)) a) : ∃ s : Ses, a = sC s := by
  obtain ⟨x0, r0, rfl, h0, t0⟩ := tys_cons h
  obtain ⟨x1, r1, rfl, h1, t1⟩ := tys_cons t0
  obtain ⟨x2, r2, rfl, h2, t2⟩ := tys_cons t1
  obtain ⟨x3, r3, rfl, h3, t3⟩ := tys_cons t2
  obtain ⟨mem, f1, rfl⟩ := ty_mbs h0
  obtain ⟨hh, rfl, _⟩ := ty_int h1
  obtain ⟨tq, f2, rfl, _, _⟩ := ty_ints h2
  obtain ⟨q, f3, rfl⟩ := ty_pcs h3
  obtain ⟨l, hl, rfl⟩ := ty_nums 29 _ t3
  refine ⟨⟨mem, hh, tq, q, fun n => (l.getD (2 * n) 0, l.getD (2 * n + 1) 0), l.getD 18 0, l.getD 19 0, fun n => l.getD (20 + n) 0, f1, f2, f3⟩, ?_⟩
  match l, hl with
  | [_, _, _, _, _, _, _, _, _, _, _, _, _, _, _, _, _, _, _, _, _, _, _, _, _, _, _, _, _], _ => rfl
/-! ### Take -/
end Go.Proofs.YthcnhibjddomdaaGreat
