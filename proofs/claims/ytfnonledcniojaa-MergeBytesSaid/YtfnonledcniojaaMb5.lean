/- MergeBytes: where the rows lie; all bytes as pairs. Conditions: as the statements say. -/
import Derived.Test.YtfnonledcniojaaMb4
set_option linter.unusedVariables false
set_option linter.unusedSimpArgs false
set_option linter.unusedSectionVars false
namespace Go.Proofs.Ytfnonledcniojaa
open Go Go.RowKit
theorem box_at {ρ : Rho} {w : World} {S O : Nat → Prop} {h : List ARow} {id g : Nat} {fl : Bool} {v : AV} {x : Value} (H : Heap ρ w S O h) (hx : RepV ρ w S O (.ptr id g 0 0) x) (hr : h[id]? = some ⟨1, g, fl, [[v]]⟩) :
    ∃ p y, ρ id = some (g, some p) ∧ O p.b ∧ x = .pointer (some ⟨p.b, p.base, none⟩) ∧ w.cell? ⟨p.b, p.base, none⟩ = some y ∧ RepV ρ w S O v y ∧ w.frozen? ⟨p.b, p.base, none⟩ = false := by
  cases hx with
  | s h => cases h
  | ptr _ _ g' pl _ _ a h1 h2 h3 =>
    obtain ⟨r, hr2, hg, hR⟩ := H.row id g' pl h1
    rw [hr] at hr2
    cases hr2
    have hg : g = g' := hg
    subst hg
    obtain ⟨p, rfl, rfl⟩ := h3 rfl
    have R : RowRep ρ w S O ⟨1, g, fl, [[v]]⟩ p := hR
    obtain ⟨arr, ty, lo, hi, b1, b2, b3, b4⟩ := R.block
    obtain ⟨y, c1, c2, c3, _⟩ := b4 0 0 _ _ rfl rfl
    have hk : p.k = 1 := R.k
    have hlim := R.lim
    simp only [Nat.zero_mul, Nat.add_zero] at c1
    have hlt := (Array.getElem?_eq_some_iff.1 c1).1
    refine ⟨p, y, h1, R.own, by simp, ?_, c3, ?_⟩
    · rw [cell_of_row w p.b _ arr ty _ b1]; exact c1
    · simp only [World.frozen?, b1]
      have := b3.2.1 p.base hlt
      simp only [Bool.and_eq_false_iff, decide_eq_false_iff_not]
      by_cases h : lo ≤ p.base
      · exact .inr fun h2 => this ⟨h, h2⟩
      · exact .inl h
theorem list_at {ρ : Rho} {w : World} {S O : Nat → Prop} {h : List ARow} {id g n : Nat} {fl : Bool} {es : List (List AV)} {x : Value} (H : Heap ρ w S O h) (hx : RepV ρ w S O (.own id g 0 n n) x) (hr : h[id]? = some ⟨1, g, fl, es⟩) (hn : 0 < n) (hl : n = es.length) :
    ∃ p cap, ρ id = some (g, some p) ∧ O p.b ∧ x = .slice (some ⟨p.b, p.base, none⟩) n cap ∧ n ≤ cap ∧ ∀ e c, es[e]? = some [c] → ∃ y, w.cell? ⟨p.b, p.base + e, none⟩ = some y ∧ RepV ρ w S O c y := by
  cases hx with
  | s h => cases h
  | own _ _ g' pl _ _ _ a cap h1 h2 h3 h4 h5 h6 =>
    obtain ⟨r, hr2, hg, hR⟩ := H.row id g' pl h1
    rw [hr] at hr2
    cases hr2
    have hg : g = g' := hg
    subst hg
    rcases h6 rfl with h6 | ⟨p, rfl, rfl, h7⟩
    · omega
    have R : RowRep ρ w S O ⟨1, g, fl, es⟩ p := hR
    obtain ⟨arr, ty, lo, hi, b1, b2, b3, b4⟩ := R.block
    have hk : p.k = 1 := R.k
    refine ⟨p, cap, h1, R.own, by simp, h3, fun e c he => ?_⟩
    obtain ⟨y, c1, c2, c3, _⟩ := b4 e 0 _ _ he rfl
    rw [hk, Nat.mul_one, Nat.add_zero] at c1
    exact ⟨y, by rw [cell_of_row w p.b _ arr ty _ b1]; exact c1, c3⟩
theorem allB_pairs (q : List Pc) : ∀ k, k ≤ q.length → allB (fun e => (q.getD e (0, 0, [], false)).1) (fun e => (q.getD e (0, 0, [], false)).2.2.1) k = pairs (q.take k)
  | 0, _ => rfl
  | k + 1, h => by
    have hk : k < q.length := by omega
    have e2 : q.getD k (0, 0, [], false) = q[k] := by rw [List.getD_eq_getElem?_getD, List.getElem?_eq_getElem hk]; rfl
    rw [pairs_take hk, allB, allB_pairs q k (by omega), e2]
end Go.Proofs.Ytfnonledcniojaa
