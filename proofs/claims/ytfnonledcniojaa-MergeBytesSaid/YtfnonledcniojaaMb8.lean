/- MergeBytes: boxes and lists as data. Conditions: as the statements say. -/
import Derived.Test.YtfnonledcniojaaMb7
set_option linter.unusedVariables false
set_option linter.unusedSimpArgs false
set_option linter.unusedSectionVars false
namespace Go.Proofs.Ytfnonledcniojaa
open Go Go.RowKit
theorem dptr_of {ρ : Rho} {w : World} {S O : Nat → Prop} {b o : Nat} {y : Value} {v : AV} (hc : w.cell? ⟨b, o, none⟩ = some y) (ho : y.oneCell' = true) (hs : RepS w (fun c => S c ∨ O c) v y) (hb : ¬ O b) (hl : b < w.heap.size) : RepV ρ w S O (.dptr [v]) (.pointer (some ⟨b, o, none⟩)) := by
  refine .dptr [v] b o (fun _ => y) hb hl (fun j hj => ?_) (fun j c hj => ?_)
  · obtain rfl : j = 0 := by simp at hj; omega
    exact ⟨hc, ho⟩
  · cases j with
    | zero => cases hj; exact hs
    | succ j => cases hj
theorem data_list {w : World} {X : Nat → Prop} {b o cap : Nat} {α : Type} (q : List α) (g : α → AV) (u : α → Value) (hcap : q.length ≤ cap) (hb : ¬ X b) (hl : b < w.heap.size) (hc : ∀ e, (h : e < q.length) → w.cell? ⟨b, o + e, none⟩ = some (u q[e]) ∧ (u q[e]).oneCell' = true) (hu : ∀ x, RepS w X (g x) (u x)) :
    RepS w X (.data false 1 (q.map fun x => [g x]) false) (.slice (some ⟨b, o, none⟩) q.length cap) := by
  have e1 : (q.map fun x => [g x]).length = q.length := List.length_map _
  rw [← e1]
  refine .data 1 _ false b o cap (fun e _ => (q[e]?).elim undef u) (by rw [e1]; exact hcap) (fun h => by cases h) (fun c hc => ?_) hb hl (fun e j he hj => ?_) (fun e j c d hce hd => ?_)
  · obtain ⟨x, _, rfl⟩ := List.mem_map.1 hc; rfl
  · rw [e1] at he
    obtain rfl : j = 0 := by omega
    have := hc e he
    simp only [List.getElem?_eq_getElem he, Option.elim_some, Nat.mul_one, Nat.add_zero]
    exact this
  · rw [List.getElem?_map] at hce
    obtain ⟨x, hx, rfl⟩ := opt_map_some.1 hce
    cases j with
    | zero => cases hd; rw [hx]; exact hu x
    | succ j => cases hd
end Go.Proofs.Ytfnonledcniojaa
