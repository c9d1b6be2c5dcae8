/- slices.Clone over the caller's rows. Conditions: as the statement says. -/
import Derived.Test.YtkkcblfoaldckaaM3
set_option linter.unusedVariables false
set_option linter.unusedSimpArgs false
set_option linter.unusedSectionVars false
namespace Go.Proofs.Ytkkcblfoaldckaa
open Go
/-- What an entry that is told outright must be. -/
abbrev ExtAt (P : Program) (G : Nat → Option (List AV)) (f : Nat) (args : List AV) (h : List ARow) (v : AV) (h' : List ARow) : Prop :=
  KeepK h h' ∧ (∃ fn, P.funcs[f]? = some fn ∧ fn.name ≠ "runtime.NumGoroutine" ∧ fn.body.isSome = true) ∧
    ∀ (ρ : Rho) (w : World) (S O : Nat → Prop) (xs : List Value), Heap ρ w S O h → (∀ g cs, G g = some cs → RepV ρ w S O (.dptr cs) (.pointer (some ⟨g, 0, none⟩))) → RepL (RepV ρ w S O) args xs →
      Calls P f xs.toArray w fun e w' => ∃ x, e = .returned x ∧ ResW ρ w S O h v h' x w'
theorem cloneI_ok {P : Program} {G : Nat → Option (List AV)} {k f : Nat} (hE : ∀ args h v h', extClone k args h = some (v, h') → ExtAt P G f args h v h') (hfn : ∃ fn, P.funcs[f]? = some fn ∧ fn.name ≠ "runtime.NumGoroutine" ∧ fn.body.isSome = true)
    (hemp : ∀ (a : Option Addr) (cap : Nat) (w : World), Calls P f #[.slice a 0 cap] w fun e w' => ∃ a', e = .returned (.slice a' 0 0) ∧ (w' = w ∨ ∃ arr ty, w' = w.alloc (.cells arr ty))) :
    ∀ args h v h', extCloneI k f args h = some (v, h') → ExtAt P G f args h v h' := by
  intro args h v h' he
  unfold extCloneI at he
  split at he
  · exact hE _ _ _ _ he
  rename_i r t
  split at he
  · rename_i b k' f'
    split at he
    case isFalse => cases he
    rename_i hk
    cases he
    subst hk
    refine ⟨fun id x hx => ⟨x, hx, rfl⟩, hfn, fun ρ w S O xs H hG hargs => ?_⟩
    cases xs with
    | nil => have := hargs.1; simp at this
    | cons x xs =>
      obtain ⟨hx, hr⟩ := hargs.uncons
      have : xs = [] := List.eq_nil_of_length_eq_zero (by have := hr.1; simpa using this.symm)
      subst this
      obtain ⟨a, cap, rfl, _⟩ := rv_data hx
      refine Calls.mono (hemp a cap w) fun e w' ⟨a', e1, hw⟩ => ⟨_, e1, ρ, O, ?_⟩
      have A : AdvW w O w' O := by
        rcases hw with rfl | ⟨arr, ty, rfl⟩
        · exact .refl _ O
        · exact .alloc' w O _
      have same : ∀ b, b < w.heap.size → w'.heap[b]? = w.heap[b]? := fun b hb => by
        rcases hw with rfl | ⟨arr, ty, rfl⟩
        · rfl
        · simp only [World.alloc, Array.getElem?_push]
          rw [if_neg (by omega)]
      refine ⟨A.x, .refl ρ, H.step (.refl ρ) A (fun b hb => Nat.lt_of_lt_of_le (H.bd b (.inr hb)) A.size) (fun id g pl hid => .inl ⟨hid, rfl, fun p hp => ?_⟩) H.inj, .s (.data0 k' true a' 0 (fun _ => rfl)), fun _ _ h => h⟩
      subst hp
      obtain ⟨r', _, _, hR⟩ := H.row id g _ hid
      exact same _ (RowRep.lt (show RowRep ρ w S O r' p from hR))
  · rename_i id g s l c
    have K : CallOk P G (fun f' as hh => if f' = f then extClone k as hh else none) := fun f' args h v h' hr => by
      simp only at hr
      split at hr
      · rename_i e; subst e; exact (hE _ _ _ _ hr).2
      · cases hr
    obtain ⟨as, has, he⟩ := opt_bind_some.1 he
    obtain ⟨p, hp, he⟩ := opt_bind_some.1 he
    refine ⟨fun i x hx => ?_, hfn, fun ρ w S O xs H hG hargs => ?_⟩
    · unfold aadopt at he
      simp only at he
      split at he
      · cases he
        exact ⟨x, by rw [List.getElem?_append_left (List.getElem?_eq_some_iff.1 hx).1]; exact hx, rfl⟩
      · cases he
    · obtain ⟨h1, h2⟩ := K f as [] p.1 p.2 hp
      refine Calls.mono (h2 (fun _ => none) w (fun b => S b ∨ O b) (fun _ => False) xs ⟨fun id g pl h => (nomatch h), fun id id' g g' p p' h => (nomatch h), fun b hb => hb.elim (H.bd b) False.elim, fun _ hb => hb.elim⟩ (fun g cs hg => view_rep H (.dptr cs) (hG g cs hg) rfl) (viewL_rep H _ hargs has)) fun e w' ⟨x, e1, ρ', O', A, _, H', hx, _⟩ => ?_
      obtain ⟨ρ2, t1, t2, t3, t4, t5, t6, t7⟩ := adopt_ok H A H' hx he
      exact ⟨x, e1, ResN.toW ⟨ρ2, _, t1, fun b hb => A.same b hb (fun h => h), t2, t3, t4, t5, t6, t7⟩⟩
  · cases he
end Go.Proofs.Ytkkcblfoaldckaa
