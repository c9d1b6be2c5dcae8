/- Walks of slices.Clone at runes, cols.Cut and the reference's Cut. Conditions: the table lies as laid; lists of at most a million. -/
import Derived.Test.YtcjlkggdcnochaaDoorColsC
import Derived.Lib.SliceRun
namespace Go.Proofs.YtcjlkggdcnochaaDoor
open Go.RowKit

theorem info32 : (Tryd.prog.info? 21).map (fun i => (i.zero, i.size, i.bytes)) = some (some (.int .i32 0), 1, 4) := by kernel_rfl
theorem runes_one (l : List Int) : ∀ u ∈ runeCells l, u.oneCell' = true := by intro u hu; simp [runeCells] at hu; obtain ⟨x, _, rfl⟩ := hu; rfl

/-- a slice of the call's own -/
theorem rowAt_of_owns {w : World} {base : Nat} {e : TypeId} {sz : Nat} {v : Value} {n : Nat} {xs : List Value} (h : w.ownsRow base e sz v n xs) : ∃ a c, v = .slice a n c ∧ n ≤ c ∧ RowAt w a xs := by
  rcases h.2 with ⟨rfl, rfl⟩ | ⟨g, cap, cur, rfl, hb, hg, hn, _, _, htake⟩
  · exact ⟨none, 0, rfl, Nat.le_refl _, fun hne => absurd (List.eq_nil_of_length_eq_zero (by simpa using h.1)) hne⟩
  · refine ⟨_, cap, rfl, hn, fun _ => ⟨g, 0, rfl, fun j u hj => ?_⟩⟩
    have := h.cells (g := g) rfl j u hj
    have hadd : (⟨g, 0, none⟩ : Addr).add j = ⟨g, 0 + j, none⟩ := by unfold Addr.add; split <;> simp_all
    rwa [hadd] at this

theorem grown_of_alloc {w w2 : World} {o : Obj} {row : Option Nat} (h : (w.alloc o).grownBy w2 row) (hr : ∀ k, row = some k → w.heap.size ≤ k) : w.grownBy w2 none :=
  ⟨h.os, h.tape, h.output, by have := h.size; simp at this; omega, fun k hk _ => (h.block k (by simp; omega) (fun e => by have := hr k e.symm; omega)).trans (Below.heap_alloc w o k hk)⟩
theorem below_of_grown {w w2 : World} (h : w.grownBy w2 none) : Below w.heap.size w w2 := ⟨h.os, h.tape, h.output, h.size, fun k hk => h.block k hk (by simp)⟩
theorem run_eql_nil (w : World) (b off : Nat) (sp : Option Nat) (n c : Nat) : (binOp .eql 26 (.slice (some ⟨b, off, sp⟩) n c) (.slice none 0 0)).run Tryd.prog w = .ok (.bool false) w := by
  rw [Lib.run_eql_slice_nil w _ _ _ _ _ _ _ Tryd.underlying26]; rfl

set_option maxHeartbeats 1000000 in
theorem clone_some (b off cp : Nat) (sp : Option Nat) (l : List Int) (w : World) (hl : l.length ≤ 1000000) (hc : RowAt w (some ⟨b, off, sp⟩) (runeCells l)) :
    Calls Tryd.prog 19 #[.slice (some ⟨b, off, sp⟩) l.length cp] w fun e w' => ∃ v, e = .returned v ∧ w'.ownsRow w.heap.size 21 1 v l.length (runeCells l) ∧ w.grownBy w' none := by
  have HC := Lib.hid hc
  clear hc
  obtain ⟨i0, hi, hz0, hz1, hz2⟩ := info_parts info32
  go_enter Tryd.func19, Tryd.ntmps19
  have hnil := fun (w : World) => run_eql_nil w b off sp l.length cp
  have h0 := World.ownsRow_made (base := w.heap.size) (e := 21) (size := 1) w #[] 0 (Nat.le_refl _) (by decide) rfl
  have HN := Lib.hid (show ∀ j u, (runeCells l)[j]? = some u → (w.alloc (.cells #[] 21)).cell? ((⟨b, off, sp⟩ : Addr).add j) = some u from fun j u hj => by
    obtain ⟨b', off', e, _, hcell⟩ := (HC.out.alloc (.cells #[] 21)).cell hj
    cases e
    have hadd : (⟨b, off, none⟩ : Addr).add j = ⟨b, off + j, none⟩ := by unfold Addr.add; split <;> simp_all
    rw [hadd]; exact hcell)
  have H0 := Lib.hid h0
  clear h0
  go_wp2_with (at_builtin; refine wpList_append_own _ rfl (.tmp 5) (.tmp 6) 26 rfl w.heap.size 21 i0 (.int .i32 0) 1 4 Tryd.underlying26 hi hz0 hz1 hz2 rfl (by decide) _ _ _ rfl H0.out ⟨b, off, sp⟩ l.length cp (runeCells l) rfl (by simp [runeCells]) HN.out (runes_one l) (by unfold maxLen; omega) (by omega) (by simp) ?_; intro v w2 hown hgrow _)
  go_ret
  refine ⟨v, rfl, ?_, ?_⟩
  · simpa using hown
  · exact grown_of_alloc (row := some w.heap.size) hgrow (by intro k hk; cases hk; exact Nat.le_refl _)

set_option maxHeartbeats 1000000 in
theorem clone_nil (w : World) :
    Calls Tryd.prog 19 #[.slice none 0 0] w fun e w' => ∃ v, e = .returned v ∧ w'.ownsRow w.heap.size 21 1 v 0 [] ∧ w.grownBy w' none := by
  have hnil := fun (w : World) => show (binOp .eql 26 (.slice none 0 0) (.slice none 0 0)).run Tryd.prog w = .ok (.bool true) w by rw [Lib.run_eql_slice_nil w _ _ _ _ _ _ _ Tryd.underlying26]; rfl
  go_enter Tryd.func19, Tryd.ntmps19
  go_wp2_with fail
  go_ret
  exact ⟨_, rfl, World.ownsRow_nil _ _ _ _, ⟨rfl, rfl, rfl, Nat.le_refl _, fun _ _ _ => rfl⟩⟩

/-- a slice's value: nil, or at an address -/
theorem clone_any (a : Option Addr) (n cp : Nat) (l : List Int) (w : World) (hn : n = l.length) (hl : l.length ≤ 1000000) (hc : RowAt w a (runeCells l)) (h0 : a = none → n = 0 ∧ cp = 0) :
    Calls Tryd.prog 19 #[.slice a n cp] w fun e w' => ∃ v, e = .returned v ∧ w'.ownsRow w.heap.size 21 1 v l.length (runeCells l) ∧ w.grownBy w' none := by
  cases a with
  | none =>
    obtain ⟨h1, h2⟩ := h0 rfl
    subst h1 h2
    obtain rfl := List.eq_nil_of_length_eq_zero hn.symm
    exact clone_nil w
  | some ad =>
    obtain ⟨b, off, sp⟩ := ad
    subst hn
    exact clone_some b off cp sp l w hl hc
end Go.Proofs.YtcjlkggdcnochaaDoor
