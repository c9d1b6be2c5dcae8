/- MergeBytes: the frame of a round with n's box alone as a row. Conditions: as the statements say. -/
import Derived.Test.YtfnonledcniojaaMb8
set_option linter.unusedVariables false
set_option linter.unusedSimpArgs false
set_option linter.unusedSectionVars false
namespace Go.Proofs.Ytfnonledcniojaa
open Go Go.RowKit
theorem cell_move {w W : World} {B b o : Nat} {y : Value} (A : AdvX w (fun c => c = B) W (fun c => c = B)) (hb : b ≠ B) (hl : b < w.heap.size) (hc : w.cell? ⟨b, o, none⟩ = some y) : W.cell? ⟨b, o, none⟩ = some y :=
  (World.cell?_of_block (A.same b hl hb)).trans hc
/-- What a round looks at: left's box, who's and what's boxes and cells, turn's box, n's box. -/
structure RdAt (w : World) (t : Array Value) (pn : Pl) (left turn : Int) (ws hs : List Int) : Prop where
  size : t.size = 106
  n11 : t[11]? = some (.pointer (some ⟨pn.b, pn.base, none⟩))
  l3 : ∃ b o, t[3]? = some (.pointer (some ⟨b, o, none⟩)) ∧ w.cell? ⟨b, o, none⟩ = some (.int .i64 left) ∧ b ≠ pn.b ∧ b < w.heap.size
  t10 : ∃ b o, t[10]? = some (.pointer (some ⟨b, o, none⟩)) ∧ w.cell? ⟨b, o, none⟩ = some (.int .i64 turn) ∧ b ≠ pn.b ∧ b < w.heap.size
  w6 : ∃ b o b2 o2 cap, t[6]? = some (.pointer (some ⟨b, o, none⟩)) ∧ w.cell? ⟨b, o, none⟩ = some (.slice (some ⟨b2, o2, none⟩) ws.length cap) ∧ b ≠ pn.b ∧ b < w.heap.size ∧ ws.length ≤ cap ∧ b2 ≠ pn.b ∧ b2 < w.heap.size ∧ ∀ e, (h : e < ws.length) → w.cell? ⟨b2, o2 + e, none⟩ = some (.int .i64 ws[e])
  h7 : ∃ b o b2 o2 cap, t[7]? = some (.pointer (some ⟨b, o, none⟩)) ∧ w.cell? ⟨b, o, none⟩ = some (.slice (some ⟨b2, o2, none⟩) hs.length cap) ∧ b ≠ pn.b ∧ b < w.heap.size ∧ hs.length ≤ cap ∧ b2 ≠ pn.b ∧ b2 < w.heap.size ∧ ∀ e, (h : e < hs.length) → w.cell? ⟨b2, o2 + e, none⟩ = some (.int .u8 hs[e])
theorem rd_good {w W : World} {t : Array Value} {pn : Pl} {left turn : Int} {ws hs : List Int} (R : RdAt w t pn left turn ws hs) (A : AdvX w (fun c => c = pn.b) W (fun c => c = pn.b)) (n m c : Int)
    (hr : RowRep (fun id => if id = 0 then some (0, some pn) else none) W (fun _ => False) (fun c => c = pn.b) ⟨1, 0, true, [[.int .i64 n]]⟩ pn) :
    GoodS ([], 106) (fun _ => none) (fun id => if id = 0 then some (0, some pn) else none) W (fun _ => False) (fun c => c = pn.b) 1 106 ⟨[(3, .dptr [.int .i64 left]), (6, .dptr [.data false 1 (ints ws) false]), (7, .dptr [.data false 1 (byt hs) false]), (10, .dptr [.int .i64 turn]), (11, .ptr 0 0 0 0), (12, .int .i64 m), (13, .int .u8 c)], [⟨1, 0, true, [[.int .i64 n]]⟩]⟩
      { tmps := (((t.setIfInBounds 66 (.int .i64 m)).setIfInBounds 67 (.int .u8 c)).setIfInBounds 12 (.int .i64 m)).setIfInBounds 13 (.int .u8 c), defers := [] } W := by
  have sz := A.size
  have hk : pn.k = 1 := hr.k
  refine ⟨_, _, (AdvW.refl W _).x, fun id _ g pl h => ⟨g, pl, h, Nat.le_refl _, fun _ => rfl⟩, fun id _ h => h, ⟨fun id g pl h => ?_, fun id id' g g' p p' h h' _ => ?_, fun b hb => ?_, fun b hb => ?_⟩, ⟨fun s v hlk => ?_, fun g cs h => (nomatch h)⟩, by simp [R.size], ⟨rfl, by simp [R.size]⟩, Nat.le_refl _⟩
  · split at h
    · rename_i e; cases h; subst e; exact ⟨_, rfl, rfl, hr⟩
    · cases h
  · split at h
    · split at h'
      · rename_i e e'; rw [e, e']
      · cases h'
    · cases h
  · rcases hb with hb | hb
    · exact hb.elim
    · rw [hb]; exact RowRep.lt hr
  · exact fun h => h
  · have far : ∀ k, k ≠ 66 → k ≠ 67 → k ≠ 12 → k ≠ 13 → ((((t.setIfInBounds 66 (.int .i64 m)).setIfInBounds 67 (.int .u8 c)).setIfInBounds 12 (.int .i64 m)).setIfInBounds 13 (.int .u8 c))[k]? = t[k]? := fun k h1 h2 h3 h4 => by
      rw [Array.getElem?_setIfInBounds_ne (Ne.symm h4), Array.getElem?_setIfInBounds_ne (Ne.symm h3), Array.getElem?_setIfInBounds_ne (Ne.symm h2), Array.getElem?_setIfInBounds_ne (Ne.symm h1)]
    have box : ∀ {b o : Nat} {y : Value} {v : AV}, w.cell? ⟨b, o, none⟩ = some y → b ≠ pn.b → b < w.heap.size → y.oneCell' = true → RepS W (fun c => False ∨ c = pn.b) v y → RepV (fun id => if id = 0 then some (0, some pn) else none) W (fun _ => False) (fun c => c = pn.b) (.dptr [v]) (.pointer (some ⟨b, o, none⟩)) := fun hc hb hl ho hs =>
      dptr_of (cell_move A hb hl hc) ho hs hb (Nat.lt_of_lt_of_le hl sz)
    have no : ∀ {b : Nat}, b ≠ pn.b → ¬ (False ∨ b = pn.b) := fun h hx => hx.elim id h
    simp only [look] at hlk
    split at hlk
    · rename_i e; cases hlk; subst e
      obtain ⟨b, o, h1, h2, h3, h4⟩ := R.l3
      exact ⟨_, (far 3 (by decide) (by decide) (by decide) (by decide)).trans h1, box h2 h3 h4 rfl (.int _ _)⟩
    split at hlk
    · rename_i e; cases hlk; subst e
      obtain ⟨b, o, b2, o2, cap, h1, h2, h3, h4, h5, h6, h7, h8⟩ := R.w6
      exact ⟨_, (far 6 (by decide) (by decide) (by decide) (by decide)).trans h1, box h2 h3 h4 rfl (data_list ws (fun n => .int .i64 n) (fun n => .int .i64 n) h5 (no h6) (Nat.lt_of_lt_of_le h7 sz) (fun e he => ⟨cell_move A h6 h7 (h8 e he), rfl⟩) (fun x => .int _ _))⟩
    split at hlk
    · rename_i e; cases hlk; subst e
      obtain ⟨b, o, b2, o2, cap, h1, h2, h3, h4, h5, h6, h7, h8⟩ := R.h7
      exact ⟨_, (far 7 (by decide) (by decide) (by decide) (by decide)).trans h1, box h2 h3 h4 rfl (data_list hs (fun n => .int .u8 n) (fun n => .int .u8 n) h5 (no h6) (Nat.lt_of_lt_of_le h7 sz) (fun e he => ⟨cell_move A h6 h7 (h8 e he), rfl⟩) (fun x => .int _ _))⟩
    split at hlk
    · rename_i e; cases hlk; subst e
      obtain ⟨b, o, h1, h2, h3, h4⟩ := R.t10
      exact ⟨_, (far 10 (by decide) (by decide) (by decide) (by decide)).trans h1, box h2 h3 h4 rfl (.int _ _)⟩
    split at hlk
    · rename_i e; cases hlk; subst e
      refine ⟨_, (far 11 (by decide) (by decide) (by decide) (by decide)).trans R.n11, .ptr 0 0 0 (some pn) 0 0 _ rfl (Nat.le_refl _) (fun _ => ⟨pn, rfl, by simp⟩)⟩
    split at hlk
    · rename_i e; cases hlk; subst e
      refine ⟨.int .i64 m, ?_, .s (.int _ _)⟩
      rw [Array.getElem?_setIfInBounds_ne (by decide), Array.getElem?_setIfInBounds_self_of_lt (by simp [R.size])]
    split at hlk
    · rename_i e; cases hlk; subst e
      refine ⟨.int .u8 c, ?_, .s (.int _ _)⟩
      rw [Array.getElem?_setIfInBounds_self_of_lt (by simp [R.size])]
    · cases hlk
end Go.Proofs.Ytfnonledcniojaa
