/- MergeBytes: the frame of a round, the result's box a row too. Conditions: as the statements say. -/
import Derived.Test.YtfnonledcniojaaMbA
set_option linter.unusedVariables false
set_option linter.unusedSimpArgs false
set_option linter.unusedSectionVars false
namespace Go.Proofs.Ytfnonledcniojaa
open Go Go.RowKit
theorem rd_good2 {w W : World} {t : Array Value} {pn pr : Pl} {left turn : Int} {ws hs : List Int} (R : RdAt w t pn left turn ws hs) (A : AdvX w (fun c => c = pn.b) W (fun c => c = pn.b)) (n m c : Int) (hne : pr.b ≠ pn.b) (h4 : t[4]? = some (.pointer (some ⟨pr.b, pr.base, none⟩))) (hfar : ∀ s ∈ [3, 6, 7, 10], ∀ b o, t[s]? = some (.pointer (some ⟨b, o, none⟩)) → b ≠ pr.b ∧ ∀ b2 o2 x cap, w.cell? ⟨b, o, none⟩ = some (.slice (some ⟨b2, o2, none⟩) x cap) → b2 ≠ pr.b)
    (hr : RowRep (fun id => if id = 0 then some (0, some pn) else if id = 1 then some (0, some pr) else none) W (fun _ => False) (fun c => c = pn.b ∨ c = pr.b) ⟨1, 0, true, [[.int .i64 n]]⟩ pn) (hr4 : RowRep (fun id => if id = 0 then some (0, some pn) else if id = 1 then some (0, some pr) else none) W (fun _ => False) (fun c => c = pn.b ∨ c = pr.b) ⟨1, 0, true, [[.bool false]]⟩ pr) :
    GoodS ([], 106) (fun _ => none) (fun id => if id = 0 then some (0, some pn) else if id = 1 then some (0, some pr) else none) W (fun _ => False) (fun c => c = pn.b ∨ c = pr.b) 2 106 ⟨[(3, .dptr [.int .i64 left]), (4, .ptr 1 0 0 0), (6, .dptr [.data false 1 (ints ws) false]), (7, .dptr [.data false 1 (byt hs) false]), (10, .dptr [.int .i64 turn]), (11, .ptr 0 0 0 0), (12, .int .i64 m), (13, .int .u8 c)], [⟨1, 0, true, [[.int .i64 n]]⟩, ⟨1, 0, true, [[.bool false]]⟩]⟩
      { tmps := (((t.setIfInBounds 66 (.int .i64 m)).setIfInBounds 67 (.int .u8 c)).setIfInBounds 12 (.int .i64 m)).setIfInBounds 13 (.int .u8 c), defers := [] } W := by
  have sz := A.size
  have hk : pn.k = 1 := hr.k
  refine ⟨_, _, (AdvW.refl W _).x, fun id _ g pl h => ⟨g, pl, h, Nat.le_refl _, fun _ => rfl⟩, fun id _ h => h, ⟨fun id g pl h => ?_, fun id id' g g' p p' h h' hbb => ?_, fun b hb => ?_, fun b hb => ?_⟩, ⟨fun s v hlk => ?_, fun g cs h => (nomatch h)⟩, by simp [R.size], ⟨rfl, by simp [R.size]⟩, Nat.le_refl _⟩
  · split at h
    · rename_i e; cases h; subst e; exact ⟨_, rfl, rfl, hr⟩
    split at h
    · rename_i e; cases h; subst e; exact ⟨_, rfl, rfl, hr4⟩
    · cases h
  · split at h
    · rename_i e
      cases h
      split at h'
      · rename_i e'; rw [e, e']
      split at h'
      · cases h'; exact absurd hbb.symm hne
      · cases h'
    split at h
    · rename_i e
      cases h
      split at h'
      · cases h'; exact absurd hbb hne
      split at h'
      · rename_i e'; rw [e, e']
      · cases h'
    · cases h
  · rcases hb with hb | hb | hb
    · exact hb.elim
    · rw [hb]; exact RowRep.lt hr
    · rw [hb]; exact RowRep.lt hr4
  · exact fun h => h
  · have far : ∀ k, k ≠ 66 → k ≠ 67 → k ≠ 12 → k ≠ 13 → ((((t.setIfInBounds 66 (.int .i64 m)).setIfInBounds 67 (.int .u8 c)).setIfInBounds 12 (.int .i64 m)).setIfInBounds 13 (.int .u8 c))[k]? = t[k]? := fun k h1 h2 h3 h4 => by
      rw [Array.getElem?_setIfInBounds_ne (Ne.symm h4), Array.getElem?_setIfInBounds_ne (Ne.symm h3), Array.getElem?_setIfInBounds_ne (Ne.symm h2), Array.getElem?_setIfInBounds_ne (Ne.symm h1)]
    have box : ∀ {b o : Nat} {y : Value} {v : AV}, w.cell? ⟨b, o, none⟩ = some y → b ≠ pn.b → b ≠ pr.b → b < w.heap.size → y.oneCell' = true → RepS W (fun c => False ∨ (c = pn.b ∨ c = pr.b)) v y → RepV (fun id => if id = 0 then some (0, some pn) else if id = 1 then some (0, some pr) else none) W (fun _ => False) (fun c => c = pn.b ∨ c = pr.b) (.dptr [v]) (.pointer (some ⟨b, o, none⟩)) := fun hc hb hb4 hl ho hs =>
      dptr_of (cell_move A hb hl hc) ho hs (fun h => h.elim hb hb4) (Nat.lt_of_lt_of_le hl sz)
    have no : ∀ {b : Nat}, b ≠ pn.b → b ≠ pr.b → ¬ (False ∨ (b = pn.b ∨ b = pr.b)) := fun h h2 hx => hx.elim id fun hx => hx.elim h h2
    simp only [look] at hlk
    split at hlk
    · rename_i e; cases hlk; subst e
      obtain ⟨b, o, h1, h2, h3, h4'⟩ := R.l3
      have hf := (hfar 3 (by simp) b o h1).1
      exact ⟨_, (far 3 (by decide) (by decide) (by decide) (by decide)).trans h1, box h2 h3 hf h4' rfl (.int _ _)⟩
    split at hlk
    · rename_i e; cases hlk; subst e
      exact ⟨_, (far 4 (by decide) (by decide) (by decide) (by decide)).trans h4, .ptr 1 0 0 (some pr) 0 0 _ rfl (Nat.le_refl _) (fun _ => ⟨pr, rfl, by simp⟩)⟩
    split at hlk
    · rename_i e; cases hlk; subst e
      obtain ⟨b, o, b2, o2, cap, h1, h2, h3, h4', h5, h6, h7, h8⟩ := R.w6
      obtain ⟨hf, hf2⟩ := hfar 6 (by simp) b o h1
      have hf2 := hf2 _ _ _ _ h2
      exact ⟨_, (far 6 (by decide) (by decide) (by decide) (by decide)).trans h1, box h2 h3 hf h4' rfl (data_list ws (fun n => .int .i64 n) (fun n => .int .i64 n) h5 (no h6 hf2) (Nat.lt_of_lt_of_le h7 sz) (fun e he => ⟨cell_move A h6 h7 (h8 e he), rfl⟩) (fun x => .int _ _))⟩
    split at hlk
    · rename_i e; cases hlk; subst e
      obtain ⟨b, o, b2, o2, cap, h1, h2, h3, h4', h5, h6, h7, h8⟩ := R.h7
      obtain ⟨hf, hf2⟩ := hfar 7 (by simp) b o h1
      have hf2 := hf2 _ _ _ _ h2
      exact ⟨_, (far 7 (by decide) (by decide) (by decide) (by decide)).trans h1, box h2 h3 hf h4' rfl (data_list hs (fun n => .int .u8 n) (fun n => .int .u8 n) h5 (no h6 hf2) (Nat.lt_of_lt_of_le h7 sz) (fun e he => ⟨cell_move A h6 h7 (h8 e he), rfl⟩) (fun x => .int _ _))⟩
    split at hlk
    · rename_i e; cases hlk; subst e
      obtain ⟨b, o, h1, h2, h3, h4'⟩ := R.t10
      have hf := (hfar 10 (by simp) b o h1).1
      exact ⟨_, (far 10 (by decide) (by decide) (by decide) (by decide)).trans h1, box h2 h3 hf h4' rfl (.int _ _)⟩
    split at hlk
    · rename_i e; cases hlk; subst e
      refine ⟨_, (far 11 (by decide) (by decide) (by decide) (by decide)).trans R.n11, .ptr 0 0 0 (some pn) 0 0 _ rfl (Nat.le_refl _) (fun _ => ⟨pn, rfl, by simp⟩)⟩
    split at hlk
    · rename_i e; cases hlk; subst e
      refine ⟨.int .i64 m, ?_, .s (.int _ _)⟩
      rw [Array.getElem?_setIfInBounds_ne (by decide), Array.getElem?_setIfInBounds_self_of_lt (by simp [R.size])]
    split at hlk
    · rename_i e; cases hlk; subst e
      refine ⟨.int .u8 c, ?_, .s (.int _ _)⟩
      rw [Array.getElem?_setIfInBounds_self_of_lt (by simp [R.size])]
    · cases hlk
/-- Another than the next byte: the law would answer false. -/
theorem rd_bad {w W : World} {t : Array Value} {pn pr : Pl} {left turn : Int} {ws hs : List Int} (R : RdAt w t pn left turn ws hs) (A : AdvX w (fun c => c = pn.b) W (fun c => c = pn.b)) (n : Nat) (m c : Int) (hne : pr.b ≠ pn.b) (h4 : t[4]? = some (.pointer (some ⟨pr.b, pr.base, none⟩)))
    (hfar : ∀ s ∈ [3, 6, 7, 10], ∀ b o, t[s]? = some (.pointer (some ⟨b, o, none⟩)) → b ≠ pr.b ∧ ∀ b2 o2 x cap, w.cell? ⟨b, o, none⟩ = some (.slice (some ⟨b2, o2, none⟩) x cap) → b2 ≠ pr.b) (hl : ws.length ≤ 100000) (he : hs.length = ws.length) (hb : ∀ h : n < ws.length, ¬ (m = ws[n] ∧ c = hs[n]'(by omega)))
    (hr : RowRep (fun id => if id = 0 then some (0, some pn) else if id = 1 then some (0, some pr) else none) W (fun _ => False) (fun c => c = pn.b ∨ c = pr.b) ⟨1, 0, true, [[.int .i64 n]]⟩ pn) (hr4 : RowRep (fun id => if id = 0 then some (0, some pn) else if id = 1 then some (0, some pr) else none) W (fun _ => False) (fun c => c = pn.b ∨ c = pr.b) ⟨1, 0, true, [[.bool false]]⟩ pr) (l k : Nat) (Q : Exit → Act → World → Prop)
    (hQ : ∀ st a' W', GoodS ([], 106) (fun _ => none) (fun id => if id = 0 then some (0, some pn) else if id = 1 then some (0, some pr) else none) W (fun _ => False) (fun c => c = pn.b ∨ c = pr.b) 2 106 st a' W' → Q .ret a' W') :
    rfBody.wpIn (Fence.wide.inRound l) k Try.prog Q { tmps := (((t.setIfInBounds 66 (.int .i64 m)).setIfInBounds 67 (.int .u8 c)).setIfInBounds 12 (.int .i64 m)).setIfInBounds 13 (.int .u8 c), defers := [] } W := by
  have g := rd_good2 R A n m c hne h4 hfar hr hr4
  obtain ⟨mm, hm⟩ := (aE_some (fun _ => none) FT).1 (body_bad (fun _ => none) ws hs false false left turn n m c hl he hb)
  exact code_in mixFT (entFT _) l k mm 106 2 rfBody _ _ _ hm chk_body (by kernel_rfl) _ _ _ _ _ Q _ W g fun a' W' g' => hQ _ a' W' g'
end Go.Proofs.Ytfnonledcniojaa
