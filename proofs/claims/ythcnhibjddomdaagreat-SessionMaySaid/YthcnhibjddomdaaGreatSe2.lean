/- Sessions: May. Conditions: as each statement says. -/
import Derived.Test.YthcnhibjddomdaaGreatSe1
set_option linter.unusedVariables false
set_option linter.unusedSimpArgs false
set_option linter.unusedSectionVars false
set_option maxRecDepth 20000
set_option maxHeartbeats 4000000
namespace Go.Proofs.YthcnhibjddomdaaGreat
open Go
variable (G : Nat → Option (List AV))
theorem any_first {α : Type} (p : α → Bool) (l : List α) : (l.any p = false ∧ ∀ (i : Nat) (h : i < l.length), p l[i] = false) ∨ ∃ (k : Nat) (hk : k < l.length), l.any p = true ∧ p l[k] = true ∧ ∀ (j : Nat) (h : j < l.length), j < k → p l[j] = false := by
  rcases first_at (fun i => if h : i < l.length then p l[i] else false) l.length with hn | ⟨k, hk, h1, h2⟩
  · left
    have h3 : ∀ (i : Nat) (h : i < l.length), p l[i] = false := fun i h => by have := hn i h; simpa [h] using this
    refine ⟨?_, h3⟩
    rw [List.any_eq_false]
    intro x hx
    obtain ⟨i, hi, rfl⟩ := List.mem_iff_getElem.1 hx
    simp [h3 i hi]
  · right
    simp only [dif_pos hk] at h1
    refine ⟨k, hk, List.any_eq_true.2 ⟨_, List.getElem_mem hk, h1⟩, h1, fun j h hj => ?_⟩
    have := h2 j hj
    simpa [h] using this
/-- slices.ContainsFunc over read-only numbers; what is asked leaves the rows. -/
theorem cont_ints (l : List Int) (b f : Bool) (ff : Nat) (fs cs : List AV) (p : Int → Bool) (h : List ARow) (hC : ClosedH h) (hF : ∀ i ∈ AV.idsL fs ++ AV.idsL cs, i < h.length) (hl : l.length < 1000000)
    (hp : ∀ x, aR G FT ff (fs ++ [.int .i64 x] ++ cs) h = some (.bool (p x), h)) : aR G FT n_slices_ContainsFunc_int [.data b 1 (ints l) f, .fn (.func ff) fs cs] h = some (.bool (l.any p), h) := by
  have hidx : ∀ (j i : Nat), i < l.length → aidx ((fun _ => h) j) 1 (.data b 1 (ints l) f) (.int .i64 i) = some ((fun i => .dptr ((ints l).getD i [])) i) := fun j i hi => by
    have h4 := ints_at hi
    have h5 : (ints l).getD i [] = [.int .i64 l[i]] := by rw [List.getD_eq_getElem?_getD, h4]; rfl
    (sym => simp [Yh,Ys,Yt,Yy,Zh,Hh,Ni,Nk,h4,h5])
  have hld : ∀ (j i : Nat) (hi : i < l.length), aload ((fun _ => h) j) false 1 ((fun i => .dptr ((ints l).getD i [])) i) = some ((fun m => AV.int .i64 m) l[i]) := fun j i hi => by
    have h5 : (ints l).getD i [] = [.int .i64 l[i]] := by rw [List.getD_eq_getElem?_getD, ints_at hi]; rfl
    simp only [h5]
    (sym => simp [Yh,Ys,Yt,Yy,Zh,Hh,Ni,Nk])
  have hlen : alen false (.data b 1 (ints l) f) = some (.int .i64 l.length) := by
    have := ints_len l
    (sym => simp [Yh,Ys,Yt,Yy,Zh,Hh,Ni,Nk,this])
  rcases any_first p l with ⟨ha, hn⟩ | ⟨k, hk, ha, h1, h2⟩
  · have key := idxfn_int_none G l (fun m => AV.int .i64 m) (.data b 1 (ints l) f) (fun i => .dptr ((ints l).getD i [])) ff fs cs (fun i => if h : i < l.length then p l[i] else false) (fun _ => h) h.length (fun _ => rfl) (fun _ => hC) (by simp [AV.ids]) hF (by omega) hlen hidx hld (fun i hi => by simp only [dif_pos hi]; exact hp _) (fun j hj => by simp only [dif_pos hj]; exact hn j hj)
    rw [contfn_int G _ _ _ _ _ key, ha]; rfl
  · have key := idxfn_int_found G l (fun m => AV.int .i64 m) (.data b 1 (ints l) f) (fun i => .dptr ((ints l).getD i [])) ff fs cs (fun i => if h : i < l.length then p l[i] else false) (fun _ => h) h.length (fun _ => rfl) (fun _ => hC) (by simp [AV.ids]) hF (by omega) hlen hidx hld k hk (fun i hi _ => by simp only [dif_pos hi]; exact hp _) (by simp only [dif_pos hk]; exact h1) (fun j hj => by
      have hj' : j < l.length := by omega
      simp only [dif_pos hj']; exact h2 j hj' hj)
    rw [contfn_int G _ _ _ _ _ key, ha]
    have : decide ((0 : Int) ≤ (k : Int)) = true := by simp
    rw [this]
/-- slices.ContainsFunc over read-only pieces. -/
theorem cont_pcs (q : List Pc) (b f : Bool) (ff : Nat) (fs cs : List AV) (p : Pc → Bool) (h : List ARow) (hC : ClosedH h) (hF : ∀ i ∈ AV.idsL fs ++ AV.idsL cs, i < h.length) (hl : q.length < 1000000) (J : Pc → List ARow)
    (hp : ∀ x, aR G FT ff (fs ++ [.agg (pcell x)] ++ cs) h = some (.bool (p x), h ++ J x)) : ∃ e, aR G FT n_slices_ContainsFunc_Typed [.data b 3 (pcs q) f, .fn (.func ff) fs cs] h = some (.bool (q.any p), h ++ e) := by
  have hat : ∀ (i : Nat) (hi : i < q.length), (pcs q)[i]? = some (pcell q[i]) := fun i hi => by simp [pcs, hi]
  have hidx : ∀ (j i : Nat), i < q.length → aidx ((fun _ => h) j) 3 (.data b 3 (pcs q) f) (.int .i64 i) = some ((fun i => .dptr ((pcs q).getD i [])) i) := fun j i hi => by
    have h4 := pcs_at hi
    have h5 : (pcs q).getD i [] = [.int .i64 q[i].1, .int .i64 q[i].2.1, .data false 1 (byt q[i].2.2.1) q[i].2.2.2] := by rw [List.getD_eq_getElem?_getD, h4]; rfl
    (sym => simp [Yh,Ys,Yu,Yy,Zh,Zm,Zn,Ho,Hq,Hs,Ni,Nk,h4,h5])
  have hld : ∀ (j i : Nat) (hi : i < q.length), aload ((fun _ => h) j) true 3 ((fun i => .dptr ((pcs q).getD i [])) i) = some ((fun m => AV.agg (pcell m)) q[i]) := fun j i hi => by
    have h5 : (pcs q).getD i [] = [.int .i64 q[i].1, .int .i64 q[i].2.1, .data false 1 (byt q[i].2.2.1) q[i].2.2.2] := by rw [List.getD_eq_getElem?_getD, pcs_at hi]; rfl
    simp only [h5, pcell]
    (sym => simp [Yh,Ys,Yu,Yy,Zh,Zm,Zn,Ho,Hq,Hs,Ni,Nk])
  have hlen : alen false (.data b 3 (pcs q) f) = some (.int .i64 q.length) := by
    have := pcs_len q
    (sym => simp [Yh,Ys,Yu,Yy,Zh,Zm,Zn,Ho,Hq,Hs,Ni,Nk,this])
  rcases any_first p q with ⟨ha, hn⟩ | ⟨k, hk, ha, h1, h2⟩
  · have key := idxj_Typed_none G q (fun m => AV.agg (pcell m)) (.data b 3 (pcs q) f) (fun i => .dptr ((pcs q).getD i [])) ff fs cs (fun i => if h : i < q.length then p q[i] else false) (fun _ => h) (fun i => if hi : i < q.length then J q[i] else []) h.length (fun _ => rfl) (fun _ => hC) (by simp [AV.ids]) hF (by omega) hlen hidx hld (fun i hi => by simp only [dif_pos hi]; exact hp _) (fun j hj => by simp only [dif_pos hj]; exact hn j hj)
    refine ⟨[], ?_⟩
    rw [contfn_Typed G _ _ _ _ _ key, ha, List.append_nil]; rfl
  · have key := idxj_Typed_found G q (fun m => AV.agg (pcell m)) (.data b 3 (pcs q) f) (fun i => .dptr ((pcs q).getD i [])) ff fs cs (fun i => if h : i < q.length then p q[i] else false) (fun _ => h) (fun i => if hi : i < q.length then J q[i] else []) h.length (fun _ => rfl) (fun _ => hC) (by simp [AV.ids]) hF (by omega) hlen hidx hld k hk (fun i hi _ => by simp only [dif_pos hi]; exact hp _) (by simp only [dif_pos hk]; exact h1) (fun j hj => by
      have hj' : j < q.length := by omega
      simp only [dif_pos hj']; exact h2 j hj' hj)
    have d1 : decide ((0 : Int) ≤ (k : Int)) = true := by simp
    refine ⟨J q[k], ?_⟩
    rw [contfn_Typed G _ _ _ _ _ key, ha, d1, dif_pos hk]
end Go.Proofs.YthcnhibjddomdaaGreat
