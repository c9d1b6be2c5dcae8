/- A loop's head in code that runs on its caller's rows and makes none. Conditions: none. -/
import Derived.Test.YtfnonledcniojaaAmD
namespace Go.Proofs.Ytfnonledcniojaa
open Go
theorem areach_low (h : List ARow) (low : Nat) : ∀ (n : Nat) (ws : List Nat), (∀ i ∈ ws, i < low) → areach h low n ws [] = []
  | 0, _, _ => rfl
  | n + 1, [], _ => by simp [areach]
  | n + 1, i :: ws, hw => by
    have hi : i < low := hw i (by simp)
    rw [areach, if_pos (.inl hi)]
    exact areach_low h low n ws fun j hj => hw j (by simp [hj])
mutual
theorem ren_low (h : List ARow) (low off : Nat) (order : List Nat) : ∀ (v : AV), (∀ i ∈ v.ids, i < low) → v.ren h low off order = v
  | .own id g s l c, hv => by rw [AV.ren, if_pos (hv id (by simp [AV.ids]))]
  | .ptr id g e o, hv => by rw [AV.ren, if_pos (hv id (by simp [AV.ids]))]
  | .agg cs, hv => by rw [AV.ren, renL_low h low off order cs (by simpa [AV.ids] using hv)]
  | .tup cs, hv => by rw [AV.ren, renL_low h low off order cs (by simpa [AV.ids] using hv)]
  | .fn f a b, hv => by
    simp only [AV.ids, List.mem_append] at hv
    rw [AV.ren, renL_low h low off order a (fun i hi => hv i (.inl hi)), renL_low h low off order b (fun i hi => hv i (.inr hi))]
  | .int _ _, _ => by simp [AV.ren]
  | .bool _, _ => by simp [AV.ren]
  | .str _, _ => by simp [AV.ren]
  | .data _ _ _ _, _ => by simp [AV.ren]
  | .dptr _, _ => by simp [AV.ren]
  | .nilfn, _ => by simp [AV.ren]
  | .nilptr, _ => by simp [AV.ren]
  | .unk, _ => by simp [AV.ren]
theorem renL_low (h : List ARow) (low off : Nat) (order : List Nat) : ∀ (vs : List AV), (∀ i ∈ AV.idsL vs, i < low) → AV.renL h low off order vs = vs
  | [], _ => by simp [AV.renL]
  | v :: vs, hv => by
    simp only [AV.idsL, List.mem_append] at hv
    rw [AV.renL, ren_low h low off order v (fun i hi => hv i (.inl hi)), renL_low h low off order vs (fun i hi => hv i (.inr hi))]
end
theorem mem_idsL {i : Nat} : ∀ {vs : List AV}, i ∈ AV.idsL vs ↔ ∃ v ∈ vs, i ∈ v.ids
  | [] => by simp [AV.idsL]
  | v :: vs => by simp [AV.idsL, mem_idsL (vs := vs)]
/-- No row names a row that is not there. -/
def ClosedH (h : List ARow) : Prop := ∀ r ∈ h, ∀ i ∈ r.ids, i < h.length
theorem row_ren_low {h : List ARow} {low off : Nat} {order : List Nat} {r : ARow} (hr : ∀ i ∈ r.ids, i < low) : r.ren h low off order = r := by
  unfold ARow.ren
  split
  · rfl
  · rename_i hf
    have hids : r.ids = r.es.flatMap AV.idsL := by simp [ARow.ids, hf]
    rw [hids] at hr
    have : r.es.map (AV.renL h low off order) = r.es := by
      conv => rhs; rw [← List.map_id r.es]
      apply List.map_congr_left
      intro g hg
      exact renL_low h low off order g fun i hi => hr i (List.mem_flatMap.2 ⟨g, hg, hi⟩)
    rw [this]
theorem agc_inl {h : List ARow} {live : List Nat} {env : AEnv} (hC : ClosedH h) (hE : ∀ p ∈ akeep live env, ∀ i ∈ p.2.ids, i < h.length) : agc h.length live ⟨env, h⟩ = some ⟨akeep live env, h⟩ := by
  have ho : areach h h.length 64 (AV.idsL ((akeep live env).map (·.2)) ++ (h.take h.length).flatMap ARow.ids) [] = [] := by
    refine areach_low h _ 64 _ fun i hi => ?_
    rcases List.mem_append.1 hi with hi | hi
    · obtain ⟨v, hv, hi⟩ := mem_idsL.1 hi
      obtain ⟨p, hp, rfl⟩ := List.mem_map.1 hv
      exact hE p hp i hi
    · obtain ⟨r, hr, hi⟩ := List.mem_flatMap.1 hi
      rw [List.take_length] at hr
      exact hC r hr i hi
  unfold agc
  simp only [ho]
  have e1 : (akeep live env).map (fun p => (p.1, p.2.ren h h.length h.length [])) = akeep live env := by
    conv => rhs; rw [← List.map_id (akeep live env)]
    apply List.map_congr_left
    intro p hp
    rw [ren_low h _ _ _ p.2 (hE p hp)]
    rfl
  have e2 : (h.take h.length).map (ARow.ren h h.length h.length []) = h := by
    rw [List.take_length]
    conv => rhs; rw [← List.map_id h]
    apply List.map_congr_left
    intro r hr
    exact row_ren_low (hC r hr)
  rw [e1, e2]
  simp [orderOk, arows]
theorem agc_drop {h e : List ARow} {live : List Nat} {env : AEnv} (hC : ClosedH h) (hE : ∀ p ∈ akeep live env, ∀ i ∈ p.2.ids, i < h.length) : agc h.length live ⟨env, h ++ e⟩ = some ⟨akeep live env, h⟩ := by
  have ht : (h ++ e).take h.length = h := List.take_left' rfl
  have ho : areach (h ++ e) h.length 64 (AV.idsL ((akeep live env).map (·.2)) ++ ((h ++ e).take h.length).flatMap ARow.ids) [] = [] := by
    refine areach_low _ _ 64 _ fun i hi => ?_
    rcases List.mem_append.1 hi with hi | hi
    · obtain ⟨v, hv, hi⟩ := mem_idsL.1 hi
      obtain ⟨p, hp, rfl⟩ := List.mem_map.1 hv
      exact hE p hp i hi
    · obtain ⟨r, hr, hi⟩ := List.mem_flatMap.1 hi
      rw [ht] at hr
      exact hC r hr i hi
  unfold agc
  simp only [ho]
  have e1 : (akeep live env).map (fun p => (p.1, p.2.ren (h ++ e) h.length h.length [])) = akeep live env := by
    conv => rhs; rw [← List.map_id (akeep live env)]
    apply List.map_congr_left
    intro p hp
    rw [ren_low _ _ _ _ p.2 (hE p hp)]
    rfl
  have e2 : ((h ++ e).take h.length).map (ARow.ren (h ++ e) h.length h.length []) = h := by
    rw [ht]
    conv => rhs; rw [← List.map_id h]
    apply List.map_congr_left
    intro r hr
    exact row_ren_low (hC r hr)
  rw [e1, e2]
  simp [orderOk, arows]
theorem ClosedH.set {h : List ARow} {id : Nat} {r : ARow} (hC : ClosedH h) (hr : r.flat = true) : ClosedH (h.set id r) := fun r' hr' i hi => by
  rw [List.length_set]
  rcases List.mem_or_eq_of_mem_set hr' with h1 | h1
  · exact hC r' h1 i hi
  · subst h1; simp [ARow.ids, hr] at hi
/-- A call that comes to its answer within so many steps. -/
theorem aP_fuel {G : Nat → Option (List AV)} {F : Nat → Option AEnt} (n : Nat) {f : Nat} {args : List AV} {v : AV} (h : ((arunFn (aexec G F n) F f args []).bind fun r => afreeze r.2 r.1) = some v) : aP G F f args = some v := by
  obtain ⟨r, h1, h2⟩ := opt_bind_some.1 h
  exact opt_bind_some.2 ⟨r, arunFn_mono F (aexec_aE G F n) _ _ _ _ h1, h2⟩
section
variable (G : Nat → Option (List AV)) (raw : ARaw) (env : AEnv) (h : List ARow)
/-- A slice's elements become zero. -/
def aclear (h : List ARow) (zero : List AV) : AV → Option (AV × List ARow)
  | .own id gen s l _ => (h[id]?).bind fun r => if r.gen = gen ∧ r.k = zero.length ∧ s + l ≤ r.es.length then
      some (.tup [], h.set id ⟨r.k, r.gen, r.flat && AV.stableL zero, r.es.take s ++ List.replicate l zero ++ r.es.drop (s + l)⟩) else none
  | _ => none
theorem op_clear (zero : List AV) (x : AOpd) : aexecOp G raw env h (.clear zero x) = (aeval G env x).bind (aclear h zero) := by
  simp only [aexecOp, aop]
  congr 1
end
end Go.Proofs.Ytfnonledcniojaa
