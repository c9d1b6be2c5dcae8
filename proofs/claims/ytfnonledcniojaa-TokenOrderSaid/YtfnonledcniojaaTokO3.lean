/- TokenOrder: what holds at each step. Conditions: as each statement says. -/
import Derived.Test.YtfnonledcniojaaTokO2
import Derived.Test.YtfnonledcniojaaM3
set_option linter.unusedVariables false
set_option linter.unusedSimpArgs false
set_option linter.unusedSectionVars false
set_option maxRecDepth 20000
set_option maxHeartbeats 1000000
namespace Go.Proofs.Ytfnonledcniojaa
open Go
/-- What holds ahead of a step. -/
structure InvT (L : List Int) (s : Nat → Int) (i : Int) : Prop where
  good : GoodT L
  here : ∀ k : Nat, 1 ≤ k → k ≤ 8 → (0 < s k ↔ (k : Int) ∈ L)
  rng : ∀ k, 0 ≤ s k ∧ s k ≤ i
  sorted : L.Pairwise fun a b => s a.toNat < s b.toNat
theorem setN_same (s : Nat → Int) (k : Nat) (v : Int) : setN s k v k = v := if_pos rfl
theorem setN_ne (s : Nat → Int) {k j : Nat} (v : Int) (h : j ≠ k) : setN s k v j = s j := if_neg h
theorem inv_set {L : List Int} {s : Nat → Int} {i v : Int} (h : InvT L s i) {k : Nat} (hk : (k : Int) ∉ L) : L.Pairwise fun a b => setN s k v a.toNat < setN s k v b.toNat := by
  refine List.Pairwise.imp_of_mem (fun {a b} ha hb hab => ?_) h.sorted
  have ga := h.good.1 a ha
  have gb := h.good.1 b hb
  have ea : a.toNat ≠ k := fun e => hk (by rw [show (k : Int) = a by omega]; exact ha)
  have eb : b.toNat ≠ k := fun e => hk (by rw [show (k : Int) = b by omega]; exact hb)
  rw [setN_ne s v ea, setN_ne s v eb]; exact hab
theorem inv_ask {L : List Int} {s : Nat → Int} {i : Int} (h : InvT L s i) {k : Nat} (h1 : 1 ≤ k) (h8 : k ≤ 8) (hi : 0 ≤ i) : InvT (askL L k) (if s k = 0 then setN s k (i + 1) else s) (i + 1) := by
  have hn : numB (k : Int) = true := (numB_iff _).2 (by omega)
  have hk := h.here k h1 h8
  have hr := h.rng k
  by_cases hm : (k : Int) ∈ L
  · have : ¬ s k = 0 := by have := hk.2 hm; omega
    rw [if_neg this]
    unfold askL
    rw [if_pos hm]
    exact ⟨h.good, h.here, fun j => by have := h.rng j; omega, h.sorted⟩
  · have h0 : s k = 0 := by have := mt hk.1 hm; omega
    rw [if_pos h0]
    have hg := askL_good h.good hn
    unfold askL at *
    rw [if_neg hm] at *
    refine ⟨hg, fun j j1 j8 => ?_, fun j => ?_, List.pairwise_append.2 ⟨inv_set h hm, by simp, fun a ha b hb => ?_⟩⟩
    · by_cases e : j = k
      · subst e; rw [setN_same]; simp; omega
      · rw [setN_ne s _ e, h.here j j1 j8]
        have : ¬ (j : Int) = k := by omega
        simp [this]
    · by_cases e : j = k
      · subst e; rw [setN_same]; omega
      · rw [setN_ne s _ e]; have := h.rng j; omega
    · simp at hb; subst hb
      have ga := h.good.1 a ha
      have ea : a.toNat ≠ k := fun e => hm (by rw [show (k : Int) = a by omega]; exact ha)
      rw [setN_ne s _ ea, Int.toNat_natCast, setN_same]
      have := h.rng a.toNat; omega
theorem inv_drop {L : List Int} {s : Nat → Int} {i : Int} (h : InvT L s i) {k : Nat} (h1 : 1 ≤ k) (h8 : k ≤ 8) (hi : 0 ≤ i) : InvT (dropL L k) (setN s k 0) (i + 1) := by
  have hmem : ∀ x, x ∈ dropL L k ↔ x ∈ L ∧ x ≠ k := fun x => by simp [dropL, List.mem_filter]
  refine ⟨h.good.filter _, fun j j1 j8 => ?_, fun j => ?_, ?_⟩
  · rw [hmem]
    by_cases e : j = k
    · subst e; rw [setN_same]; simp
    · rw [setN_ne s _ e, h.here j j1 j8]
      have : ¬ (j : Int) = k := by omega
      simp [this]
  · by_cases e : j = k
    · subst e; rw [setN_same]; omega
    · rw [setN_ne s _ e]; have := h.rng j; omega
  · refine List.Pairwise.imp_of_mem (fun {a b} ha hb hab => ?_) (h.sorted.filter _)
    have ha' := (hmem a).1 ha
    have hb' := (hmem b).1 hb
    have ga := h.good.1 a ha'.1
    have gb := h.good.1 b hb'.1
    rw [setN_ne s _ (by omega), setN_ne s _ (by omega)]; exact hab
theorem inv_step {L : List Int} {s : Nat → Int} {i : Int} (h : InvT L s i) (kd : Int) {k : Nat} (h1 : 1 ≤ k) (h8 : k ≤ 8) (hi : 0 ≤ i) : InvT (stepL L kd k) (stepS s kd k (i + 1)) (i + 1) := by
  unfold stepL stepS
  by_cases c0 : kd = 0
  · rw [if_pos c0, if_pos c0]; exact inv_ask h h1 h8 hi
  · rw [if_neg c0, if_neg c0]
    by_cases c1 : kd = 1 ∨ kd = 2
    · rw [if_pos c1, if_pos c1]; exact inv_drop h h1 h8 hi
    · rw [if_neg c1, if_neg c1]
      exact ⟨h.good, h.here, fun j => by have := h.rng j; omega, h.sorted⟩
theorem firstOf_min {s : Nat → Int} {m : Nat} (h1 : 1 ≤ m) (hm : 0 < s m) (h : ∀ j : Nat, 1 ≤ j → j ≤ 8 → j ≠ m → 0 < s j → s m < s j) : ∀ n : Nat, n ≤ 8 → (m ≤ n → firstOf s n = m) ∧ (n < m → firstOf s n = 0 ∨ s m < s (firstOf s n))
  | 0, _ => ⟨fun h => by omega, fun _ => .inl rfl⟩
  | n + 1, hn => by
    obtain ⟨i1, i2⟩ := firstOf_min h1 hm h n (by omega)
    refine ⟨fun hmn => ?_, fun hmn => ?_⟩
    · by_cases e : n + 1 = m
      · rw [firstOf, e, if_pos ⟨hm, i2 (by omega)⟩]
      · have := i1 (by omega)
        rw [firstOf, this, if_neg]
        rintro ⟨a, b | b⟩
        · omega
        · have := h (n + 1) (by omega) hn e a; omega
    · rw [firstOf]
      split
      · rename_i c
        exact .inr (h (n + 1) (by omega) hn (by omega) c.1)
      · exact i2 (by omega)
theorem firstOf_none {s : Nat → Int} (h : ∀ j : Nat, 1 ≤ j → j ≤ 8 → ¬ 0 < s j) : ∀ n, n ≤ 8 → firstOf s n = 0
  | 0, _ => rfl
  | n + 1, hn => by
    rw [firstOf, if_neg (fun c => h (n + 1) (by omega) hn c.1)]
    exact firstOf_none h n (by omega)
theorem step_ok {L L' : List Int} {s' : Nat → Int} {i : Int} {kd : Int} {k : Nat} (h : InvT L' s' i) (hw : (ofT L').1 = (ofT L).1 ∨ (ofT L).1 = 0 ∨ ((ofT L).1 = k ∧ kd ≠ 0)) : StepOk L L' s' kd k := by
  have hn : ∀ k : Nat, 1 ≤ k → k ≤ 8 → numB (k : Int) = true := fun k h1 h8 => (numB_iff _).2 (by omega)
  refine ⟨h.good, fun k j k1 k8 j1 j8 h0 hlt hp => ?_, fun k k1 k8 => ?_, ?_, hw⟩
  · rw [placeT_of h.good (hn j j1 j8), placeT_of h.good (hn k k1 k8)] at hp
    have mk := (h.here k k1 k8).1 h0
    have mj := (h.here j j1 j8).1 (by omega)
    obtain ⟨a, a1, a2, _⟩ := idxFrom_at _ L' 0 mj
    obtain ⟨b, b1, b2, _⟩ := idxFrom_at _ L' 0 mk
    rw [a1, b1] at hp
    have hab : a < b := by omega
    obtain ⟨ha, ea⟩ := List.getElem?_eq_some_iff.1 a2
    obtain ⟨hb, eb⟩ := List.getElem?_eq_some_iff.1 b2
    have := List.pairwise_iff_getElem.1 h.sorted a b ha hb hab
    rw [ea, eb, Int.toNat_natCast, Int.toNat_natCast] at this
    omega
  · rw [placeT_of h.good (hn k k1 k8), Bool.eq_iff_iff, decide_eq_true_eq, decide_eq_true_eq, idxFrom_mem, h.here k k1 k8]
  · cases e : L' with
    | nil =>
      subst e
      rw [firstOf_none (fun j j1 j8 hj => by have := (h.here j j1 j8).1 hj; simp at this) 8 (Nat.le_refl _)]
      rfl
    | cons x l =>
      subst e
      have hx := h.good.1 x (by simp)
      obtain ⟨m, rfl⟩ : ∃ m : Nat, x = m := ⟨x.toNat, by omega⟩
      have := (firstOf_min (s := s') (m := m) (by omega) ((h.here m (by omega) (by omega)).2 (by simp)) (fun j j1 j8 hj h0 => by
        have hm := (h.here j j1 j8).1 h0
        have hne : ¬ (j : Int) = m := by omega
        have hm' : (j : Int) ∈ l := by simpa [hne] using hm
        have := (List.pairwise_cons.1 h.sorted).1 _ hm'
        simpa using this) 8 (Nat.le_refl _)).1 (by omega)
      rw [this]; rfl
theorem was_ok (L : List Int) (kd : Int) (k : Nat) : (ofT (stepL L kd k)).1 = (ofT L).1 ∨ (ofT L).1 = 0 ∨ ((ofT L).1 = k ∧ kd ≠ 0) := by
  cases L with
  | nil => exact .inr (.inl rfl)
  | cons x l =>
    unfold stepL
    by_cases c0 : kd = 0
    · rw [if_pos c0]
      unfold askL
      split <;> exact .inl rfl
    · rw [if_neg c0]
      split
      · by_cases e : x = k
        · exact .inr (.inr ⟨e, c0⟩)
        · left; simp [dropL, e, ofT]
      · exact .inl rfl
variable (G : Nat → Option (List AV)) (l : List (Int × Int)) (fe : Bool)
theorem order_loop0 (hl : l.length ≤ 200) : ∀ (m i : Nat), i + m = l.length → ∀ (L : List Int) (f : Bool) (s : Nat → Int), InvT L s i → ∀ st, agc 0 [0, 3, 4, 5] st = some (ordSt l fe i L f s) →
    (∃ env h, aE G FT 0 lp_law27_TokenOrder_0 st = some (.exit 0, ⟨env, h⟩)) ∨ ∃ h, aE G FT 0 lp_law27_TokenOrder_0 st = some (.ret, ⟨[(2, .bool true)], h⟩) := by
  intro m
  induction m with
  | zero =>
    intro i hi L f s hv st hst
    left
    obtain rfl : i = l.length := by omega
    have h4 : ¬ (l.length : Int) < l.length := by omega
    rw [lp_law27_TokenOrder_0, y_loop, hst]
    unfold ordSt
    refine ⟨[(0, .data false 2 (stepsC l) fe), (3, .ptr 0 0 0 0), (4, .ptr 1 0 0 0), (5, .int .i64 l.length), (22, .bool false)], [⟨2, 0, true, [tcells L f]⟩, ⟨9, 0, true, [sinceC s]⟩], ?_⟩
    (sym => simp [z00, z01, z02, z03, z04, z05, z06, z07, z08, z09, z0a, z0b, z0c, z0d, z0e, z0f, z0g, z0h, z0i, z0j, z0k, z0l, z0m, z0n, z0o, z0p, z0q, z0r, z0s, z0t, z0u, z0v, z0w, z0x, z0y, z0z, z10, z11, z12, z13, z14, z15, z16, z17, z18, z19, z1a, z1b, z1c, z1d, z1e, z1f, z1g, z1h, z1i, z1j, z1k, z1l, z1m, z1n, z1o, z1p, z1q, z1r, z1s, z1t, z1u, z1v, z1w, z1x, z1y, z1z, z20, z21, z22, z23, z24, z25, z26, z27, z28, z29, z2a, z2b, z2c, z2d, z2e, z2f, z2g, z2h, z2i, z2j, z2k, z2l, z2m, z2n, z2o, z2p, z2q, z2r, z2s, z2t, z2u, z2v, z2w, z2x, z2y, z2z, z30, z31, z32, z33, z34, z35, z36, z37, z38, z39, z3a, z3b, z3c, z3d, z3e, z3f, z3g, z3h, z3i, z3j, z3k, z3l, z3m, z3n, z3o, z3p, z3q, z3r, z3s, z3t, z3u, z3v, z3w, z3x, z3y, z3z, z40, z41, z42, z43, z44, z45, z46, z47, z48, z49, z4a, z4b, z4c, z4d, z4e, z4f, z4g, z4h, z4i, z4j, z4k, z4l, z4m, z4n, z4o, z4p, z4q, z4r, z4s, z4t, z4u, z4v, z4w, z4x, z4y, z4z, z50, z51, z52, z53, z54, z55, z56, z57, z58, z59, z5a, z5b, z5c, z5d, z5e, z5f, z5g, z5h, z5i, z5j, z5k, z5l, z5m, z5n, z5o, z5p, z5q, z5r, z5s, z5t, z5u, z5v, z5w, z5x, z5y, z5z, z60, z61, z62, z63, z64, z65, z66, z67, z68, z69, z6a, z6b, z6c, z6d, z6e, z6f, z6g, z6h, z6i, z6j, z6k, z6l, z6m, z6n, z6o, z6p, z6q, z6r, z6s, z6t, z6u, z6v, z6w, z6x, z6y, z6z, z70, z71, z72, z73, z74, z75, z76, z77, z78, z79, z7a, z7b, z7c, z7d, z7e, z7f, z7g, z7h, z7i, z7j, z7k, z7l, z7m, z7n, z7o, z7p, z7q, z7r, z7s, z7t, z7u, z7v, z7w, z7x, z7y, z7z, z80, z81, z82, z83, z84, z85, z86, z87, z88, z89, z8a, z8b, z8c, z8d, z8e, z8f, z8g, z8h, z8i, z8j, z8k, z8l, z8m, z8n, z8o, z8p, z8q, z8r, z8s, z8t, z8u, z8v, z8w, z8x, z8y, z8z, z90, z91, z92, z93, z94, z95, z96, z97, z98, z99, z9a, z9b, z9c, z9d, z9e, z9f, z9g, z9h, z9i, z9j, z9k, z9l, z9m, z9n, z9o, z9p, z9q, z9r, z9s, z9t, z9u, z9v, z9w, z9x, z9y, z9z, za0, za1, za2, za3, za4, za5, za6, za7, za8, za9, zaa, zab, zac, zad, zae, zaf, zag, zah, zai, zaj, zak, zal, zam, zan, zao, zap, zaq, zar, zas, zat, zau, zav, zaw, zax, zay, zaz, zb0, zb1, zb2, zb3, zb4, zb5, zb6, zb7, zb8, c_law27_TokenOrder_R0.eq_1, c_law27_TokenOrder_R1.eq_1, c_law27_TokenOrder_R2.eq_1, c_law27_TokenOrder_R3.eq_1, c_law27_TokenOrder_R4.eq_1, c_law27_TokenOrder_R5.eq_1, c_law27_TokenOrder_R6.eq_1, c_law27_TokenOrder_R7.eq_1, c_law27_TokenOrder_R8.eq_1, c_law27_TokenOrder_R10.eq_1, c_law27_TokenOrder_R11.eq_1, c_law27_TokenOrder_R12.eq_1, c_law27_TokenOrder_R13.eq_1, c_law27_TokenOrder_R14.eq_1, c_law27_TokenOrder_R15.eq_1, c_law27_TokenOrder_R16.eq_1, c_law27_TokenOrder_R17.eq_1, c_law27_TokenOrder_R18.eq_1, c_law27_TokenOrder_R19.eq_1, c_law27_TokenOrder_R20.eq_1, c_law27_TokenOrder_R21.eq_1, c_law27_TokenOrder_R22.eq_1, c_law27_TokenOrder_R23.eq_1, c_law27_TokenOrder_R24.eq_1, c_law27_TokenOrder_R25.eq_1, c_law27_TokenOrder_R26.eq_1, c_law27_TokenOrder_R28.eq_1, c_law27_TokenOrder_R29.eq_1, c_law27_TokenOrder_R27.eq_1, c_law27_TokenOrder_R30.eq_1, c_law27_TokenOrder_R31.eq_1, c_law27_TokenOrder_R32.eq_1, c_law27_TokenOrder_R33.eq_1, c_law27_TokenOrder_R34.eq_1, c_law27_TokenOrder_R35.eq_1, c_law27_TokenOrder_R36.eq_1, c_law27_TokenOrder_R38.eq_1, c_law27_TokenOrder_R39.eq_1, c_law27_TokenOrder_R40.eq_1, c_law27_TokenOrder_R41.eq_1, c_law27_TokenOrder_R42.eq_1, c_law27_TokenOrder_R43.eq_1, c_law27_TokenOrder_R45.eq_1, c_law27_TokenOrder_R46.eq_1, c_law27_TokenOrder_R44.eq_1, c_law27_TokenOrder_R37.eq_1, c_law27_TokenOrder_R47.eq_1, c_law27_TokenOrder_R48.eq_1, c_law27_TokenOrder_R9.eq_1, c_law27_TokenOrder_R49.eq_1, c_law27_TokenOrder.eq_1, c_law27_TokenOrder_L0.eq_1, h4, stepsC_len])
  | succ m ih =>
    intro i hi L f s hv st hst
    have hlt : i < l.length := by omega
    by_cases hid : 1 ≤ l[i].2 ∧ l[i].2 ≤ 8
    · obtain ⟨k, hk⟩ : ∃ k : Nat, l[i].2 = k := ⟨l[i].2.toNat, by omega⟩
      have hv' := inv_step hv l[i].1 (k := k) (by omega) (by omega) (by omega)
      rw [show (i : Int) + 1 = ((i + 1 : Nat) : Int) by omega] at hv'
      exact order_step G l fe hl i hlt L f s hv.good k hk (by omega) (by omega) (step_ok hv' (was_ok L _ k)) st hst
        (fun r => (∃ env h, r = some (.exit 0, ⟨env, h⟩)) ∨ ∃ h, r = some (.ret, ⟨[(2, .bool true)], h⟩)) fun f' st' h' => ih (i + 1) (by omega) _ f' _ hv' st' h'
    · right
      have q1 : (i : Int) < l.length := by omega
      have q2 := stepsC_at hlt
      rw [lp_law27_TokenOrder_0, y_loop, hst]
      unfold ordSt
      refine ⟨[⟨2, 0, true, [tcells L f]⟩, ⟨9, 0, true, [sinceC s]⟩], ?_⟩
      by_cases h1 : l[i].2 < 1
      · (sym => simp [z00, z01, z02, z03, z04, z05, z06, z07, z08, z09, z0a, z0b, z0c, z0d, z0e, z0f, z0g, z0h, z0i, z0j, z0k, z0l, z0m, z0n, z0o, z0p, z0q, z0r, z0s, z0t, z0u, z0v, z0w, z0x, z0y, z0z, z10, z11, z12, z13, z14, z15, z16, z17, z18, z19, z1a, z1b, z1c, z1d, z1e, z1f, z1g, z1h, z1i, z1j, z1k, z1l, z1m, z1n, z1o, z1p, z1q, z1r, z1s, z1t, z1u, z1v, z1w, z1x, z1y, z1z, z20, z21, z22, z23, z24, z25, z26, z27, z28, z29, z2a, z2b, z2c, z2d, z2e, z2f, z2g, z2h, z2i, z2j, z2k, z2l, z2m, z2n, z2o, z2p, z2q, z2r, z2s, z2t, z2u, z2v, z2w, z2x, z2y, z2z, z30, z31, z32, z33, z34, z35, z36, z37, z38, z39, z3a, z3b, z3c, z3d, z3e, z3f, z3g, z3h, z3i, z3j, z3k, z3l, z3m, z3n, z3o, z3p, z3q, z3r, z3s, z3t, z3u, z3v, z3w, z3x, z3y, z3z, z40, z41, z42, z43, z44, z45, z46, z47, z48, z49, z4a, z4b, z4c, z4d, z4e, z4f, z4g, z4h, z4i, z4j, z4k, z4l, z4m, z4n, z4o, z4p, z4q, z4r, z4s, z4t, z4u, z4v, z4w, z4x, z4y, z4z, z50, z51, z52, z53, z54, z55, z56, z57, z58, z59, z5a, z5b, z5c, z5d, z5e, z5f, z5g, z5h, z5i, z5j, z5k, z5l, z5m, z5n, z5o, z5p, z5q, z5r, z5s, z5t, z5u, z5v, z5w, z5x, z5y, z5z, z60, z61, z62, z63, z64, z65, z66, z67, z68, z69, z6a, z6b, z6c, z6d, z6e, z6f, z6g, z6h, z6i, z6j, z6k, z6l, z6m, z6n, z6o, z6p, z6q, z6r, z6s, z6t, z6u, z6v, z6w, z6x, z6y, z6z, z70, z71, z72, z73, z74, z75, z76, z77, z78, z79, z7a, z7b, z7c, z7d, z7e, z7f, z7g, z7h, z7i, z7j, z7k, z7l, z7m, z7n, z7o, z7p, z7q, z7r, z7s, z7t, z7u, z7v, z7w, z7x, z7y, z7z, z80, z81, z82, z83, z84, z85, z86, z87, z88, z89, z8a, z8b, z8c, z8d, z8e, z8f, z8g, z8h, z8i, z8j, z8k, z8l, z8m, z8n, z8o, z8p, z8q, z8r, z8s, z8t, z8u, z8v, z8w, z8x, z8y, z8z, z90, z91, z92, z93, z94, z95, z96, z97, z98, z99, z9a, z9b, z9c, z9d, z9e, z9f, z9g, z9h, z9i, z9j, z9k, z9l, z9m, z9n, z9o, z9p, z9q, z9r, z9s, z9t, z9u, z9v, z9w, z9x, z9y, z9z, za0, za1, za2, za3, za4, za5, za6, za7, za8, za9, zaa, zab, zac, zad, zae, zaf, zag, zah, zai, zaj, zak, zal, zam, zan, zao, zap, zaq, zar, zas, zat, zau, zav, zaw, zax, zay, zaz, zb0, zb1, zb2, zb3, zb4, zb5, zb6, zb7, zb8, c_law27_TokenOrder_R0.eq_1, c_law27_TokenOrder_R1.eq_1, c_law27_TokenOrder_R2.eq_1, c_law27_TokenOrder_R3.eq_1, c_law27_TokenOrder_R4.eq_1, c_law27_TokenOrder_R5.eq_1, c_law27_TokenOrder_R6.eq_1, c_law27_TokenOrder_R7.eq_1, c_law27_TokenOrder_R8.eq_1, c_law27_TokenOrder_R10.eq_1, c_law27_TokenOrder_R11.eq_1, c_law27_TokenOrder_R12.eq_1, c_law27_TokenOrder_R13.eq_1, c_law27_TokenOrder_R14.eq_1, c_law27_TokenOrder_R15.eq_1, c_law27_TokenOrder_R16.eq_1, c_law27_TokenOrder_R17.eq_1, c_law27_TokenOrder_R18.eq_1, c_law27_TokenOrder_R19.eq_1, c_law27_TokenOrder_R20.eq_1, c_law27_TokenOrder_R21.eq_1, c_law27_TokenOrder_R22.eq_1, c_law27_TokenOrder_R23.eq_1, c_law27_TokenOrder_R24.eq_1, c_law27_TokenOrder_R25.eq_1, c_law27_TokenOrder_R26.eq_1, c_law27_TokenOrder_R28.eq_1, c_law27_TokenOrder_R29.eq_1, c_law27_TokenOrder_R27.eq_1, c_law27_TokenOrder_R30.eq_1, c_law27_TokenOrder_R31.eq_1, c_law27_TokenOrder_R32.eq_1, c_law27_TokenOrder_R33.eq_1, c_law27_TokenOrder_R34.eq_1, c_law27_TokenOrder_R35.eq_1, c_law27_TokenOrder_R36.eq_1, c_law27_TokenOrder_R38.eq_1, c_law27_TokenOrder_R39.eq_1, c_law27_TokenOrder_R40.eq_1, c_law27_TokenOrder_R41.eq_1, c_law27_TokenOrder_R42.eq_1, c_law27_TokenOrder_R43.eq_1, c_law27_TokenOrder_R45.eq_1, c_law27_TokenOrder_R46.eq_1, c_law27_TokenOrder_R44.eq_1, c_law27_TokenOrder_R37.eq_1, c_law27_TokenOrder_R47.eq_1, c_law27_TokenOrder_R48.eq_1, c_law27_TokenOrder_R9.eq_1, c_law27_TokenOrder_R49.eq_1, c_law27_TokenOrder.eq_1, c_law27_TokenOrder_L0.eq_1, q1, q2, h1, stepsC_len])
      · have h8 : 8 < l[i].2 := by omega
        (sym => simp [z00, z01, z02, z03, z04, z05, z06, z07, z08, z09, z0a, z0b, z0c, z0d, z0e, z0f, z0g, z0h, z0i, z0j, z0k, z0l, z0m, z0n, z0o, z0p, z0q, z0r, z0s, z0t, z0u, z0v, z0w, z0x, z0y, z0z, z10, z11, z12, z13, z14, z15, z16, z17, z18, z19, z1a, z1b, z1c, z1d, z1e, z1f, z1g, z1h, z1i, z1j, z1k, z1l, z1m, z1n, z1o, z1p, z1q, z1r, z1s, z1t, z1u, z1v, z1w, z1x, z1y, z1z, z20, z21, z22, z23, z24, z25, z26, z27, z28, z29, z2a, z2b, z2c, z2d, z2e, z2f, z2g, z2h, z2i, z2j, z2k, z2l, z2m, z2n, z2o, z2p, z2q, z2r, z2s, z2t, z2u, z2v, z2w, z2x, z2y, z2z, z30, z31, z32, z33, z34, z35, z36, z37, z38, z39, z3a, z3b, z3c, z3d, z3e, z3f, z3g, z3h, z3i, z3j, z3k, z3l, z3m, z3n, z3o, z3p, z3q, z3r, z3s, z3t, z3u, z3v, z3w, z3x, z3y, z3z, z40, z41, z42, z43, z44, z45, z46, z47, z48, z49, z4a, z4b, z4c, z4d, z4e, z4f, z4g, z4h, z4i, z4j, z4k, z4l, z4m, z4n, z4o, z4p, z4q, z4r, z4s, z4t, z4u, z4v, z4w, z4x, z4y, z4z, z50, z51, z52, z53, z54, z55, z56, z57, z58, z59, z5a, z5b, z5c, z5d, z5e, z5f, z5g, z5h, z5i, z5j, z5k, z5l, z5m, z5n, z5o, z5p, z5q, z5r, z5s, z5t, z5u, z5v, z5w, z5x, z5y, z5z, z60, z61, z62, z63, z64, z65, z66, z67, z68, z69, z6a, z6b, z6c, z6d, z6e, z6f, z6g, z6h, z6i, z6j, z6k, z6l, z6m, z6n, z6o, z6p, z6q, z6r, z6s, z6t, z6u, z6v, z6w, z6x, z6y, z6z, z70, z71, z72, z73, z74, z75, z76, z77, z78, z79, z7a, z7b, z7c, z7d, z7e, z7f, z7g, z7h, z7i, z7j, z7k, z7l, z7m, z7n, z7o, z7p, z7q, z7r, z7s, z7t, z7u, z7v, z7w, z7x, z7y, z7z, z80, z81, z82, z83, z84, z85, z86, z87, z88, z89, z8a, z8b, z8c, z8d, z8e, z8f, z8g, z8h, z8i, z8j, z8k, z8l, z8m, z8n, z8o, z8p, z8q, z8r, z8s, z8t, z8u, z8v, z8w, z8x, z8y, z8z, z90, z91, z92, z93, z94, z95, z96, z97, z98, z99, z9a, z9b, z9c, z9d, z9e, z9f, z9g, z9h, z9i, z9j, z9k, z9l, z9m, z9n, z9o, z9p, z9q, z9r, z9s, z9t, z9u, z9v, z9w, z9x, z9y, z9z, za0, za1, za2, za3, za4, za5, za6, za7, za8, za9, zaa, zab, zac, zad, zae, zaf, zag, zah, zai, zaj, zak, zal, zam, zan, zao, zap, zaq, zar, zas, zat, zau, zav, zaw, zax, zay, zaz, zb0, zb1, zb2, zb3, zb4, zb5, zb6, zb7, zb8, c_law27_TokenOrder_R0.eq_1, c_law27_TokenOrder_R1.eq_1, c_law27_TokenOrder_R2.eq_1, c_law27_TokenOrder_R3.eq_1, c_law27_TokenOrder_R4.eq_1, c_law27_TokenOrder_R5.eq_1, c_law27_TokenOrder_R6.eq_1, c_law27_TokenOrder_R7.eq_1, c_law27_TokenOrder_R8.eq_1, c_law27_TokenOrder_R10.eq_1, c_law27_TokenOrder_R11.eq_1, c_law27_TokenOrder_R12.eq_1, c_law27_TokenOrder_R13.eq_1, c_law27_TokenOrder_R14.eq_1, c_law27_TokenOrder_R15.eq_1, c_law27_TokenOrder_R16.eq_1, c_law27_TokenOrder_R17.eq_1, c_law27_TokenOrder_R18.eq_1, c_law27_TokenOrder_R19.eq_1, c_law27_TokenOrder_R20.eq_1, c_law27_TokenOrder_R21.eq_1, c_law27_TokenOrder_R22.eq_1, c_law27_TokenOrder_R23.eq_1, c_law27_TokenOrder_R24.eq_1, c_law27_TokenOrder_R25.eq_1, c_law27_TokenOrder_R26.eq_1, c_law27_TokenOrder_R28.eq_1, c_law27_TokenOrder_R29.eq_1, c_law27_TokenOrder_R27.eq_1, c_law27_TokenOrder_R30.eq_1, c_law27_TokenOrder_R31.eq_1, c_law27_TokenOrder_R32.eq_1, c_law27_TokenOrder_R33.eq_1, c_law27_TokenOrder_R34.eq_1, c_law27_TokenOrder_R35.eq_1, c_law27_TokenOrder_R36.eq_1, c_law27_TokenOrder_R38.eq_1, c_law27_TokenOrder_R39.eq_1, c_law27_TokenOrder_R40.eq_1, c_law27_TokenOrder_R41.eq_1, c_law27_TokenOrder_R42.eq_1, c_law27_TokenOrder_R43.eq_1, c_law27_TokenOrder_R45.eq_1, c_law27_TokenOrder_R46.eq_1, c_law27_TokenOrder_R44.eq_1, c_law27_TokenOrder_R37.eq_1, c_law27_TokenOrder_R47.eq_1, c_law27_TokenOrder_R48.eq_1, c_law27_TokenOrder_R9.eq_1, c_law27_TokenOrder_R49.eq_1, c_law27_TokenOrder.eq_1, c_law27_TokenOrder_L0.eq_1, q1, q2, h1, h8, stepsC_len])
theorem order_P : aP G FT n_law27_TokenOrder [.data false 2 (stepsC l) fe] = some (.bool true) := by
  unfold aP
  rw [run_law27_TokenOrder]
  have hK := known27_P G
  by_cases h1 : 200 < (l.length : Int)
  · (sym => simp [z00, z01, z02, z03, z04, z05, z06, z07, z08, z09, z0a, z0b, z0c, z0d, z0e, z0f, z0g, z0h, z0i, z0j, z0k, z0l, z0m, z0n, z0o, z0p, z0q, z0r, z0s, z0t, z0u, z0v, z0w, z0x, z0y, z0z, z10, z11, z12, z13, z14, z15, z16, z17, z18, z19, z1a, z1b, z1c, z1d, z1e, z1f, z1g, z1h, z1i, z1j, z1k, z1l, z1m, z1n, z1o, z1p, z1q, z1r, z1s, z1t, z1u, z1v, z1w, z1x, z1y, z1z, z20, z21, z22, z23, z24, z25, z26, z27, z28, z29, z2a, z2b, z2c, z2d, z2e, z2f, z2g, z2h, z2i, z2j, z2k, z2l, z2m, z2n, z2o, z2p, z2q, z2r, z2s, z2t, z2u, z2v, z2w, z2x, z2y, z2z, z30, z31, z32, z33, z34, z35, z36, z37, z38, z39, z3a, z3b, z3c, z3d, z3e, z3f, z3g, z3h, z3i, z3j, z3k, z3l, z3m, z3n, z3o, z3p, z3q, z3r, z3s, z3t, z3u, z3v, z3w, z3x, z3y, z3z, z40, z41, z42, z43, z44, z45, z46, z47, z48, z49, z4a, z4b, z4c, z4d, z4e, z4f, z4g, z4h, z4i, z4j, z4k, z4l, z4m, z4n, z4o, z4p, z4q, z4r, z4s, z4t, z4u, z4v, z4w, z4x, z4y, z4z, z50, z51, z52, z53, z54, z55, z56, z57, z58, z59, z5a, z5b, z5c, z5d, z5e, z5f, z5g, z5h, z5i, z5j, z5k, z5l, z5m, z5n, z5o, z5p, z5q, z5r, z5s, z5t, z5u, z5v, z5w, z5x, z5y, z5z, z60, z61, z62, z63, z64, z65, z66, z67, z68, z69, z6a, z6b, z6c, z6d, z6e, z6f, z6g, z6h, z6i, z6j, z6k, z6l, z6m, z6n, z6o, z6p, z6q, z6r, z6s, z6t, z6u, z6v, z6w, z6x, z6y, z6z, z70, z71, z72, z73, z74, z75, z76, z77, z78, z79, z7a, z7b, z7c, z7d, z7e, z7f, z7g, z7h, z7i, z7j, z7k, z7l, z7m, z7n, z7o, z7p, z7q, z7r, z7s, z7t, z7u, z7v, z7w, z7x, z7y, z7z, z80, z81, z82, z83, z84, z85, z86, z87, z88, z89, z8a, z8b, z8c, z8d, z8e, z8f, z8g, z8h, z8i, z8j, z8k, z8l, z8m, z8n, z8o, z8p, z8q, z8r, z8s, z8t, z8u, z8v, z8w, z8x, z8y, z8z, z90, z91, z92, z93, z94, z95, z96, z97, z98, z99, z9a, z9b, z9c, z9d, z9e, z9f, z9g, z9h, z9i, z9j, z9k, z9l, z9m, z9n, z9o, z9p, z9q, z9r, z9s, z9t, z9u, z9v, z9w, z9x, z9y, z9z, za0, za1, za2, za3, za4, za5, za6, za7, za8, za9, zaa, zab, zac, zad, zae, zaf, zag, zah, zai, zaj, zak, zal, zam, zan, zao, zap, zaq, zar, zas, zat, zau, zav, zaw, zax, zay, zaz, zb0, zb1, zb2, zb3, zb4, zb5, zb6, zb7, zb8, c_law27_TokenOrder_R0.eq_1, c_law27_TokenOrder_R1.eq_1, c_law27_TokenOrder_R2.eq_1, c_law27_TokenOrder_R3.eq_1, c_law27_TokenOrder_R4.eq_1, c_law27_TokenOrder_R5.eq_1, c_law27_TokenOrder_R6.eq_1, c_law27_TokenOrder_R7.eq_1, c_law27_TokenOrder_R8.eq_1, c_law27_TokenOrder_R10.eq_1, c_law27_TokenOrder_R11.eq_1, c_law27_TokenOrder_R12.eq_1, c_law27_TokenOrder_R13.eq_1, c_law27_TokenOrder_R14.eq_1, c_law27_TokenOrder_R15.eq_1, c_law27_TokenOrder_R16.eq_1, c_law27_TokenOrder_R17.eq_1, c_law27_TokenOrder_R18.eq_1, c_law27_TokenOrder_R19.eq_1, c_law27_TokenOrder_R20.eq_1, c_law27_TokenOrder_R21.eq_1, c_law27_TokenOrder_R22.eq_1, c_law27_TokenOrder_R23.eq_1, c_law27_TokenOrder_R24.eq_1, c_law27_TokenOrder_R25.eq_1, c_law27_TokenOrder_R26.eq_1, c_law27_TokenOrder_R28.eq_1, c_law27_TokenOrder_R29.eq_1, c_law27_TokenOrder_R27.eq_1, c_law27_TokenOrder_R30.eq_1, c_law27_TokenOrder_R31.eq_1, c_law27_TokenOrder_R32.eq_1, c_law27_TokenOrder_R33.eq_1, c_law27_TokenOrder_R34.eq_1, c_law27_TokenOrder_R35.eq_1, c_law27_TokenOrder_R36.eq_1, c_law27_TokenOrder_R38.eq_1, c_law27_TokenOrder_R39.eq_1, c_law27_TokenOrder_R40.eq_1, c_law27_TokenOrder_R41.eq_1, c_law27_TokenOrder_R42.eq_1, c_law27_TokenOrder_R43.eq_1, c_law27_TokenOrder_R45.eq_1, c_law27_TokenOrder_R46.eq_1, c_law27_TokenOrder_R44.eq_1, c_law27_TokenOrder_R37.eq_1, c_law27_TokenOrder_R47.eq_1, c_law27_TokenOrder_R48.eq_1, c_law27_TokenOrder_R9.eq_1, c_law27_TokenOrder_R49.eq_1, c_law27_TokenOrder.eq_1, hK, stepsC_len, h1])
  have key := order_loop0 G l fe (by omega) l.length 0 (by omega) [] true (fun _ => 0) ⟨⟨by simp, List.nodup_nil⟩, fun k _ _ => by simp, fun k => by simp, List.Pairwise.nil⟩ ⟨[(0, .data false 2 (stepsC l) fe), (3, .ptr 0 0 0 0), (4, .ptr 1 0 0 0), (5, .int .i64 0)], [⟨2, 0, true, [tcells [] true]⟩, ⟨9, 0, true, [sinceC fun _ => 0]⟩]⟩ (by
    unfold ordSt
    (sym => simp [z00, z01, z02, z03, z04, z05, z06, z07, z08, z09, z0a, z0b, z0c, z0d, z0e, z0f, z0g, z0h, z0i, z0j, z0k, z0l, z0m, z0n, z0o, z0p, z0q, z0r, z0s, z0t, z0u, z0v, z0w, z0x, z0y, z0z, z10, z11, z12, z13, z14, z15, z16, z17, z18, z19, z1a, z1b, z1c, z1d, z1e, z1f, z1g, z1h, z1i, z1j, z1k, z1l, z1m, z1n, z1o, z1p, z1q, z1r, z1s, z1t, z1u, z1v, z1w, z1x, z1y, z1z, z20, z21, z22, z23, z24, z25, z26, z27, z28, z29, z2a, z2b, z2c, z2d, z2e, z2f, z2g, z2h, z2i, z2j, z2k, z2l, z2m, z2n, z2o, z2p, z2q, z2r, z2s, z2t, z2u, z2v, z2w, z2x, z2y, z2z, z30, z31, z32, z33, z34, z35, z36, z37, z38, z39, z3a, z3b, z3c, z3d, z3e, z3f, z3g, z3h, z3i, z3j, z3k, z3l, z3m, z3n, z3o, z3p, z3q, z3r, z3s, z3t, z3u, z3v, z3w, z3x, z3y, z3z, z40, z41, z42, z43, z44, z45, z46, z47, z48, z49, z4a, z4b, z4c, z4d, z4e, z4f, z4g, z4h, z4i, z4j, z4k, z4l, z4m, z4n, z4o, z4p, z4q, z4r, z4s, z4t, z4u, z4v, z4w, z4x, z4y, z4z, z50, z51, z52, z53, z54, z55, z56, z57, z58, z59, z5a, z5b, z5c, z5d, z5e, z5f, z5g, z5h, z5i, z5j, z5k, z5l, z5m, z5n, z5o, z5p, z5q, z5r, z5s, z5t, z5u, z5v, z5w, z5x, z5y, z5z, z60, z61, z62, z63, z64, z65, z66, z67, z68, z69, z6a, z6b, z6c, z6d, z6e, z6f, z6g, z6h, z6i, z6j, z6k, z6l, z6m, z6n, z6o, z6p, z6q, z6r, z6s, z6t, z6u, z6v, z6w, z6x, z6y, z6z, z70, z71, z72, z73, z74, z75, z76, z77, z78, z79, z7a, z7b, z7c, z7d, z7e, z7f, z7g, z7h, z7i, z7j, z7k, z7l, z7m, z7n, z7o, z7p, z7q, z7r, z7s, z7t, z7u, z7v, z7w, z7x, z7y, z7z, z80, z81, z82, z83, z84, z85, z86, z87, z88, z89, z8a, z8b, z8c, z8d, z8e, z8f, z8g, z8h, z8i, z8j, z8k, z8l, z8m, z8n, z8o, z8p, z8q, z8r, z8s, z8t, z8u, z8v, z8w, z8x, z8y, z8z, z90, z91, z92, z93, z94, z95, z96, z97, z98, z99, z9a, z9b, z9c, z9d, z9e, z9f, z9g, z9h, z9i, z9j, z9k, z9l, z9m, z9n, z9o, z9p, z9q, z9r, z9s, z9t, z9u, z9v, z9w, z9x, z9y, z9z, za0, za1, za2, za3, za4, za5, za6, za7, za8, za9, zaa, zab, zac, zad, zae, zaf, zag, zah, zai, zaj, zak, zal, zam, zan, zao, zap, zaq, zar, zas, zat, zau, zav, zaw, zax, zay, zaz, zb0, zb1, zb2, zb3, zb4, zb5, zb6, zb7, zb8]))
  have e1 : tcells [] true = [.int .i64 0, .data false 1 [] true] := rfl
  rw [e1, ← sinceC_zero] at key
  rcases key with ⟨env, h, key⟩ | ⟨h, key⟩
  · (sym => simp [z00, z01, z02, z03, z04, z05, z06, z07, z08, z09, z0a, z0b, z0c, z0d, z0e, z0f, z0g, z0h, z0i, z0j, z0k, z0l, z0m, z0n, z0o, z0p, z0q, z0r, z0s, z0t, z0u, z0v, z0w, z0x, z0y, z0z, z10, z11, z12, z13, z14, z15, z16, z17, z18, z19, z1a, z1b, z1c, z1d, z1e, z1f, z1g, z1h, z1i, z1j, z1k, z1l, z1m, z1n, z1o, z1p, z1q, z1r, z1s, z1t, z1u, z1v, z1w, z1x, z1y, z1z, z20, z21, z22, z23, z24, z25, z26, z27, z28, z29, z2a, z2b, z2c, z2d, z2e, z2f, z2g, z2h, z2i, z2j, z2k, z2l, z2m, z2n, z2o, z2p, z2q, z2r, z2s, z2t, z2u, z2v, z2w, z2x, z2y, z2z, z30, z31, z32, z33, z34, z35, z36, z37, z38, z39, z3a, z3b, z3c, z3d, z3e, z3f, z3g, z3h, z3i, z3j, z3k, z3l, z3m, z3n, z3o, z3p, z3q, z3r, z3s, z3t, z3u, z3v, z3w, z3x, z3y, z3z, z40, z41, z42, z43, z44, z45, z46, z47, z48, z49, z4a, z4b, z4c, z4d, z4e, z4f, z4g, z4h, z4i, z4j, z4k, z4l, z4m, z4n, z4o, z4p, z4q, z4r, z4s, z4t, z4u, z4v, z4w, z4x, z4y, z4z, z50, z51, z52, z53, z54, z55, z56, z57, z58, z59, z5a, z5b, z5c, z5d, z5e, z5f, z5g, z5h, z5i, z5j, z5k, z5l, z5m, z5n, z5o, z5p, z5q, z5r, z5s, z5t, z5u, z5v, z5w, z5x, z5y, z5z, z60, z61, z62, z63, z64, z65, z66, z67, z68, z69, z6a, z6b, z6c, z6d, z6e, z6f, z6g, z6h, z6i, z6j, z6k, z6l, z6m, z6n, z6o, z6p, z6q, z6r, z6s, z6t, z6u, z6v, z6w, z6x, z6y, z6z, z70, z71, z72, z73, z74, z75, z76, z77, z78, z79, z7a, z7b, z7c, z7d, z7e, z7f, z7g, z7h, z7i, z7j, z7k, z7l, z7m, z7n, z7o, z7p, z7q, z7r, z7s, z7t, z7u, z7v, z7w, z7x, z7y, z7z, z80, z81, z82, z83, z84, z85, z86, z87, z88, z89, z8a, z8b, z8c, z8d, z8e, z8f, z8g, z8h, z8i, z8j, z8k, z8l, z8m, z8n, z8o, z8p, z8q, z8r, z8s, z8t, z8u, z8v, z8w, z8x, z8y, z8z, z90, z91, z92, z93, z94, z95, z96, z97, z98, z99, z9a, z9b, z9c, z9d, z9e, z9f, z9g, z9h, z9i, z9j, z9k, z9l, z9m, z9n, z9o, z9p, z9q, z9r, z9s, z9t, z9u, z9v, z9w, z9x, z9y, z9z, za0, za1, za2, za3, za4, za5, za6, za7, za8, za9, zaa, zab, zac, zad, zae, zaf, zag, zah, zai, zaj, zak, zal, zam, zan, zao, zap, zaq, zar, zas, zat, zau, zav, zaw, zax, zay, zaz, zb0, zb1, zb2, zb3, zb4, zb5, zb6, zb7, zb8, c_law27_TokenOrder_R0.eq_1, c_law27_TokenOrder_R1.eq_1, c_law27_TokenOrder_R2.eq_1, c_law27_TokenOrder_R3.eq_1, c_law27_TokenOrder_R4.eq_1, c_law27_TokenOrder_R5.eq_1, c_law27_TokenOrder_R6.eq_1, c_law27_TokenOrder_R7.eq_1, c_law27_TokenOrder_R8.eq_1, c_law27_TokenOrder_R10.eq_1, c_law27_TokenOrder_R11.eq_1, c_law27_TokenOrder_R12.eq_1, c_law27_TokenOrder_R13.eq_1, c_law27_TokenOrder_R14.eq_1, c_law27_TokenOrder_R15.eq_1, c_law27_TokenOrder_R16.eq_1, c_law27_TokenOrder_R17.eq_1, c_law27_TokenOrder_R18.eq_1, c_law27_TokenOrder_R19.eq_1, c_law27_TokenOrder_R20.eq_1, c_law27_TokenOrder_R21.eq_1, c_law27_TokenOrder_R22.eq_1, c_law27_TokenOrder_R23.eq_1, c_law27_TokenOrder_R24.eq_1, c_law27_TokenOrder_R25.eq_1, c_law27_TokenOrder_R26.eq_1, c_law27_TokenOrder_R28.eq_1, c_law27_TokenOrder_R29.eq_1, c_law27_TokenOrder_R27.eq_1, c_law27_TokenOrder_R30.eq_1, c_law27_TokenOrder_R31.eq_1, c_law27_TokenOrder_R32.eq_1, c_law27_TokenOrder_R33.eq_1, c_law27_TokenOrder_R34.eq_1, c_law27_TokenOrder_R35.eq_1, c_law27_TokenOrder_R36.eq_1, c_law27_TokenOrder_R38.eq_1, c_law27_TokenOrder_R39.eq_1, c_law27_TokenOrder_R40.eq_1, c_law27_TokenOrder_R41.eq_1, c_law27_TokenOrder_R42.eq_1, c_law27_TokenOrder_R43.eq_1, c_law27_TokenOrder_R45.eq_1, c_law27_TokenOrder_R46.eq_1, c_law27_TokenOrder_R44.eq_1, c_law27_TokenOrder_R37.eq_1, c_law27_TokenOrder_R47.eq_1, c_law27_TokenOrder_R48.eq_1, c_law27_TokenOrder_R9.eq_1, c_law27_TokenOrder_R49.eq_1, c_law27_TokenOrder.eq_1, hK, stepsC_len, h1, key])
  · (sym => simp [z00, z01, z02, z03, z04, z05, z06, z07, z08, z09, z0a, z0b, z0c, z0d, z0e, z0f, z0g, z0h, z0i, z0j, z0k, z0l, z0m, z0n, z0o, z0p, z0q, z0r, z0s, z0t, z0u, z0v, z0w, z0x, z0y, z0z, z10, z11, z12, z13, z14, z15, z16, z17, z18, z19, z1a, z1b, z1c, z1d, z1e, z1f, z1g, z1h, z1i, z1j, z1k, z1l, z1m, z1n, z1o, z1p, z1q, z1r, z1s, z1t, z1u, z1v, z1w, z1x, z1y, z1z, z20, z21, z22, z23, z24, z25, z26, z27, z28, z29, z2a, z2b, z2c, z2d, z2e, z2f, z2g, z2h, z2i, z2j, z2k, z2l, z2m, z2n, z2o, z2p, z2q, z2r, z2s, z2t, z2u, z2v, z2w, z2x, z2y, z2z, z30, z31, z32, z33, z34, z35, z36, z37, z38, z39, z3a, z3b, z3c, z3d, z3e, z3f, z3g, z3h, z3i, z3j, z3k, z3l, z3m, z3n, z3o, z3p, z3q, z3r, z3s, z3t, z3u, z3v, z3w, z3x, z3y, z3z, z40, z41, z42, z43, z44, z45, z46, z47, z48, z49, z4a, z4b, z4c, z4d, z4e, z4f, z4g, z4h, z4i, z4j, z4k, z4l, z4m, z4n, z4o, z4p, z4q, z4r, z4s, z4t, z4u, z4v, z4w, z4x, z4y, z4z, z50, z51, z52, z53, z54, z55, z56, z57, z58, z59, z5a, z5b, z5c, z5d, z5e, z5f, z5g, z5h, z5i, z5j, z5k, z5l, z5m, z5n, z5o, z5p, z5q, z5r, z5s, z5t, z5u, z5v, z5w, z5x, z5y, z5z, z60, z61, z62, z63, z64, z65, z66, z67, z68, z69, z6a, z6b, z6c, z6d, z6e, z6f, z6g, z6h, z6i, z6j, z6k, z6l, z6m, z6n, z6o, z6p, z6q, z6r, z6s, z6t, z6u, z6v, z6w, z6x, z6y, z6z, z70, z71, z72, z73, z74, z75, z76, z77, z78, z79, z7a, z7b, z7c, z7d, z7e, z7f, z7g, z7h, z7i, z7j, z7k, z7l, z7m, z7n, z7o, z7p, z7q, z7r, z7s, z7t, z7u, z7v, z7w, z7x, z7y, z7z, z80, z81, z82, z83, z84, z85, z86, z87, z88, z89, z8a, z8b, z8c, z8d, z8e, z8f, z8g, z8h, z8i, z8j, z8k, z8l, z8m, z8n, z8o, z8p, z8q, z8r, z8s, z8t, z8u, z8v, z8w, z8x, z8y, z8z, z90, z91, z92, z93, z94, z95, z96, z97, z98, z99, z9a, z9b, z9c, z9d, z9e, z9f, z9g, z9h, z9i, z9j, z9k, z9l, z9m, z9n, z9o, z9p, z9q, z9r, z9s, z9t, z9u, z9v, z9w, z9x, z9y, z9z, za0, za1, za2, za3, za4, za5, za6, za7, za8, za9, zaa, zab, zac, zad, zae, zaf, zag, zah, zai, zaj, zak, zal, zam, zan, zao, zap, zaq, zar, zas, zat, zau, zav, zaw, zax, zay, zaz, zb0, zb1, zb2, zb3, zb4, zb5, zb6, zb7, zb8, c_law27_TokenOrder_R0.eq_1, c_law27_TokenOrder_R1.eq_1, c_law27_TokenOrder_R2.eq_1, c_law27_TokenOrder_R3.eq_1, c_law27_TokenOrder_R4.eq_1, c_law27_TokenOrder_R5.eq_1, c_law27_TokenOrder_R6.eq_1, c_law27_TokenOrder_R7.eq_1, c_law27_TokenOrder_R8.eq_1, c_law27_TokenOrder_R10.eq_1, c_law27_TokenOrder_R11.eq_1, c_law27_TokenOrder_R12.eq_1, c_law27_TokenOrder_R13.eq_1, c_law27_TokenOrder_R14.eq_1, c_law27_TokenOrder_R15.eq_1, c_law27_TokenOrder_R16.eq_1, c_law27_TokenOrder_R17.eq_1, c_law27_TokenOrder_R18.eq_1, c_law27_TokenOrder_R19.eq_1, c_law27_TokenOrder_R20.eq_1, c_law27_TokenOrder_R21.eq_1, c_law27_TokenOrder_R22.eq_1, c_law27_TokenOrder_R23.eq_1, c_law27_TokenOrder_R24.eq_1, c_law27_TokenOrder_R25.eq_1, c_law27_TokenOrder_R26.eq_1, c_law27_TokenOrder_R28.eq_1, c_law27_TokenOrder_R29.eq_1, c_law27_TokenOrder_R27.eq_1, c_law27_TokenOrder_R30.eq_1, c_law27_TokenOrder_R31.eq_1, c_law27_TokenOrder_R32.eq_1, c_law27_TokenOrder_R33.eq_1, c_law27_TokenOrder_R34.eq_1, c_law27_TokenOrder_R35.eq_1, c_law27_TokenOrder_R36.eq_1, c_law27_TokenOrder_R38.eq_1, c_law27_TokenOrder_R39.eq_1, c_law27_TokenOrder_R40.eq_1, c_law27_TokenOrder_R41.eq_1, c_law27_TokenOrder_R42.eq_1, c_law27_TokenOrder_R43.eq_1, c_law27_TokenOrder_R45.eq_1, c_law27_TokenOrder_R46.eq_1, c_law27_TokenOrder_R44.eq_1, c_law27_TokenOrder_R37.eq_1, c_law27_TokenOrder_R47.eq_1, c_law27_TokenOrder_R48.eq_1, c_law27_TokenOrder_R9.eq_1, c_law27_TokenOrder_R49.eq_1, c_law27_TokenOrder.eq_1, hK, stepsC_len, h1, key])
theorem tys_two {j k : IntKind} {g : List AV} (h : HasTys [.int j, .int k] g) : ∃ p : Int × Int, g = [.int j p.1, .int k p.2] ∧ True := by
  obtain ⟨a, r, rfl, ha, hr⟩ := tys_cons h
  obtain ⟨n, rfl, _⟩ := ty_int ha
  obtain ⟨m, rfl, _⟩ := tys_int1 hr
  exact ⟨(n, m), rfl, trivial⟩
theorem law_TokenOrder (a0 : AV) (h0 : HasTy (.sl [.int .i64, .int .i64]) a0) : aP G FT n_law27_TokenOrder [a0] = some (.bool true) := by
  simp only [HasTy] at h0
  obtain ⟨es, f, rfl, _, he⟩ := h0
  obtain ⟨l, rfl, _⟩ := list_of (Q := fun _ => True) (f := fun p : Int × Int => [AV.int .i64 p.1, AV.int .i64 p.2]) es (fun g hg => tys_two (he g hg))
  exact order_P G l f
end Go.Proofs.Ytfnonledcniojaa
