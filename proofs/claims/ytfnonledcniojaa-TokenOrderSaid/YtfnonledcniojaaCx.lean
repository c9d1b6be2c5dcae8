/- Entries told outright: slices.Clone, bytes.Clone. Of nothing: by hand; of something: by the small machine. Conditions: none. -/
import Derived.Test.YtfnonledcniojaaCj
import Derived.Test.YtfnonledcniojaaM3
import Derived.Test.YtfnonledcniojaaChecked
import Derived.WalkKit
import Derived.WalkSpells
import Derived.WalkLawsBesides
import Derived.Deep.QuietTactic
import Derived.BigQuiet
import Derived.Lib.Hide
set_option linter.unusedVariables false
set_option linter.unusedSimpArgs false
set_option linter.unusedSectionVars false
namespace Go.Proofs.Ytfnonledcniojaa
open Go Go.RowKit
theorem nil_eq0 {P : Program} (d : Nat) {t e : TypeId} (hu : P.underlying t = some (.slice e)) (c c' : Nat) (w : World) : (Op.equalIn (d + 1) t (.slice none 0 c) (.slice none 0 c')).run P w = .ok true w := by simp [Op.equalIn, run_underlying hu]
theorem nil_eq {P : Program} {t e : TypeId} (hu : P.underlying t = some (.slice e)) (c c' : Nat) (w : World) : (binOp .eql t (.slice none 0 c) (.slice none 0 c')).run P w = .ok (.bool true) w := by
  have : (Op.equal t (.slice none 0 c) (.slice none 0 c')).run P w = .ok true w := nil_eq0 9999 hu c c' w
  rw [binOp_eql (.inr (.inr (.inr ⟨_, _, _, rfl⟩))), Sem.run_bind, this]
  simp
theorem nil_ne {P : Program} {t e : TypeId} (hu : P.underlying t = some (.slice e)) (ad : Addr) (l c c' : Nat) (w : World) : (binOp .eql t (.slice (some ad) l c) (.slice none 0 c')).run P w = .ok (.bool false) w := by
  have : (Op.equal t (.slice (some ad) l c) (.slice none 0 c')).run P w = .ok false w := eqn7 9999 w hu _ _ _ _ _
  rw [binOp_eql (.inr (.inr (.inr ⟨_, _, _, rfl⟩))), Sem.run_bind, this]
  simp
theorem oneF_ok {P : Program} (G : Nat → Option (List AV)) {n : Nat} {a : AFn} (hc : chkFn P n a = true) : EntOk P G (oneF n a) := by
  intro f ent hf
  unfold oneF at hf
  split at hf
  · rename_i e; cases hf; subst e; exact hc
  · cases hf
/-- An entry that makes an empty slice. -/
theorem ext_empty {P : Program} {f k : Nat} {xs : Array Value} {w : World} {ρ : Rho} {S O : Nat → Prop} (H : Heap ρ w S O []) {v : Value} {w1 : World} (hc : Calls P f xs w fun e w' => e = .returned v ∧ w' = w1)
    (hw : w1 = w ∨ ∃ arr ty, w1 = w.alloc (.cells arr ty)) (hv : ∃ a, v = .slice a 0 0) : Calls P f xs w fun e w' => ∃ x, e = .returned x ∧ ResW ρ w S O [] (.own 0 1 0 0 0) [⟨k, 1, true, []⟩] x w' := by
  obtain ⟨a, rfl⟩ := hv
  refine Calls.mono hc fun e w' h => ?_
  obtain ⟨rfl, rfl⟩ := h
  have hA : AdvW w O w' O := by
    rcases hw with rfl | ⟨arr, ty, rfl⟩
    · exact .refl _ O
    · exact .alloc' w O _
  have H2 : Heap ρ w' S O [] := ⟨fun id g pl hid => by obtain ⟨r, hr, _⟩ := H.row id g pl hid; simp at hr, H.inj, fun b hb => Nat.lt_of_lt_of_le (H.bd b hb) hA.size⟩
  exact ⟨_, rfl, upd ρ 0 (1, none), O, hA, ext_upd ρ _ (H.none_ge (Nat.le_refl _)), H2.virtual ⟨k, 1, true, []⟩ rfl, .own _ 1 1 none 0 0 0 a 0 (upd_same ρ _ _) (Nat.le_refl _) (Nat.le_refl _) (Nat.le_refl _) (fun h => by omega) (fun _ => .inl rfl), fun id h => by simp at h⟩

set_option maxRecDepth 100000 in
set_option maxHeartbeats 400000 in
theorem nil_slices_Clone_int (cap : Nat) (w : World) :
    Calls Try.prog 85 #[.slice none 0 cap] w fun e w' => e = .returned (.slice none 0 0) ∧ w' = w := by
  have h1 := nil_eq (P := Try.prog) (t := 42) (e := 3) (by kernel_rfl) cap 0
  go_enter Try.func85, Try.ntmps85
  go_wp2
  all_goals (go_ret; exact ⟨rfl, rfl⟩)
set_option maxRecDepth 100000 in
set_option maxHeartbeats 400000 in
theorem emp_slices_Clone_int (ad : Addr) (cap : Nat) (w : World) :
    Calls Try.prog 85 #[.slice (some ad) 0 cap] w fun e w' => e = .returned (.slice (some ⟨w.heap.size, 0, none⟩) 0 0) ∧ w' = w.alloc (.cells #[] 3) := by
  have h1 := nil_ne (P := Try.prog) (t := 42) (e := 3) (by kernel_rfl) ad 0 cap 0
  go_enter Try.func85, Try.ntmps85
  go_wp2
  all_goals (go_ret; exact ⟨rfl, rfl⟩)
theorem some_slices_Clone_int (G : Nat → Option (List AV)) (l : List (List AV)) (b f : Bool) (hl : l.length ≤ 1000000) (hne : l ≠ []) : aR G (oneF 85 c_slices_Clone_int) 85 [.data b 1 l f] [] = some (.own 0 1 0 l.length l.length, [⟨1, 1, true, l⟩]) := by
  cases l with
  | nil => exact absurd rfl hne
  | cons x l =>
    have hb : (l.length + 1) * 8 ≤ 140737488355328 := by simp at hl; omega
    rw [y_fn G (oneF 85 c_slices_Clone_int) (fn := c_slices_Clone_int) rfl]
    (sym => simp [z00, z01, z02, z03, z04, z05, z06, z07, z08, z09, z0a, z0b, z0c, z0d, z0e, z0f, z0g, z0h, z0i, z0j, z0k, z0l, z0m, z0n, z0o, z0p, z0q, z0r, z0s, z0t, z0u, z0v, z0w, z0x, z0y, z0z, z10, z11, z12, z13, z14, z15, z16, z17, z18, z19, z1a, z1b, z1c, z1d, z1e, z1f, z1g, z1h, z1i, z1j, z1k, z1l, z1m, z1n, z1o, z1p, z1q, z1r, z1s, z1t, z1u, z1v, z1w, z1x, z1y, z1z, z20, z21, z22, z23, z24, z25, z26, z27, z28, z29, z2a, z2b, z2c, z2d, z2e, z2f, z2g, z2h, z2i, z2j, z2k, z2l, z2m, z2n, z2o, z2p, z2q, z2r, z2s, z2t, z2u, z2v, z2w, z2x, z2y, z2z, z30, z31, z32, z33, z34, z35, z36, z37, z38, z39, z3a, z3b, z3c, z3d, z3e, z3f, z3g, z3h, z3i, z3j, z3k, z3l, z3m, z3n, z3o, z3p, z3q, z3r, z3s, z3t, z3u, z3v, z3w, z3x, z3y, z3z, z40, z41, z42, z43, z44, z45, z46, z47, z48, z49, z4a, z4b, z4c, z4d, z4e, z4f, z4g, z4h, z4i, z4j, z4k, z4l, z4m, z4n, z4o, z4p, z4q, z4r, z4s, z4t, z4u, z4v, z4w, z4x, z4y, z4z, z50, z51, z52, z53, z54, z55, z56, z57, z58, z59, z5a, z5b, z5c, z5d, z5e, z5f, z5g, z5h, z5i, z5j, z5k, z5l, z5m, z5n, z5o, z5p, z5q, z5r, z5s, z5t, z5u, z5v, z5w, z5x, z5y, z5z, z60, z61, z62, z63, z64, z65, z66, z67, z68, z69, z6a, z6b, z6c, z6d, z6e, z6f, z6g, z6h, z6i, z6j, z6k, z6l, z6m, z6n, z6o, z6p, z6q, z6r, z6s, z6t, z6u, z6v, z6w, z6x, z6y, z6z, z70, z71, z72, z73, z74, z75, z76, z77, z78, z79, z7a, z7b, z7c, z7d, z7e, z7f, z7g, z7h, z7i, z7j, z7k, z7l, z7m, z7n, z7o, z7p, z7q, z7r, z7s, z7t, z7u, z7v, z7w, z7x, z7y, z7z, z80, z81, z82, z83, z84, z85, z86, z87, z88, z89, z8a, z8b, z8c, z8d, z8e, z8f, z8g, z8h, z8i, z8j, z8k, z8l, z8m, z8n, z8o, z8p, z8q, z8r, z8s, z8t, z8u, z8v, z8w, z8x, z8y, z8z, z90, z91, z92, z93, z94, z95, z96, z97, z98, z99, z9a, z9b, z9c, z9d, z9e, z9f, z9g, z9h, z9i, z9j, z9k, z9l, z9m, z9n, z9o, z9p, z9q, z9r, z9s, z9t, z9u, z9v, z9w, z9x, z9y, z9z, za0, za1, za2, za3, za4, za5, za6, za7, za8, za9, zaa, zab, zac, zad, zae, zaf, zag, zah, zai, zaj, zak, zal, zam, zan, zao, zap, zaq, zar, zas, zat, zau, zav, zaw, zax, zay, zaz, zb0, zb1, zb2, zb3, zb4, zb5, zb6, zb7, zb8, c_slices_Clone_int_R0.eq_1, c_slices_Clone_int_R1.eq_1, c_slices_Clone_int_R2.eq_1, c_slices_Clone_int_R3.eq_1, c_slices_Clone_int.eq_1, hb])
theorem ext_slices_Clone_int (G : Nat → Option (List AV)) : ∀ args h v h', extClone 1 args h = some (v, h') → KeepK h h' ∧ (∃ fn, (Try.prog).funcs[85]? = some fn ∧ fn.name ≠ "runtime.NumGoroutine" ∧ fn.body.isSome = true) ∧
    ∀ (ρ : Rho) (w : World) (S O : Nat → Prop) (xs : List Value), Heap ρ w S O h → (∀ g cs, G g = some cs → RepV ρ w S O (.dptr cs) (.pointer (some ⟨g, 0, none⟩))) → RepL (RepV ρ w S O) args xs →
      Calls Try.prog 85 xs.toArray w fun e w' => ∃ x, e = .returned x ∧ ResW ρ w S O h v h' x w' := by
  intro args h v h' he
  have K := aR_ok mixFT (oneF_ok G chk_slices_Clone_int)
  have any := K 85 [.data true 1 [[]] false] [] _ _ (some_slices_Clone_int G _ _ _ (by simp) (by simp))
  unfold extClone at he
  split at he
  case h_2 => cases he
  rename_i b k' es f
  refine ⟨fun id x hx => by simp at hx, any.1, fun ρ w S O xs H hG hargs => ?_⟩
  split at he
  case isFalse => cases he
  rename_i hc
  cases he
  obtain ⟨rfl, hl⟩ := hc
  cases xs with
  | nil => have := hargs.1; simp at this
  | cons x xs =>
    obtain ⟨hx, hr⟩ := hargs.uncons
    have : xs = [] := List.eq_nil_of_length_eq_zero (by have := hr.1; simpa using this.symm)
    subst this
    cases es with
    | nil =>
      obtain ⟨a, cap, rfl, _⟩ := rv_data hx
      cases a with
      | none => exact ext_empty H (nil_slices_Clone_int cap w) (.inl rfl) ⟨_, rfl⟩
      | some ad => exact ext_empty H (emp_slices_Clone_int ad cap w) (.inr ⟨_, _, rfl⟩) ⟨_, rfl⟩
    | cons e es => exact (K 85 _ [] _ _ (some_slices_Clone_int G (e :: es) b f hl (by simp))).2 ρ w S O [x] H hG hargs

set_option maxRecDepth 100000 in
set_option maxHeartbeats 400000 in
theorem nil_slices_Clone_Member (cap : Nat) (w : World) :
    Calls Try.prog 79 #[.slice none 0 cap] w fun e w' => e = .returned (.slice none 0 0) ∧ w' = w := by
  have h1 := nil_eq (P := Try.prog) (t := 68) (e := 72) (by kernel_rfl) cap 0
  go_enter Try.func79, Try.ntmps79
  go_wp2
  all_goals (go_ret; exact ⟨rfl, rfl⟩)
set_option maxRecDepth 100000 in
set_option maxHeartbeats 400000 in
theorem emp_slices_Clone_Member (ad : Addr) (cap : Nat) (w : World) :
    Calls Try.prog 79 #[.slice (some ad) 0 cap] w fun e w' => e = .returned (.slice (some ⟨w.heap.size, 0, none⟩) 0 0) ∧ w' = w.alloc (.cells #[] 72) := by
  have h1 := nil_ne (P := Try.prog) (t := 68) (e := 72) (by kernel_rfl) ad 0 cap 0
  go_enter Try.func79, Try.ntmps79
  go_wp2
  all_goals (go_ret; exact ⟨rfl, rfl⟩)
theorem some_slices_Clone_Member (G : Nat → Option (List AV)) (l : List (List AV)) (b f : Bool) (hl : l.length ≤ 1000000) (hne : l ≠ []) : aR G (oneF 79 c_slices_Clone_Member) 79 [.data b 2 l f] [] = some (.own 0 1 0 l.length l.length, [⟨2, 1, true, l⟩]) := by
  cases l with
  | nil => exact absurd rfl hne
  | cons x l =>
    have hb : (l.length + 1) * 16 ≤ 140737488355328 := by simp at hl; omega
    rw [y_fn G (oneF 79 c_slices_Clone_Member) (fn := c_slices_Clone_Member) rfl]
    (sym => simp [z00, z01, z02, z03, z04, z05, z06, z07, z08, z09, z0a, z0b, z0c, z0d, z0e, z0f, z0g, z0h, z0i, z0j, z0k, z0l, z0m, z0n, z0o, z0p, z0q, z0r, z0s, z0t, z0u, z0v, z0w, z0x, z0y, z0z, z10, z11, z12, z13, z14, z15, z16, z17, z18, z19, z1a, z1b, z1c, z1d, z1e, z1f, z1g, z1h, z1i, z1j, z1k, z1l, z1m, z1n, z1o, z1p, z1q, z1r, z1s, z1t, z1u, z1v, z1w, z1x, z1y, z1z, z20, z21, z22, z23, z24, z25, z26, z27, z28, z29, z2a, z2b, z2c, z2d, z2e, z2f, z2g, z2h, z2i, z2j, z2k, z2l, z2m, z2n, z2o, z2p, z2q, z2r, z2s, z2t, z2u, z2v, z2w, z2x, z2y, z2z, z30, z31, z32, z33, z34, z35, z36, z37, z38, z39, z3a, z3b, z3c, z3d, z3e, z3f, z3g, z3h, z3i, z3j, z3k, z3l, z3m, z3n, z3o, z3p, z3q, z3r, z3s, z3t, z3u, z3v, z3w, z3x, z3y, z3z, z40, z41, z42, z43, z44, z45, z46, z47, z48, z49, z4a, z4b, z4c, z4d, z4e, z4f, z4g, z4h, z4i, z4j, z4k, z4l, z4m, z4n, z4o, z4p, z4q, z4r, z4s, z4t, z4u, z4v, z4w, z4x, z4y, z4z, z50, z51, z52, z53, z54, z55, z56, z57, z58, z59, z5a, z5b, z5c, z5d, z5e, z5f, z5g, z5h, z5i, z5j, z5k, z5l, z5m, z5n, z5o, z5p, z5q, z5r, z5s, z5t, z5u, z5v, z5w, z5x, z5y, z5z, z60, z61, z62, z63, z64, z65, z66, z67, z68, z69, z6a, z6b, z6c, z6d, z6e, z6f, z6g, z6h, z6i, z6j, z6k, z6l, z6m, z6n, z6o, z6p, z6q, z6r, z6s, z6t, z6u, z6v, z6w, z6x, z6y, z6z, z70, z71, z72, z73, z74, z75, z76, z77, z78, z79, z7a, z7b, z7c, z7d, z7e, z7f, z7g, z7h, z7i, z7j, z7k, z7l, z7m, z7n, z7o, z7p, z7q, z7r, z7s, z7t, z7u, z7v, z7w, z7x, z7y, z7z, z80, z81, z82, z83, z84, z85, z86, z87, z88, z89, z8a, z8b, z8c, z8d, z8e, z8f, z8g, z8h, z8i, z8j, z8k, z8l, z8m, z8n, z8o, z8p, z8q, z8r, z8s, z8t, z8u, z8v, z8w, z8x, z8y, z8z, z90, z91, z92, z93, z94, z95, z96, z97, z98, z99, z9a, z9b, z9c, z9d, z9e, z9f, z9g, z9h, z9i, z9j, z9k, z9l, z9m, z9n, z9o, z9p, z9q, z9r, z9s, z9t, z9u, z9v, z9w, z9x, z9y, z9z, za0, za1, za2, za3, za4, za5, za6, za7, za8, za9, zaa, zab, zac, zad, zae, zaf, zag, zah, zai, zaj, zak, zal, zam, zan, zao, zap, zaq, zar, zas, zat, zau, zav, zaw, zax, zay, zaz, zb0, zb1, zb2, zb3, zb4, zb5, zb6, zb7, zb8, c_slices_Clone_Member_R0.eq_1, c_slices_Clone_Member_R1.eq_1, c_slices_Clone_Member_R2.eq_1, c_slices_Clone_Member_R3.eq_1, c_slices_Clone_Member.eq_1, hb])
theorem ext_slices_Clone_Member (G : Nat → Option (List AV)) : ∀ args h v h', extClone 2 args h = some (v, h') → KeepK h h' ∧ (∃ fn, (Try.prog).funcs[79]? = some fn ∧ fn.name ≠ "runtime.NumGoroutine" ∧ fn.body.isSome = true) ∧
    ∀ (ρ : Rho) (w : World) (S O : Nat → Prop) (xs : List Value), Heap ρ w S O h → (∀ g cs, G g = some cs → RepV ρ w S O (.dptr cs) (.pointer (some ⟨g, 0, none⟩))) → RepL (RepV ρ w S O) args xs →
      Calls Try.prog 79 xs.toArray w fun e w' => ∃ x, e = .returned x ∧ ResW ρ w S O h v h' x w' := by
  intro args h v h' he
  have K := aR_ok mixFT (oneF_ok G chk_slices_Clone_Member)
  have any := K 79 [.data true 2 [[]] false] [] _ _ (some_slices_Clone_Member G _ _ _ (by simp) (by simp))
  unfold extClone at he
  split at he
  case h_2 => cases he
  rename_i b k' es f
  refine ⟨fun id x hx => by simp at hx, any.1, fun ρ w S O xs H hG hargs => ?_⟩
  split at he
  case isFalse => cases he
  rename_i hc
  cases he
  obtain ⟨rfl, hl⟩ := hc
  cases xs with
  | nil => have := hargs.1; simp at this
  | cons x xs =>
    obtain ⟨hx, hr⟩ := hargs.uncons
    have : xs = [] := List.eq_nil_of_length_eq_zero (by have := hr.1; simpa using this.symm)
    subst this
    cases es with
    | nil =>
      obtain ⟨a, cap, rfl, _⟩ := rv_data hx
      cases a with
      | none => exact ext_empty H (nil_slices_Clone_Member cap w) (.inl rfl) ⟨_, rfl⟩
      | some ad => exact ext_empty H (emp_slices_Clone_Member ad cap w) (.inr ⟨_, _, rfl⟩) ⟨_, rfl⟩
    | cons e es => exact (K 79 _ [] _ _ (some_slices_Clone_Member G (e :: es) b f hl (by simp))).2 ρ w S O [x] H hG hargs

set_option maxRecDepth 100000 in
set_option maxHeartbeats 400000 in
theorem nil_bytes_Clone (cap : Nat) (w : World) :
    Calls Try.prog 83 #[.slice none 0 cap] w fun e w' => e = .returned (.slice none 0 0) ∧ w' = w := by
  have h1 := nil_eq (P := Try.prog) (t := 23) (e := 5) (by kernel_rfl) cap 0
  go_enter Try.func83, Try.ntmps83
  go_wp2
  all_goals (go_ret; exact ⟨rfl, rfl⟩)
set_option maxRecDepth 100000 in
set_option maxHeartbeats 400000 in
theorem emp_bytes_Clone (ad : Addr) (cap : Nat) (w : World) :
    Calls Try.prog 83 #[.slice (some ad) 0 cap] w fun e w' => e = .returned (.slice (some ⟨w.heap.size, 0, none⟩) 0 0) ∧ w' = w.alloc (.cells #[] 5) := by
  have h1 := nil_ne (P := Try.prog) (t := 23) (e := 5) (by kernel_rfl) ad 0 cap 0
  go_enter Try.func83, Try.ntmps83
  go_wp2
  all_goals (go_ret; exact ⟨rfl, rfl⟩)
theorem some_bytes_Clone (G : Nat → Option (List AV)) (l : List (List AV)) (b f : Bool) (hl : l.length ≤ 1000000) (hne : l ≠ []) : aR G (oneF 83 c_bytes_Clone) 83 [.data b 1 l f] [] = some (.own 0 1 0 l.length l.length, [⟨1, 1, true, l⟩]) := by
  cases l with
  | nil => exact absurd rfl hne
  | cons x l =>
    have hb : l.length + 1 ≤ 140737488355328 := by simp at hl; omega
    rw [y_fn G (oneF 83 c_bytes_Clone) (fn := c_bytes_Clone) rfl]
    (sym => simp [z00, z01, z02, z03, z04, z05, z06, z07, z08, z09, z0a, z0b, z0c, z0d, z0e, z0f, z0g, z0h, z0i, z0j, z0k, z0l, z0m, z0n, z0o, z0p, z0q, z0r, z0s, z0t, z0u, z0v, z0w, z0x, z0y, z0z, z10, z11, z12, z13, z14, z15, z16, z17, z18, z19, z1a, z1b, z1c, z1d, z1e, z1f, z1g, z1h, z1i, z1j, z1k, z1l, z1m, z1n, z1o, z1p, z1q, z1r, z1s, z1t, z1u, z1v, z1w, z1x, z1y, z1z, z20, z21, z22, z23, z24, z25, z26, z27, z28, z29, z2a, z2b, z2c, z2d, z2e, z2f, z2g, z2h, z2i, z2j, z2k, z2l, z2m, z2n, z2o, z2p, z2q, z2r, z2s, z2t, z2u, z2v, z2w, z2x, z2y, z2z, z30, z31, z32, z33, z34, z35, z36, z37, z38, z39, z3a, z3b, z3c, z3d, z3e, z3f, z3g, z3h, z3i, z3j, z3k, z3l, z3m, z3n, z3o, z3p, z3q, z3r, z3s, z3t, z3u, z3v, z3w, z3x, z3y, z3z, z40, z41, z42, z43, z44, z45, z46, z47, z48, z49, z4a, z4b, z4c, z4d, z4e, z4f, z4g, z4h, z4i, z4j, z4k, z4l, z4m, z4n, z4o, z4p, z4q, z4r, z4s, z4t, z4u, z4v, z4w, z4x, z4y, z4z, z50, z51, z52, z53, z54, z55, z56, z57, z58, z59, z5a, z5b, z5c, z5d, z5e, z5f, z5g, z5h, z5i, z5j, z5k, z5l, z5m, z5n, z5o, z5p, z5q, z5r, z5s, z5t, z5u, z5v, z5w, z5x, z5y, z5z, z60, z61, z62, z63, z64, z65, z66, z67, z68, z69, z6a, z6b, z6c, z6d, z6e, z6f, z6g, z6h, z6i, z6j, z6k, z6l, z6m, z6n, z6o, z6p, z6q, z6r, z6s, z6t, z6u, z6v, z6w, z6x, z6y, z6z, z70, z71, z72, z73, z74, z75, z76, z77, z78, z79, z7a, z7b, z7c, z7d, z7e, z7f, z7g, z7h, z7i, z7j, z7k, z7l, z7m, z7n, z7o, z7p, z7q, z7r, z7s, z7t, z7u, z7v, z7w, z7x, z7y, z7z, z80, z81, z82, z83, z84, z85, z86, z87, z88, z89, z8a, z8b, z8c, z8d, z8e, z8f, z8g, z8h, z8i, z8j, z8k, z8l, z8m, z8n, z8o, z8p, z8q, z8r, z8s, z8t, z8u, z8v, z8w, z8x, z8y, z8z, z90, z91, z92, z93, z94, z95, z96, z97, z98, z99, z9a, z9b, z9c, z9d, z9e, z9f, z9g, z9h, z9i, z9j, z9k, z9l, z9m, z9n, z9o, z9p, z9q, z9r, z9s, z9t, z9u, z9v, z9w, z9x, z9y, z9z, za0, za1, za2, za3, za4, za5, za6, za7, za8, za9, zaa, zab, zac, zad, zae, zaf, zag, zah, zai, zaj, zak, zal, zam, zan, zao, zap, zaq, zar, zas, zat, zau, zav, zaw, zax, zay, zaz, zb0, zb1, zb2, zb3, zb4, zb5, zb6, zb7, zb8, c_bytes_Clone_R0.eq_1, c_bytes_Clone_R1.eq_1, c_bytes_Clone_R2.eq_1, c_bytes_Clone_R3.eq_1, c_bytes_Clone.eq_1, hb])
theorem ext_bytes_Clone (G : Nat → Option (List AV)) : ∀ args h v h', extClone 1 args h = some (v, h') → KeepK h h' ∧ (∃ fn, (Try.prog).funcs[83]? = some fn ∧ fn.name ≠ "runtime.NumGoroutine" ∧ fn.body.isSome = true) ∧
    ∀ (ρ : Rho) (w : World) (S O : Nat → Prop) (xs : List Value), Heap ρ w S O h → (∀ g cs, G g = some cs → RepV ρ w S O (.dptr cs) (.pointer (some ⟨g, 0, none⟩))) → RepL (RepV ρ w S O) args xs →
      Calls Try.prog 83 xs.toArray w fun e w' => ∃ x, e = .returned x ∧ ResW ρ w S O h v h' x w' := by
  intro args h v h' he
  have K := aR_ok mixFT (oneF_ok G chk_bytes_Clone)
  have any := K 83 [.data true 1 [[]] false] [] _ _ (some_bytes_Clone G _ _ _ (by simp) (by simp))
  unfold extClone at he
  split at he
  case h_2 => cases he
  rename_i b k' es f
  refine ⟨fun id x hx => by simp at hx, any.1, fun ρ w S O xs H hG hargs => ?_⟩
  split at he
  case isFalse => cases he
  rename_i hc
  cases he
  obtain ⟨rfl, hl⟩ := hc
  cases xs with
  | nil => have := hargs.1; simp at this
  | cons x xs =>
    obtain ⟨hx, hr⟩ := hargs.uncons
    have : xs = [] := List.eq_nil_of_length_eq_zero (by have := hr.1; simpa using this.symm)
    subst this
    cases es with
    | nil =>
      obtain ⟨a, cap, rfl, _⟩ := rv_data hx
      cases a with
      | none => exact ext_empty H (nil_bytes_Clone cap w) (.inl rfl) ⟨_, rfl⟩
      | some ad => exact ext_empty H (emp_bytes_Clone ad cap w) (.inr ⟨_, _, rfl⟩) ⟨_, rfl⟩
    | cons e es => exact (K 83 _ [] _ _ (some_bytes_Clone G (e :: es) b f hl (by simp))).2 ρ w S O [x] H hG hargs
end Go.Proofs.Ytfnonledcniojaa
