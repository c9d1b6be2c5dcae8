/- Entries told outright: slices.Clone, bytes.Clone. Of nothing: by hand; of something: by the small machine. Conditions: none. -/
import Derived.Test.YtfnonledcniojaaCj
import Derived.Test.YtfnonledcniojaaM3
import Derived.Test.YtfnonledcniojaaChecked
import Derived.WalkKit
import Derived.WalkSpells
import Derived.WalkLawsBesides
import Derived.Deep.QuietTactic
import Derived.BigQuiet
import Derived.Lib.Hide
set_option linter.unusedVariables false
set_option linter.unusedSimpArgs false
set_option linter.unusedSectionVars false
namespace Go.Proofs.Ytfnonledcniojaa
open Go Go.RowKit
variable [FrB]
theorem nil_eq0 {P : Program} (d : Nat) {t e : TypeId} (hu : P.underlying t = some (.slice e)) (c c' : Nat) (w : World) : (Op.equalIn (d + 1) t (.slice none 0 c) (.slice none 0 c')).run P w = .ok true w := by simp [Op.equalIn, run_underlying hu]
theorem nil_eq {P : Program} {t e : TypeId} (hu : P.underlying t = some (.slice e)) (c c' : Nat) (w : World) : (binOp .eql t (.slice none 0 c) (.slice none 0 c')).run P w = .ok (.bool true) w := by
  have : (Op.equal t (.slice none 0 c) (.slice none 0 c')).run P w = .ok true w := nil_eq0 9999 hu c c' w
  rw [binOp_eql (.inr (.inr (.inr ⟨_, _, _, rfl⟩))), Sem.run_bind, this]
  simp
theorem nil_ne {P : Program} {t e : TypeId} (hu : P.underlying t = some (.slice e)) (ad : Addr) (l c c' : Nat) (w : World) : (binOp .eql t (.slice (some ad) l c) (.slice none 0 c')).run P w = .ok (.bool false) w := by
  have : (Op.equal t (.slice (some ad) l c) (.slice none 0 c')).run P w = .ok false w := eqn7 9999 w hu _ _ _ _ _
  rw [binOp_eql (.inr (.inr (.inr ⟨_, _, _, rfl⟩))), Sem.run_bind, this]
  simp
theorem oneF_ok {P : Program} (G : Nat → Option (List AV)) {n : Nat} {a : AFn} (hc : chkFn P n a = true) : EntOk P G (oneF n a) := by
  intro f ent hf
  unfold oneF at hf
  split at hf
  · rename_i e; cases hf; subst e; exact hc
  · cases hf
/-- An entry that makes an empty slice. -/
theorem ext_empty {P : Program} {f k : Nat} {xs : Array Value} {w : World} {ρ : Rho} {S O : Nat → Prop} (H : Heap ρ w S O []) {v : Value} {w1 : World} (hc : Calls P f xs w fun e w' => e = .returned v ∧ w' = w1)
    (hw : w1 = w ∨ ∃ arr ty, w1 = w.alloc (.cells arr ty)) (hv : ∃ a, v = .slice a 0 0) : Calls P f xs w fun e w' => ∃ x, e = .returned x ∧ ResW ρ w S O [] (.own 0 1 0 0 0) [⟨k, 1, true, []⟩] x w' := by
  obtain ⟨a, rfl⟩ := hv
  refine Calls.mono hc fun e w' h => ?_
  obtain ⟨rfl, rfl⟩ := h
  have hA : AdvW w O w' O := by
    rcases hw with rfl | ⟨arr, ty, rfl⟩
    · exact .refl _ O
    · exact .alloc' w O _
  have H2 : Heap ρ w' S O [] := ⟨fun id g pl hid => by obtain ⟨r, hr, _⟩ := H.row id g pl hid; simp at hr, H.inj, fun b hb => Nat.lt_of_lt_of_le (H.bd b hb) hA.size, H.dis⟩
  exact ⟨_, rfl, upd ρ 0 (1, none), O, hA.x, ext_upd ρ _ (H.none_ge (Nat.le_refl _)), H2.virtual ⟨k, 1, true, []⟩ rfl, .own _ 1 1 none 0 0 0 a 0 (upd_same ρ _ _) (Nat.le_refl _) (Nat.le_refl _) (Nat.le_refl _) (fun h => by omega) (fun _ => .inl rfl), fun id h => by simp at h⟩

set_option maxRecDepth 100000 in
set_option maxHeartbeats 400000 in
theorem nil_bytes_Clone (cap : Nat) (w : World) :
    Calls Try.prog 83 #[.slice none 0 cap] w fun e w' => e = .returned (.slice none 0 0) ∧ w' = w := by
  have h1 := nil_eq (P := Try.prog) (t := 23) (e := 5) (by kernel_rfl) cap 0
  go_enter Try.func83, Try.ntmps83
  go_wp2
  all_goals (go_ret; exact ⟨rfl, rfl⟩)
set_option maxRecDepth 100000 in
set_option maxHeartbeats 400000 in
theorem emp_bytes_Clone (ad : Addr) (cap : Nat) (w : World) :
    Calls Try.prog 83 #[.slice (some ad) 0 cap] w fun e w' => e = .returned (.slice (some ⟨w.heap.size, 0, none⟩) 0 0) ∧ w' = w.alloc (.cells #[] 5) := by
  have h1 := nil_ne (P := Try.prog) (t := 23) (e := 5) (by kernel_rfl) ad 0 cap 0
  go_enter Try.func83, Try.ntmps83
  go_wp2
  all_goals (go_ret; exact ⟨rfl, rfl⟩)
theorem some_bytes_Clone (G : Nat → Option (List AV)) (l : List (List AV)) (b f : Bool) (hl : l.length ≤ 1000000) (hne : l ≠ []) (hp : (!b || plainLL l) = true) : aR G (oneF 83 c_bytes_Clone) 83 [.data b 1 l f] [] = some (.own 0 1 0 l.length l.length, [⟨1, 1, true, l⟩]) := by
  cases l with
  | nil => exact absurd rfl hne
  | cons x l =>
    have hb : l.length + 1 ≤ 140737488355328 := by simp at hl; omega
    rw [y_fn G (oneF 83 c_bytes_Clone) (fn := c_bytes_Clone) rfl]
    cases b with
    | false => (sym => simp [Qb,Qc,Qd,Qe,Qi,Qj,Qr,Qt,Qz,Q2,Xc,X0,Y1,Y3,Y5,Y7,Y9,Za,Zb,Zc,Ze,Zg,Zh,Zi,Zj,Zk,Zl,Zm,Zn,Zr,Zs,Zt,Zu,Zv,Zw,Z3,Jh,Jj,Jk,Jr,Jv,Jx,Ku,Kv,Kx,Ua,Uc,Hh,Hk,Hq,Ht,Hv,H2,H8,Nc,Ne,Nl,No,Ns,Nt,Nw,Nx,Nz,N2,Be,Bg,Mn,q0R0.eq_1,q0R1.eq_1,q0R2.eq_1,q0R3.eq_1,c_bytes_Clone.eq_1,hb])
    | true =>
      have hq : plainL x = true ∧ plainLL l = true := by simpa [plainLL_cons] using hp
      have hq1 := hq.1
      have hq2 := hq.2
      (sym => simp [Qb,Qc,Qd,Qe,Qi,Qj,Qr,Qt,Qz,Q2,Xc,X0,Y1,Y3,Y5,Y7,Y9,Za,Zb,Zc,Ze,Zg,Zh,Zi,Zj,Zk,Zl,Zm,Zn,Zr,Zs,Zt,Zu,Zv,Zw,Z3,Jh,Jj,Jk,Jr,Jv,Jx,Ku,Kv,Kx,Ua,Uc,Hh,Hk,Hq,Ht,Hv,H2,H8,Nc,Ne,Nl,No,Ns,Nt,Nw,Nx,Nz,N2,Be,Bg,Mn,q0R0.eq_1,q0R1.eq_1,q0R2.eq_1,q0R3.eq_1,c_bytes_Clone.eq_1,hb,hq1,hq2])
theorem ext_bytes_Clone (G : Nat → Option (List AV)) : ∀ args h v h', extClone 1 args h = some (v, h') → KeepK h h' ∧ (∃ fn, (Try.prog).funcs[83]? = some fn ∧ fn.name ≠ "runtime.NumGoroutine" ∧ fn.body.isSome = true) ∧
    ∀ (ρ : Rho) (w : World) (S O : Nat → Prop) (xs : List Value), Heap ρ w S O h → (∀ g cs, G g = some cs → RepV ρ w S O (.dptr cs) (.pointer (some ⟨g, 0, none⟩))) → RepL (RepV ρ w S O) args xs →
      Calls Try.prog 83 xs.toArray w fun e w' => ∃ x, e = .returned x ∧ ResW ρ w S O h v h' x w' := by
  intro args h v h' he
  have K := aR_ok mixFT (oneF_ok G chk_bytes_Clone)
  have any := K 83 [.data true 1 [[]] false] [] _ _ (some_bytes_Clone G _ _ _ (by simp) (by simp) rfl)
  unfold extClone at he
  split at he
  case h_2 => cases he
  rename_i b k' es f
  refine ⟨fun id x hx => by simp at hx, any.1, fun ρ w S O xs H hG hargs => ?_⟩
  split at he
  case isFalse => cases he
  rename_i hc
  cases he
  obtain ⟨rfl, hl, hp⟩ := hc
  cases xs with
  | nil => have := hargs.1; simp at this
  | cons x xs =>
    obtain ⟨hx, hr⟩ := hargs.uncons
    have : xs = [] := List.eq_nil_of_length_eq_zero (by have := hr.1; simpa using this.symm)
    subst this
    cases es with
    | nil =>
      obtain ⟨a, cap, rfl, _⟩ := rv_data hx
      cases a with
      | none => exact ext_empty H (nil_bytes_Clone cap w) (.inl rfl) ⟨_, rfl⟩
      | some ad => exact ext_empty H (emp_bytes_Clone ad cap w) (.inr ⟨_, _, rfl⟩) ⟨_, rfl⟩
    | cons e es => exact (K 83 _ [] _ _ (some_bytes_Clone G (e :: es) b f hl (by simp) hp)).2 ρ w S O [x] H hG hargs
end Go.Proofs.Ytfnonledcniojaa
