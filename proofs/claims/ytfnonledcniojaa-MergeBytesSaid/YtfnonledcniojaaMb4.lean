/- MergeBytes: the law as far as the turns. Conditions: as the statements say. -/
import Derived.Test.YtfnonledcniojaaMb3
import Derived.Test.YtfnonledcniojaaMb1
import Derived.Test.YtfnonledcniojaaAmRd
import Derived.Test.YtfnonledcniojaaCk
set_option linter.unusedVariables false
set_option linter.unusedSimpArgs false
set_option linter.unusedSectionVars false
namespace Go.Proofs.Ytfnonledcniojaa
open Go Go.RowKit
/-- A part of a function's code, by the machine. -/
theorem part {P : Program} {G : Nat → Option (List AV)} {F : Nat → Option AEnt} (hm : P.follows .mixedOrders = true) (hE : EntOk P G F) {D0 : List Deferred × Nat} {ρ0 : Rho} {w0 w : World} {S O0 : Nat → Prop} {N base : Nat} {c : Code} {ac : ACode} {st : ASt} {r : AEx × ASt} {Q : Exit → Act → World → Prop} {a : Act}
    (hr : aE G F base ac st = some r) (hc : chkCode P N c ac = true) (k : GoodS D0 G ρ0 w0 S O0 base N st a w) (hQ : ∀ a' w', GoodS D0 G ρ0 w0 S O0 base N r.2 a' w' → Q (exitOf r.1) a' w') : c.wp P Q a w := by
  obtain ⟨n, hn⟩ := (aE_some G F).1 hr
  exact (code_ok hm hE n).1 N base c ac st r hn hc D0 ρ0 w0 S O0 Q a w k hQ
def tailC : Nat → Code → Code
  | 0, c => c
  | n + 1, .seq _ b => tailC n b
  | _, c => c
noncomputable def mbBody : Code := (Try.f4.body).getD .skip
/-- The frame and the world ahead of the turns. -/
abbrev MbAt (G : Nat → Option (List AV)) (q : List Pc) (f : Bool) (left : Int) (w : World) (a' : Act) (w' : World) : Prop :=
  ∃ i : Int, GoodS ([], 106) G (fun _ => none) w (fun _ => False) (fun _ => False) 0 106 ⟨[(0, .data false 3 (pcs q) f), (3, .ptr 0 0 0 0), (4, .ptr 1 0 0 0), (5, .fn (.func n_merge_Bytes_1) [] [.ptr 2 0 0 0]), (6, .ptr 3 0 0 0), (7, .ptr 4 0 0 0), (8, .int .i64 i), (29, .bool false)], hpB left q f (if mayQ 0 q = true then pairs q else [])⟩ a' w'
set_option maxRecDepth 100000 in
set_option maxHeartbeats 1000000 in
theorem mb_pre (G : Nat → Option (List AV)) (q : List Pc) (f : Bool) (left : Int) (w : World) (x y : Value) (hG : ∀ g cs, G g = some cs → RepV (fun _ => none) w (fun _ => False) (fun _ => False) (.dptr cs) (.pointer (some ⟨g, 0, none⟩)))
    (hargs : RepL (RepV (fun _ => none) w (fun _ => False) (fun _ => False)) [.data false 3 (pcs q) f, .int .i64 left] [x, y])
    (hT : greatQ q = false → ∀ a' w', MbAt G q f left w a' w' → (tailC 8 mbBody).wpIn Fence.wide 5 Try.prog (bodyPostM Fence.wide 5 Try.prog Try.f4 fun e w' => e = .returned (.bool true) ∧ Below w.heap.size w w') a' w') :
    Calls Try.prog 4 #[x, y] w fun e w' => e = .returned (.bool true) ∧ Below w.heap.size w w' := by
  refine (callsIn_wide (n := 5)).1 ?_
  refine callsIn_of_wp_marks Try.func4 rfl trivial ?_ rfl
  refine wpIn_wide.2 ?_
  have hE := entFT G
  have hn : Try.f4.ntmps = 106 := Try.ntmps4
  rw [hn]
  have hsz : (#[x, y] ++ Array.replicate (106 - #[x, y].size) undef : Array Value).size = 106 := by simp
  have t0 : (#[x, y] ++ Array.replicate (106 - #[x, y].size) undef : Array Value)[0]? = some x := by simp [Array.getElem?_append]
  have t1 : (#[x, y] ++ Array.replicate (106 - #[x, y].size) undef : Array Value)[1]? = some y := by simp [Array.getElem?_append]
  generalize (#[x, y] ++ Array.replicate (106 - #[x, y].size) undef : Array Value) = tm at hsz t0 t1
  have k0 : GoodS ([], 106) G (fun _ => none) w (fun _ => False) (fun _ => False) 0 106 ⟨[(0, .data false 3 (pcs q) f), (1, .int .i64 left)], []⟩ { tmps := tm, defers := [] } w := by
    refine ⟨fun _ => none, fun _ => False, (AdvW.refl w _).x, fun id hid => absurd hid (Nat.not_lt_zero _), fun id hid => absurd hid (Nat.not_lt_zero _), ⟨fun id g pl h => (nomatch h), fun id id' g g' p p' h => (nomatch h), fun b hb => hb.elim False.elim False.elim, fun _ hb => hb.elim⟩, ⟨fun s v hs => ?_, hG⟩, by rw [hsz]; exact Nat.le_refl _, ⟨rfl, hsz⟩, Nat.le_refl _⟩
    have h0 := hargs.2 0 _ _ rfl rfl
    have h1 := hargs.2 1 _ _ rfl rfl
    simp only [look] at hs
    split at hs
    · rename_i e; cases hs; subst e; exact ⟨x, t0, h0⟩
    split at hs
    · rename_i e; cases hs; subst e; exact ⟨y, t1, h1⟩
    · cases hs
  refine wp_seq (part mixFT hE (mb_r0 G q f left) (by kernel_rfl) k0 fun a1 w1 k1 => ?_)
  refine wp_seq (part mixFT hE (mb_r1 G q f left) (by kernel_rfl) k1 fun a2 w2 k2 => ?_)
  cases hg : greatQ q with
  | true =>
    refine wp_seq (part mixFT hE (mb_r2t G q f left hg) (by kernel_rfl) k2 fun a3 w3 k3 => ?_)
    obtain ⟨ρ, O, k⟩ := k3
    obtain ⟨v, hv, hrv⟩ := results_ok (fn := Try.f4) (res := [.cell 4 false 1]) (v := .bool true) k.heap k.rel (by kernel_rfl) rfl
    have := rv_bool hrv
    subst this
    have hd : a3.defers = [] := k.def0.1
    have A := k.adv
    show LeavesInM Fence.wide 5 _ _ a3.tmps _ a3.defers .returning w3
    rw [hd]
    exact ⟨_, hv, rfl, ⟨A.os, A.tape, A.output, A.size, fun b hb => A.same b hb (fun h => h)⟩⟩
  | false =>
    refine wp_seq (part mixFT hE (mb_r2f G q f left hg) (by kernel_rfl) k2 fun a3 w3 k3 => ?_)
    refine wp_seq (part mixFT hE (mb_r3 G q f left) (by kernel_rfl) k3 fun a4 w4 k4 => ?_)
    refine wp_seq (part mixFT hE (mb_r4 G q f left) (by kernel_rfl) k4 fun a5 w5 k5 => ?_)
    refine wp_seq (part mixFT hE (mb_r5 G q f left) (by kernel_rfl) k5 fun a6 w6 k6 => ?_)
    refine wp_seq (part mixFT hE (mb_r6 G q f left) (by kernel_rfl) k6 fun a7 w7 k7 => ?_)
    obtain ⟨i, h7⟩ := mb_r7 G q f left hg
    refine wp_seq (part mixFT hE h7 (by kernel_rfl) k7 fun a8 w8 k8 => ?_)
    exact wpIn_wide.1 (hT hg a8 w8 ⟨i, k8⟩)
end Go.Proofs.Ytfnonledcniojaa
