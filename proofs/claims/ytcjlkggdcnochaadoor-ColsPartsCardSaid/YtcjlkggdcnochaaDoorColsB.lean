/- Walks of sort.Search and cols.Of. Conditions: the table lies as laid. -/
import Derived.Test.YtcjlkggdcnochaaDoorColsA
import Derived.WalkSmall
import Derived.Shelf.Abstract
namespace Go.Proofs.YtcjlkggdcnochaaDoor
open Go.RowKit
theorem below_drewN' (w : World) (n : Nat) : Below w.heap.size w (w.drewN n) := ⟨rfl, rfl, rfl, Nat.le_refl _, fun _ _ => rfl⟩

/-- what a search leaves -/
def Found (n : Nat) (p : Nat → Bool) (w : World) (e : Ending) (w' : World) : Prop := ∃ r : Nat, e = .returned (.int .i64 r) ∧ r ≤ n ∧ (r = 0 ∨ p (r - 1) = false) ∧ (r = n ∨ p r = true) ∧ Below w.heap.size w w'

set_option maxHeartbeats 1000000 in
theorem search_any (n : Nat) (hn : n ≤ 1000000) (g : Nat) (cap : Array Value) (p : Nat → Bool) (w : World) (heg : ∀ args W, (callFunc g args).run Tryd.prog W = .ok (.enter g args) W)
    (hf : ∀ (h : Nat) (W : World), h < n → Below w.heap.size w W → Calls Tryd.prog g (#[.int .i64 h] ++ cap) W fun e w' => e = .returned (.bool (p h)) ∧ Below W.heap.size W w') :
    Calls Tryd.prog 16 #[.int .i64 n, .func (.func g) #[] cap] w (Found n p w) := by
  have HF := Lib.hid hf
  clear hf
  go_enter Tryd.func16, Tryd.ntmps16
  go_wp2_with fail
  go_loopw [5, 6] (fun i j wr => ∃ a b : Nat, a ≤ b ∧ b ≤ n ∧ i = .int .i64 a ∧ j = .int .i64 b ∧ (a = 0 ∨ p (a - 1) = false) ∧ (b = n ∨ p b = true) ∧ Below w.heap.size w wr) (fun i j _ => (intOf j).toNat - (intOf i).toNat)
  case atStart => exact ⟨0, n, by omega, by omega, rfl, rfl, .inl rfl, .inl rfl, Below.refl _ _⟩
  case round =>
    obtain ⟨a, b, hab, hbn, rfl, rfl, hpa, hpb, hb⟩ := hrel
    have HPA := Lib.hid hpa
    have HPB := Lib.hid hpb
    have HB := Lib.hid hb
    clear hpa hpb hb
    by_cases hlt : a < b
    · have hh : ((a + b) / 2 : Nat) < n := by omega
      have e2 : ((a : Int) + (b : Int)) / 2 = ((a + b) / 2 : Nat) := by omega
      have E2 := Lib.hid e2
      clear e2
      go_wp2_with fail
      rw [E2.out]
      refine (HF.out _ _ hh HB.out).mono ?_
      rintro e w1 ⟨rfl, hb1⟩
      have HB1 := Lib.hid (HB.out.trans (hb1.mono HB.out.size))
      clear hb1
      have hm1 : a ≤ (a + b) / 2 := by omega
      have hm2 : (a + b) / 2 < b := by omega
      have hm3 : (a + b) / 2 ≤ 1000000 := by omega
      generalize (a + b) / 2 = m at *
      by_cases hp : p m = true
      · go_wp2_with fail
        go_roundw
        case rel => exact ⟨a, m, by omega, by omega, rfl, rfl, HPA.out, .inr hp, HB1.out⟩
        case measure => simp [intOf]; omega
      · have hp : p m = false := by simpa using hp
        go_wp2_with fail
        go_roundw
        case rel => exact ⟨m + 1, b, by omega, by omega, by go_num, rfl, .inr (by simpa using hp), HPB.out, HB1.out⟩
        case measure => simp [intOf]; omega
    · go_wp2
      go_ret
      exact ⟨a, rfl, by omega, HPA.out, by rcases HPB.out with h | h; exact .inl (by omega); exact .inr (by rwa [show a = b by omega]), HB.out⟩

/-- the table's cells -/
def tabL : List Int := [768, 879, 0, 1155, 1161, 0, 1425, 1469, 0, 1552, 1562, 0, 1611, 1631, 0, 4352, 4447, 2, 6832, 6911, 0, 7616, 7679, 0, 8203, 8207, 0, 8400, 8447, 0, 11904, 12350, 2, 12353, 42191, 2, 44032, 55203, 2, 63744, 64255, 2, 65024, 65039, 0, 65056, 65071, 0, 65072, 65135, 2, 65280, 65376, 2, 65504, 65510, 2, 127744, 128591, 2, 129280, 129535, 2, 131072, 262141, 2]
/-- the table lies where the program's text lays it -/
def Tab (w : World) : Prop := ∀ j, j < 66 → w.cell? ⟨0, j, none⟩ = some (.int .i32 (tabL.getD j 0))
theorem Tab.below {w w' : World} (h : Tab w) (hb : Below w.heap.size w w') : Tab w' := fun j hj => by
  have h1 := h j hj
  exact (hb.cell (p := ⟨0, j, none⟩) (block_lt_of_cell h1)).trans h1
def hiB (c : Int) (i : Nat) : Bool := decide (c ≤ tabL.getD (i * 3 + 1) 0)

set_option maxHeartbeats 1000000 in
theorem lit_any (i : Nat) (hi : i < 22) (g : Nat) (c : Int) (w : World) (ht : Tab w) (hc : w.cell? ⟨g, 0, none⟩ = some (.int .i32 c)) :
    Calls Tryd.prog 17 (#[.int .i64 i] ++ #[.pointer (some ⟨g, 0, none⟩)]) w fun e w' => e = .returned (.bool (hiB c i)) ∧ Below w.heap.size w w' := by
  have h1 := ht (i * 3 + 1) (by omega)
  have hr : hiB c i = decide (c ≤ tabL.getD (i * 3 + 1) 0) := rfl
  have HR := Lib.hid hr
  clear hr
  generalize tabL.getD (i * 3 + 1) 0 = v at *
  have hi0 : (i : Int) < 22 := by omega
  clear ht
  go_enter Tryd.func17, Tryd.ntmps17
  go_wp2_with fail
  go_quiet (fail)
  go_wp2_with fail
  go_ret
  exact ⟨ret_bool HR.out.symm, below_drewN' _ _⟩

set_option maxHeartbeats 8000000 in
theorem of_found (c : Int) (r : Nat) (h1 : ¬ (c < 32 ∨ (127 ≤ c ∧ c < 160) ∨ (55296 ≤ c ∧ c ≤ 57343) ∨ 1114111 < c)) (hr : r ≤ 22) (ha : r = 0 ∨ hiB c (r - 1) = false) (hb : r = 22 ∨ hiB c r = true) :
    ofR c = if r < 22 ∧ tabL.getD (r * 3) 0 ≤ c then tabL.getD (r * 3 + 2) 0 else 1 := by
  unfold ofR
  simp only [inB_iff, hiB, decide_eq_true_eq, decide_eq_false_iff_not] at *
  rcases (by omega : r = 0 ∨ r = 1 ∨ r = 2 ∨ r = 3 ∨ r = 4 ∨ r = 5 ∨ r = 6 ∨ r = 7 ∨ r = 8 ∨ r = 9 ∨ r = 10 ∨ r = 11 ∨ r = 12 ∨ r = 13 ∨ r = 14 ∨ r = 15 ∨ r = 16 ∨ r = 17 ∨ r = 18 ∨ r = 19 ∨ r = 20 ∨ r = 21 ∨ r = 22) with rfl | rfl | rfl | rfl | rfl | rfl | rfl | rfl | rfl | rfl | rfl | rfl | rfl | rfl | rfl | rfl | rfl | rfl | rfl | rfl | rfl | rfl | rfl
  all_goals
    simp only [tabL, List.getD_cons_zero, List.getD_cons_succ, Nat.reduceMul, Nat.reduceAdd, Nat.reduceSub] at ha hb ⊢
    rw [eq_comm]
    split
    all_goals
      first | (exfalso; omega) | rw [eq_comm]
      repeat (first | rw [if_neg (by omega)] | rw [if_pos (by omega)])
theorem of_out (c : Int) (h1 : c < 32 ∨ (127 ≤ c ∧ c < 160) ∨ (55296 ≤ c ∧ c ≤ 57343) ∨ 1114111 < c) : ofR c = -1 := by
  unfold ofR
  simp only [inB_iff]
  rw [if_pos (by omega)]

theorem search22 (c : Int) (g : Nat) (W : World) (ht : Tab W) (hc : W.cell? ⟨g, 0, none⟩ = some (.int .i32 c)) :
    Calls Tryd.prog 16 #[.int .i64 22, .func (.func 17) #[] #[.pointer (some ⟨g, 0, none⟩)]] W (Found 22 (hiB c) W) :=
  search_any 22 (by omega) 17 #[.pointer (some ⟨g, 0, none⟩)] (hiB c) W (enters_of Tryd.func17 (by kernel_rfl) rfl)
    (fun h W' hh hb => lit_any h hh g c W' (ht.below hb) ((hb.cell (p := ⟨g, 0, none⟩) (block_lt_of_cell hc)).trans hc))

theorem tab_small : ∀ r, r < 22 → 0 ≤ tabL.getD (r * 3 + 2) 0 ∧ tabL.getD (r * 3 + 2) 0 ≤ 2 := by decide

set_option maxHeartbeats 2000000 in
theorem of_any (c : Int) (w : World) (ht : Tab w) :
    Calls Tryd.prog 9 #[.int .i32 c] w fun e w' => e = .returned (.int .i64 (ofR c)) ∧ Below w.heap.size w w' := by
  have HT := Lib.hid ht
  clear ht
  have hmf : ∀ (fn : Fn) (first cap : Array Value) (w : World), (Instr.makeFunc fn first cap).run Tryd.prog w = .ok (.func fn first cap) w := fun _ _ _ _ => rfl
  by_cases h1 : c < 32 ∨ (127 ≤ c ∧ c < 160) ∨ (55296 ≤ c ∧ c ≤ 57343) ∨ 1114111 < c
  · have HO := Lib.hid (of_out c h1)
    have hcase : c < 32 ∨ (127 ≤ c ∧ c < 160) ∨ (55296 ≤ c ∧ c ≤ 57343) ∨ 1114111 < c := h1
    clear h1
    go_enter Tryd.func9, Tryd.ntmps9
    rcases hcase with h | ⟨h, h'⟩ | ⟨h, h'⟩ | h
    all_goals
      go_wp2_with fail
      all_goals
        go_ret
        exact ⟨ret_int (by rw [HO.out]), (Below.refl _ _).alloc (Nat.le_refl _) _⟩
  · have HF := Lib.hid (of_found c)
    have H1 := Lib.hid h1
    have hb1 : 32 ≤ c := by omega
    have hb2 : ¬ (127 ≤ c ∧ c < 160) := by omega
    have hb4 : c ≤ 1114111 := by omega
    have hcase : (c < 127 ∨ 160 ≤ c) ∧ (c < 55296 ∨ 57343 < c) := by omega
    clear h1 hb2
    go_enter Tryd.func9, Tryd.ntmps9
    rcases hcase with ⟨h | h, h' | h'⟩
    all_goals try
      go_wp2_with fail
    all_goals
      refine (search22 c _ _ (HT.out.below ((Below.refl _ _).alloc (Nat.le_refl _) _)) (by simp)).mono ?_
      rintro e w1 ⟨r, rfl, hr, hra, hrb, hb1⟩
      have HO := Lib.hid (HF.out r H1.out hr hra hrb)
      have hcc : w1.cell? ⟨w.heap.size, 0, none⟩ = some (.int .i32 c) := (hb1.cell (by simp)).trans (by simp)
      have HB1 := Lib.hid (((Below.refl _ _).alloc (Nat.le_refl _) _).trans (hb1.mono (by simp)))
      have HT1 := Lib.hid ((HT.out.below ((Below.refl _ _).alloc (Nat.le_refl _) (.cells #[.int .i32 c] 21))).below hb1)
      clear hra hrb hb1
      by_cases hlt : r < 22
      · have t0 := HT1.out (r * 3) (by omega)
        have t2 := HT1.out (r * 3 + 2) (by omega)
        have hlt' : (r : Int) < 22 := by omega
        obtain ⟨hv1, hv2⟩ := tab_small r hlt
        generalize tabL.getD (r * 3) 0 = lo at *
        generalize tabL.getD (r * 3 + 2) 0 = v at *
        by_cases hlo : lo ≤ c
        · go_wp2_with fail
          go_quiet (fail)
          go_wp2_with fail
          go_ret
          exact ⟨ret_int (by rw [HO.out, if_pos ⟨hlt, hlo⟩]), HB1.out.trans ((below_drewN' _ _).mono HB1.out.size)⟩
        · have hlo' : decide (lo ≤ c) = false := by simpa using hlo
          go_wp2_with fail
          go_quiet (fail)
          go_wp2_with fail
          go_ret
          exact ⟨ret_int (by rw [HO.out, if_neg (by omega)]), HB1.out.trans ((below_drewN' _ _).mono HB1.out.size)⟩
      · obtain rfl : r = 22 := by omega
        go_wp2_with fail
        go_quiet (fail)
        go_wp2_with fail
        go_ret
        exact ⟨ret_int (by rw [HO.out, if_neg (by omega)]), HB1.out.trans ((below_drewN' _ _).mono HB1.out.size)⟩
end Go.Proofs.YtcjlkggdcnochaaDoor
