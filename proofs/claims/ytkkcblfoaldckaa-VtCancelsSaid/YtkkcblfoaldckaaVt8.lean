/- What one code point makes of the parser. Conditions: none. -/
import Derived.Test.YtkkcblfoaldckaaVt7
set_option linter.unusedVariables false
set_option linter.unusedSimpArgs false
set_option linter.unusedSectionVars false
set_option maxRecDepth 20000
set_option maxHeartbeats 4000000
namespace Go.Proofs.Ytkkcblfoaldckaa
open Go
variable (G : Nat → Option (List AV)) (o : ARow) (fl : Bool)
/-- What the parser's step tells, melted, and the state behind it. -/
def OneOk (G : Nat → Option (List AV)) (o : ARow) (h : List ARow) (r : Option (AV × List ARow)) (x : List Act' × VS) : Prop :=
  ∃ v h1 b h2, r = some (v, h1) ∧ amelt h1 v = some (.data false 6 (actG x.1) b, h2) ∧ St o h2 x.2
theorem one_esc (c : Int) (v : Bool) (s : ByteArray) (R : List ARow) (hs : s.size ≤ 2) (hv : v = true → s.size = 2) (h1 : 32 ≤ c) (h2 : ¬ c = 127) (h3 : c < 160) :
    OneOk G o (o :: canonR (.esc v s) fl ++ R) (aR G FT n_vt_Parser_one [.ptr 1 0 0 0, .int .i32 c] (o :: canonR (.esc v s) fl ++ R)) (vtEsc v s c) := by
  have go := fun w hx he => one_go G o fl false false v false 0 s (.data false 1 [] true) (.data false 1 [] true) R n_vt_escape c h1 h2 h3 w hx he
  show OneOk G o (o :: _ :: R) (aR G FT n_vt_Parser_one [.ptr 1 0 0 0, .int .i32 c] (o :: _ :: R)) _
  unfold vtEsc
  by_cases k0 : c < 48
  · rw [if_pos k0]
    by_cases k1 : s.size = 2
    · rw [if_pos k1]
      exact ⟨_, _, _, _, go _ _ (esc_mid2 G o fl R c v s k0 k1), melt_D0 _, _, _, rfl⟩
    · rw [if_neg k1]
      exact ⟨_, _, _, _, go _ _ (esc_mid1 G o fl R c v s k0 h1 k1 hs), melt_D0 _, _, _, rfl⟩
  rw [if_neg k0]
  by_cases z : s.size = 0
  · obtain rfl : s = ⟨#[]⟩ := by
      obtain ⟨d⟩ := s
      obtain ⟨d⟩ := d
      cases d with
      | nil => rfl
      | cons => simp [ByteArray.size] at z
    obtain rfl : v = false := by
      cases v with
      | false => rfl
      | true => have := hv rfl; omega
    by_cases k1 : c = 91
    · rw [if_pos ⟨z, k1⟩]; exact ⟨_, _, _, _, go _ _ (esc_seq G o fl R c false ⟨#[]⟩ k1), melt_D0 _, _, _, rfl⟩
    rw [if_neg (fun h => k1 h.2)]
    by_cases k2 : c = 93
    · rw [if_pos ⟨z, k2⟩]; exact ⟨_, _, _, _, go _ _ (esc_osc G o fl R c false ⟨#[]⟩ k2), melt_D0 _, _, _, rfl⟩
    rw [if_neg (fun h => k2 h.2)]
    by_cases k3 : c = 80
    · rw [if_pos ⟨z, .inl k3⟩]; exact ⟨_, _, _, _, go _ _ (esc_str80 G o fl R c false ⟨#[]⟩ k3), melt_D0 _, _, _, rfl⟩
    by_cases k4 : c = 88
    · rw [if_pos ⟨z, .inr (.inl k4)⟩]; exact ⟨_, _, _, _, go _ _ (esc_str88 G o fl R c false ⟨#[]⟩ k4), melt_D0 _, _, _, rfl⟩
    by_cases k5 : c = 94
    · rw [if_pos ⟨z, .inr (.inr (.inl k5))⟩]; exact ⟨_, _, _, _, go _ _ (esc_str94 G o fl R c false ⟨#[]⟩ k5), melt_D0 _, _, _, rfl⟩
    by_cases k6 : c = 95
    · rw [if_pos ⟨z, .inr (.inr (.inr k6))⟩]; exact ⟨_, _, _, _, go _ _ (esc_str95 G o fl R c false ⟨#[]⟩ k6), melt_D0 _, _, _, rfl⟩
    rw [if_neg (by omega), if_neg (by simp)]
    exact ⟨_, _, _, _, go _ _ (esc_fin0_told G o fl R c false ⟨#[]⟩ k0 k1 k2 k3 k4 k5 k6), melt_end o _ _ _ _, _, _, rfl⟩
  · rw [if_neg (fun h => z h.1), if_neg (fun h => z h.1), if_neg (fun h => z h.1)]
    cases v with
    | true => exact ⟨_, _, _, _, go _ _ (esc_fin_void G o fl R c true s k0 z), melt_D0 _, _, _, rfl⟩
    | false => exact ⟨_, _, _, _, go _ _ (esc_fin_told G o fl R c false s k0 z), melt_end o _ _ _ _, _, _, rfl⟩
theorem one_seq0 (c : Int) (f v : Bool) (m : Int) (s : ByteArray) (hs : s.size ≤ 2) (h1 : 32 ≤ c) (h2 : ¬ c = 127) (h3 : c < 160) :
    OneOk G o (o :: canonR (.seq0 f v m s) fl) (aR G FT n_vt_Parser_one [.ptr 1 0 0 0, .int .i32 c] (o :: canonR (.seq0 f v m s) fl)) (vtSeq0 f v m s c) := by
  have go := fun w hx he => one_go G o fl false f v false m s (.data false 1 [] true) (.data false 1 [] true) [] n_vt_sequence c h1 h2 h3 w hx he
  unfold vtSeq0
  by_cases k0 : c < 48
  · rw [if_pos k0]
    by_cases k1 : s.size = 2
    · rw [if_pos k1]
      exact ⟨_, _, _, _, go _ _ (seq0_mid2 G o fl f v m s c k0 k1), melt_D0 _, _, _, rfl⟩
    · rw [if_neg k1]
      exact ⟨_, _, _, _, go _ _ (seq0_mid1 G o fl f v m s c k0 h1 k1 hs), melt_D0 _, _, _, rfl⟩
  rw [if_neg k0]
  by_cases k1 : 60 ≤ c ∧ c < 64
  · cases f with
    | true => rw [if_pos ⟨k1.1, k1.2, rfl⟩]; exact ⟨_, _, _, _, go _ _ (seq0_mark G o fl v m s c k1.1 k1.2), melt_D0 _, _, _, rfl⟩
    | false => rw [if_neg (by simp), if_pos (.inr (.inl k1))]; exact ⟨_, _, _, _, go _ _ (seq0_bad60 G o fl v m s c k1.1 k1.2), melt_D0 _, _, _, rfl⟩
  rw [if_neg (fun h => k1 ⟨h.1, h.2.1⟩)]
  by_cases k2 : c = 58
  · rw [if_pos (.inl k2)]; exact ⟨_, _, _, _, go _ _ (seq0_bad58 G o fl f v m s c k2), melt_D0 _, _, _, rfl⟩
  by_cases k3 : c < 64
  · by_cases z : s.size = 0
    · rw [if_neg (by omega), if_pos k3]
      obtain rfl : s = ⟨#[]⟩ := by
        obtain ⟨d⟩ := s
        obtain ⟨d⟩ := d
        cases d with
        | nil => rfl
        | cons => simp [ByteArray.size] at z
      by_cases k4 : c = 59
      · rw [if_pos k4]; exact ⟨_, _, _, _, go _ _ (seq0_sep G o fl f v m c k4), melt_D0 _, _, _, _, rfl, by omega, rfl⟩
      · rw [if_neg k4]; exact ⟨_, _, _, _, go _ _ (seq0_dig G o fl f v m c (by omega) (by omega)), melt_D0 _, _, _, _, rfl, by omega, rfl⟩
    · rw [if_pos (.inr (.inr ⟨k3, z⟩))]; exact ⟨_, _, _, _, go _ _ (seq0_bads G o fl f v m s c (by omega) (by omega) z), melt_D0 _, _, _, rfl⟩
  · rw [if_neg (by omega), if_neg k3]
    cases v with
    | true => exact ⟨_, _, _, _, go _ _ (seq0_fin_void G o fl f m s c (by omega)), melt_D0 _, _, _, rfl⟩
    | false => exact ⟨_, _, _, _, go _ _ (seq0_fin_told G o fl f m s c (by omega)), melt_end o _ _ [] _, _, _, rfl⟩
end Go.Proofs.Ytkkcblfoaldckaa
