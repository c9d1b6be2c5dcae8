/- What Put tells and makes of the parser, from any state. Conditions: none. -/
import Derived.Test.YtkkcblfoaldckaaVtA
set_option linter.unusedVariables false
set_option linter.unusedSimpArgs false
set_option linter.unusedSectionVars false
set_option maxRecDepth 20000
set_option maxHeartbeats 4000000
namespace Go.Proofs.Ytkkcblfoaldckaa
open Go
variable (G : Nat → Option (List AV)) (o : ARow) (fl : Bool)
def vtPut (s : VS) (c : Int) : List Act' × VS :=
  if 128 ≤ pointT c ∧ pointT c < 160 then (vtEnd s ++ (vtEsc false ⟨#[]⟩ (pointT c - 64)).1, (vtEsc false ⟨#[]⟩ (pointT c - 64)).2) else vtOne s (pointT c)
/-- The states stay such as may be. -/
theorem esc_ok2 (v : Bool) (s : ByteArray) (c : Int) (ok : vtOk2 (.esc v s)) (h1 : 32 ≤ c) : vtOk2 (vtEsc v s c).2 := by
  obtain ⟨hs, hv⟩ := ok
  unfold vtEsc
  split
  · rename_i k
    simp only
    split
    · rename_i e; exact ⟨by omega, fun _ => e⟩
    · rename_i e
      exact ⟨by rw [ByteArray.size_append, utf1 h1 k]; omega, fun h => absurd (hv h) e⟩
  split
  · show (0 : Nat) ≤ 2; omega
  split
  · trivial
  split
  · trivial
  · trivial
theorem seq0_ok2 (f v : Bool) (m : Int) (s : ByteArray) (c : Int) (hs : s.size ≤ 2) (h1 : 32 ≤ c) : vtOk2 (vtSeq0 f v m s c).2 := by
  unfold vtSeq0
  split
  · rename_i k
    simp only
    split
    · exact hs
    · show (s ++ Utf8.encode c).size ≤ 2
      rw [ByteArray.size_append, utf1 h1 k]; omega
  split
  · exact hs
  split
  · exact hs
  split
  · simp only
    split
    · exact ⟨hs, by simp, by simp, by omega, by omega⟩
    · exact ⟨hs, by simp, by simp, by omega, by omega⟩
  · trivial
theorem seq1_ok2 (v : Bool) (m : Int) (s : ByteArray) (q : List Int) (x : Int) (c : Int) (ok : vtOk2 (.seq1 v m s q x)) (h1 : 32 ≤ c) : vtOk2 (vtSeq1 v m s q x c).2 := by
  obtain ⟨hs, hq, hqs, hx, hx2⟩ := ok
  unfold vtSeq1
  split
  · rename_i k
    simp only
    split
    · exact ⟨hs, hq, hqs, hx, hx2⟩
    · exact ⟨by rw [ByteArray.size_append, utf1 h1 k]; omega, hq, hqs, hx, hx2⟩
  split
  · exact ⟨hs, hq, hqs, hx, hx2⟩
  split
  · simp only
    split
    · split
      · refine ⟨hs, by simp; omega, fun y hy => ?_, by omega, by omega⟩
        rcases List.mem_append.1 hy with h | h
        · exact hqs y h
        · simp at h; subst h; exact ⟨hx, hx2⟩
      · exact ⟨hs, hq, hqs, hx, hx2⟩
    · exact ⟨hs, hq, hqs, by omega, by omega⟩
  · trivial
theorem one_ok2 (s : VS) (ok : vtOk2 s) (c : Int) : vtOk2 (vtOne s c).2 := by
  have e0 : vtOk2 (.esc false ⟨#[]⟩) := ⟨by show (0 : Nat) ≤ 2; omega, fun h => by cases h⟩
  have low : ∀ (s' : VS) (x : List Act' × VS), vtOk2 s' → (32 ≤ c → vtOk2 x.2) → vtOk2 (if 160 ≤ c then (wordT c, VS.nil) else if c < 32 ∨ c = 127 then (wordT c, s') else x).2 := by
    intro s' x h hx
    split
    · trivial
    split
    · exact h
    · exact hx (by omega)
  unfold vtOne
  cases s with
  | nil =>
    rw [if_pos rfl]
    split
    · exact e0
    · trivial
  | esc v i =>
    rw [if_neg (by simp)]
    split
    · exact e0
    split
    · trivial
    · exact low (.esc v i) _ ok fun h => esc_ok2 _ _ _ ok h
  | seq0 f v m i =>
    rw [if_neg (by simp)]
    split
    · exact e0
    split
    · trivial
    · exact low (.seq0 f v m i) _ ok fun h => seq0_ok2 _ _ _ _ _ ok h
  | seq1 v m i q x =>
    rw [if_neg (by simp)]
    split
    · exact e0
    split
    · trivial
    · exact low (.seq1 v m i q x) _ ok fun h => seq1_ok2 _ _ _ _ _ _ ok h
  | txt0 t =>
    rw [if_neg (by simp)]
    split
    · exact e0
    split
    · trivial
    simp only
    split
    · trivial
    split
    · show [c].length ≤ 64; simp
    · exact ok
  | txt1 t ts =>
    rw [if_neg (by simp)]
    split
    · exact e0
    split
    · trivial
    simp only
    split
    · trivial
    split
    · rename_i k; show (ts ++ [c]).length ≤ 64; rw [List.length_append]; simp; omega
    · exact ok
theorem put_ok2 (s : VS) (ok : vtOk2 s) (c : Int) : vtOk2 (vtPut s c).2 := by
  unfold vtPut
  split
  · exact esc_ok2 _ _ _ ⟨by show (0 : Nat) ≤ 2; omega, fun h => by cases h⟩ (by omega)
  · exact one_ok2 s ok _
/-- What the second half makes of an escape just begun: quiet, or told. -/
theorem second (c : Int) (h1 : 64 ≤ c) (h2 : c < 96) (R : List ARow) (o : ARow) (fl : Bool) :
    (∃ p, aR G FT n_vt_Parser_one [.ptr 1 0 0 0, .int .i32 c] (o :: canonR (.esc false ⟨#[]⟩) fl ++ R) = some (.data false 6 [] true, o :: p :: R) ∧ (vtEsc false ⟨#[]⟩ c).1 = [] ∧ ∀ R', St o (o :: p :: R') (vtEsc false ⟨#[]⟩ c).2) ∨
    (∃ p a, aR G FT n_vt_Parser_one [.ptr 1 0 0 0, .int .i32 c] (o :: canonR (.esc false ⟨#[]⟩) fl ++ R) = some (.own (R.length + 1 + 1 + 1) 0 0 1 1, o :: p :: (R ++ [a] ++ [⟨6, 0, true, [[.int .i64 3, .int .i32 c, .int .i32 0, .str ⟨#[]⟩, .data false 1 [] true, .data false 1 [] true]]⟩])) ∧ (vtEsc false ⟨#[]⟩ c).1 = [escA c ⟨#[]⟩] ∧ ∀ R', St o (o :: p :: R') (vtEsc false ⟨#[]⟩ c).2) := by
  have go := fun w hx he => one_go G o fl false false false false 0 ⟨#[]⟩ (.data false 1 [] true) (.data false 1 [] true) R n_vt_escape c (by omega) (by omega) (by omega) w hx he
  have z : (⟨#[]⟩ : ByteArray).size = 0 := rfl
  unfold vtEsc
  rw [if_neg (by omega)]
  by_cases k1 : c = 91
  · rw [if_pos ⟨z, k1⟩]; exact .inl ⟨_, go _ _ (esc_seq G o fl R c false ⟨#[]⟩ k1), rfl, fun R' => ⟨_, _, rfl⟩⟩
  rw [if_neg (fun h => k1 h.2)]
  by_cases k2 : c = 93
  · rw [if_pos ⟨z, k2⟩]; exact .inl ⟨_, go _ _ (esc_osc G o fl R c false ⟨#[]⟩ k2), rfl, fun R' => ⟨_, _, rfl⟩⟩
  rw [if_neg (fun h => k2 h.2)]
  by_cases k3 : c = 80
  · rw [if_pos ⟨z, .inl k3⟩]; exact .inl ⟨_, go _ _ (esc_str80 G o fl R c false ⟨#[]⟩ k3), rfl, fun R' => ⟨_, _, rfl⟩⟩
  by_cases k4 : c = 88
  · rw [if_pos ⟨z, .inr (.inl k4)⟩]; exact .inl ⟨_, go _ _ (esc_str88 G o fl R c false ⟨#[]⟩ k4), rfl, fun R' => ⟨_, _, rfl⟩⟩
  by_cases k5 : c = 94
  · rw [if_pos ⟨z, .inr (.inr (.inl k5))⟩]; exact .inl ⟨_, go _ _ (esc_str94 G o fl R c false ⟨#[]⟩ k5), rfl, fun R' => ⟨_, _, rfl⟩⟩
  by_cases k6 : c = 95
  · rw [if_pos ⟨z, .inr (.inr (.inr k6))⟩]; exact .inl ⟨_, go _ _ (esc_str95 G o fl R c false ⟨#[]⟩ k6), rfl, fun R' => ⟨_, _, rfl⟩⟩
  rw [if_neg (by omega), if_neg (by simp)]
  exact .inr ⟨_, _, go _ _ (esc_fin0_told G o fl R c false ⟨#[]⟩ (by omega) k1 k2 k3 k4 k5 k6), rfl, fun R' => ⟨_, _, rfl⟩⟩
/-- Put, from a state. -/
theorem put_ok (s : VS) (ok : vtOk2 s) (c : Int) : ∃ b hy, aR G FT n_vt_Parser_Put [.ptr 1 0 0 0, .int .i32 c] (o :: canonR s fl) = some (.data false 6 (actG (vtPut s c).1) b, hy) ∧ St o hy (vtPut s c).2 := by
  unfold vtPut
  by_cases hc : 128 ≤ pointT c ∧ pointT c < 160
  · rw [if_pos hc]
    obtain ⟨h1, h2⟩ := hc
    have quiet : ∀ (R : List ARow) (fl' : Bool), vtEnd s = [] → aR G FT n_vt_Parser_one [.ptr 1 0 0 0, .int .i32 27] (o :: canonR s fl) = some (.data false 6 [] true, o :: canonR (.esc false ⟨#[]⟩) fl' ++ R) →
        ∃ b hy, aR G FT n_vt_Parser_Put [.ptr 1 0 0 0, .int .i32 c] (o :: canonR s fl) = some (.data false 6 (actG (vtEnd s ++ (vtEsc false ⟨#[]⟩ (pointT c - 64)).1)) b, hy) ∧ St o hy (vtEsc false ⟨#[]⟩ (pointT c - 64)).2 := by
      intro R fl' he0 he1
      rw [he0]
      rcases second G (pointT c - 64) (by omega) (by omega) R o fl' with ⟨p, q1, q2, q3⟩ | ⟨p, a, q1, q2, q3⟩
      · rw [q2]; exact ⟨_, _, put_q G o p fl' R _ c h1 h2 he1 q1, q3 _⟩
      · rw [q2]; exact ⟨_, _, put_t G o p a fl' R _ c h1 h2 _ he1 q1, q3 _⟩
    cases s with
    | nil => exact quiet [] fl rfl (one_nil27 G o fl [] _ rfl)
    | esc v i => exact quiet [] fl rfl (one_s27 G o fl false false v false 0 i _ _ [] _ _ rfl)
    | seq0 f v m i => exact quiet [] fl rfl (one_s27 G o fl false f v false m i _ _ [] _ _ rfl)
    | seq1 v m i q x => exact quiet [_] false rfl (one_s27 G o false false false v true m i _ _ [_] _ _ rfl)
    | txt0 t =>
      cases t with
      | false => exact quiet [] fl rfl (one_str27 G o fl false false false false 0 _ _ _ [] _ _ rfl _ _ (end_no_told G o fl false false false 0 _ _ _ _ []))
      | true =>
        have he1 := one_str27 G o fl true false false false 0 _ _ _ [] _ _ rfl _ _ (end_0 G o fl)
        rcases second G (pointT c - 64) (by omega) (by omega) _ o fl with ⟨p, q1, q2, q3⟩ | ⟨p, a, q1, q2, q3⟩
        · rw [q2]; exact ⟨_, _, put_q0 G o p fl _ c h1 h2 he1 q1, q3 _⟩
        · rw [q2]; exact ⟨_, _, put_t0 G o p fl _ c h1 h2 a _ he1 q1, q3 _⟩
    | txt1 t ts =>
      cases t with
      | false => exact quiet [_] false rfl (one_str27 G o false false false false false 0 _ _ _ [_] _ _ rfl _ _ (end_no_told G o false false false false 0 _ _ _ _ [_]))
      | true =>
        have he1 := one_str27 G o false true false false false 0 _ _ _ [_] _ _ rfl _ _ (end_1 G o ts (Nat.le_trans ok (by omega)))
        rcases second G (pointT c - 64) (by omega) (by omega) _ o false with ⟨p, q1, q2, q3⟩ | ⟨p, a, q1, q2, q3⟩
        · rw [q2]; exact ⟨_, _, put_q1 G o p _ false _ c h1 h2 ts he1 q1, q3 _⟩
        · rw [q2]; exact ⟨_, _, put_t1 G o p _ false _ c h1 h2 ts a _ he1 q1, q3 _⟩
  · rw [if_neg hc]
    obtain ⟨v, hx, b, hy, e1, e2, e3⟩ := one_ok G o fl s ok (pointT c) (by omega)
    exact ⟨b, hy, put_1 G _ c hc v _ hx hy e1 e2, e3⟩
end Go.Proofs.Ytkkcblfoaldckaa
