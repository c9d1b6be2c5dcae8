/- The two parsers tell alike. Conditions: none. -/
import Derived.Test.YtkkcblfoaldckaaVrC
set_option linter.unusedVariables false
set_option linter.unusedSimpArgs false
set_option linter.unusedSectionVars false
set_option maxRecDepth 20000
namespace Go.Proofs.Ytkkcblfoaldckaa
open Go
def bytesS (l : List Int) : ByteArray := l.foldl (fun s c => s ++ byteS c) ⟨#[]⟩
theorem bytesS_snoc (l : List Int) (c : Int) : bytesS (l ++ [c]) = bytesS l ++ byteS c := by simp [bytesS]
theorem bytesS_size (l : List Int) : (bytesS l).size = l.length := by
  have : ∀ (l : List Int) (s : ByteArray), (l.foldl (fun s c => s ++ byteS c) s).size = s.size + l.length := by
    intro l
    induction l with
    | nil => intro s; simp
    | cons c l ih => intro s; rw [List.foldl_cons, ih, ByteArray.size_append, List.length_cons, show (byteS c).size = 1 from rfl]; omega
  rw [bytesS, this]; simp [ByteArray.size]
theorem byte_utf {c : Int} (h : 32 ≤ c) (h2 : c < 48) : byteS c = Utf8.encode c := by
  have : c = 32 ∨ c = 33 ∨ c = 34 ∨ c = 35 ∨ c = 36 ∨ c = 37 ∨ c = 38 ∨ c = 39 ∨ c = 40 ∨ c = 41 ∨ c = 42 ∨ c = 43 ∨ c = 44 ∨ c = 45 ∨ c = 46 ∨ c = 47 := by omega
  rcases this with h | h | h | h | h | h | h | h | h | h | h | h | h | h | h | h <;> subst h <;> decide
theorem csiGo_snoc : ∀ (l : List Int) (i : Nat) (c : Int) (s : CS), csiGo i (l ++ [c]) s = (csiGo i l s).bind (csiStep (i + l.length) c)
  | [], i, c, s => by simp [csiGo]
  | x :: l, i, c, s => by
    rw [List.cons_append, csiGo, csiGo]
    cases e : csiStep i x s with
    | none => rfl
    | some s' =>
      simp only [Option.bind_some]
      rw [csiGo_snoc l (i + 1) c s', List.length_cons, show i + 1 + l.length = i + (l.length + 1) from by omega]
def cs0 : CS := ⟨0, ⟨#[]⟩, false, [], 0⟩
/-- Nothing will be told. -/
def Bad (P : List Int) : Prop := csiGo 0 P cs0 = none ∨ ∃ s, csiGo 0 P cs0 = some s ∧ 2 < s.inter.size
theorem bad_snoc {P : List Int} (c : Int) (h : Bad P) : Bad (P ++ [c]) := by
  unfold Bad at h ⊢
  rw [csiGo_snoc, Nat.zero_add]
  rcases h with h | ⟨⟨m, s, a, al, n⟩, h, h2⟩
  · rw [h]; exact .inl rfl
  · rw [h, Option.bind_some]
    unfold csiStep
    simp only at h2 ⊢
    split
    · exact .inr ⟨_, rfl, by simp only [ByteArray.size_append]; omega⟩
    split
    · exact .inr ⟨_, rfl, h2⟩
    split
    · exact .inl rfl
    split
    · exact .inr ⟨_, rfl, h2⟩
    · exact .inr ⟨_, rfl, h2⟩
theorem csiT_snoc (P : List Int) (z : Int) : csiT (P ++ [z]) z = match csiGo 0 P cs0 with
    | none => []
    | some ⟨mark, inter, asked, all, n⟩ => if 2 < inter.size then [] else if asked = true then [csiA z mark inter ((all ++ [n]).take (min (all ++ [n]).length 16)) false] else [csiA z mark inter [] true] := by
  unfold csiT
  have : (P ++ [z]).take ((P ++ [z]).length - 1) = P := by simp
  rw [this]; rfl
theorem csiT_bad {P : List Int} (z : Int) (h : Bad P) : csiT (P ++ [z]) z = [] := by
  rw [csiT_snoc]
  rcases h with h | ⟨⟨m, s, a, al, n⟩, h, h2⟩
  · rw [h]
  · rw [h]; simp only; rw [if_pos h2]
/-- A control sequence: what is held, what the parser knows. -/
def CSim (P : List Int) (v : Bool) (m : Int) (s : ByteArray) (q : Option (List Int × Int)) : Prop :=
  match v, q with
  | true, _ => Bad P
  | false, none => csiGo 0 P cs0 = some ⟨m, s, false, [], 0⟩ ∧ s.size ≤ 2
  | false, some (q, x) => ∃ all n, csiGo 0 P cs0 = some ⟨m, s, true, all, n⟩ ∧ s.size ≤ 2 ∧ (q = all ∧ x = n ∧ q.length ≤ 16 ∨ q = all.take 16 ∧ 16 < all.length)
/-- The states stand for each other. -/
def Sim (H : List Int) : VS → Prop
  | .nil => H = []
  | .esc v s => ∃ I, H = 27 :: I ∧ (∀ c ∈ I, 32 ≤ c ∧ c < 48) ∧ v = decide (2 < I.length) ∧ s = bytesS (I.take 2)
  | .seq0 f v m s => ∃ P, H = 27 :: 91 :: P ∧ f = P.isEmpty ∧ CSim P v m s none
  | .seq1 v m s q x => ∃ P, H = 27 :: 91 :: P ∧ P ≠ [] ∧ CSim P v m s (some (q, x))
  | .txt0 t => ∃ d, H = [27, d] ∧ isStr d = true ∧ t = decide (d = 93)
  | .txt1 t ts => ∃ d T, H = 27 :: d :: T ∧ T ≠ [] ∧ isStr d = true ∧ t = decide (d = 93) ∧ ts = T.take 64
theorem sim_end {H : List Int} {s : VS} (h : Sim H s) : rTold H = vtEnd s := by
  cases s with
  | nil => cases h; rfl
  | esc v s =>
    obtain ⟨I, rfl, hI, _⟩ := h
    unfold rTold
    cases I with
    | nil => rfl
    | cons c I =>
      have := hI c (by simp)
      rw [if_neg (by simp; omega)]; rfl
  | seq0 f v m s => obtain ⟨P, rfl, _⟩ := h; rfl
  | seq1 v m s q x => obtain ⟨P, rfl, _⟩ := h; rfl
  | txt0 t =>
    obtain ⟨d, rfl, _, rfl⟩ := h
    unfold rTold
    by_cases e : d = 93
    · subst e; rfl
    · rw [if_neg (by simpa using e)]; simp [vtEnd, e]
  | txt1 t ts =>
    obtain ⟨d, T, rfl, _, _, rfl, rfl⟩ := h
    unfold rTold
    by_cases e : d = 93
    · subst e
      rw [if_pos (show (27 :: 93 :: T)[1]? = some 93 from rfl)]
      have : heldT (27 :: 93 :: T) = T.take 64 := by
        simp only [heldT, List.length_cons]
        rcases Nat.le_total T.length 64 with h | h
        · rw [Nat.min_eq_left (by omega), List.take_of_length_le (by simp), List.take_of_length_le h]; rfl
        · rw [Nat.min_eq_right (by omega)]; rfl
      rw [this]; rfl
    · rw [if_neg (by simpa using e)]; simp [vtEnd, e]
end Go.Proofs.Ytkkcblfoaldckaa
