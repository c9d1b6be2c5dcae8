/- The two parsers side by side: their rows, a call over one of them, the loop's head. Conditions: as each statement says. -/
import Derived.Test.YtkkcblfoaldckaaVn1
import Derived.Test.YtkkcblfoaldckaaVb1
import Derived.Test.YtkkcblfoaldckaaVq1
set_option linter.unusedVariables false
set_option linter.unusedSimpArgs false
set_option linter.unusedSectionVars false
set_option maxRecDepth 20000
set_option maxHeartbeats 4000000
namespace Go.Proofs.Ytkkcblfoaldckaa
open Go
def vtF : VS → Bool → Nat → Nat → ARow
  | .nil, fl, _, _ => ⟨10, 0, fl, [[.nilfn, .bool false, .bool false, .bool false, .bool false, .bool false, .int .i32 0, .str ⟨#[]⟩, .data false 1 [] true, .data false 1 [] true]]⟩
  | .esc v s, fl, _, _ => ⟨10, 0, fl, [[.fn (.func n_vt_escape) [] [], .bool false, .bool false, .bool false, .bool v, .bool false, .int .i32 0, .str s, .data false 1 [] true, .data false 1 [] true]]⟩
  | .seq0 f v m s, fl, _, _ => ⟨10, 0, fl, [[.fn (.func n_vt_sequence) [] [], .bool false, .bool false, .bool f, .bool v, .bool false, .int .i32 m, .str s, .data false 1 [] true, .data false 1 [] true]]⟩
  | .seq1 v m s q _, _, i, g => ⟨10, 0, false, [[.fn (.func n_vt_sequence) [] [], .bool false, .bool false, .bool false, .bool v, .bool true, .int .i32 m, .str s, .own i g 0 (q.length + 1) (q.length + 1), .data false 1 [] true]]⟩
  | .txt0 t, fl, _, _ => ⟨10, 0, fl, [[.fn (.func n_vt_text) [] [], .bool true, .bool t, .bool false, .bool false, .bool false, .int .i32 0, .str ⟨#[]⟩, .data false 1 [] true, .data false 1 [] true]]⟩
  | .txt1 t ts, _, i, g => ⟨10, 0, false, [[.fn (.func n_vt_text) [] [], .bool true, .bool t, .bool false, .bool false, .bool false, .int .i32 0, .str ⟨#[]⟩, .data false 1 [] true, .own i g 0 ts.length ts.length]]⟩
def vtHas : VS → Bool
  | .seq1 .. | .txt1 .. => true
  | _ => false
def vtEs : VS → List (List AV)
  | .seq1 _ _ _ q x => ints q ++ [[.int .i64 x]]
  | .txt1 _ ts => rn ts
  | _ => []
abbrev vtX (s : VS) (fl : Bool) : RootF := ⟨10, 1, vtHas s, vtEs s, vtF s fl⟩
def rF : List Int → Bool → Nat → Nat → ARow
  | [], fl, _, _ => ⟨1, 0, fl, [[.data false 1 [] true]]⟩
  | x :: H, _, i, g => ⟨1, 0, false, [[.own i g 0 (x :: H).length (x :: H).length]]⟩
def rHas : List Int → Bool
  | [] => false
  | _ :: _ => true
abbrev rX (H : List Int) (fl : Bool) : RootF := ⟨1, 1, rHas H, rn H, rF H fl⟩
theorem vtX_ok (s : VS) (fl : Bool) : (vtX s fl).Ok := by
  constructor
  · intro i g; cases s <;> cases fl <;> rfl
  · intro i g; cases s <;> rfl
  · intro i g; cases s <;> rfl
  · intro h order i j g hh
    cases s with
    | nil | esc | seq0 | txt0 => cases fl <;> rfl
    | seq1 v m s q x | txt1 t ts =>
      obtain ⟨⟨r, h1, h2⟩, h3⟩ := hh rfl
      simp [vtF, ARow.ren, AV.renL, AV.ren, h1, h2, h3]
  · intro m i g i' hh
    cases s with
    | nil | esc | seq0 | txt0 => cases fl <;> rfl
    | seq1 v mm s q x | txt1 t ts =>
      have h1 := hh rfl
      simp [vtF, ARow.mapid, AV.mapidL, AV.mapid, h1]
  · intro i g; cases s <;> cases fl <;> rfl
theorem rX_ok (H : List Int) (fl : Bool) : (rX H fl).Ok := by
  constructor
  · intro i g; cases H <;> cases fl <;> rfl
  · intro i g; cases H <;> rfl
  · intro i g; cases H <;> rfl
  · intro h order i j g hh
    cases H with
    | nil => cases fl <;> rfl
    | cons x H =>
      obtain ⟨⟨r, h1, h2⟩, h3⟩ := hh rfl
      simp [rF, ARow.ren, AV.renL, AV.ren, h1, h2, h3]
  · intro m i g i' hh
    cases H with
    | nil => cases fl <;> rfl
    | cons x H =>
      have h1 := hh rfl
      simp [rF, ARow.mapid, AV.mapidL, AV.mapid, h1]
  · intro i g; cases H <;> cases fl <;> rfl
theorem canonRb_eq (s : VS) (fl : Bool) : canonRb s fl = (vtX s fl).f 1 0 :: (if (vtX s fl).has = true then [⟨(vtX s fl).k1, 0, true, (vtX s fl).es⟩] else []) := by cases s <;> rfl
theorem rHeapq_eq (H : List Int) (fl : Bool) : rHeapq fl H = (rX H fl).f 1 0 :: (if (rX H fl).has = true then [⟨(rX H fl).k1, 0, true, (rX H fl).es⟩] else []) := by cases H <;> rfl
theorem stb_root {o : ARow} {h : List ARow} {s : VS} (hs : Stb o h s) : ∃ fl i g R, h = (vtX s fl).f i g :: R ∧ ((vtX s fl).has = true → 1 ≤ i ∧ ((vtX s fl).f i g :: R)[i]? = some ⟨(vtX s fl).k1, g, true, (vtX s fl).es⟩) := by
  cases s with
  | nil | esc | seq0 | txt0 =>
    obtain ⟨fl, R, rfl⟩ := hs
    exact ⟨fl, 0, 0, R, rfl, fun e => by cases e⟩
  | seq1 | txt1 =>
    obtain ⟨i, g, R, rfl, h1, h2⟩ := hs
    exact ⟨false, i, g, R, rfl, fun _ => ⟨h1, h2⟩⟩
theorem rstq_root {h : List ARow} {H : List Int} (hs : RStq h H) : ∃ fl i g R, h = (rX H fl).f i g :: R ∧ ((rX H fl).has = true → 1 ≤ i ∧ ((rX H fl).f i g :: R)[i]? = some ⟨(rX H fl).k1, g, true, (rX H fl).es⟩) := by
  cases H with
  | nil =>
    obtain ⟨fl, R, rfl⟩ := hs
    exact ⟨fl, 0, 0, R, rfl, fun e => by cases e⟩
  | cons x H =>
    obtain ⟨i, g, R, rfl, h1, h2⟩ := hs
    exact ⟨false, i, g, R, rfl, fun _ => ⟨h1, h2⟩⟩
def canN (X Y : RootF) : List ARow :=
  X.f 2 0 :: Y.f (if X.has = true then 3 else 2) 0 :: ((if X.has = true then [⟨X.k1, 0, true, X.es⟩] else []) ++ if Y.has = true then [⟨Y.k1, 0, true, Y.es⟩] else [])
end Go.Proofs.Ytkkcblfoaldckaa
