/- The parser's states; what a code point that counts as one makes of each. Conditions: none. -/
import Derived.Test.YtkkcblfoaldckaaVt6
set_option linter.unusedVariables false
set_option linter.unusedSimpArgs false
set_option linter.unusedSectionVars false
set_option maxRecDepth 20000
set_option maxHeartbeats 2000000
namespace Go.Proofs.Ytkkcblfoaldckaa
open Go
inductive VS where
  | nil
  | esc (v : Bool) (s : ByteArray)
  | seq0 (f v : Bool) (m : Int) (s : ByteArray)
  | seq1 (v : Bool) (m : Int) (s : ByteArray) (q : List Int) (x : Int)
  | txt0 (t : Bool)
  | txt1 (t : Bool) (ts : List Int)
def oscT (ts : List Int) : Act' := ⟨5, 0, 0, ⟨#[]⟩, [], true, ts, false⟩
def escA (c : Int) (s : ByteArray) : Act' := ⟨3, c, 0, s, [], true, [], true⟩
def csiA (c m : Int) (s : ByteArray) (ps : List Int) (pf : Bool) : Act' := ⟨4, c, m, s, ps, pf, [], true⟩
def vtEnd : VS → List Act'
  | .txt0 true => [oscT []]
  | .txt1 true ts => [oscT ts]
  | _ => []
def vtEsc (v : Bool) (s : ByteArray) (c : Int) : List Act' × VS :=
  if c < 48 then ([], if s.size = 2 then .esc true s else .esc v (s ++ Utf8.encode c))
  else if s.size = 0 ∧ c = 91 then ([], .seq0 true false 0 ⟨#[]⟩)
  else if s.size = 0 ∧ c = 93 then ([], .txt0 true)
  else if s.size = 0 ∧ (c = 80 ∨ c = 88 ∨ c = 94 ∨ c = 95) then ([], .txt0 false)
  else (if v then [] else [escA c s], .nil)
def vtSeq0 (f v : Bool) (m : Int) (s : ByteArray) (c : Int) : List Act' × VS :=
  if c < 48 then ([], if s.size = 2 then .seq0 false true m s else .seq0 false v m (s ++ Utf8.encode c))
  else if 60 ≤ c ∧ c < 64 ∧ f = true then ([], .seq0 false v c s)
  else if c = 58 ∨ 60 ≤ c ∧ c < 64 ∨ c < 64 ∧ s.size ≠ 0 then ([], .seq0 false true m s)
  else if c < 64 then ([], if c = 59 then .seq1 v m s [0] 0 else .seq1 v m s [] (c - 48))
  else (if v then [] else [csiA c m s [] true], .nil)
def vtSeq1 (v : Bool) (m : Int) (s : ByteArray) (q : List Int) (x : Int) (c : Int) : List Act' × VS :=
  if c < 48 then ([], if s.size = 2 then .seq1 true m s q x else .seq1 v m (s ++ Utf8.encode c) q x)
  else if c = 58 ∨ 60 ≤ c ∧ c < 64 ∨ c < 64 ∧ s.size ≠ 0 then ([], .seq1 true m s q x)
  else if c < 64 then ([], if c = 59 then (if q.length < 16 then .seq1 v m s (q ++ [x]) 0 else .seq1 v m s q x) else .seq1 v m s q (min (10 * x + (c - 48)) 9999))
  else (if v then [] else [csiA c m s ((q ++ [x]).take 16) false], .nil)
def vtOne (s : VS) (c : Int) : List Act' × VS :=
  if s matches .nil then (if c = 27 then ([], .esc false ⟨#[]⟩) else (wordT c, .nil))
  else if c = 27 then (vtEnd s, .esc false ⟨#[]⟩)
  else if c = 24 ∨ c = 26 then (wordT c, .nil)
  else match s with
    | .txt0 t => if c = 7 then (vtEnd s, .nil) else if 32 ≤ c ∧ c ≠ 127 then ([], .txt1 t [c]) else ([], s)
    | .txt1 t ts => if c = 7 then (vtEnd s, .nil) else if 32 ≤ c ∧ c ≠ 127 ∧ ts.length < 64 then ([], .txt1 t (ts ++ [c])) else ([], s)
    | _ => if 160 ≤ c then (wordT c, .nil) else if c < 32 ∨ c = 127 then (wordT c, s) else match s with
      | .esc v i => vtEsc v i c
      | .seq0 f v m i => vtSeq0 f v m i c
      | .seq1 v m i q x => vtSeq1 v m i q x c
      | _ => ([], s)
variable (o p a : ARow) (R h : List ARow)
theorem melt_D0 : amelt h (.data false 6 [] true) = some (.data false 6 [] true, h) := by (sym => simp [Zh,Zv,Zw,Bo,Bw,BB])
theorem melt_data (l : List Act') (f : Bool) : amelt h (.data false 6 (actG l) f) = some (.data false 6 (actG l) f, h) := by (sym => simp [Zh,Zv,Zw,Bo,Bw,BB])
end Go.Proofs.Ytkkcblfoaldckaa
