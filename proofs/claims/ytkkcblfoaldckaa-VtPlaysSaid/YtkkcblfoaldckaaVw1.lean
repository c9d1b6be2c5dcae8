/- What one point tells, raw: the answer's rows (the second part printed by gen/vw1.py). Conditions: none. -/
import Derived.Test.YtkkcblfoaldckaaVn2
import Derived.Test.YtkkcblfoaldckaaVtE
set_option linter.unusedVariables false
set_option linter.unusedSimpArgs false
set_option linter.unusedSectionVars false
set_option maxRecDepth 20000
set_option maxHeartbeats 4000000
namespace Go.Proofs.Ytkkcblfoaldckaa
open Go
/-- How a list that was told looks as rows. -/
inductive RZ where
  | plain (l : List Act') (fl : Bool)
  | par (c m : Int) (s : ByteArray) (n cap : Nat) (es : List (List AV)) (ps : List Int)
  | txt (n cap : Nat) (es : List (List AV)) (ts : List Int) (rest : List Act')
def RZ.f : RZ → Nat → Nat → ARow
  | .plain l fl, _, _ => ⟨6, 0, fl, actG l⟩
  | .par c m s n cap _ _, t, g => ⟨6, 0, false, [[.int .i64 4, .int .i32 c, .int .i32 m, .str s, .own t g 0 n cap, .data false 1 [] true]]⟩
  | .txt n cap _ _ rest, t, g => ⟨6, 0, false, [.int .i64 5, .int .i32 0, .int .i32 0, .str ⟨#[]⟩, .data false 1 [] true, .own t g 0 n cap] :: actG rest⟩
def RZ.has : RZ → Bool
  | .plain _ _ => false
  | _ => true
def RZ.es : RZ → List (List AV)
  | .plain _ _ => []
  | .par _ _ _ _ _ es _ | .txt _ _ es _ _ => es
def RZ.acts : RZ → List Act'
  | .plain l _ => l
  | .par c m s _ _ _ ps => [csiA c m s ps false]
  | .txt _ _ _ ts rest => oscT ts :: rest
def Bare (l : List Act') : Prop := ∀ a ∈ l, a.ps = [] ∧ a.ts = []
def RZ.ok : RZ → Prop
  | .plain l _ => Bare l
  | .par _ _ _ n _ es ps => n ≤ es.length ∧ ints ps = es.take n
  | .txt n _ es ts rest => n ≤ es.length ∧ rn ts = es.take n ∧ Bare rest
abbrev RZ.X (Z : RZ) : RootF := ⟨6, 1, Z.has, Z.es, Z.f⟩
/-- What was told, as it lies there: n rows went in. -/
def Res (n : Nat) (h : List ARow) (v : AV) (acts : List Act') (s' : VS) : Prop :=
  (∃ b, v = .data false 6 (actG acts) b ∧ Bare acts) ∨
  ∃ (Z : RZ) (z gz t gt : Nat), v = .own z gz 0 acts.length acts.length ∧ h[z]? = some { Z.f t gt with gen := gz } ∧ (Z.has = true → t ≠ z ∧ 1 ≤ t ∧ h[t]? = some ⟨1, gt, true, Z.es⟩) ∧ 1 ≤ z ∧ n ≤ z ∧ Z.acts = acts ∧ Z.ok ∧ vtHas s' = false
theorem res_D0 (n : Nat) (h : List ARow) (s' : VS) : Res n h (.data false 6 [] true) [] s' := .inl ⟨true, rfl, fun a h => by cases h⟩
theorem word_bare (c : Int) : Bare (wordT c) := fun a h => by
  unfold wordT at h
  split at h
  · cases h
  split at h <;> (simp at h; subst h; exact ⟨rfl, rfl⟩)
theorem res_word (n : Nat) (h : List ARow) (c : Int) (b : Bool) (s' : VS) : Res n h (.data false 6 (actG (wordT c)) b) (wordT c) s' := .inl ⟨b, rfl, word_bare c⟩
theorem res_end (p : ARow) (R : List ARow) (a : ARow) (acts : List Act') (l : List AV) (s' : VS) (hl : actG acts = [l]) (hb : Bare acts := by intro a h; simp at h; subst h; exact ⟨rfl, rfl⟩) (hs : vtHas s' = false := by rfl) :
    Res (R.length + 1) (p :: (R ++ [a] ++ [⟨6, 0, true, [l]⟩])) (.own (R.length + 1 + 1) 0 0 1 1) acts s' := by
  have h1 : acts.length = 1 := by have := congrArg List.length hl; simpa [actG] using this
  refine .inr ⟨.plain acts true, R.length + 1 + 1, 0, 0, 0, by rw [h1], ?_, fun e => (by cases e), by omega, by omega, rfl, hb, hs⟩
  have := app_at2 R
  simp [RZ.f, hl]
theorem res_csi (p b : ARow) (c m : Int) (s : ByteArray) (q : List Int) (x : Int) : Res 2 [p, ⟨1, 0, true, ints q ++ [[.int .i64 x]]⟩, b, ⟨6, 0, false, [[.int .i64 4, .int .i32 c, .int .i32 m, .str s, .own 1 0 0 (min (q.length + 1) 16) (q.length + 1), .data false 1 [] true]]⟩] (.own 3 0 0 1 1) [csiA c m s ((q ++ [x]).take 16) false] .nil := by
  refine .inr ⟨.par c m s (min (q.length + 1) 16) (q.length + 1) (ints q ++ [[.int .i64 x]]) ((q ++ [x]).take 16), 3, 0, 1, 0, rfl, rfl, fun _ => ⟨by omega, by omega, rfl⟩, by omega, by omega, rfl, ⟨?_, ?_⟩, rfl⟩
  · simp [ints_len]; omega
  · rw [show ints q ++ [[AV.int .i64 x]] = ints (q ++ [x]) from (by simp [ints]), ints_take]
    congr 1
    rcases Nat.le_total (q.length + 1) 16 with h | h
    · rw [Nat.min_eq_left h, List.take_of_length_le (by simpa using h), List.take_of_length_le (by simp)]
    · rw [Nat.min_eq_right h]
theorem res_osc0 (n : Nat) (p : ARow) (s' : VS) (hs : vtHas s' = false) (hn : n ≤ 2 := by exact (by decide : (1 : Nat) ≤ 2)) : Res n [p, ⟨1, 0, true, []⟩, ⟨6, 0, false, [[.int .i64 5, .int .i32 0, .int .i32 0, .str ⟨#[]⟩, .data false 1 [] true, .own 1 0 0 0 0]]⟩] (.own 2 0 0 1 1) [oscT []] s' :=
  .inr ⟨.txt 0 0 [] [] [], 2, 0, 1, 0, rfl, rfl, fun _ => ⟨by omega, by omega, rfl⟩, by omega, hn, rfl, ⟨Nat.le_refl _, rfl, fun a h => by cases h⟩, hs⟩
theorem res_osc1 (p a : ARow) (ts : List Int) (s' : VS) (hs : vtHas s' = false) : Res 2 [p, a, ⟨1, 0, true, rn ts⟩, ⟨6, 0, false, [[.int .i64 5, .int .i32 0, .int .i32 0, .str ⟨#[]⟩, .data false 1 [] true, .own 2 0 0 ts.length ts.length]]⟩] (.own 3 0 0 1 1) [oscT ts] s' :=
  .inr ⟨.txt ts.length ts.length (rn ts) ts [], 3, 0, 2, 0, rfl, rfl, fun _ => ⟨by omega, by omega, rfl⟩, by omega, by omega, rfl, ⟨by rw [rn_len]; exact Nat.le_refl _, (rn_take ts).symm, fun a h => by cases h⟩, hs⟩
def OneOkw (G : Nat → Option (List AV)) (o : ARow) (h : List ARow) (r : Option (AV × List ARow)) (x : List Act' × VS) : Prop :=
  ∃ v h1, r = some (v, h1) ∧ Res h.length h1 v x.1 x.2 ∧ Stb o h1 x.2
section
variable (G : Nat → Option (List AV)) (o : ARow) (fl : Bool)
include o
theorem one_escw (c : Int) (v : Bool) (s : ByteArray) (R : List ARow) (hs : s.size ≤ 2) (hv : v = true → s.size = 2) (h1 : 32 ≤ c) (h2 : ¬ c = 127) (h3 : c < 160) :
    OneOkw G o (canonRb (.esc v s) fl ++ R) (aR G FT n_vt_Parser_one [.ptr 0 0 0 0, .int .i32 c] (canonRb (.esc v s) fl ++ R)) (vtEsc v s c) := by
  have go := fun w hx he => one_gob G o fl false false v false 0 s (.data false 1 [] true) (.data false 1 [] true) R n_vt_escape c h1 h2 h3 w hx he
  show OneOkw G o (_ :: R) (aR G FT n_vt_Parser_one [.ptr 0 0 0 0, .int .i32 c] (_ :: R)) _
  unfold vtEsc
  by_cases k0 : c < 48
  · rw [if_pos k0]
    by_cases k1 : s.size = 2
    · rw [if_pos k1]
      exact ⟨_, _, go _ _ (esc_mid2b G o fl R c v s k0 k1), res_D0 _ _ _, _, _, rfl⟩
    · rw [if_neg k1]
      exact ⟨_, _, go _ _ (esc_mid1b G o fl R c v s k0 h1 k1 hs), res_D0 _ _ _, _, _, rfl⟩
  rw [if_neg k0]
  by_cases z : s.size = 0
  · obtain rfl : s = ⟨#[]⟩ := by
      obtain ⟨d⟩ := s
      obtain ⟨d⟩ := d
      cases d with
      | nil => rfl
      | cons => simp [ByteArray.size] at z
    obtain rfl : v = false := by
      cases v with
      | false => rfl
      | true => have := hv rfl; omega
    by_cases k1 : c = 91
    · rw [if_pos ⟨z, k1⟩]; exact ⟨_, _, go _ _ (esc_seqb G o fl R c false ⟨#[]⟩ k1), res_D0 _ _ _, _, _, rfl⟩
    rw [if_neg (fun h => k1 h.2)]
    by_cases k2 : c = 93
    · rw [if_pos ⟨z, k2⟩]; exact ⟨_, _, go _ _ (esc_oscb G o fl R c false ⟨#[]⟩ k2), res_D0 _ _ _, _, _, rfl⟩
    rw [if_neg (fun h => k2 h.2)]
    by_cases k3 : c = 80
    · rw [if_pos ⟨z, .inl k3⟩]; exact ⟨_, _, go _ _ (esc_str80b G o fl R c false ⟨#[]⟩ k3), res_D0 _ _ _, _, _, rfl⟩
    by_cases k4 : c = 88
    · rw [if_pos ⟨z, .inr (.inl k4)⟩]; exact ⟨_, _, go _ _ (esc_str88b G o fl R c false ⟨#[]⟩ k4), res_D0 _ _ _, _, _, rfl⟩
    by_cases k5 : c = 94
    · rw [if_pos ⟨z, .inr (.inr (.inl k5))⟩]; exact ⟨_, _, go _ _ (esc_str94b G o fl R c false ⟨#[]⟩ k5), res_D0 _ _ _, _, _, rfl⟩
    by_cases k6 : c = 95
    · rw [if_pos ⟨z, .inr (.inr (.inr k6))⟩]; exact ⟨_, _, go _ _ (esc_str95b G o fl R c false ⟨#[]⟩ k6), res_D0 _ _ _, _, _, rfl⟩
    rw [if_neg (by omega), if_neg (by simp)]
    exact ⟨_, _, go _ _ (esc_fin0_toldb G o fl R c false ⟨#[]⟩ k0 k1 k2 k3 k4 k5 k6), res_end _ _ _ _ _ _ rfl, _, _, rfl⟩
  · rw [if_neg (fun h => z h.1), if_neg (fun h => z h.1), if_neg (fun h => z h.1)]
    cases v with
    | true => exact ⟨_, _, go _ _ (esc_fin_voidb G o fl R c true s k0 z), res_D0 _ _ _, _, _, rfl⟩
    | false => exact ⟨_, _, go _ _ (esc_fin_toldb G o fl R c false s k0 z), res_end _ _ _ _ _ _ rfl, _, _, rfl⟩
theorem one_seq0w (c : Int) (f v : Bool) (m : Int) (s : ByteArray) (hs : s.size ≤ 2) (h1 : 32 ≤ c) (h2 : ¬ c = 127) (h3 : c < 160) :
    OneOkw G o (canonRb (.seq0 f v m s) fl) (aR G FT n_vt_Parser_one [.ptr 0 0 0 0, .int .i32 c] (canonRb (.seq0 f v m s) fl)) (vtSeq0 f v m s c) := by
  have go := fun w hx he => one_gob G o fl false f v false m s (.data false 1 [] true) (.data false 1 [] true) [] n_vt_sequence c h1 h2 h3 w hx he
  unfold vtSeq0
  by_cases k0 : c < 48
  · rw [if_pos k0]
    by_cases k1 : s.size = 2
    · rw [if_pos k1]
      exact ⟨_, _, go _ _ (seq0_mid2b G o fl f v m s c k0 k1), res_D0 _ _ _, _, _, rfl⟩
    · rw [if_neg k1]
      exact ⟨_, _, go _ _ (seq0_mid1b G o fl f v m s c k0 h1 k1 hs), res_D0 _ _ _, _, _, rfl⟩
  rw [if_neg k0]
  by_cases k1 : 60 ≤ c ∧ c < 64
  · cases f with
    | true => rw [if_pos ⟨k1.1, k1.2, rfl⟩]; exact ⟨_, _, go _ _ (seq0_markb G o fl v m s c k1.1 k1.2), res_D0 _ _ _, _, _, rfl⟩
    | false => rw [if_neg (by simp), if_pos (.inr (.inl k1))]; exact ⟨_, _, go _ _ (seq0_bad60b G o fl v m s c k1.1 k1.2), res_D0 _ _ _, _, _, rfl⟩
  rw [if_neg (fun h => k1 ⟨h.1, h.2.1⟩)]
  by_cases k2 : c = 58
  · rw [if_pos (.inl k2)]; exact ⟨_, _, go _ _ (seq0_bad58b G o fl f v m s c k2), res_D0 _ _ _, _, _, rfl⟩
  by_cases k3 : c < 64
  · by_cases z : s.size = 0
    · rw [if_neg (by omega), if_pos k3]
      obtain rfl : s = ⟨#[]⟩ := by
        obtain ⟨d⟩ := s
        obtain ⟨d⟩ := d
        cases d with
        | nil => rfl
        | cons => simp [ByteArray.size] at z
      by_cases k4 : c = 59
      · rw [if_pos k4]; exact ⟨_, _, go _ _ (seq0_sepb G o fl f v m c k4), res_D0 _ _ _, _, _, _, rfl, by omega, rfl⟩
      · rw [if_neg k4]; exact ⟨_, _, go _ _ (seq0_digb G o fl f v m c (by omega) (by omega)), res_D0 _ _ _, _, _, _, rfl, by omega, rfl⟩
    · rw [if_pos (.inr (.inr ⟨k3, z⟩))]; exact ⟨_, _, go _ _ (seq0_badsb G o fl f v m s c (by omega) (by omega) z), res_D0 _ _ _, _, _, rfl⟩
  · rw [if_neg (by omega), if_neg k3]
    cases v with
    | true => exact ⟨_, _, go _ _ (seq0_fin_voidb G o fl f m s c (by omega)), res_D0 _ _ _, _, _, rfl⟩
    | false => exact ⟨_, _, go _ _ (seq0_fin_toldb G o fl f m s c (by omega)), res_end _ _ _ _ _ _ rfl, _, _, rfl⟩
end
section
variable (G : Nat → Option (List AV)) (o : ARow) (fl : Bool)
include o
theorem one_seq1w (c : Int) (v : Bool) (m : Int) (s : ByteArray) (q : List Int) (x : Int) (hs : s.size ≤ 2) (hq : q.length ≤ 16) (hx : 0 ≤ x) (hx2 : x ≤ 9999) (h1 : 32 ≤ c) (h2 : ¬ c = 127) (h3 : c < 160) :
    OneOkw G o (canonRb (.seq1 v m s q x) fl) (aR G FT n_vt_Parser_one [.ptr 0 0 0 0, .int .i32 c] (canonRb (.seq1 v m s q x) fl)) (vtSeq1 v m s q x c) := by
  have go := fun w hx he => one_gob G o false false false v true m s (.own 1 0 0 (q.length + 1) (q.length + 1)) (.data false 1 [] true) [⟨1, 0, true, ints q ++ [[.int .i64 x]]⟩] n_vt_sequence c h1 h2 h3 w hx he
  unfold vtSeq1
  by_cases k0 : c < 48
  · rw [if_pos k0]
    by_cases k1 : s.size = 2
    · rw [if_pos k1]
      exact ⟨_, _, go _ _ (seq1_mid2b G o v m s c q x hq hx hx2 k0 k1), res_D0 _ _ _, _, _, _, rfl, Nat.le_refl _, rfl⟩
    · rw [if_neg k1]
      exact ⟨_, _, go _ _ (seq1_mid1b G o v m s c q x hq hx hx2 k0 h1 k1 hs), res_D0 _ _ _, _, _, _, rfl, Nat.le_refl _, rfl⟩
  rw [if_neg k0]
  by_cases k1 : 60 ≤ c ∧ c < 64
  · rw [if_pos (.inr (.inl k1))]; exact ⟨_, _, go _ _ (seq1_bad60b G o v m s c q x hq hx hx2 k1.1 k1.2), res_D0 _ _ _, _, _, _, rfl, Nat.le_refl _, rfl⟩
  by_cases k2 : c = 58
  · rw [if_pos (.inl k2)]; exact ⟨_, _, go _ _ (seq1_bad58b G o v m s c q x hq hx hx2 k2), res_D0 _ _ _, _, _, _, rfl, Nat.le_refl _, rfl⟩
  by_cases k3 : c < 64
  · by_cases z : s.size = 0
    · rw [if_neg (by omega), if_pos k3]
      obtain rfl := size0 z
      by_cases k4 : c = 59
      · rw [if_pos k4]
        by_cases k5 : q.length < 16
        · rw [if_pos k5]
          refine ⟨_, _, go _ _ (seq1_sepb G o v m c q x hq hx hx2 k4 k5), res_D0 _ _ _, 1, 1, [⟨1, 1, true, ints q ++ [[.int .i64 x]] ++ [[.int .i64 0]]⟩, ⟨1, 0, true, [[.int .i64 0]]⟩], ?_, Nat.le_refl _, ?_⟩
          · simp
          · simp [ints]
        · rw [if_neg k5]
          exact ⟨_, _, go _ _ (seq1_fullb G o v m c q x hq hx hx2 k4 k5), res_D0 _ _ _, _, _, _, rfl, Nat.le_refl _, rfl⟩
      · rw [if_neg k4]; exact ⟨_, _, go _ _ (seq1_digb G o v m c q x hq hx hx2 (by omega) (by omega)), res_D0 _ _ _, _, _, _, rfl, Nat.le_refl _, rfl⟩
    · rw [if_pos (.inr (.inr ⟨k3, z⟩))]; exact ⟨_, _, go _ _ (seq1_badsb G o v m s c q x hq hx hx2 (by omega) (by omega) z), res_D0 _ _ _, _, _, _, rfl, Nat.le_refl _, rfl⟩
  · rw [if_neg (by omega), if_neg k3]
    cases v with
    | true => exact ⟨_, _, go _ _ (seq1_fin_voidb G o m s c q x hq hx hx2 (by omega)), res_D0 _ _ _, _, _, rfl⟩
    | false => exact ⟨_, _, go _ _ (seq1_fin_toldb G o m s c q x hq hx hx2 (by omega)), res_csi _ _ _ _ _ _ _, _, _, rfl⟩
theorem one_okw (s : VS) (ok : vtOk2 s) (c : Int) (hc : c < 128 ∨ 160 ≤ c) :
    OneOkw G o (canonRb s fl) (aR G FT n_vt_Parser_one [.ptr 0 0 0 0, .int .i32 c] (canonRb s fl)) (vtOne s c) := by
  unfold vtOne
  by_cases hn : ∃ u : Unit, s = .nil
  · obtain ⟨_, rfl⟩ := hn
    rw [if_pos rfl]
    by_cases k : c = 27
    · rw [if_pos k]; exact ⟨_, _, one_nil27b G o fl [] c k, res_D0 _ _ _, _, _, rfl⟩
    · rw [if_neg k]; exact ⟨_, _, one_nilb G o fl false false false false false 0 _ _ _ [] c k, res_word _ _ _ _ _, _, _, rfl⟩
  rw [if_neg (by cases s <;> simp at hn ⊢)]
  by_cases k1 : c = 27
  · rw [if_pos k1]
    cases s with
    | nil => exact absurd ⟨(), rfl⟩ hn
    | esc v i => exact ⟨_, _, one_s27b G o fl false false v false 0 i _ _ [] _ c k1, res_D0 _ _ _, _, _, rfl⟩
    | seq0 f v m i => exact ⟨_, _, one_s27b G o fl false f v false m i _ _ [] _ c k1, res_D0 _ _ _, _, _, rfl⟩
    | seq1 v m i q x => exact ⟨_, _, one_s27b G o false false false v true m i _ _ [_] _ c k1, res_D0 _ _ _, _, _, rfl⟩
    | txt0 t =>
      cases t with
      | false => exact ⟨_, _, one_str27b G o fl false false false false 0 _ _ _ [] _ c k1 _ _ (end_no_toldb G o fl false false false 0 _ _ _ _ []), res_D0 _ _ _, _, _, rfl⟩
      | true => exact ⟨_, _, one_str27b G o fl true false false false 0 _ _ _ [] _ c k1 _ _ (end_0b G o fl), res_osc0 _ _ _ rfl, _, _, rfl⟩
    | txt1 t ts =>
      cases t with
      | false => exact ⟨_, _, one_str27b G o false false false false false 0 _ _ _ [_] _ c k1 _ _ (end_no_toldb G o false false false false 0 _ _ _ _ [_]), res_D0 _ _ _, _, _, rfl⟩
      | true => exact ⟨_, _, one_str27b G o false true false false false 0 _ _ _ [_] _ c k1 _ _ (end_1b G o ts (Nat.le_trans ok (by omega))), res_osc1 _ _ _ _ rfl, _, _, rfl⟩
  rw [if_neg k1]
  by_cases k2 : c = 24 ∨ c = 26
  · rw [if_pos k2]
    have can : ∀ (fl str told first void asked : Bool) (mark : Int) (s : ByteArray) (pv tv : AV) (R : List ARow) (n : Nat), aR G FT n_vt_Parser_one [.ptr 0 0 0 0, .int .i32 c] (⟨10, 0, fl, [[.fn (.func n) [] [], .bool str, .bool told, .bool first, .bool void, .bool asked, .int .i32 mark, .str s, pv, tv]]⟩ :: R) =
        some (.data false 6 (actG (wordT c)) false, ⟨10, 0, fl, [[.nilfn, .bool false, .bool false, .bool false, .bool false, .bool false, .int .i32 0, .str ⟨#[]⟩, .data false 1 [] true, .data false 1 [] true]]⟩ :: R) := by
      intro fl str told first void asked mark s pv tv R n
      rcases k2 with rfl | rfl
      · exact one_can24b G o fl str told first void asked mark s pv tv R n _ rfl
      · exact one_can26b G o fl str told first void asked mark s pv tv R n _ rfl
    cases s with
    | nil => exact absurd ⟨(), rfl⟩ hn
    | esc v i => exact ⟨_, _, can _ _ _ _ _ _ _ _ _ _ [] _, res_word _ _ _ _ _, _, _, rfl⟩
    | seq0 f v m i => exact ⟨_, _, can _ _ _ _ _ _ _ _ _ _ [] _, res_word _ _ _ _ _, _, _, rfl⟩
    | seq1 v m i q x => exact ⟨_, _, can _ _ _ _ _ _ _ _ _ _ [_] _, res_word _ _ _ _ _, _, _, rfl⟩
    | txt0 t => exact ⟨_, _, can _ _ _ _ _ _ _ _ _ _ [] _, res_word _ _ _ _ _, _, _, rfl⟩
    | txt1 t ts => exact ⟨_, _, can _ _ _ _ _ _ _ _ _ _ [_] _, res_word _ _ _ _ _, _, _, rfl⟩
  rw [if_neg k2]
  have k3 : ¬ c = 24 := fun h => k2 (.inl h)
  have k4 : ¬ c = 26 := fun h => k2 (.inr h)
  have other : ∀ (told first void asked : Bool) (mark : Int) (i : ByteArray) (pv tv : AV) (R : List ARow) (n : Nat) (fl : Bool) (s' : VS) (x : List Act' × VS),
      canonRb s' fl = ⟨10, 0, fl, [[.fn (.func n) [] [], .bool false, .bool told, .bool first, .bool void, .bool asked, .int .i32 mark, .str i, pv, tv]]⟩ :: R → (∀ h, h = canonRb s' fl → Stb o h s') →
      (32 ≤ c → ¬ c = 127 → c < 160 → OneOkw G o (canonRb s' fl) (aR G FT n_vt_Parser_one [.ptr 0 0 0 0, .int .i32 c] (canonRb s' fl)) x) →
      OneOkw G o (canonRb s' fl) (aR G FT n_vt_Parser_one [.ptr 0 0 0 0, .int .i32 c] (canonRb s' fl)) (if 160 ≤ c then (wordT c, .nil) else if c < 32 ∨ c = 127 then (wordT c, s') else x) := by
    intro told first void asked mark i pv tv R n fl s' x hh hst hx
    by_cases k5 : 160 ≤ c
    · rw [if_pos k5, hh]; exact ⟨_, _, one_hib G o fl told first void asked mark i pv tv R n c k5, res_word _ _ _ _ _, _, _, rfl⟩
    rw [if_neg k5]
    by_cases k6 : c < 32 ∨ c = 127
    · rw [if_pos k6]
      rcases k6 with k6 | rfl
      · rw [hh]; exact ⟨_, _, one_lowb G o fl told first void asked mark i pv tv R n c k6 k1 k3 k4, res_word _ _ _ _ _, hst _ hh.symm⟩
      · rw [hh]; exact ⟨_, _, one_delb G o fl told first void asked mark i pv tv R n _ rfl, res_word _ _ _ _ _, hst _ hh.symm⟩
    · rw [if_neg k6]
      exact hx (by omega) (by omega) (by omega)
  cases s with
  | nil => exact absurd ⟨(), rfl⟩ hn
  | esc v i => exact other false false v false 0 i _ _ [] _ fl (.esc v i) _ rfl (fun h e => ⟨_, _, e⟩) fun a b d => (by have h := one_escw G o fl c v i [] ok.1 ok.2 a b d; rw [List.append_nil] at h; exact h)
  | seq0 f v m i => exact other false f v false m i _ _ [] _ fl (.seq0 f v m i) _ rfl (fun h e => ⟨_, _, e⟩) fun a b d => one_seq0w G o fl c f v m i ok a b d
  | seq1 v m i q x => exact other false false v true m i _ _ [_] _ false (.seq1 v m i q x) _ rfl (fun h e => ⟨_, _, _, e, Nat.le_refl _, by rw [e]; rfl⟩) fun a b d => one_seq1w G o false c v m i q x ok.1 ok.2.1 ok.2.2.2.1 ok.2.2.2.2 a b d
  | txt0 t =>
    have str := fun w hx he => one_strb G o fl t false false false 0 ⟨#[]⟩ (.data false 1 [] true) (.data false 1 [] true) [] n_vt_text c k1 k3 k4 w hx he
    simp only
    by_cases k5 : c = 7
    · rw [if_pos k5]
      cases t with
      | false => exact ⟨_, _, str _ _ (txt_end0_nob G o fl c k5), res_D0 _ _ _, _, _, rfl⟩
      | true => exact ⟨_, _, str _ _ (txt_end0b G o fl c k5), res_osc0 _ _ _ rfl, _, _, rfl⟩
    rw [if_neg k5]
    by_cases k6 : 32 ≤ c ∧ c ≠ 127
    · rw [if_pos k6]; exact ⟨_, _, str _ _ (txt_add0b G o fl t c k6.1 k6.2), res_D0 _ _ _, 2, 0, _, rfl, by omega, rfl⟩
    · rw [if_neg k6]
      by_cases k7 : c = 127
      · exact ⟨_, _, str _ _ (txt_delb G o fl true t false false false 0 _ _ _ _ [] c k7), res_D0 _ _ _, _, _, rfl⟩
      · exact ⟨_, _, str _ _ (txt_lowb G o fl true t false false false 0 _ _ _ _ [] c (by omega) k5), res_D0 _ _ _, _, _, rfl⟩
  | txt1 t ts =>
    have str := fun w hx he => one_strb G o false t false false false 0 ⟨#[]⟩ (.data false 1 [] true) (.own 1 0 0 ts.length ts.length) [⟨1, 0, true, rn ts⟩] n_vt_text c k1 k3 k4 w hx he
    simp only
    by_cases k5 : c = 7
    · rw [if_pos k5]
      cases t with
      | false => exact ⟨_, _, str _ _ (txt_end1_nob G o c k5 ts), res_D0 _ _ _, _, _, rfl⟩
      | true => exact ⟨_, _, str _ _ (txt_end1b G o c k5 ts (Nat.le_trans ok (by omega))), res_osc1 _ _ _ _ rfl, _, _, rfl⟩
    rw [if_neg k5]
    by_cases k6 : 32 ≤ c ∧ c ≠ 127 ∧ ts.length < 64
    · rw [if_pos k6]
      refine ⟨_, _, str _ _ (txt_add1b G o t c k6.1 k6.2.1 ts k6.2.2), res_D0 _ _ _, 1, 1, [⟨1, 1, true, rn ts ++ [[.int .i32 c]]⟩, ⟨1, 0, true, [[.int .i32 c]]⟩], ?_, Nat.le_refl _, ?_⟩
      · simp
      · simp [rn]
    · rw [if_neg k6]
      by_cases k7 : c = 127
      · exact ⟨_, _, str _ _ (txt_delb G o false true t false false false 0 _ _ _ _ [_] c k7), res_D0 _ _ _, _, _, _, rfl, Nat.le_refl _, rfl⟩
      by_cases k8 : 32 ≤ c
      · exact ⟨_, _, str _ _ (txt_fullb G o t c k8 k7 ts (by omega)), res_D0 _ _ _, _, _, _, rfl, Nat.le_refl _, rfl⟩
      · exact ⟨_, _, str _ _ (txt_lowb G o false true t false false false 0 _ _ _ _ [_] c (by omega) k5), res_D0 _ _ _, _, _, _, rfl, Nat.le_refl _, rfl⟩
end
end Go.Proofs.Ytkkcblfoaldckaa
