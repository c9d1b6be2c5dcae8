/- What one code point makes of the parser, whole. Conditions: none. -/
import Derived.Test.YtkkcblfoaldckaaVt8
set_option linter.unusedVariables false
set_option linter.unusedSimpArgs false
set_option linter.unusedSectionVars false
set_option maxRecDepth 20000
set_option maxHeartbeats 4000000
namespace Go.Proofs.Ytkkcblfoaldckaa
open Go
variable (G : Nat → Option (List AV)) (o : ARow) (fl : Bool)
theorem size0 {s : ByteArray} (z : s.size = 0) : s = ⟨#[]⟩ := by
  obtain ⟨d⟩ := s
  obtain ⟨d⟩ := d
  cases d with
  | nil => rfl
  | cons => simp [ByteArray.size] at z
theorem one_seq1 (c : Int) (v : Bool) (m : Int) (s : ByteArray) (q : List Int) (x : Int) (hs : s.size ≤ 2) (hq : q.length ≤ 16) (hx : 0 ≤ x) (hx2 : x ≤ 9999) (h1 : 32 ≤ c) (h2 : ¬ c = 127) (h3 : c < 160) :
    OneOk G o (o :: canonR (.seq1 v m s q x) fl) (aR G FT n_vt_Parser_one [.ptr 1 0 0 0, .int .i32 c] (o :: canonR (.seq1 v m s q x) fl)) (vtSeq1 v m s q x c) := by
  have go := fun w hx he => one_go G o false false false v true m s (.own 2 0 0 (q.length + 1) (q.length + 1)) (.data false 1 [] true) [⟨1, 0, true, ints q ++ [[.int .i64 x]]⟩] n_vt_sequence c h1 h2 h3 w hx he
  unfold vtSeq1
  by_cases k0 : c < 48
  · rw [if_pos k0]
    by_cases k1 : s.size = 2
    · rw [if_pos k1]
      exact ⟨_, _, _, _, go _ _ (seq1_mid2 G o v m s c q x hq hx hx2 k0 k1), melt_D0 _, _, _, _, rfl, Nat.le_refl _, rfl⟩
    · rw [if_neg k1]
      exact ⟨_, _, _, _, go _ _ (seq1_mid1 G o v m s c q x hq hx hx2 k0 h1 k1 hs), melt_D0 _, _, _, _, rfl, Nat.le_refl _, rfl⟩
  rw [if_neg k0]
  by_cases k1 : 60 ≤ c ∧ c < 64
  · rw [if_pos (.inr (.inl k1))]; exact ⟨_, _, _, _, go _ _ (seq1_bad60 G o v m s c q x hq hx hx2 k1.1 k1.2), melt_D0 _, _, _, _, rfl, Nat.le_refl _, rfl⟩
  by_cases k2 : c = 58
  · rw [if_pos (.inl k2)]; exact ⟨_, _, _, _, go _ _ (seq1_bad58 G o v m s c q x hq hx hx2 k2), melt_D0 _, _, _, _, rfl, Nat.le_refl _, rfl⟩
  by_cases k3 : c < 64
  · by_cases z : s.size = 0
    · rw [if_neg (by omega), if_pos k3]
      obtain rfl := size0 z
      by_cases k4 : c = 59
      · rw [if_pos k4]
        by_cases k5 : q.length < 16
        · rw [if_pos k5]
          refine ⟨_, _, _, _, go _ _ (seq1_sep G o v m c q x hq hx hx2 k4 k5), melt_D0 _, 2, 1, [⟨1, 1, true, ints q ++ [[.int .i64 x]] ++ [[.int .i64 0]]⟩, ⟨1, 0, true, [[.int .i64 0]]⟩], ?_, Nat.le_refl _, ?_⟩
          · simp
          · simp [ints]
        · rw [if_neg k5]
          exact ⟨_, _, _, _, go _ _ (seq1_full G o v m c q x hq hx hx2 k4 k5), melt_D0 _, _, _, _, rfl, Nat.le_refl _, rfl⟩
      · rw [if_neg k4]; exact ⟨_, _, _, _, go _ _ (seq1_dig G o v m c q x hq hx hx2 (by omega) (by omega)), melt_D0 _, _, _, _, rfl, Nat.le_refl _, rfl⟩
    · rw [if_pos (.inr (.inr ⟨k3, z⟩))]; exact ⟨_, _, _, _, go _ _ (seq1_bads G o v m s c q x hq hx hx2 (by omega) (by omega) z), melt_D0 _, _, _, _, rfl, Nat.le_refl _, rfl⟩
  · rw [if_neg (by omega), if_neg k3]
    cases v with
    | true => exact ⟨_, _, _, _, go _ _ (seq1_fin_void G o m s c q x hq hx hx2 (by omega)), melt_D0 _, _, _, rfl⟩
    | false => exact ⟨_, _, _, _, go _ _ (seq1_fin_told G o m s c q x hq hx hx2 (by omega)), melt_csi o _ _ _ _ _ _ _, _, _, rfl⟩
/-- A state may be. -/
def vtOk2 : VS → Prop
  | .esc v s => s.size ≤ 2 ∧ (v = true → s.size = 2)
  | .seq0 _ _ _ s => s.size ≤ 2
  | .seq1 _ _ s q x => s.size ≤ 2 ∧ q.length ≤ 16 ∧ (∀ y ∈ q, 0 ≤ y ∧ y ≤ 9999) ∧ 0 ≤ x ∧ x ≤ 9999
  | .txt1 _ ts => ts.length ≤ 64
  | _ => True
theorem one_ok (s : VS) (ok : vtOk2 s) (c : Int) (hc : c < 128 ∨ 160 ≤ c) :
    OneOk G o (o :: canonR s fl) (aR G FT n_vt_Parser_one [.ptr 1 0 0 0, .int .i32 c] (o :: canonR s fl)) (vtOne s c) := by
  unfold vtOne
  by_cases hn : ∃ u : Unit, s = .nil
  · obtain ⟨_, rfl⟩ := hn
    rw [if_pos rfl]
    by_cases k : c = 27
    · rw [if_pos k]; exact ⟨_, _, _, _, one_nil27 G o fl [] c k, melt_D0 _, _, _, rfl⟩
    · rw [if_neg k]; exact ⟨_, _, _, _, one_nil G o fl false false false false false 0 _ _ _ [] c k, melt_data _ _ _, _, _, rfl⟩
  rw [if_neg (by cases s <;> simp at hn ⊢)]
  by_cases k1 : c = 27
  · rw [if_pos k1]
    cases s with
    | nil => exact absurd ⟨(), rfl⟩ hn
    | esc v i => exact ⟨_, _, _, _, one_s27 G o fl false false v false 0 i _ _ [] _ c k1, melt_D0 _, _, _, rfl⟩
    | seq0 f v m i => exact ⟨_, _, _, _, one_s27 G o fl false f v false m i _ _ [] _ c k1, melt_D0 _, _, _, rfl⟩
    | seq1 v m i q x => exact ⟨_, _, _, _, one_s27 G o false false false v true m i _ _ [_] _ c k1, melt_D0 _, _, _, rfl⟩
    | txt0 t =>
      cases t with
      | false => exact ⟨_, _, _, _, one_str27 G o fl false false false false 0 _ _ _ [] _ c k1 _ _ (end_no_told G o fl false false false 0 _ _ _ _ []), melt_D0 _, _, _, rfl⟩
      | true => exact ⟨_, _, _, _, one_str27 G o fl true false false false 0 _ _ _ [] _ c k1 _ _ (end_0 G o fl), melt_osc0 o _, _, _, rfl⟩
    | txt1 t ts =>
      cases t with
      | false => exact ⟨_, _, _, _, one_str27 G o false false false false false 0 _ _ _ [_] _ c k1 _ _ (end_no_told G o false false false false 0 _ _ _ _ [_]), melt_D0 _, _, _, rfl⟩
      | true => exact ⟨_, _, _, _, one_str27 G o false true false false false 0 _ _ _ [_] _ c k1 _ _ (end_1 G o ts (Nat.le_trans ok (by omega))), melt_osc1 o _ _ _, _, _, rfl⟩
  rw [if_neg k1]
  by_cases k2 : c = 24 ∨ c = 26
  · rw [if_pos k2]
    have can : ∀ (fl str told first void asked : Bool) (mark : Int) (s : ByteArray) (pv tv : AV) (R : List ARow) (n : Nat), aR G FT n_vt_Parser_one [.ptr 1 0 0 0, .int .i32 c] (o :: ⟨10, 0, fl, [[.fn (.func n) [] [], .bool str, .bool told, .bool first, .bool void, .bool asked, .int .i32 mark, .str s, pv, tv]]⟩ :: R) =
        some (.data false 6 (actG (wordT c)) false, o :: ⟨10, 0, fl, [[.nilfn, .bool false, .bool false, .bool false, .bool false, .bool false, .int .i32 0, .str ⟨#[]⟩, .data false 1 [] true, .data false 1 [] true]]⟩ :: R) := by
      intro fl str told first void asked mark s pv tv R n
      rcases k2 with rfl | rfl
      · exact one_can24 G o fl str told first void asked mark s pv tv R n _ rfl
      · exact one_can26 G o fl str told first void asked mark s pv tv R n _ rfl
    cases s with
    | nil => exact absurd ⟨(), rfl⟩ hn
    | esc v i => exact ⟨_, _, _, _, can _ _ _ _ _ _ _ _ _ _ [] _, melt_data _ _ _, _, _, rfl⟩
    | seq0 f v m i => exact ⟨_, _, _, _, can _ _ _ _ _ _ _ _ _ _ [] _, melt_data _ _ _, _, _, rfl⟩
    | seq1 v m i q x => exact ⟨_, _, _, _, can _ _ _ _ _ _ _ _ _ _ [_] _, melt_data _ _ _, _, _, rfl⟩
    | txt0 t => exact ⟨_, _, _, _, can _ _ _ _ _ _ _ _ _ _ [] _, melt_data _ _ _, _, _, rfl⟩
    | txt1 t ts => exact ⟨_, _, _, _, can _ _ _ _ _ _ _ _ _ _ [_] _, melt_data _ _ _, _, _, rfl⟩
  rw [if_neg k2]
  have k3 : ¬ c = 24 := fun h => k2 (.inl h)
  have k4 : ¬ c = 26 := fun h => k2 (.inr h)
  have other : ∀ (told first void asked : Bool) (mark : Int) (i : ByteArray) (pv tv : AV) (R : List ARow) (n : Nat) (fl : Bool) (s' : VS) (x : List Act' × VS),
      o :: canonR s' fl = o :: ⟨10, 0, fl, [[.fn (.func n) [] [], .bool false, .bool told, .bool first, .bool void, .bool asked, .int .i32 mark, .str i, pv, tv]]⟩ :: R → (∀ h, h = o :: canonR s' fl → St o h s') →
      (32 ≤ c → ¬ c = 127 → c < 160 → OneOk G o (o :: canonR s' fl) (aR G FT n_vt_Parser_one [.ptr 1 0 0 0, .int .i32 c] (o :: canonR s' fl)) x) →
      OneOk G o (o :: canonR s' fl) (aR G FT n_vt_Parser_one [.ptr 1 0 0 0, .int .i32 c] (o :: canonR s' fl)) (if 160 ≤ c then (wordT c, .nil) else if c < 32 ∨ c = 127 then (wordT c, s') else x) := by
    intro told first void asked mark i pv tv R n fl s' x hh hst hx
    by_cases k5 : 160 ≤ c
    · rw [if_pos k5, hh]; exact ⟨_, _, _, _, one_hi G o fl told first void asked mark i pv tv R n c k5, melt_data _ _ _, _, _, rfl⟩
    rw [if_neg k5]
    by_cases k6 : c < 32 ∨ c = 127
    · rw [if_pos k6]
      rcases k6 with k6 | rfl
      · rw [hh]; exact ⟨_, _, _, _, one_low G o fl told first void asked mark i pv tv R n c k6 k1 k3 k4, melt_data _ _ _, hst _ hh.symm⟩
      · rw [hh]; exact ⟨_, _, _, _, one_del G o fl told first void asked mark i pv tv R n _ rfl, melt_data _ _ _, hst _ hh.symm⟩
    · rw [if_neg k6]
      exact hx (by omega) (by omega) (by omega)
  cases s with
  | nil => exact absurd ⟨(), rfl⟩ hn
  | esc v i => exact other false false v false 0 i _ _ [] _ fl (.esc v i) _ rfl (fun h e => ⟨_, _, e⟩) fun a b d => (by have h := one_esc G o fl c v i [] ok.1 ok.2 a b d; rw [List.append_nil] at h; exact h)
  | seq0 f v m i => exact other false f v false m i _ _ [] _ fl (.seq0 f v m i) _ rfl (fun h e => ⟨_, _, e⟩) fun a b d => one_seq0 G o fl c f v m i ok a b d
  | seq1 v m i q x => exact other false false v true m i _ _ [_] _ false (.seq1 v m i q x) _ rfl (fun h e => ⟨_, _, _, e, Nat.le_refl _, by rw [e]; rfl⟩) fun a b d => one_seq1 G o false c v m i q x ok.1 ok.2.1 ok.2.2.2.1 ok.2.2.2.2 a b d
  | txt0 t =>
    have str := fun w hx he => one_str G o fl t false false false 0 ⟨#[]⟩ (.data false 1 [] true) (.data false 1 [] true) [] n_vt_text c k1 k3 k4 w hx he
    simp only
    by_cases k5 : c = 7
    · rw [if_pos k5]
      cases t with
      | false => exact ⟨_, _, _, _, str _ _ (txt_end0_no G o fl c k5), melt_D0 _, _, _, rfl⟩
      | true => exact ⟨_, _, _, _, str _ _ (txt_end0 G o fl c k5), melt_osc0 o _, _, _, rfl⟩
    rw [if_neg k5]
    by_cases k6 : 32 ≤ c ∧ c ≠ 127
    · rw [if_pos k6]; exact ⟨_, _, _, _, str _ _ (txt_add0 G o fl t c k6.1 k6.2), melt_D0 _, 3, 0, _, rfl, by omega, rfl⟩
    · rw [if_neg k6]
      by_cases k7 : c = 127
      · exact ⟨_, _, _, _, str _ _ (txt_del G o fl true t false false false 0 _ _ _ _ [] c k7), melt_D0 _, _, _, rfl⟩
      · exact ⟨_, _, _, _, str _ _ (txt_low G o fl true t false false false 0 _ _ _ _ [] c (by omega) k5), melt_D0 _, _, _, rfl⟩
  | txt1 t ts =>
    have str := fun w hx he => one_str G o false t false false false 0 ⟨#[]⟩ (.data false 1 [] true) (.own 2 0 0 ts.length ts.length) [⟨1, 0, true, rn ts⟩] n_vt_text c k1 k3 k4 w hx he
    simp only
    by_cases k5 : c = 7
    · rw [if_pos k5]
      cases t with
      | false => exact ⟨_, _, _, _, str _ _ (txt_end1_no G o c k5 ts), melt_D0 _, _, _, rfl⟩
      | true => exact ⟨_, _, _, _, str _ _ (txt_end1 G o c k5 ts (Nat.le_trans ok (by omega))), melt_osc1 o _ _ _, _, _, rfl⟩
    rw [if_neg k5]
    by_cases k6 : 32 ≤ c ∧ c ≠ 127 ∧ ts.length < 64
    · rw [if_pos k6]
      refine ⟨_, _, _, _, str _ _ (txt_add1 G o t c k6.1 k6.2.1 ts k6.2.2), melt_D0 _, 2, 1, [⟨1, 1, true, rn ts ++ [[.int .i32 c]]⟩, ⟨1, 0, true, [[.int .i32 c]]⟩], ?_, Nat.le_refl _, ?_⟩
      · simp
      · simp [rn]
    · rw [if_neg k6]
      by_cases k7 : c = 127
      · exact ⟨_, _, _, _, str _ _ (txt_del G o false true t false false false 0 _ _ _ _ [_] c k7), melt_D0 _, _, _, _, rfl, Nat.le_refl _, rfl⟩
      by_cases k8 : 32 ≤ c
      · exact ⟨_, _, _, _, str _ _ (txt_full G o t c k8 k7 ts (by omega)), melt_D0 _, _, _, _, rfl, Nat.le_refl _, rfl⟩
      · exact ⟨_, _, _, _, str _ _ (txt_low G o false true t false false false 0 _ _ _ _ [_] c (by omega) k5), melt_D0 _, _, _, _, rfl, Nat.le_refl _, rfl⟩
end Go.Proofs.Ytkkcblfoaldckaa
