/- Sessions: plain laws: May stays. Conditions: as each statement says. -/
import Derived.Test.YthcnhibjddomdaaSef
set_option linter.unusedVariables false
set_option linter.unusedSimpArgs false
set_option linter.unusedSectionVars false
namespace Go.Proofs.Ythcnhibjddomdaa
open Go
theorem abs_0 (l : List (Int × Int)) {n : Nat} (h : n < 9) : absB l 0 n = !thereB l n := by simp [absB, h]
theorem withS_eq {s : Ses} (hs : sesB s = true) (l : List (Int × Int)) (lf : Bool) : withS s l lf = stS (offAll (memS s l lf) 0) := by
  have hq := (ses_parts hs).2.2.1
  have e : (memS s l lf).q = cpQ s.q := cpS_q hq
  unfold withS
  rw [offs_eq 9 0 (memS s l lf) rfl (by rw [e, may_cp]; exact hq) (by rw [e]; exact cp_cp s.q) rfl]
theorem pc_id {q : List Pc} (h : mayQ 0 q = true) {t : Pc} (ht : t ∈ q) : 1 ≤ t.1 ∧ t.1 ≤ 8 ∧ 1 ≤ t.2.1 := by
  have := ((may0_iff q).1 h).1 t ht
  simp only [pcB, pieceB, Bool.and_eq_true, decide_eq_true_eq] at this
  omega
theorem tkB_iff (s : Ses) (j : Nat) : tkB s j = true ↔ 0 ≤ s.k j ∧ s.k j ≤ 1073741824 ∧ (thereB s.mem j = true ∨ (s.k j = 0 ∧ (s.w j).1 = 0 ∧ (s.w j).2 = 0)) := by
  simp only [tkB, Bool.and_eq_true, Bool.or_eq_true, Bool.not_eq_true', decide_eq_false_iff_not, decide_eq_true_eq]
  constructor
  · rintro ⟨⟨a, b⟩, c⟩; exact ⟨by omega, by omega, c⟩
  · rintro ⟨a, b, c⟩; exact ⟨⟨by omega, by omega⟩, c⟩
theorem outB_iff (s : Ses) (t : Pc) : outB s t = false ↔ thereB s.mem t.1 = true ∧ t.2.1 ≤ s.k t.1.toNat := by
  simp only [outB, Bool.or_eq_false_iff, Bool.not_eq_false', decide_eq_false_iff_not, Int.not_lt]
theorem with_ok {s : Ses} (hs : sesB s = true) {l : List (Int × Int)} (hl : mayM l = true) (lf : Bool) : sesB (withS s l lf) = true := by
  obtain ⟨h1, h2, h3, h4, h5, h6, h7, h8, h9⟩ := ses_parts hs
  rw [withS_eq hs]
  have e : (memS s l lf).q = cpQ s.q := cpS_q h3
  have hq : mayQ 0 (offAll (memS s l lf) 0).q = true := may_filter (by rw [e, may_cp]; exact h3) _
  refine stS_ok (s := offAll (memS s l lf) 0) hl h2 hq ?_ ?_ ?_ ?_
  · refine mayW_mk fun j hj => ?_
    have hw : (offAll (memS s l lf) 0).w j = if absB l 0 j = true then (0, 0) else s.w j := rfl
    unfold okW
    rw [hw]
    split
    · simp [winB]
    · exact mayW_at h4 j hj
  · rw [sizB_iff] at h5 ⊢; exact h5
  · intro j hj
    have hw : (offAll (memS s l lf) 0).w j = if absB l 0 j = true then (0, 0) else s.w j := rfl
    have hk : (offAll (memS s l lf) 0).k j = if absB l 0 j = true then 0 else s.k j := rfl
    have hm : (offAll (memS s l lf) 0).mem = l := rfl
    have := (tkB_iff s j).1 (h8 j hj)
    rw [tkB_iff, hw, hk, hm, abs_0 l hj]
    cases ht : thereB l j with
    | true => simp; omega
    | false => simp
  · intro t ht
    have hm : (offAll (memS s l lf) 0).mem = l := rfl
    have hid := pc_id hq ht
    obtain ⟨ha, hb⟩ := List.mem_filter.1 ht
    rw [e] at ha
    obtain ⟨y, hy, rfl⟩ := List.mem_map.1 ha
    have hid' : 1 ≤ y.1 ∧ y.1 ≤ 8 ∧ 1 ≤ y.2.1 := hid
    have hb' : (!(decide (0 ≤ y.1) && absB l 0 y.1.toNat)) = true := hb
    have hn : y.1.toNat < 9 := by omega
    have hcast : ((y.1.toNat : Nat) : Int) = y.1 := by omega
    have h0 : 0 ≤ y.1 := by omega
    rw [abs_0 l hn, hcast] at hb'
    simp only [h0, decide_true, Bool.true_and, Bool.not_not] at hb'
    have hk : (offAll (memS s l lf) 0).k y.1.toNat = if absB l 0 y.1.toNat = true then 0 else s.k y.1.toNat := rfl
    rw [outB_iff, hm]
    refine ⟨hb', ?_⟩
    show y.2.1 ≤ (offAll (memS s l lf) 0).k y.1.toNat
    rw [hk, abs_0 l hn, hcast, hb']
    simp only [Bool.not_true, Bool.false_eq_true, if_false]
    exact ((outB_iff s y).1 (h9 y hy)).2
/-- Copies. -/
theorem cpS_ok {s : Ses} (hs : sesB s = true) : sesB (cpS s) = true := by
  obtain ⟨h1, h2, h3, h4, h5, h6, h7, h8, h9⟩ := ses_parts hs
  have e := cpS_q h3
  refine ses_mk (s := cpS s) h1 h2 (by rw [e, may_cp]; exact h3) h4 ?_ ((tok_all h2).1 ⟨h6, h7⟩) h8 ?_
  · rw [sizB_iff] at h5 ⊢; exact h5
  · intro t ht
    rw [e] at ht
    obtain ⟨y, hy, rfl⟩ := List.mem_map.1 ht
    exact h9 y hy
/-- A count more. -/
theorem cnt_ok {s : Ses} (hs : sesB s = true) {j : Nat} (hj : j < 9) (ht : thereB s.mem j = true) (hk : s.k j < 1073741824) : sesB (cntS s j (s.k j + 1)) = true := by
  obtain ⟨h1, h2, h3, h4, h5, h6, h7, h8, h9⟩ := ses_parts hs
  have hk' : ∀ n, (cntS s j (s.k j + 1)).k n = if n = j then s.k j + 1 else s.k n := fun _ => rfl
  have h0 := (tkB_iff s j).1 (h8 j hj)
  refine ses_mk (s := cntS s j (s.k j + 1)) h1 h2 h3 h4 ?_ ((tok_all h2).1 ⟨h6, h7⟩) ?_ ?_
  · rw [sizB_iff] at h5 ⊢; exact h5
  · intro n hn
    have hm : (cntS s j (s.k j + 1)).mem = s.mem := rfl
    have hw : (cntS s j (s.k j + 1)).w = s.w := rfl
    have := (tkB_iff s n).1 (h8 n hn)
    rw [tkB_iff, hk', hm, hw]
    by_cases e : n = j
    · subst e; simp only [if_true]; exact ⟨by omega, by omega, .inl ht⟩
    · simp only [e, if_false]; exact this
  · intro t ht'
    have hm : (cntS s j (s.k j + 1)).mem = s.mem := rfl
    have := (outB_iff s t).1 (h9 t ht')
    rw [outB_iff, hk', hm]
    refine ⟨this.1, ?_⟩
    split
    · rename_i e; rw [e] at this; omega
    · exact this.2
/-- Another queue. -/
theorem que_ok {s : Ses} (hs : sesB s = true) {q : List Pc} (hq : mayQ 0 q = true) (ho : ∀ t ∈ q, outB s t = false) : sesB (queS s q) = true := by
  obtain ⟨h1, h2, h3, h4, h5, h6, h7, h8, h9⟩ := ses_parts hs
  refine ses_mk (s := queS s q) h1 h2 hq h4 ?_ ((tok_all h2).1 ⟨h6, h7⟩) h8 ho
  rw [sizB_iff] at h5 ⊢; exact h5
theorem pushM_eq {q : List Pc} (hq : mayQ 0 q = true) (t : Pc) : (pushM q t).1 = if pieceB t.1 t.2.1 t.2.2.1.length = true ∧ sizeQ q + t.2.2.1.length ≤ 64 then cpQ q ++ [cp t] else cpQ q := by
  unfold pushM
  rw [if_pos hq]
  split <;> rfl
theorem pushM_may {q : List Pc} (hq : mayQ 0 q = true) (t : Pc) : mayQ 0 (pushM q t).1 = true := by
  rw [pushM_eq hq]
  split
  · rename_i h
    have hc : mayQ 0 (cpQ q) = true := by rw [may_cp]; exact hq
    rw [may0_iff] at hc ⊢
    refine ⟨fun x hx => ?_, ?_⟩
    · rcases List.mem_append.1 hx with hx | hx
      · exact hc.1 x hx
      · rw [List.mem_singleton] at hx; subst hx; exact h.1
    · rw [sizeQ_app, sizeQ_cp]
      have : sizeQ [cp t] = t.2.2.1.length := by simp [sizeQ, cp]
      rw [this]; exact h.2
  · rw [may_cp]; exact hq
theorem push_ok {s : Ses} (hs : sesB s = true) {j : Nat} (h1 : 1 ≤ j) (h8 : j ≤ 8) (ht : thereB s.mem j = true) (l : List Int) (f : Bool) : sesB (queS s (pushM s.q (j, s.k j, l, f)).1) = true := by
  have hq := (ses_parts hs).2.2.1
  have h9 := (ses_parts hs).2.2.2.2.2.2.2.2
  refine que_ok hs (pushM_may hq _) fun t htm => ?_
  rw [pushM_eq hq] at htm
  have key : ∀ t ∈ cpQ s.q, outB s t = false := fun t h => by
    obtain ⟨y, hy, rfl⟩ := List.mem_map.1 h
    exact h9 y hy
  split at htm
  · rcases List.mem_append.1 htm with h | h
    · exact key t h
    · rw [List.mem_singleton] at h
      subst h
      rw [outB_iff]
      refine ⟨ht, ?_⟩
      show s.k j ≤ s.k ((j : Int).toNat)
      rw [Int.toNat_natCast]; exact Int.le_refl _
  · exact key t htm
/-- Another window, settled. -/
theorem win_ok {s : Ses} (hs : sesB s = true) {j : Nat} (h1 : 1 ≤ j) (h8 : j ≤ 8) (ht : thereB s.mem j = true) {r c : Int} (hr : sideB r = true) (hc : sideB c = true) : sesB (stS (winS s j r c)) = true := by
  obtain ⟨g1, g2, g3, g4, g5, g6, g7, g8, g9⟩ := ses_parts hs
  have hw : ∀ n, (winS s j r c).w n = if n = j then (r, c) else s.w n := fun _ => rfl
  refine stS_ok (s := winS s j r c) g1 g2 g3 ?_ ?_ ?_ g9
  · refine mayW_mk fun n hn => ?_
    unfold okW
    rw [hw]
    split
    · rename_i e
      have : ¬ n = 0 := by omega
      simp [winB, hr, hc, this]
    · exact mayW_at g4 n hn
  · rw [sizB_iff] at g5 ⊢; exact g5
  · intro n hn
    have hm : (winS s j r c).mem = s.mem := rfl
    have hk : (winS s j r c).k = s.k := rfl
    have := (tkB_iff s n).1 (g8 n hn)
    rw [tkB_iff, hw, hm, hk]
    refine ⟨this.1, this.2.1, ?_⟩
    by_cases e : n = j
    · subst e; exact .inl ht
    · rw [if_neg e]; exact this.2.2
/-- Another token. -/
theorem tokS_ok {s : Ses} (hs : sesB s = true) {L : List Int} (hg : GoodT L) (hw : ∀ x ∈ L, wrB s.mem x = true) : sesB (tokS s (ofT L).1 (ofT L).2) = true := by
  obtain ⟨g1, g2, g3, g4, g5, g6, g7, g8, g9⟩ := ses_parts hs
  refine ses_mk (s := tokS s (ofT L).1 (ofT L).2) g1 (may_of hg) g3 g4 ?_ ?_ g8 g9
  · rw [sizB_iff] at g5 ⊢; exact g5
  · show ∀ x ∈ allT (ofT L).1 (ofT L).2, wrB s.mem x = true
    rw [all_of hg]; exact hw
/-- Who asks. -/
def askR (h : Int) (q : List Int) (id : Int) : List Int := if id ∈ allT h q then allT h q else allT h q ++ [id]
theorem ask_of {h : Int} {q : List Int} {id : Int} (hm : mayT h q = true) (hn : numB id = true) : (askT h q id).1 = (ofT (askR h q id)).1 ∧ (askT h q id).2.1 = (ofT (askR h q id)).2 := by
  have h0 := ((mayT_iff h q).1 hm).2
  have hid := (numB_iff id).1 hn
  have hc : mayT h q = true ∧ numB id = true := ⟨hm, hn⟩
  have hp : placeT h q id = if h = id then 0 else if 0 ≤ idxFrom id q 0 then idxFrom id q 0 + 1 else -1 := by unfold placeT; rw [if_pos hc]
  unfold askT askR
  rw [if_pos hc, hp]
  by_cases e : h = 0
  · rw [if_pos e, h0 e]
    simp [allT, e, ofT]
  · rw [if_neg e]
    have hmem := idxFrom_mem id q 0
    by_cases e2 : h = id
    · rw [if_pos e2, if_neg (by omega)]
      simp [allT, e, e2, ofT]
      subst e2
      simp [e, ofT]
    · rw [if_neg e2]
      by_cases hi : id ∈ q
      · rw [if_pos (hmem.2 hi), if_neg (by have := hmem.2 hi; omega)]
        simp [allT, e, hi, ofT]
      · have h1 := fun hx => hi (hmem.1 hx)
        rw [if_neg h1, if_pos (by omega)]
        have e3 : ¬ id = h := fun e => e2 e.symm
        simp [allT, e, hi, e3, ofT]
theorem askR_good {h : Int} {q : List Int} {id : Int} (hm : mayT h q = true) (hn : numB id = true) : GoodT (askR h q id) := by
  have hg := ((mayT_iff h q).1 hm).1
  have hid := (numB_iff id).1 hn
  unfold askR
  split
  · exact hg
  · rename_i hi
    refine ⟨fun x hx => ?_, ?_⟩
    · rcases List.mem_append.1 hx with h | h
      · exact hg.1 x h
      · rw [List.mem_singleton] at h; subst h; exact hid
    · rw [List.nodup_append]
      refine ⟨hg.2, by simp, fun x hx y hy => ?_⟩
      rw [List.mem_singleton] at hy
      subst hy
      intro e; subst e; exact hi hx
theorem ask_ok {s : Ses} (hs : sesB s = true) {j : Nat} (h1 : 1 ≤ j) (h8 : j ≤ 8) (hw : wrB s.mem j = true) : sesB (tokS s (askT s.h s.tq j).1 (askT s.h s.tq j).2.1) = true := by
  obtain ⟨g1, g2, g3, g4, g5, g6, g7, g8, g9⟩ := ses_parts hs
  have hn : numB (j : Int) = true := (numB_iff _).2 ⟨by omega, by omega⟩
  obtain ⟨e1, e2⟩ := ask_of g2 hn
  have ha := (tok_all g2).1 ⟨g6, g7⟩
  rw [e1, e2]
  refine tokS_ok hs (askR_good g2 hn) fun x hx => ?_
  unfold askR at hx
  split at hx
  · exact ha x hx
  · rcases List.mem_append.1 hx with h | h
    · exact ha x h
    · rw [List.mem_singleton] at h; subst h; exact hw
theorem free_ok {s : Ses} (hs : sesB s = true) {j : Nat} (h1 : 1 ≤ j) (h8 : j ≤ 8) : sesB (tokS s (freeT s.h s.tq j).1 (freeT s.h s.tq j).2.1) = true := by
  obtain ⟨g1, g2, g3, g4, g5, g6, g7, g8, g9⟩ := ses_parts hs
  have hn : numB (j : Int) = true := (numB_iff _).2 ⟨by omega, by omega⟩
  have ha := (tok_all g2).1 ⟨g6, g7⟩
  rw [freeT_of j g2 hn]
  exact tokS_ok hs (((mayT_iff s.h s.tq).1 g2).1.filter _) fun x hx => ha x (List.mem_filter.1 hx).1
/-- What a deed does. -/
theorem doS_ok {s : Ses} (hs : sesB s = true) {j : Nat} (h1 : 1 ≤ j) (h8 : j ≤ 8) (ht : thereB s.mem j = true) {d : Dd} (hd : deedD d = true) : sesB (doS s j (s.k j) d) = true := by
  unfold doS
  split
  · split
    · exact push_ok hs h1 h8 ht d.2.1 d.2.2.2.2
    · exact hs
  · rename_i k1
    split
    · rename_i k2
      have h := hd
      unfold deedD deedB at h
      rw [if_neg k1, if_pos k2] at h
      simp only [Bool.and_eq_true] at h
      exact win_ok hs h1 h8 ht h.1.1 h.1.2
    · split
      · split
        · rename_i hw; exact ask_ok hs h1 h8 hw
        · exact hs
      · exact free_ok hs h1 h8
/-- What Take comes to where it does not refuse. -/
theorem take_some {s : Ses} (hs : sesB s = true) {id n : Int} {d : Dd} (h : (takeS s id n d).2 = 0) : ∃ j : Nat, id = j ∧ 1 ≤ j ∧ j ≤ 8 ∧ thereB s.mem j = true ∧ s.k j < 1073741824 ∧ n = s.k j + 1 ∧ deedD d = true ∧ (takeS s id n d).1 = doS (cntS (cpS s) j n) j n d := by
  unfold takeS at h ⊢
  rw [if_pos hs] at h ⊢
  by_cases ht : thereB s.mem id = true
  · rw [if_pos ht] at h ⊢
    have hid := there_id ht
    obtain ⟨j, rfl⟩ : ∃ j : Nat, id = (j : Int) := ⟨id.toNat, by omega⟩
    rw [Int.toNat_natCast] at h ⊢
    by_cases hc : 1073741824 ≤ s.k j ∨ ¬ n = s.k j + 1
    · rw [if_pos hc] at h; simp at h
    · rw [if_neg hc] at h ⊢
      by_cases hd : deedD d = true
      · rw [if_pos hd] at h ⊢
        have h3 : s.k j < 1073741824 := by rcases ilt_or (s.k j) 1073741824 with h | h; exact h; exact absurd (.inl h) hc
        have h4 : n = s.k j + 1 := by by_cases e : n = s.k j + 1; exact e; exact absurd (.inr e) hc
        exact ⟨j, rfl, by omega, by omega, ht, h3, h4, hd, rfl⟩
      · rw [if_neg hd] at h; simp at h
  · rw [if_neg ht] at h; simp at h
theorem take_none {s : Ses} {id n : Int} {d : Dd} (h : ¬ (takeS s id n d).2 = 0) : (takeS s id n d).1 = zS := by
  unfold takeS at h ⊢
  split
  · split
    · split
      · rfl
      · split
        · rename_i a b c e; rw [if_pos a, if_pos b, if_neg c, if_pos e] at h; exact absurd rfl h
        · rfl
    · rfl
  · rfl
theorem take_ok {s : Ses} (hs : sesB s = true) {id n : Int} {d : Dd} (h : (takeS s id n d).2 = 0) : sesB (takeS s id n d).1 = true := by
  obtain ⟨j, rfl, h1, h8, ht, hk, rfl, hd, e⟩ := take_some hs h
  rw [e]
  have a := cnt_ok (cpS_ok hs) (j := j) (by omega) ht hk
  have hkj : (cntS (cpS s) j (s.k j + 1)).k j = s.k j + 1 := if_pos rfl
  have := doS_ok a h1 h8 ht hd
  rw [show (cntS (cpS s) j ((cpS s).k j + 1)).k j = s.k j + 1 from hkj] at this
  exact this
theorem write_ok {s : Ses} (hs : sesB s = true) (n : Int) : sesB (writeS s n).1 = true := by
  unfold writeS
  rw [if_pos hs]
  have hc := cpS_ok hs
  have hq := (ses_parts hc).2.2.1
  have h9 := (ses_parts hc).2.2.2.2.2.2.2.2
  have e : (popM (cpS s).q n).1 = cpQ ((cpS s).q.drop (popN (cpS s).q n)) := by rw [popM, if_pos hq]
  refine que_ok hc ?_ fun t ht => ?_
  · rw [e, may_cp]; exact may_drop hq _
  · rw [e] at ht
    obtain ⟨y, hy, rfl⟩ := List.mem_map.1 ht
    exact h9 y (List.mem_of_mem_drop hy)
end Go.Proofs.Ythcnhibjddomdaa
