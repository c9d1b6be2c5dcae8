/- SessionRights: plain laws: what is due, the least window, each step. Conditions: as each statement says. -/
import Derived.Test.YthcnhibjddomdaaSem
set_option linter.unusedVariables false
set_option linter.unusedSimpArgs false
set_option linter.unusedSectionVars false
set_option maxRecDepth 20000
set_option maxHeartbeats 4000000
namespace Go.Proofs.Ythcnhibjddomdaa
open Go
def core (x : Pc) : Int × Int × List Int := (x.1, x.2.1, x.2.2.1)
def coreQ (q : List Pc) : List (Int × Int × List Int) := q.map core
theorem core_cp (q : List Pc) : coreQ (cpQ q) = coreQ q := by
  unfold coreQ cpQ
  rw [List.map_map]; rfl
theorem core_len {a b : List Pc} (h : coreQ a = coreQ b) : a.length = b.length := by
  have := congrArg List.length h
  simpa [coreQ] using this
theorem core_size {a b : List Pc} (h : coreQ a = coreQ b) : sizeQ a = sizeQ b := by
  have e : ∀ q : List Pc, sizeQ q = ((coreQ q).map fun x => x.2.2.length).sum := fun q => by
    unfold sizeQ coreQ
    rw [List.map_map]; rfl
  rw [e, e, h]
theorem core_filter {a b : List Pc} (h : coreQ a = coreQ b) (j : Int) : coreQ (a.filter fun t => !decide (t.1 = j)) = coreQ (b.filter fun t => !decide (t.1 = j)) := by
  have e : ∀ q : List Pc, coreQ (q.filter fun t => !decide (t.1 = j)) = (coreQ q).filter fun t => !decide (t.1 = j) := fun q => by
    unfold coreQ
    rw [List.filter_map]; rfl
  rw [e, e, h]
theorem core_drop {a b : List Pc} (h : coreQ a = coreQ b) (k : Nat) : coreQ (a.drop k) = coreQ (b.drop k) := by
  have e : ∀ q : List Pc, coreQ (q.drop k) = (coreQ q).drop k := fun q => by unfold coreQ; rw [List.map_drop]
  rw [e, e, h]
theorem core_take {a b : List Pc} (h : coreQ a = coreQ b) (k : Nat) : coreQ (a.take k) = coreQ (b.take k) := by
  have e : ∀ q : List Pc, coreQ (q.take k) = (coreQ q).take k := fun q => by unfold coreQ; rw [List.map_take]
  rw [e, e, h]
theorem core_app (a b : List Pc) : coreQ (a ++ b) = coreQ a ++ coreQ b := by unfold coreQ; rw [List.map_append]
/-- Is the screen as great as the least window, if any is told? -/
def leastB (s : Ses) : Bool := !(lstW s.w (idsL s.mem)).1 || (decide (s.r = (lstW s.w (idsL s.mem)).2.1) && decide (s.c = (lstW s.w (idsL s.mem)).2.2))
theorem least_st {s : Ses} (hw : mayW s.w = true) : leastB (stS s) = true := by
  have e1 : (stS s).w = s.w := rfl
  have e2 : (stS s).mem = s.mem := rfl
  have e3 : (stS s).r = (leastW s.w (idsL s.mem) s.r s.c).1 := rfl
  have e4 : (stS s).c = (leastW s.w (idsL s.mem) s.r s.c).2 := rfl
  unfold leastB
  rw [e1, e2, e3, e4]
  unfold leastW
  cases ht : (lstW s.w (idsL s.mem)).1 with
  | false => rfl
  | true => rw [if_pos ⟨hw, rfl⟩]; simp
structure RInv (s : Ses) (due : List Pc) : Prop where
  may : sesB s = true
  due : coreQ due = coreQ s.q
  least : leastB s = true
theorem withS_least {s : Ses} (hs : sesB s = true) {l : List (Int × Int)} (hl : mayM l = true) (lf : Bool) : leastB (withS s l lf) = true := by
  have h := (ses_parts (with_ok hs hl lf)).2.2.2.1
  rw [withS_eq hs] at h ⊢
  exact least_st h
theorem joinM_cases {l : List (Int × Int)} (hm : mayM l = true) (id r : Int) : ((r = 1 ∨ r = 2) ∧ joinM l id r = (withM l id r, 0)) ∨ ∃ e, e ≠ 0 ∧ joinM l id r = ([], e) := by
  unfold joinM
  split
  · rename_i h
    split
    · exact .inl ⟨by have := h.2.2; simpa [roleB] using this, rfl⟩
    · exact .inr ⟨_, by omega, rfl⟩
  · exact .inr ⟨_, by omega, rfl⟩
theorem changeM_cases {l : List (Int × Int)} (hm : mayM l = true) (id r : Int) : ((r = 1 ∨ r = 2) ∧ changeM l id r = (withM l id r, 0)) ∨ ∃ e, e ≠ 0 ∧ changeM l id r = ([], e) := by
  unfold changeM
  split
  · rename_i h
    split
    · exact .inl ⟨by have := h.2; simpa [roleB] using this, rfl⟩
    · exact .inr ⟨_, by omega, rfl⟩
  · exact .inr ⟨_, by omega, rfl⟩
/-- A roster with one more, or another role. -/
theorem more_inv {s : Ses} {due : List Pc} (h : RInv s due) {id r : Int} (hr : r = 1 ∨ r = 2) : RInv (withS s (withM s.mem id r) false) due := by
  have g1 := (ses_parts h.may).1
  have m1 := withM_may g1 (id := id) (r := r) (.inr hr)
  refine ⟨with_ok h.may m1 false, ?_, withS_least h.may m1 false⟩
  rw [stay_q h.may m1 (fun k hk => ?_) false, core_cp]
  · exact h.due
  · have hid := there_id ((there_iff g1 k).2 hk)
    rw [withM_role _ _ _ k hid.1 hid.2]
    split
    · omega
    · exact hk
theorem rosS_ros {s : Ses} (hs : sesB s = true) (x : List (Int × Int) × Int) : rosS s x = if x.2 = 0 then (withS s x.1 false, 0) else (zS, x.2) := by unfold rosS; rw [if_pos hs]
theorem join_inv {s : Ses} {due : List Pc} (h : RInv s due) (id r : Int) : (∃ x, rosS s (joinM s.mem id r) = (x, 0) ∧ RInv x due) ∨ ∃ e, e ≠ 0 ∧ rosS s (joinM s.mem id r) = (zS, e) := by
  rw [rosS_ros h.may]
  rcases joinM_cases (ses_parts h.may).1 id r with ⟨hr, e⟩ | ⟨e, he, e2⟩
  · left
    rw [e]
    exact ⟨_, if_pos rfl, more_inv h hr⟩
  · right
    rw [e2]
    exact ⟨e, he, if_neg he⟩
theorem change_inv {s : Ses} {due : List Pc} (h : RInv s due) (id r : Int) : (∃ x, rosS s (changeM s.mem id r) = (x, 0) ∧ RInv x due) ∨ ∃ e, e ≠ 0 ∧ rosS s (changeM s.mem id r) = (zS, e) := by
  rw [rosS_ros h.may]
  rcases changeM_cases (ses_parts h.may).1 id r with ⟨hr, e⟩ | ⟨e, he, e2⟩
  · left
    rw [e]
    exact ⟨_, if_pos rfl, more_inv h hr⟩
  · right
    rw [e2]
    exact ⟨e, he, if_neg he⟩
theorem leave_inv {s : Ses} {due : List Pc} (h : RInv s due) {j : Nat} (h1 : 1 ≤ j) (h8 : j ≤ 8) : (∃ x, rosS s (leaveM s.mem j) = (x, 0) ∧ RInv x (due.filter fun t => !decide (t.1 = (j : Int)))) ∨ ∃ e, e ≠ 0 ∧ rosS s (leaveM s.mem j) = (zS, e) ∧ RInv s (due.filter fun t => !decide (t.1 = (j : Int))) := by
  have g1 := (ses_parts h.may).1
  rw [rosS_ros h.may]
  unfold leaveM
  rw [if_pos g1]
  cases ht : thereB s.mem j with
  | true =>
    left
    rw [if_pos rfl]
    have m1 := withM_may g1 (id := (j : Int)) (r := 0) (.inl rfl)
    refine ⟨_, if_pos rfl, with_ok h.may m1 false, ?_, withS_least h.may m1 false⟩
    rw [left_q h.may h1 h8 false]
    have := core_filter (core_cp s.q) (j : Int)
    rw [this]
    exact core_filter h.due _
  | false =>
    right
    refine ⟨6, by omega, by simp, h.may, ?_, h.least⟩
    rw [core_filter h.due, List.filter_eq_self.2]
    intro t htm
    have := (out_false h.may htm).2.2
    have h2 := (there_iff g1 t.1).2 this
    simp only [Bool.not_eq_true', decide_eq_false_iff_not]
    intro e
    rw [e, ht] at h2
    cases h2
/-- What is due behind a deed. -/
def dueT (s : Ses) (due : List Pc) (j : Nat) (d : Dd) : List Pc := if d.1 = 1 ∧ s.h = (j : Int) ∧ sizeQ due + d.2.1.length ≤ 64 then due ++ [((j : Int), s.k j + 1, d.2.1, d.2.2.2.2)] else due
theorem take_inv {s : Ses} {due : List Pc} (h : RInv s due) (j : Nat) (d : Dd) (e : (takeS s j (s.k j + 1) d).2 = 0) : RInv (takeS s j (s.k j + 1) d).1 (dueT s due j d) := by
  have hso := take_ok h.may e
  obtain ⟨j2, hj, h1, h8, ht, hk, hn, hd, e2⟩ := take_some h.may e
  have : j2 = j := by omega
  subst this
  have hc := cnt_ok (cpS_ok h.may) (j := j2) (by omega) ht hk
  have g3 := (ses_parts h.may).2.2.1
  have cq : (cntS (cpS s) j2 (s.k j2 + 1)).q = cpQ s.q := cpS_q g3
  have cle : leastB (cntS (cpS s) j2 (s.k j2 + 1)) = true := h.least
  have hq : mayQ 0 (cpQ s.q) = true := by rw [may_cp]; exact g3
  refine ⟨hso, ?_, ?_⟩
  · rw [e2]
    unfold doS dueT
    have hsz : sizeQ due = sizeQ (cpQ s.q) := by rw [sizeQ_cp]; exact core_size h.due
    have dc : coreQ due = coreQ (cpQ s.q) := by rw [core_cp]; exact h.due
    by_cases k1 : d.1 = 1
    · rw [if_pos k1]
      by_cases hh : s.h = (j2 : Int)
      · rw [if_pos (show (cntS (cpS s) j2 (s.k j2 + 1)).h = (j2 : Int) from hh)]
        show _ = coreQ (pushM (cntS (cpS s) j2 (s.k j2 + 1)).q _).1
        rw [cq, pushM_eq hq]
        have hp : pieceB (j2 : Int) (s.k j2 + 1) d.2.1.length = true := by
          have := hd
          unfold deedD deedB at this
          rw [if_pos k1] at this
          simp only [Bool.and_eq_true, decide_eq_true_eq] at this
          have hr := cnt_range h.may j2 (by omega)
          simp only [pieceB, Bool.and_eq_true, decide_eq_true_eq]
          omega
        by_cases hz : sizeQ due + d.2.1.length ≤ 64
        · rw [if_pos ⟨k1, hh, hz⟩, if_pos ⟨hp, by rw [← hsz]; exact hz⟩, core_app, core_app, core_cp, ← dc]
          rfl
        · rw [if_neg (fun h => hz h.2.2), if_neg (fun h => hz (by rw [hsz]; exact h.2)), core_cp]
          exact dc
      · rw [if_neg (fun h => hh h.2.1), if_neg (show ¬ (cntS (cpS s) j2 (s.k j2 + 1)).h = (j2 : Int) from hh), cq]
        exact dc
    · rw [if_neg k1, if_neg (fun h => k1 h.1)]
      split
      · show _ = coreQ (cntS (cpS s) j2 (s.k j2 + 1)).q
        rw [cq]; exact dc
      · split
        · split
          · show _ = coreQ (cntS (cpS s) j2 (s.k j2 + 1)).q
            rw [cq]; exact dc
          · rw [cq]; exact dc
        · show _ = coreQ (cntS (cpS s) j2 (s.k j2 + 1)).q
          rw [cq]; exact dc
  · rw [e2]
    have hw := (ses_parts (by rw [e2] at hso; exact hso)).2.2.2.1
    revert hw
    unfold doS
    split
    · split
      · intro _; exact cle
      · intro _; exact cle
    · split
      · intro hw; exact least_st (s := winS (cntS (cpS s) j2 (s.k j2 + 1)) j2 d.2.2.1 d.2.2.2.1) hw
      · split
        · split
          · intro _; exact cle
          · intro _; exact cle
        · intro _; exact cle
theorem write_inv {s : Ses} {due : List Pc} (h : RInv s due) (n : Int) : RInv (writeS s n).1 (due.drop (writeS s n).2.length) ∧ (writeS s n).2.length ≤ due.length ∧ coreQ (writeS s n).2 = coreQ (due.take (writeS s n).2.length) := by
  have g3 := (ses_parts h.may).2.2.1
  have hq : mayQ 0 (cpS s).q = true := (ses_parts (cpS_ok h.may)).2.2.1
  have cq : (cpS s).q = cpQ s.q := cpS_q g3
  have e : writeS s n = (queS (cpS s) (popM (cpS s).q n).1, (popM (cpS s).q n).2) := by unfold writeS; rw [if_pos h.may]
  have hl := popN_le (cpQ s.q) n
  have e1 : (writeS s n).2 = cpQ ((cpQ s.q).take (popN (cpQ s.q) n)) := by rw [e]; show (popM (cpS s).q n).2 = _; rw [popM, if_pos hq, cq]
  have e2 : (writeS s n).1.q = cpQ ((cpQ s.q).drop (popN (cpQ s.q) n)) := by rw [e]; show (popM (cpS s).q n).1 = _; rw [popM, if_pos hq, cq]
  have dc : coreQ due = coreQ (cpQ s.q) := by rw [core_cp]; exact h.due
  have dl := core_len dc
  have e3 : (writeS s n).2.length = popN (cpQ s.q) n := by rw [e1, cpQ_len, List.length_take]; omega
  refine ⟨⟨write_ok h.may n, ?_, ?_⟩, ?_, ?_⟩
  · rw [e2, e3, core_cp]; exact core_drop dc _
  · rw [e]; exact h.least
  · rw [e3, dl]; exact hl
  · rw [e3, e1, core_cp]; exact (core_take dc _).symm
/-- Who holds the token may write. -/
theorem holds {s : Ses} (hs : sesB s = true) (h : s.h ≠ 0) : roleOf s.mem s.h = 2 := by
  obtain ⟨g1, g2, g3, g4, g5, g6, g7, g8, g9⟩ := ses_parts hs
  rcases g6 with h0 | h0
  · exact absurd h0 h
  · exact (wr_iff g1 _).1 h0
end Go.Proofs.Ythcnhibjddomdaa
