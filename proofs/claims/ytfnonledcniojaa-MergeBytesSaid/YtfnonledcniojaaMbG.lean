/- MergeBytes: both turns, and the law. Conditions: as the statements say. -/
import Derived.Test.YtfnonledcniojaaMbE
import Derived.Test.YtfnonledcniojaaMbF
set_option linter.unusedVariables false
set_option linter.unusedSimpArgs false
set_option linter.unusedSectionVars false
namespace Go.Proofs.Ytfnonledcniojaa
open Go Go.RowKit Go.Shelf
def cs1 : Code → Code | .seq a _ => a | c => c
def cs2 : Code → Code | .seq _ b => b | c => c
def cbd : Code → Code | .block _ b => b | .loop b => b | c => c
noncomputable def mbT : Code := tailC 8 mbBody
noncomputable def mbL : Code := cbd (cbd (cs2 (cs1 mbT)))
noncomputable def mbK : Code := cbd (cs1 (cs2 mbL))
set_option maxRecDepth 100000 in
theorem mbT_eq : tailC 8 mbBody = .seq (.seq (cs1 (cs1 mbT)) (.block 4 (.loop mbL))) (cs2 mbT) := by kernel_rfl
set_option maxRecDepth 100000 in
theorem mbL_eq : mbL = .seq (cs1 mbL) (.seq (.block 5 (.seq (cs1 mbK) (.seq (.seq (cs1 (cs1 (cs2 mbK))) (.block 6 rfC)) (cs2 (cs2 mbK))))) (cs2 (cs2 mbL))) := by kernel_rfl
set_option maxRecDepth 100000 in
theorem chk_18 : chkCode Try.prog 106 (cs1 (cs1 mbT)) mbP18 = true := by kernel_rfl
set_option maxRecDepth 100000 in
theorem chk_33 : chkCode Try.prog 106 (cs2 mbT) mbP33 = true := by kernel_rfl
set_option maxRecDepth 100000 in
theorem chk_a : chkCode Try.prog 106 (cs1 mbL) mbPA = true := by kernel_rfl
set_option maxRecDepth 100000 in
theorem chk_b : chkCode Try.prog 106 (cs1 mbK) mbPB = true := by kernel_rfl
set_option maxRecDepth 100000 in
theorem chk_c : chkCode Try.prog 106 (cs1 (cs1 (cs2 mbK))) mbPC = true := by kernel_rfl
set_option maxRecDepth 100000 in
theorem chk_d : chkCode Try.prog 106 (cs2 (cs2 mbK)) mbPD = true := by kernel_rfl
set_option maxRecDepth 100000 in
theorem chk_e : chkCode Try.prog 106 (cs2 (cs2 mbL)) mbPE = true := by kernel_rfl
abbrev stH (left : Int) (q : List Pc) (f : Bool) (wh : List (Int × Int)) (turn : Int) : ASt := ⟨envH, hpC left q f wh turn⟩
/-- One turn. -/
theorem turn_ok (q : List Pc) (f : Bool) (left turn : Int) (h2 : turn < 2) (hok : okL q) (hl2 : q.length ≤ 100) (Ds : List Nat) (w0 : World) (wh : List (Int × Int)) (hwh : wh = if mayQ 0 q = true then pairs q else []) (ht : turn = 0 ∨ turn = 1) (t2 : Int) (ht2 : IntKind.i64.wrap (turn + 1) = t2) (a : Act) (w : World)
    (k : GD Ds w0 (stH left q f wh turn) a w) (Q : Exit → Act → World → Prop)
    (hQ : ∀ D a' w', GD (D :: Ds) w0 (stH left q f wh t2) a' w' → Q .normal a' w') : mbL.wp Try.prog Q a w := by
  rw [mbL_eq]
  refine wp_seq (k.part (pa_go (fun _ => none) left q f wh turn h2) chk_a fun a1 w1 k1 => ?_)
  refine wp_seq (wp_block (wp_seq (k1.part (pb_run (fun _ => none) left q f wh turn) chk_b fun a2 w2 k2 => ?_)))
  refine wp_seq (wp_seq (k2.part (pc_run (fun _ => none) _ (niC wh)) chk_c fun a3 w3 k3 => ?_))
  refine wp_block (wpIn_wide.1 (rf_ok q f left turn hok hl2 Ds w0 wh hwh a3 w3 k3 _ fun ex m D a4 w4 hex k4 => ?_))
  have hm : turn = 1 → m = wh.length := fun h => by
    rcases hex with ⟨_, hm⟩ | ⟨_, h0⟩
    · exact hm
    · omega
  have key : (cs2 (cs2 mbK)).wp Try.prog (Exit.inBlock 5 (Exit.then ((cs2 (cs2 mbL)).wp Try.prog Q) Q)) a4 w4 := by
    refine k4.part (pd_run (fun _ => none) left q f wh turn m hm) chk_d fun a5 w5 k5 => ?_
    refine k5.part (pe_run (fun _ => none) left q f wh turn t2 m ht2) chk_e fun a6 w6 k6 => ?_
    exact hQ D a6 w6 (k6.agc (pe_gc left q f wh turn t2 m))
  rcases hex with ⟨rfl, _⟩ | ⟨rfl, _⟩
  · exact key
  · exact key
/-- The way out: the result's box is read when the deferrals are taken. -/
theorem mb_leave {w0 : World} {fn : Func} {tmps : Array Value} {b o : Nat} (hr : chkRes Try.prog fn.results.toList [.cell 4 false 1] = true) (h4 : tmps[4]? = some (.pointer (some ⟨b, o, none⟩))) (n : Nat) : ∀ (Ds : List Nat) (w : World), w.cell? ⟨b, o, none⟩ = some (.bool true) → Ds.Nodup → (∀ D ∈ Ds, w.heap[D]? = some (.deferred (some [])) ∧ D ≠ b ∧ w0.heap.size ≤ D) → Below w0.heap.size w0 w →
    LeavesInM Fence.wide n Try.prog fn tmps (fun e w' => e = .returned (.bool true) ∧ Below w0.heap.size w0 w') (colD Ds) .returning w := by
  intro Ds
  induction Ds with
  | nil =>
    intro w hc _ _ hB
    have H : Heap (fun _ => none) w (fun _ => False) (fun _ => False) [] := ⟨fun id g pl h => (nomatch h), fun id id' g g' p p' h => (nomatch h), fun b hb => hb.elim False.elim False.elim, fun _ hb => hb.elim⟩
    have hlt : b < w.heap.size := by
      obtain ⟨ob, ho, _⟩ := cells_of_cell hc
      exact (Array.getElem?_eq_some_iff.1 ho).1
    have R : Rel (fun _ => none) (fun _ => none) w (fun _ => False) (fun _ => False) [(4, .dptr [.bool true])] { tmps := tmps, defers := [] } := by
      refine ⟨fun s v hs => ?_, fun g cs h => (nomatch h)⟩
      simp only [look] at hs
      split at hs
      · rename_i e; cases hs; subst e
        exact ⟨_, h4, dptr_of hc rfl (.bool _) (fun h => h) hlt⟩
      · cases hs
    obtain ⟨v, hv, hrv⟩ := results_ok (fn := fn) (a := { tmps := tmps, defers := [] }) (res := [.cell 4 false 1]) (st := ⟨[(4, .dptr [.bool true])], []⟩) (v := .bool true) H R hr rfl
    obtain rfl := rv_bool hrv
    exact ⟨_, hv, rfl, hB⟩
  | cons D Ds ih =>
    intro w hc hnd hD hB
    obtain ⟨h1, h2, h3⟩ := hD D (List.mem_cons_self ..)
    obtain ⟨n1, n2⟩ := List.nodup_cons.1 hnd
    have oth : ∀ k, k ≠ D → (w.putObj D (.deferred none)).heap[k]? = w.heap[k]? := fun k hk => World.putObj_heap_other hk
    refine ⟨by simp, .inl ⟨D, _, rfl, run_takeDeferred h1, ih _ ?_ n2 (fun E hE => ?_) ?_⟩⟩
    · exact (World.cell?_of_block (oth b (fun e => h2 e.symm))).trans hc
    · obtain ⟨e1, e2, e3⟩ := hD E (List.mem_cons_of_mem _ hE)
      exact ⟨(oth E (fun e => n1 (by rw [← e]; exact hE))).trans e1, e2, e3⟩
    · exact hB.trans (belowK_b (w := w0) (Nat.le_refl _) w D _ _ h3 h1 rfl rfl)
theorem mb_hT (q : List Pc) (f : Bool) (left : Int) (w : World) (hg : greatQ q = false) (a : Act) (w' : World) (k : MbAt (fun _ => none) q f left w a w') :
    (tailC 8 mbBody).wpIn Fence.wide 5 Try.prog (bodyPostM Fence.wide 5 Try.prog Try.f4 fun e w' => e = .returned (.bool true) ∧ Below w.heap.size w w') a w' := by
  obtain ⟨i, ρ, O, k⟩ := k
  obtain ⟨hl, hok⟩ := great_ok hg
  have k0 : GD [] w ⟨[(0, .data false 3 (pcs q) f), (3, .ptr 0 0 0 0), (4, .ptr 1 0 0 0), (5, fnB), (6, .ptr 3 0 0 0), (7, .ptr 4 0 0 0), (8, .int .i64 i), (29, .bool false)], hpB left q f (if mayQ 0 q = true then pairs q else [])⟩ a w' := ⟨ρ, O, k, List.nodup_nil, fun D h => by simp at h⟩
  obtain ⟨wh, hwh⟩ : ∃ wh, wh = if mayQ 0 q = true then pairs q else [] := ⟨_, rfl⟩
  rw [← hwh] at k0
  refine wpIn_wide.2 ?_
  rw [mbT_eq]
  refine wp_seq (wp_seq (k0.part (p18_run (fun _ => none) left q f wh i) chk_18 fun a1 w1 k1 => ?_))
  have k1 := k1.agc (p18_gc left q f wh)
  refine wp_block (wp_loop_rounds 3 ?_)
  rw [rounds_succ]
  refine turn_ok q f left 0 (by decide) hok hl [] w wh hwh (.inl rfl) 1 (by decide) a1 w1 k1 _ fun D1 a2 w2 k2 => ?_
  show Code.rounds _ _ _ 2 a2 w2
  rw [rounds_succ]
  refine turn_ok q f left 1 (by decide) hok hl [D1] w wh hwh (.inr rfl) 2 (by decide) a2 w2 k2 _ fun D2 a3 w3 k3 => ?_
  show Code.rounds _ _ _ 1 a3 w3
  rw [rounds_succ, mbL_eq]
  refine wp_seq (k3.part (pa_end (fun _ => none) left q f wh) chk_a fun a4 w4 k4 => ?_)
  refine k4.part (p33_run (fun _ => none) left q f wh 2 false) chk_33 fun a5 w5 k5 => ?_
  obtain ⟨ρ5, O5, k5, hnd, hD⟩ := k5
  obtain ⟨x4, t4, r4⟩ := k5.rel.env 4 _ rfl
  obtain ⟨pr, y4, _, o4, rfl, c4, v4, _⟩ := box_at k5.heap r4 (show ((hpC left q f wh 2).set 1 ⟨1, 0, true, [[.bool true]]⟩)[1]? = some ⟨1, 0, true, [[.bool true]]⟩ by cases wh <;> rfl)
  obtain rfl := rv_bool v4
  have A := k5.adv
  show LeavesInM Fence.wide 5 _ _ a5.tmps _ a5.defers .returning w5
  rw [k5.def0.1]
  exact mb_leave (by kernel_rfl) t4 5 [D2, D1] w5 c4 hnd (fun D h => ⟨(hD D h).1, fun e => (hD D h).2.1 (by rw [e]; exact o4), (hD D h).2.2⟩) ⟨A.os, A.tape, A.output, A.size, fun b hb => A.same b hb (fun h => h)⟩
theorem mb_calls (q : List Pc) (f : Bool) (left : Int) (w : World) (x y : Value)
    (hargs : RepL (RepV (fun _ => none) w (fun _ => False) (fun _ => False)) [.data false 3 (pcs q) f, .int .i64 left] [x, y]) :
    Calls Try.prog 4 #[x, y] w fun e w' => e = .returned (.bool true) ∧ Below w.heap.size w w' :=
  mb_pre (fun _ => none) q f left w x y (fun g cs h => (nomatch h)) hargs fun hg a' w' k => mb_hT q f left w hg a' w' k
end Go.Proofs.Ytfnonledcniojaa
