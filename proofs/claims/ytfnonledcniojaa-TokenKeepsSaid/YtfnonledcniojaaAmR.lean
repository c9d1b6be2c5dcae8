/- Each operation of the small machine stands for the program's operation: append, bytes of a string. Conditions: none. -/
import Derived.Test.YtfnonledcniojaaAmP
namespace Go.Proofs.Ytfnonledcniojaa
open Go Go.RowKit
section
variable {P : Program} {G : Nat → Option (List AV)} {ρ : Rho} {w : World} {S O : Nat → Prop} {env : AEnv} {h : List ARow} {a : Act} {o : Oper} {v : AV} {h' : List ARow}

theorem RepV.drew {x : Value} (h : RepV ρ w S O v x) : RepV ρ w.drew S O v x := h.adv (.refl ρ) (.drew w O)
theorem CellsP.drew {f : Bool} {cs : List AV} {vs : List Value} (h : CellsP (CellQ ρ w S O f) cs vs) : CellsP (CellQ ρ w.drew S O f) cs vs := h.adv (.refl ρ) (.drew w O)
theorem OpOk.drew {run : Result Next} (k : OpOk ρ w.drew S O h run v h') : OpOk ρ w S O h run v h' := by
  obtain ⟨x, w', ρ', O', h1, h2, h3⟩ := k
  exact ⟨x, w', ρ', O', h1, (AdvW.drew w O).trans h2, h3⟩
theorem OpN.drew {run : Result Next} (k : OpN ρ w.drew S O h run v h') : OpN ρ w S O h run v h' := by
  obtain ⟨x, w', ρ', O', h1, h2, h3⟩ := k
  exact ⟨x, w', ρ', O', h1, (AdvW.drew w O).trans h2, h3⟩
/-- The cells of a slice that has grown. -/
theorem grown_size {z : Array Value} {olds news : List Value} {l n k c : Nat} (h1 : olds.length = l * k) (h2 : news.length = n * k) (hz : z.size = k) (hc : l + n ≤ c) :
    (olds.toArray ++ news.toArray ++ Builtin.zeroCells z (c - (l + n))).size = c * k := by
  rw [Array.size_append, Array.size_append, size_zeroCells, hz, List.size_toArray, List.size_toArray, h1, h2, ← Nat.add_mul, ← Nat.add_mul]
  congr 1; omega
theorem ok_append {k bytes : Nat} {x y : AOpd} (hop : chkOp P o.op (.append k bytes x y) = true) (R : Rel G ρ w S O env a) (H : Heap ρ w S O h) (he : aop G env h (.append k bytes x y) = some (v, h')) : OpOk ρ w S O h ((execOp a.eval o).run P w) v h' := by
  obtain ⟨vx, hx0, he⟩ := opt_bind_some.1 he
  obtain ⟨vy, hy0, he⟩ := opt_bind_some.1 he
  obtain ⟨⟨ys, fl⟩, hg, he⟩ := opt_bind_some.1 he
  obtain ⟨x', y', t, u, e, i, z, u2, ts, heq, hts, hx, hy, ht, hu, hi, hsz, hby, hk0, hb0, hz, hzk⟩ := append_chk hop
  have rx := ev_rep hx R hx0
  obtain ⟨ad2, cap2, us, hzy, hle2, hyl, hq, hcells⟩ := groups_cells H (ev_rep hy R hy0) hg
  have hul : us.length = ys.length * k := by rw [← hq.1, flatten_len hyl]
  have hfc := firstCells_run (P := P) (w := w) (ad := ad2) (len := ys.length) (cap := cap2) (k := k) (n := ys.length) (us := us) hul hcells
  have hfd := firstCells_run (P := P) (w := w.drew) (ad := ad2) (len := ys.length) (cap := cap2) (k := k) (n := ys.length) (us := us) hul hcells
  have run1 : ∀ {vv w'}, (Builtin.append_ ts o.type #[a.eval x', a.eval y']).run P w = .ok vv w' → (execOp a.eval o).run P w = .ok (.value vv) w' := fun hr => by
    simp [execOp, heq, resolve, invoke, builtin, hr]
  rw [← hsz] at hfc hfd
  cases vx with
  | own id g s l c =>
    obtain ⟨r, hrow, he⟩ := opt_bind_some.1 he
    simp only at he
    split at he
    · rename_i hin
      split at he
      case isFalse => cases he
      rename_i hc
      obtain ⟨hgen, hrk, hsl⟩ := hc
      cases he
      obtain ⟨g', pl, ad, cap, hzx, hρ, hle, hlc, hcc, has, hpl⟩ := rv_own rx
      obtain ⟨hg', his⟩ := H.at hρ hrow
      have hgg : g = g' := by omega
      subst hgg
      rw [hzx, hzy] at run1
      have hroom : l + ys.length ≤ cap := by omega
      rcases hpl rfl with hc1 | ⟨p, rfl, rfl, hlim⟩
      · omega
      have hpk : p.k = r.k := RowRep.k his
      obtain ⟨q1, q2, q3⟩ := H.splice hρ hrow (s := s + l) (ys := ys) (vs := us) (fl := r.flat && fl) (by omega) (fun g hg => by rw [hrk]; exact hyl g hg) (fun hf => by simp at hf; exact hf.1) (hq.weak (fun hf => by simp at hf; exact hf.2))
      rw [hrk] at q1 q2 q3
      have er : ({ r with k := k, es := r.es.take (s + l) ++ ys ++ r.es.drop (s + l + ys.length), flat := r.flat && fl } : ARow) = ⟨k, g, r.flat && fl, r.es.take (s + l) ++ ys ++ r.es.drop (s + l + ys.length)⟩ := by rw [← hgen]
      refine ⟨_, _, ρ, O, .inl (run1 (append_room ht hts hu hi hfc hroom ?_)), q2, .refl ρ, ?_, ?_, fun j _ hn => hn⟩
      · have hst := storeCells_run (P := P) q3 hq.one
        have ea : p.base + (s + l) * k = p.base + s * p.k + l * i.size := by rw [hpk, hrk, hsz, Nat.add_mul]; omega
        simp only [addr_add]
        rw [← ea]; exact hst
      · rw [← er]; exact q1
      · exact .own id g g (some p) s _ _ _ _ hρ (Nat.le_refl _) hroom hcc (fun _ => rfl) (fun _ => .inr ⟨p, rfl, rfl, hlim⟩)
    split at he
    case isFalse => cases he
    rename_i hnin hc
    obtain ⟨hgen, hrk, hsl, hbo⟩ := hc
    cases he
    obtain ⟨g', pl, ad, cap, hzx, hρ, hle, hlc, hcc, has, hpl⟩ := rv_own rx
    obtain ⟨hg', his⟩ := H.at hρ hrow
    have hgg : g = g' := by omega
    subst hgg
    simp only [aboundsOk, decide_eq_true_eq] at hbo
    rw [← hby] at hbo
    rw [hzx, hzy] at run1
    by_cases hroom : l + ys.length ≤ cap
    · by_cases hc0 : cap = 0
      · have hl0 : l = 0 := by omega
        have hy0 : ys = [] := List.eq_nil_of_length_eq_zero (by omega)
        subst hl0 hy0
        have hu0 : us = [] := List.eq_nil_of_length_eq_zero (by simpa using hul)
        subst hu0
        obtain ⟨q1, q2⟩ := H.unplace hρ hrow ⟨k, g + 1, r.flat && fl, (r.es.drop s).take 0 ++ []⟩ (by simp) rfl
        refine ⟨_, w, _, O, .inl (run1 (append_room ht hts hu hi hfc hroom ?_)), .refl w O, q2, q1, ?_, ?_⟩
        · cases ad <;> simp [storeCells]
        · exact .own _ _ _ _ _ _ _ _ _ (upd_same ρ _ _) (Nat.le_refl _) hroom hroom (fun h => by omega) (fun _ => .inl hc0)
        · intro j hj hn
          rw [upd_ne ρ _ (fun e => by rw [e, hρ] at hn; cases hn)]; exact hn
      · rcases hpl rfl with hc1 | ⟨p, rfl, rfl, hlim⟩
        · omega
        have hpk : p.k = r.k := RowRep.k his
        obtain ⟨q1, q2, q3, q4⟩ := H.reroom hρ hrow (s := s) (l := l) (cap := cap) (ys := ys) (us := us) (fl := r.flat && fl) hsl hlim hroom (fun g hg => by rw [hrk]; exact hyl g hg) (fun hf => by simp at hf; exact hf.1)
          (hq.weak (fun hf => by simp at hf; exact hf.2))
        rw [hrk] at q1 q2 q3 q4
        refine ⟨_, _, _, O, .inl (run1 (append_room ht hts hu hi hfc hroom ?_)), q3, q2, q1, ?_, ?_⟩
        · have hst := storeCells_run (P := P) q4 hq.one
          have ea : p.base + (s + l) * k = p.base + s * p.k + l * i.size := by rw [hpk, hrk, hsz, Nat.add_mul]; omega
          simp only [addr_add]
          rw [← ea]; exact hst
        · exact .own _ _ _ _ _ _ _ _ _ (upd_same ρ _ _) (Nat.le_refl _) hroom hroom (fun _ => rfl) (fun _ => .inr ⟨_, rfl, by simp [hpk, hrk], by simp⟩)
        · intro j hj hn
          rw [upd_ne ρ _ (fun e => by rw [e, hρ] at hn; cases hn)]; exact hn
    · have hgx : agroups h k (.own id g s l c) = some ((r.es.drop s).take l, r.flat) := by
        simp [agroups, hrow, hgen, hrk, hsl]
      obtain ⟨adx, capx, usx, hzx2, hlx, hxl, hqx, hcx⟩ := groups_cells H rx hgx
      have hxlen : ((r.es.drop s).take l).length = l := by simp; omega
      rw [hxlen] at hzx2
      rw [hzx] at hzx2
      cases hzx2
      have hxul : usx.length = l * k := by rw [← hqx.1, flatten_len hxl, hxlen]
      have hfo := firstCells_run (P := P) (w := w.drew) (ad := ad) (len := l) (cap := cap) (k := k) (n := l) (us := usx) hxul hcx
      rw [← hsz] at hfo
      have hrun := run1 (append_grow ht hts hu hi hz (by omega) hfo hfd (by omega) hbo)
      have hge := grownCap_ge w (l + ys.length) cap e
      have hqq : CellsP (CellQ ρ w S O (r.flat && fl)) ((r.es.drop s).take l ++ ys).flatten (usx ++ us) := by
        rw [List.flatten_append]
        exact (hqx.weak (fun hf => by simp at hf; exact hf.1)).append (hq.weak (fun hf => by simp at hf; exact hf.2))
      have hsz2 := grown_size (c := grownCap w (l + ys.length) cap e) hxul hul hzk hge
      obtain ⟨q1, q2⟩ := H.drew.regrow (id := id) (x := (g + 1, some ⟨w.heap.size, 0, k, grownCap w (l + ys.length) cap e⟩)) (fun g0 pl0 h0 => by rw [hρ] at h0; cases h0; exact Nat.lt_succ_self _) (Nat.le_of_lt (H.lt hρ))
        (usx.toArray ++ us.toArray ++ Builtin.zeroCells z.cells (grownCap w (l + ys.length) cap e - (l + ys.length))) e ⟨k, g + 1, r.flat && fl, (r.es.drop s).take l ++ ys⟩ (grownCap w (l + ys.length) cap e) (usx ++ us) rfl
        (by simp only [List.length_append, hxlen]; exact hge) (Nat.le_of_eq hsz2.symm) (fun g hg => by
          rcases List.mem_append.1 hg with hg | hg
          · exact hxl g hg
          · exact hyl g hg) (fun j hj => by
          rw [Array.getElem?_append_left (by simpa using hj), ← Array.getElem?_toList]
          simp) hqq.drew (h.set id ⟨k, g + 1, r.flat && fl, (r.es.drop s).take l ++ ys⟩) (by rw [List.getElem?_set_self (H.lt hρ)]) (fun j hj _ => by rw [List.getElem?_set_ne (Ne.symm hj)])
      refine OpOk.drew ⟨_, _, _, _, .inl hrun, AdvW.alloc w.drew O _, q2, q1, ?_, ?_⟩
      · exact .own _ _ _ _ _ _ _ _ _ (upd_same ρ _ _) (Nat.le_refl _) hge hge (fun _ => rfl) (fun _ => .inr ⟨_, rfl, by simp, by simp⟩)
      · intro j hj hn
        rw [upd_ne ρ _ (fun e => by rw [e, hρ] at hn; cases hn)]; exact hn
  | data bo k' es full =>
    cases full with
    | false => cases he
    | true =>
      obtain ⟨ad, cap, hzx, h1, h2, h3, h4⟩ := rv_data rx
      have hcap := h2 rfl
      subst hcap
      rw [hzx, hzy] at run1
      cases es with
      | nil =>
        change (if aboundsOk ys.length bytes = true then some (AV.own h.length 0 0 ys.length ys.length, h ++ [⟨k, 0, fl, ys⟩]) else none) = some (v, h') at he
        split at he
        case isFalse => cases he
        rename_i hbo
        cases he
        simp only [aboundsOk, decide_eq_true_eq] at hbo
        rw [← hby] at hbo
        cases ys with
        | nil =>
          have hu0 : us = [] := List.eq_nil_of_length_eq_zero (by simpa using hul)
          subst hu0
          refine ⟨_, w, upd ρ h.length (0, none), O, .inl (run1 (append_room ht hts hu hi hfc (by simp) ?_)), .refl w O, ext_upd ρ _ (H.none_ge (Nat.le_refl _)), H.virtual ⟨k, 0, fl, []⟩ rfl, ?_, upd_mono ρ _ (Nat.le_refl _)⟩
          · cases ad <;> simp [storeCells]
          · exact .own _ _ _ _ _ _ _ _ _ (upd_same ρ _ _) (Nat.le_refl _) (by simp) (by simp) (fun h => by simp at h) (fun _ => .inl rfl)
        | cons y0 ys =>
          have hfo := firstCells_run (P := P) (w := w.drew) (ad := ad) (len := 0) (cap := 0) (k := k) (n := 0) (us := []) (by simp) (.inl rfl)
          rw [← hsz] at hfo
          have hrun := run1 (append_grow ht hts hu hi hz (by omega) hfo hfd (by simp) (by simpa using hbo))
          have hge := grownCap_ge w (0 + (y0 :: ys).length) 0 e
          have hsz2 := grown_size (c := grownCap w (0 + (y0 :: ys).length) 0 e) (olds := []) (by simp) hul hzk hge
          refine OpOk.drew (OpN.toOp (.alloc H.drew _ e ⟨k, 0, fl, y0 :: ys⟩ (grownCap w (0 + (y0 :: ys).length) 0 e) us (by simpa using hge) (Nat.le_of_eq hsz2.symm) hyl (fun j hj => ?_) hq.drew hrun ?_))
          · rw [Array.getElem?_append_left (by simpa using hj), ← Array.getElem?_toList]; simp
          · have hz0 : 0 + (y0 :: ys).length = (y0 :: ys).length := Nat.zero_add _
            generalize hcc : grownCap w (0 + (y0 :: ys).length) 0 e = cc at hge
            rw [hz0] at hge
            rw [show ([] : List (List AV)).length + (y0 :: ys).length = (y0 :: ys).length from Nat.zero_add _]
            exact .own _ _ _ _ _ _ _ _ _ (upd_same ρ _ _) (Nat.le_refl _) hge hge (fun _ => rfl) (fun _ => .inr ⟨_, rfl, by simp, by simp⟩)
      | cons e0 es =>
        cases ys with
        | nil =>
          change some (AV.data bo k' (e0 :: es) true, h) = some (v, h') at he
          cases he
          have hu0 : us = [] := List.eq_nil_of_length_eq_zero (by simpa using hul)
          subst hu0
          refine .pure H (run1 (append_room ht hts hu hi hfc (by simp) ?_)) (hzx ▸ rx)
          cases ad <;> simp [storeCells]
        | cons y0 ys =>
          change (if k' = k ∧ aboundsOk (es.length + 1 + (y0 :: ys).length) bytes = true then some (AV.own h.length 0 0 (es.length + 1 + (y0 :: ys).length) (es.length + 1 + (y0 :: ys).length), h ++ [⟨k, 0, fl, e0 :: es ++ (y0 :: ys)⟩]) else none) = some (v, h') at he
          split at he
          case isFalse => cases he
          rename_i hbo
          obtain ⟨rfl, hbo⟩ := hbo
          cases he
          simp only [aboundsOk, decide_eq_true_eq] at hbo
          rw [← hby] at hbo
          have hgx : agroups h k' (.data bo k' (e0 :: es) true) = some (e0 :: es, true) := by simp [agroups]
          obtain ⟨adx, capx, usx, hzx2, hlx, hxl, hqx, hcx⟩ := groups_cells H rx hgx
          rw [hzx] at hzx2
          cases hzx2
          have hxul : usx.length = (e0 :: es).length * k' := by rw [← hqx.1, flatten_len hxl]
          have hfo := firstCells_run (P := P) (w := w.drew) (ad := ad) (len := (e0 :: es).length) (cap := (e0 :: es).length) (k := k') (n := (e0 :: es).length) (us := usx) hxul hcx
          rw [← hsz] at hfo
          have hrun := run1 (append_grow ht hts hu hi hz (by omega) hfo hfd (by simp) hbo)
          have hge := grownCap_ge w ((e0 :: es).length + (y0 :: ys).length) (e0 :: es).length e
          have hsz2 := grown_size (c := grownCap w ((e0 :: es).length + (y0 :: ys).length) (e0 :: es).length e) hxul hul hzk hge
          have hqq : CellsP (CellQ ρ w S O fl) (e0 :: es ++ (y0 :: ys)).flatten (usx ++ us) := by
            rw [List.flatten_append]
            exact (hqx.weak (fun _ => rfl)).append hq
          refine OpOk.drew (OpN.toOp (.alloc H.drew _ e ⟨k', 0, fl, e0 :: es ++ (y0 :: ys)⟩ (grownCap w ((e0 :: es).length + (y0 :: ys).length) (e0 :: es).length e) (usx ++ us) (by rw [List.length_append]; exact hge) (Nat.le_of_eq hsz2.symm) (fun g hg => ?_) (fun j hj => ?_) hqq.drew hrun ?_))
          · rcases List.mem_append.1 hg with hg | hg
            · exact hxl g hg
            · exact hyl g hg
          · rw [Array.getElem?_append_left (by simpa using hj), ← Array.getElem?_toList]; simp
          · exact .own _ _ _ _ _ _ _ _ _ (upd_same ρ _ _) (Nat.le_refl _) hge hge (fun _ => rfl) (fun _ => .inr ⟨_, rfl, by simp, by simp⟩)
  | _ => cases he
theorem ok_appendD {k bytes : Nat} {x y : AOpd} (hop : chkOp P o.op (.appendD k bytes x y) = true) (R : Rel G ρ w S O env a) (H : Heap ρ w S O h) (he : aop G env h (.appendD k bytes x y) = some (v, h')) : OpN ρ w S O h ((execOp a.eval o).run P w) v h' := by
  obtain ⟨vx, hx0, he⟩ := opt_bind_some.1 he
  obtain ⟨vy, hy0, he⟩ := opt_bind_some.1 he
  obtain ⟨v1, hev, e1⟩ := opt_map_some.1 he
  clear he
  cases e1
  obtain ⟨⟨ys, fl⟩, hg, he⟩ := opt_bind_some.1 hev
  clear hev
  rw [chk_appendD] at hop
  obtain ⟨x', y', t, u, e, i, z, u2, ts, heq, hts, hx, hy, ht, hu, hi, hsz, hby, hk0, hb0, hz, hzk⟩ := append_chk hop
  have rx := ev_rep hx R hx0
  obtain ⟨ad2, cap2, us, hzy, hle2, hyl, hq, hcells⟩ := groups_cells H (ev_rep hy R hy0) hg
  have hul : us.length = ys.length * k := by rw [← hq.1, flatten_len hyl]
  have hfc := firstCells_run (P := P) (w := w) (ad := ad2) (len := ys.length) (cap := cap2) (k := k) (n := ys.length) (us := us) hul hcells
  have hfd := firstCells_run (P := P) (w := w.drew) (ad := ad2) (len := ys.length) (cap := cap2) (k := k) (n := ys.length) (us := us) hul hcells
  have run1 : ∀ {vv w'}, (Builtin.append_ ts o.type #[a.eval x', a.eval y']).run P w = .ok vv w' → (execOp a.eval o).run P w = .ok (.value vv) w' := fun hr => by
    simp [execOp, heq, resolve, invoke, builtin, hr]
  rw [← hsz] at hfc hfd
  split at he
  case h_2 => cases he
  rename_i k' es _
  split at he
  case isFalse => cases he
  rename_i hc
  obtain ⟨hk', hfl, hbo⟩ := hc
  have hfl : fl = true := hfl
  subst hfl
  cases he
  simp only [aboundsOk, decide_eq_true_eq] at hbo
  rw [← hby] at hbo
  obtain ⟨ad, cap, hzx, h1, h2, h3, h4⟩ := rv_data rx
  have hcap := h2 rfl
  subst hcap
  rw [hzx, hzy] at run1
  have hxl : ∀ g ∈ es, g.length = k := fun g hg => by
    have := h3 g hg
    cases es with
    | nil => simp at hg
    | cons e0 es => simp at hk'; omega
  cases ys with
  | nil =>
    have hu0 : us = [] := List.eq_nil_of_length_eq_zero (by simpa using hul)
    subst hu0
    have hrun := run1 (append_room (w' := w) ht hts hu hi hfc (by simp) (by cases ad <;> simp [storeCells]))
    refine .pure H hrun ?_
    simp only [List.append_nil, List.length_nil, Nat.add_zero]
    refine rv_mk_data (Nat.le_refl _) (fun h => by cases h) hxl ?_
    rcases h4 with h4 | h4
    · exact .inl h4
    · refine .inr ?_
      cases es with
      | nil => obtain ⟨b, off, val, q1, q2, q3, q4, q5, q6⟩ := h4; exact ⟨b, off, val, q1, q2, q3, q4, fun e j he => by simp at he, q6⟩
      | cons e0 es =>
        simp at hk'
        subst hk'
        exact h4
  | cons y0 ys =>
    have hgx : agroups h k (.data false k es true) = some (es, true) := by simp [agroups]
    have rx' : RepV ρ w S O (.data false k es true) (.slice ad es.length es.length) := by
      rw [← hzx]
      cases es with
      | nil => rw [hzx]; exact .s (.data0 _ _ _ _ (fun _ => rfl))
      | cons e0 es => simp at hk'; subst hk'; exact rx
    obtain ⟨adx, capx, usx, hzx2, hlx, hxl2, hqx, hcx⟩ := groups_cells H rx' hgx
    cases hzx2
    have hxul : usx.length = es.length * k := by rw [← hqx.1, flatten_len hxl]
    have hfo := firstCells_run (P := P) (w := w.drew) (ad := ad) (len := es.length) (cap := es.length) (k := k) (n := es.length) (us := usx) hxul hcx
    rw [← hsz] at hfo
    have hrun := run1 (append_grow ht hts hu hi hz (by omega) hfo hfd (by simp) hbo)
    have hge := grownCap_ge w (es.length + (y0 :: ys).length) es.length e
    have hqq : CellsP (CellQ ρ w S O true) (es ++ (y0 :: ys)).flatten (usx ++ us) := by
      rw [List.flatten_append]
      exact hqx.append hq
    rw [← List.length_append] at hrun hge
    refine OpN.drew (.frozen H.drew hrun (fun g hg => ?_) hge (fun h => by cases h) (fun j hj => ?_) hqq.drew)
    · rcases List.mem_append.1 hg with hg | hg
      · exact hxl g hg
      · exact hyl g hg
    · rw [Array.getElem?_append_left (by simpa using hj), ← Array.getElem?_toList]; simp

/-! ### Marks -/
theorem freeze_block {b lo hi : Nat} {arr : Array Value} {ty : TypeId} (hb : w.heap[b]? = some (.cells arr ty (lo, hi))) :
    (w.freeze ⟨b, arr.size, none⟩ 1).heap[b]? = some (.cells arr ty (if lo == hi then (arr.size, arr.size + 1) else (min lo arr.size, max hi (arr.size + 1)))) := by
  simp only [World.freeze, Nat.one_ne_zero, if_false, Array.getElem?_modify, if_true, hb, Option.map_some]
theorem freeze_marks {b lo hi : Nat} {arr : Array Value} {ty : TypeId} (hb : w.heap[b]? = some (.cells arr ty (lo, hi))) (h3 : lo ≤ hi ∧ ∀ j, j < arr.size → ¬ (lo ≤ j ∧ j < hi)) :
    ∃ lo' hi', (w.freeze ⟨b, arr.size, none⟩ 1).heap[b]? = some (.cells arr ty (lo', hi')) ∧ lo' ≤ hi' ∧ ∀ j, j < arr.size → ¬ (lo' ≤ j ∧ j < hi') := by
  have hf := freeze_block hb
  by_cases e : lo = hi
  · rw [if_pos (by simpa using e)] at hf
    exact ⟨_, _, hf, Nat.le_succ _, fun j hj => by omega⟩
  · rw [if_neg (by simpa using e)] at hf
    have hlo : arr.size ≤ lo := by
      rcases Nat.lt_or_ge lo arr.size with hh | hh
      · exact absurd ⟨Nat.le_refl _, by have := h3.1; omega⟩ (h3.2 lo hh)
      · exact hh
    exact ⟨_, _, hf, by have := h3.1; omega, fun j hj => by omega⟩
theorem freeze_other {b sz k : Nat} (hk : k ≠ b) : (w.freeze ⟨b, sz, none⟩ 1).heap[k]? = w.heap[k]? := by
  simp only [World.freeze, Nat.one_ne_zero, if_false, Array.getElem?_modify, if_neg (Ne.symm hk)]
theorem freeze_size {b sz : Nat} : (w.freeze ⟨b, sz, none⟩ 1).heap.size = w.heap.size := by
  simp [World.freeze]
theorem AdvW.freeze {b sz : Nat} (hO : O b) : AdvW w O (w.freeze ⟨b, sz, none⟩ 1) O :=
  ⟨by simp [World.freeze], by simp [World.freeze], by simp [World.freeze], by rw [freeze_size]; exact Nat.le_refl _, fun k _ hk => freeze_other (fun e => hk (e ▸ hO)), fun _ h => h, fun _ h => .inl h⟩
theorem Heap.mark {id g lo hi : Nat} {p : Pl} {arr : Array Value} {ty : TypeId} (H : Heap ρ w S O h) (hρ : ρ id = some (g, some p)) (hb : w.heap[p.b]? = some (.cells arr ty (lo, hi))) :
    Heap ρ (w.freeze ⟨p.b, arr.size, none⟩ 1) S O h ∧ AdvW w O (w.freeze ⟨p.b, arr.size, none⟩ 1) O := by
  obtain ⟨r, hrow, hg, his⟩ := H.row id g _ hρ
  have R : RowRep ρ w S O r p := his
  have hA : AdvW w O (w.freeze ⟨p.b, arr.size, none⟩ 1) O := AdvW.freeze R.own
  refine ⟨H.step (.refl ρ) hA (fun b hb => by rw [freeze_size]; exact H.bd b (.inr hb)) (fun id' g' pl' hid => ?_) H.inj, hA⟩
  by_cases hii : id' = id
  · subst hii
    rw [hρ] at hid
    cases hid
    obtain ⟨arr', ty', lo', hi', h1, h2, h3, h4⟩ := R.block
    rw [hb] at h1
    cases h1
    obtain ⟨lo2, hi2, f1, f2⟩ := freeze_marks hb h3
    refine .inr ⟨r, hrow, hg, R.k, R.lim, R.own, R.len, arr, ty, lo2, hi2, f1, h2, f2, fun e j g c hg hc => ?_⟩
    · obtain ⟨x, q1, q2, q3, q4⟩ := h4 e j g c hg hc
      exact ⟨x, q1, q2, q3.adv (.refl ρ) hA, fun hf => (q4 hf).adv hA⟩
  · refine .inl ⟨hid, rfl, fun p' hp' => freeze_other (fun e => hii ?_)⟩
    subst hp'
    exact H.inj id' id g' g p' p hid hρ e
theorem und_u8 {e : TypeId} (h : isU8 P e = true) : P.underlying e = some (.int .u8) := by
  unfold isU8 at h
  split at h
  · assumption
  · cases h
theorem ok_mark {x : AOpd} (hop : chkOp P o.op (.mark x) = true) (R : Rel G ρ w S O env a) (H : Heap ρ w S O h) (he : aop G env h (.mark x) = some (v, h')) : OpOk ρ w S O h ((execOp a.eval o).run P w) v h' := by
  obtain ⟨v0, h0, he⟩ := opt_bind_some.1 he
  split at he
  case h_2 => cases he
  rename_i id g s l cc
  obtain ⟨r, hrow, he⟩ := opt_bind_some.1 he
  split at he
  case isFalse => cases he
  rename_i hc
  cases he
  simp only [chkOp] at hop
  split at hop
  case h_2 => cases hop
  rename_i sr ds x' heq
  simp only [Bool.and_eq_true, beq_iff_eq] at hop
  obtain ⟨⟨hx, rfl⟩, hop⟩ := hop
  split at hop
  case h_2 => cases hop
  rename_i e hu
  have rx := ev_rep hx R h0
  obtain ⟨g', pl, ad, cap, hzx, hρ, hle, hlc, hcc, has, hpl⟩ := rv_own rx
  obtain ⟨hg', his⟩ := H.at hρ hrow
  rcases hpl (by omega) with hc0 | ⟨p, rfl, rfl, hlim⟩
  · omega
  have RR : RowRep ρ w S O r p := his
  obtain ⟨arr, ty, lo, hi, h1, _⟩ := RR.block
  obtain ⟨q1, q2⟩ := H.mark hρ h1
  refine ⟨a.eval x', _, ρ, O, .inl ?_, q2, .refl ρ, q1, rx.adv (.refl ρ) q2, fun _ _ h => h⟩
  have hsh : w.shape? p.b = some (ty, arr.size) := by simp [World.shape?, h1]
  simp [execOp, heq, convert, hzx, run_underlying hu, run_underlying (und_u8 hop), markStringish, hsh]
theorem ok_strb {x : AOpd} (hop : chkOp P o.op (.strb x) = true) (R : Rel G ρ w S O env a) (H : Heap ρ w S O h) (he : aop G env h (.strb x) = some (v, h')) : OpN ρ w S O h ((execOp a.eval o).run P w) v h' := by
  obtain ⟨v0, h0, he⟩ := opt_bind_some.1 he
  split at he
  case h_2 => cases he
  rename_i s
  cases he
  simp only [chkOp] at hop
  split at hop
  case h_2 => cases hop
  rename_i sr ds x' heq
  simp only [Bool.and_eq_true] at hop
  obtain ⟨⟨hx, hus⟩, hop⟩ := hop
  obtain ⟨du, hdu⟩ := und_some hus
  split at hop
  case h_2 => cases hop
  rename_i e hu
  simp only [Bool.and_eq_true] at hop
  have hzx := rv_str (ev_rep hx R h0)
  have hrun := Lib.run_convert_string_bytes (P := P) w sr ds e s hdu hu (und_u8 hop.1)
  have hge := grownCap_ge w s.size 0 e
  have hsize : (Lib.bytesCells w e s).size = grownCap w s.size 0 e := by
    simp [Lib.bytesCells]
    have : s.data.size = s.size := rfl
    omega
  have hlen : (bytesAV s).length = s.size := by simp [bytesAV]
  have hq : CellsP (CellQ ρ w S O true) (bytesAV s).flatten (s.data.toList.map fun b => Value.int .u8 b.toNat) := by
    have e : (bytesAV s).flatten = s.data.toList.map fun b => AV.int .u8 (b.toNat : Int) := by
      unfold bytesAV
      induction s.data.toList with
      | nil => rfl
      | cons b l ih => simp [ih]
    rw [e]
    refine ⟨by simp, fun i c x hc hx => ?_⟩
    rw [List.getElem?_map] at hc hx
    obtain ⟨b, hb, rfl⟩ := opt_map_some.1 hc
    rw [hb] at hx
    cases hx
    exact ⟨rfl, .s (.int _ _), fun _ => .int _ _⟩
  have H1 := H.drew.allocL (Lib.bytesCells w e s) e ⟨1, 0, true, bytesAV s⟩ (grownCap w s.size 0 e) _ (by rw [hlen]; exact hge) (by rw [hsize, Nat.mul_one]; exact Nat.le_refl _) (fun g hg => by
    simp only [bytesAV, List.mem_map] at hg
    obtain ⟨b, _, rfl⟩ := hg
    rfl) (fun i hi => by
    simp only [Lib.bytesCells]
    rw [Array.getElem?_append_left (by simpa using hi), ← Array.getElem?_toList]; simp) hq.drew
  have hnew : (w.drew.alloc (.cells (Lib.bytesCells w e s) e)).heap[w.drew.heap.size]? = some (.cells (Lib.bytesCells w e s) e (0, 0)) := heap_alloc_new _ _
  obtain ⟨H2, A2⟩ := H1.mark (upd_same ρ _ _) hnew
  refine OpN.drew ⟨.slice (some ⟨w.heap.size, 0, none⟩) s.size (grownCap w s.size 0 e), _, _, _, ?_, (AdvW.alloc w.drew O _).trans A2, fun b hb => ?_, upd_exact (H.none_ge (Nat.le_refl _)), upd_new (fun p hp => by cases hp; exact Nat.le_refl _), H2, ?_, upd_mono ρ _ (Nat.le_refl _), _, rfl⟩
  · simp [execOp, heq, hzx, hrun, Lib.bytesWorld]
  · rw [freeze_other (Nat.ne_of_lt hb)]
    exact Below.heap_alloc w.drew _ b hb
  · exact .own _ _ _ _ _ _ _ _ _ (upd_same ρ _ _) (Nat.le_refl _) hge hge (fun _ => rfl) (fun _ => .inr ⟨_, rfl, by simp, by simp⟩)
end
end Go.Proofs.Ytfnonledcniojaa
