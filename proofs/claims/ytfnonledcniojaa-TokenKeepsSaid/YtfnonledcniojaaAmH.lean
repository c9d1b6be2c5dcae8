/- Each operation of the small machine stands for the program's operation: those that make no memory. Conditions: none. -/
import Derived.Test.YtfnonledcniojaaAmG
namespace Go.Proofs.Ytfnonledcniojaa
open Go Go.RowKit
section
variable {P : Program} {X : Nat → Prop} {G : Nat → Option (List AV)} {ρ : Rho} {w : World} {S O : Nat → Prop} {env : AEnv} {h : List ARow} {a : Act}

/-- A frame is as the small machine's state tells. -/
structure Rel (G : Nat → Option (List AV)) (ρ : Rho) (w : World) (S O : Nat → Prop) (env : AEnv) (a : Act) : Prop where
  env : ∀ s v, look env s = some v → ∃ x, a.tmps[s]? = some x ∧ RepV ρ w S O v x
  glob : ∀ g cs, G g = some cs → RepV ρ w S O (.dptr cs) (.pointer (some ⟨g, 0, none⟩))

def OpOk (ρ : Rho) (w : World) (S O : Nat → Prop) (h : List ARow) (run : Result Next) (v : AV) (h' : List ARow) : Prop :=
  ∃ x w' ρ' O', (run = .ok (.value x) w' ∨ (run = .ok .skip w' ∧ x = undef)) ∧ AdvW w O w' O' ∧ Ext ρ ρ' ∧ Heap ρ' w' S O' h' ∧ RepV ρ' w' S O' v x ∧ ∀ id, id < h.length → ρ id = none → ρ' id = none

/-- An operation that looks at no row and makes none. -/
def FreeOk (ρ : Rho) (w : World) (S O : Nat → Prop) (h : List ARow) (run : Result Next) (v : AV) (h' : List ARow) : Prop :=
  (∃ x, run = .ok (.value x) w ∧ RepV ρ w S O v x) ∧ h' = h
/-- An operation that changes nothing that is there. -/
def OpN (ρ : Rho) (w : World) (S O : Nat → Prop) (h : List ARow) (run : Result Next) (v : AV) (h' : List ARow) : Prop :=
  ∃ x w' ρ' O', run = .ok (.value x) w' ∧ AdvW w O w' O' ∧ (∀ b, b < w.heap.size → w'.heap[b]? = w.heap[b]?) ∧ (∀ id y, ρ id = some y → ρ' id = some y) ∧
    (∀ (id g : Nat) p, ρ' id = some (g, some p) → ρ id = some (g, some p) ∨ w.heap.size ≤ p.b) ∧ Heap ρ' w' S O' h' ∧ RepV ρ' w' S O' v x ∧ (∀ id, id < h.length → ρ id = none → ρ' id = none) ∧ ∃ e, h' = h ++ e

theorem FreeOk.pure {run : Result Next} {v : AV} {x : Value} (hr : run = .ok (.value x) w) (hv : RepV ρ w S O v x) : FreeOk ρ w S O h run v h := ⟨⟨x, hr, hv⟩, rfl⟩
theorem OpN.pure {run : Result Next} {v : AV} {x : Value} (H : Heap ρ w S O h) (hr : run = .ok (.value x) w) (hv : RepV ρ w S O v x) : OpN ρ w S O h run v h :=
  ⟨x, w, ρ, O, hr, .refl w O, fun _ _ => rfl, fun _ _ h => h, fun _ _ _ h => .inl h, H, hv, fun _ _ h => h, [], by simp⟩
theorem OpOk.pure {run : Result Next} {v : AV} {x : Value} (H : Heap ρ w S O h) (hr : run = .ok (.value x) w) (hv : RepV ρ w S O v x) : OpOk ρ w S O h run v h :=
  ⟨x, w, ρ, O, .inl hr, .refl w O, .refl ρ, H, hv, fun _ _ h => h⟩
theorem FreeOk.toN {run : Result Next} {v : AV} {h' : List ARow} (k : FreeOk ρ w S O h run v h') (H : Heap ρ w S O h) : OpN ρ w S O h run v h' := by
  obtain ⟨⟨x, h1, h2⟩, rfl⟩ := k
  exact .pure H h1 h2
theorem OpN.toOp {run : Result Next} {v : AV} {h' : List ARow} (k : OpN ρ w S O h run v h') : OpOk ρ w S O h run v h' := by
  obtain ⟨x, w', ρ', O', h1, h2, h3, h4, h5, h6, h7, h8, h9⟩ := k
  exact ⟨x, w', ρ', O', .inl h1, h2, fun id g pl hi => ⟨g, pl, h4 id _ hi, Nat.le_refl _, fun _ => rfl⟩, h6, h7, h8⟩
theorem upd_exact {id : Nat} {x : Nat × Option Pl} (hn : ρ id = none) : ∀ i y, ρ i = some y → upd ρ id x i = some y := fun i y hi => by
  rw [upd_ne ρ x (fun e => by rw [e, hn] at hi; cases hi)]; exact hi
theorem upd_new {id b g0 : Nat} {pl : Option Pl} (hb : ∀ p, pl = some p → b ≤ p.b) : ∀ (i g : Nat) p, upd ρ id (g0, pl) i = some (g, some p) → ρ i = some (g, some p) ∨ b ≤ p.b := fun i g p hi => by
  by_cases e : i = id
  · subst e
    rw [upd_same] at hi
    cases hi
    exact .inr (hb p rfl)
  · rw [upd_ne ρ _ e] at hi
    exact .inl hi

theorem ev_rep {x : Operand} {ax : AOpd} {v : AV} (hc : chkOpd x ax = true) (R : Rel G ρ w S O env a) (he : aeval G env ax = some v) : RepV ρ w S O v (a.eval x) := by
  unfold chkOpd at hc
  split at hc
  · simp only [beq_iff_eq] at hc
    subst hc
    obtain ⟨x, hx, hr⟩ := R.env _ _ he
    simp only [Act.eval, Array.getD_eq_getD_getElem?, hx]
    exact hr
  · cases he; exact .s (const_rep hc).1
  · simp only [beq_iff_eq] at hc
    subst hc
    obtain ⟨cs, hg, rfl⟩ := opt_map_some.1 he
    exact R.glob _ _ hg
  · simp only [beq_iff_eq] at hc
    subst hc
    cases he
    exact .fn _ [] [] [] [] rfl rfl (fun i c v h => by simp at h) (fun i c v h => by simp at h)
  · cases hc

variable {o : Oper} {v : AV} {h' : List ARow}

theorem ok_mov {x : AOpd} (hop : chkOp P o.op (.mov x) = true) (R : Rel G ρ w S O env a) (he : aop G env h (.mov x) = some (v, h')) : FreeOk ρ w S O h ((execOp a.eval o).run P w) v h' := by
  obtain ⟨v0, h0, e⟩ := opt_map_some.1 he
  cases e
  simp only [chkOp] at hop
  split at hop
  · rename_i y heq; exact .pure (by simp [execOp, heq]) (ev_rep hop R h0)
  · rename_i y heq; exact .pure (by simp [execOp, heq]) (ev_rep hop R h0)
  · cases hop
theorem ok_mknil {k : Nat} (hop : chkOp P o.op (.mknil k) = true) (R : Rel G ρ w S O env a) (H : Heap ρ w S O h) (he : aop G env h (.mknil k) = some (v, h')) : OpN ρ w S O h ((execOp a.eval o).run P w) v h' := by
  simp only [aop, Option.some.injEq, Prod.mk.injEq] at he
  obtain ⟨rfl, rfl⟩ := he
  have go : (execOp a.eval o).run P w = .ok (.value (.slice none 0 0)) w → OpN ρ w S O h ((execOp a.eval o).run P w) (.own h.length 0 0 0 0) (h ++ [⟨k, 0, true, []⟩]) := fun hr =>
    ⟨_, w, upd ρ h.length (0, none), O, hr, .refl w O, fun _ _ => rfl, upd_exact (H.none_ge (Nat.le_refl _)), upd_new (fun p hp => by cases hp), H.virtual ⟨k, 0, true, []⟩ rfl,
      .own _ 0 0 none 0 0 0 none 0 (upd_same ρ _ _) (Nat.le_refl _) (Nat.le_refl _) (Nat.le_refl _) (fun h => by omega) (fun _ => .inl rfl), upd_mono ρ _ (Nat.le_refl _), _, rfl⟩
  simp only [chkOp] at hop
  split at hop
  · rename_i heq; exact go (by simp [execOp, heq, Act.eval])
  · rename_i heq; exact go (by simp [execOp, heq, Act.eval])
  · cases hop
theorem ok_pick {c x y : AOpd} (hop : chkOp P o.op (.pick c x y) = true) (R : Rel G ρ w S O env a) (he : aop G env h (.pick c x y) = some (v, h')) : FreeOk ρ w S O h ((execOp a.eval o).run P w) v h' := by
  obtain ⟨v0, h0, he⟩ := opt_bind_some.1 he
  split at he
  case h_2 => cases he
  rename_i b
  obtain ⟨v1, h1, e⟩ := opt_map_some.1 he
  cases e
  simp only [chkOp] at hop
  split at hop
  · rename_i c' a' b' heq
    simp only [Bool.and_eq_true] at hop
    have hb := rv_bool (ev_rep hop.1.1 R h0)
    cases b with
    | true => exact .pure (x := a.eval a') (by simp [execOp, heq, hb, asBool]) (ev_rep hop.1.2 R (by simpa using h1))
    | false => exact .pure (x := a.eval b') (by simp [execOp, heq, hb, asBool]) (ev_rep hop.2 R (by simpa using h1))
  · cases hop
theorem ok_nilchk {x : AOpd} (hop : chkOp P o.op (.nilchk x) = true) (R : Rel G ρ w S O env a) (he : aop G env h (.nilchk x) = some (v, h')) : FreeOk ρ w S O h ((execOp a.eval o).run P w) v h' := by
  obtain ⟨v0, h0, he⟩ := opt_bind_some.1 he
  simp only [chkOp] at hop
  split at hop
  case h_2 => cases hop
  rename_i y heq
  have hr := ev_rep hop R h0
  split at he
  · cases he
    obtain ⟨g', pl, ad, hx, _⟩ := rv_ptr hr
    exact .pure (x := a.eval y) (by simp [execOp, heq, hx]) hr
  · cases he
    obtain ⟨b, off, val, hx, _⟩ := rv_dptr hr
    exact .pure (x := a.eval y) (by simp [execOp, heq, hx]) hr
  · cases he
    obtain ⟨xs, ys, hx, _⟩ := rv_fn hr
    exact .pure (x := a.eval y) (by simp [execOp, heq, hx]) hr
  · cases he
theorem abin_some {op : BinOp} {x y r : AV} (e : abin op x y = some r) :
    (∃ s t, x = .str s ∧ y = .str t ∧ op = .add ∧ ¬ ((s.size + t.size : Nat) : Int) > IntKind.i64.max ∧ r = .str (s ++ t)) ∨ ∃ k m k' n, x = .int k m ∧ y = .int k' n := by
  unfold abin at e
  split at e
  · rename_i s t
    split at e
    · cases e
    · rename_i hle; cases e; exact .inl ⟨s, t, rfl, rfl, rfl, hle, rfl⟩
  · exact .inr ⟨_, _, _, _, rfl, rfl⟩
  · exact .inr ⟨_, _, _, _, rfl, rfl⟩
  · exact .inr ⟨_, _, _, _, rfl, rfl⟩
  · cases e
theorem bin_run {op : BinOp} {k k' : IntKind} {m n : Int} {r : AV} (e : abin op (.int k m) (.int k' n) = some r) (t : TypeId) (x y : Operand) (w : World) :
    ∃ z, RepS w X r z ∧ (do eqGuard op t x y (.int k m) (.int k' n); binOp op t (.int k m) (.int k' n) : Sem Value).run P w = .ok z w := by
  have g : (eqGuard op t x y (.int k m) (.int k' n)).run P w = .ok () w := by
    unfold eqGuard
    split <;> simp
  cases op <;> simp only [abin, asum] at e
  case shl =>
    split at e
    · cases e
    · rename_i hn; cases e; exact ⟨_, .int _ _, by simp [g, binOp, Op.shift, hn]⟩
  case shr =>
    split at e
    · cases e
    · rename_i hn; cases e; exact ⟨_, .int _ _, by simp [g, binOp, Op.shift, hn]⟩
  case quo =>
    split at e
    · rename_i hk; subst hk
      split at e
      · cases e
      · rename_i hn; cases e; exact ⟨_, .int _ _, by simp [g, binOp, Op.intDiv, hn]⟩
    · cases e
  case rem =>
    split at e
    · rename_i hk; subst hk
      split at e
      · cases e
      · rename_i hn; cases e; exact ⟨_, .int _ _, by simp [g, binOp, Op.intDiv, hn]⟩
    · cases e
  case xor => split at e <;> cases e
  case and =>
    split at e
    · rename_i hk; subst hk; cases e
      exact ⟨_, .int _ _, by simp only [Sem.run_bind, g, Result.andThen_ok, binOp]; rw [if_neg (by simp)]; rfl⟩
    · cases e
  case or =>
    split at e
    · rename_i hk; subst hk; cases e
      exact ⟨_, .int _ _, by simp only [Sem.run_bind, g, Result.andThen_ok, binOp]; rw [if_neg (by simp)]; rfl⟩
    · cases e
  case andNot =>
    split at e
    · rename_i hk; subst hk; cases e
      exact ⟨_, .int _ _, by simp only [Sem.run_bind, g, Result.andThen_ok, binOp]; rw [if_neg (by simp)]; rfl⟩
    · cases e
  all_goals
    split at e
    · rename_i hk; subst hk; cases e
      first
        | exact ⟨_, .int _ _, by simp [g, binOp, Op.intArith]; done⟩
        | exact ⟨_, .bool _, by simp [g, binOp, Op.intCmp]⟩
    · cases e
theorem ok_bin {op : BinOp} {x y : AOpd} (hop : chkOp P o.op (.bin op x y) = true) (R : Rel G ρ w S O env a) (he : aop G env h (.bin op x y) = some (v, h')) : FreeOk ρ w S O h ((execOp a.eval o).run P w) v h' := by
  obtain ⟨v0, h0, he⟩ := opt_bind_some.1 he
  obtain ⟨v1, h1, he⟩ := opt_bind_some.1 he
  obtain ⟨r, hb, e⟩ := opt_map_some.1 he
  cases e
  simp only [chkOp] at hop
  split at hop
  case h_2 => cases hop
  rename_i op' t x' y' yt heq
  simp only [Bool.and_eq_true, beq_iff_eq] at hop
  obtain ⟨⟨rfl, hx⟩, hy⟩ := hop
  have rx := ev_rep hx R h0
  have ry := ev_rep hy R h1
  rcases abin_some hb with ⟨s, t', rfl, rfl, rfl, hle, rfl⟩ | ⟨k, m, k', n, rfl, rfl⟩
  · have e1 := rv_str rx
    have e2 := rv_str ry
    refine .pure (x := .string (s ++ t')) ?_ (.s (.str _))
    simp only [execOp, heq, e1, e2, eqGuard, binOp, Op.stringOp]
    rw [if_neg hle]
    simp
  · have e1 := rv_int rx
    have e2 := rv_int ry
    obtain ⟨z, hz, hrun⟩ := bin_run (P := P) (X := fun b => S b ∨ O b) hb t x' y' w
    refine .pure (x := z) ?_ (.s hz)
    simp only [execOp, heq, e1, e2]
    rw [Sem.run_bind, hrun]
    rfl
theorem ok_not {x : AOpd} (hop : chkOp P o.op (.not x) = true) (R : Rel G ρ w S O env a) (he : aop G env h (.not x) = some (v, h')) : FreeOk ρ w S O h ((execOp a.eval o).run P w) v h' := by
  obtain ⟨v0, h0, he⟩ := opt_bind_some.1 he
  simp only [chkOp] at hop
  split at hop
  case h_2 => cases hop
  rename_i ty y heq
  split at he
  case h_2 => cases he
  cases he
  have e1 := rv_bool (ev_rep hop R h0)
  exact .pure (by simp [execOp, heq, e1, Op.unary]) (.s (.bool _))
theorem ok_neg {x : AOpd} (hop : chkOp P o.op (.neg x) = true) (R : Rel G ρ w S O env a) (he : aop G env h (.neg x) = some (v, h')) : FreeOk ρ w S O h ((execOp a.eval o).run P w) v h' := by
  obtain ⟨v0, h0, he⟩ := opt_bind_some.1 he
  simp only [chkOp] at hop
  split at hop
  case h_2 => cases hop
  rename_i ty y heq
  split at he
  case h_2 => cases he
  cases he
  have e1 := rv_int (ev_rep hop R h0)
  exact .pure (by simp [execOp, heq, e1, Op.unary, Op.intArith]) (.s (.int _ _))
theorem und_some {t : TypeId} (h : (P.underlying t).isSome = true) : ∃ d, P.underlying t = some d := Option.isSome_iff_exists.1 h
theorem ok_conv {k : IntKind} {x : AOpd} (hop : chkOp P o.op (.conv k x) = true) (R : Rel G ρ w S O env a) (he : aop G env h (.conv k x) = some (v, h')) : FreeOk ρ w S O h ((execOp a.eval o).run P w) v h' := by
  obtain ⟨v0, h0, he⟩ := opt_bind_some.1 he
  simp only [chkOp] at hop
  split at hop
  case h_2 => cases hop
  rename_i s d y heq
  simp only [Bool.and_eq_true] at hop
  obtain ⟨⟨h1, h2⟩, h3⟩ := hop
  obtain ⟨ds, hs⟩ := und_some h2
  split at h3
  case h_2 => cases h3
  rename_i k' hd
  simp only [beq_iff_eq] at h3
  subst h3
  split at he
  case h_2 => cases he
  cases he
  have e1 := rv_int (ev_rep h1 R h0)
  exact .pure (by simp [execOp, heq, e1, convert, run_underlying hs, run_underlying hd, Conv.intToInt]) (.s (.int _ _))
theorem ok_rstr {x : AOpd} (hop : chkOp P o.op (.rstr x) = true) (R : Rel G ρ w S O env a) (he : aop G env h (.rstr x) = some (v, h')) : FreeOk ρ w S O h ((execOp a.eval o).run P w) v h' := by
  obtain ⟨v0, h0, he⟩ := opt_bind_some.1 he
  simp only [chkOp] at hop
  split at hop
  case h_2 => cases hop
  rename_i s d y heq
  simp only [Bool.and_eq_true] at hop
  obtain ⟨⟨h1, h2⟩, h3⟩ := hop
  obtain ⟨ds, hs⟩ := und_some h2
  split at h3
  case h_2 => cases h3
  rename_i hd
  split at he
  case h_2 => cases he
  cases he
  have e1 := rv_int (ev_rep h1 R h0)
  exact .pure (by simp [execOp, heq, e1, convert, run_underlying hs, run_underlying hd, Conv.intToString]) (.s (.str _))
theorem ok_cvs {x : AOpd} (hop : chkOp P o.op (.cvs x) = true) (R : Rel G ρ w S O env a) (he : aop G env h (.cvs x) = some (v, h')) : FreeOk ρ w S O h ((execOp a.eval o).run P w) v h' := by
  obtain ⟨v0, h0, he⟩ := opt_bind_some.1 he
  simp only [chkOp] at hop
  split at hop
  case h_2 => cases hop
  rename_i s d y heq
  simp only [Bool.and_eq_true] at hop
  obtain ⟨⟨h1, h2⟩, h3⟩ := hop
  obtain ⟨ds, hs⟩ := und_some h2
  split at h3
  case h_2 => cases h3
  rename_i hd
  split at he
  case h_2 => cases he
  cases he
  have e1 := rv_str (ev_rep h1 R h0)
  exact .pure (by simp [execOp, heq, e1, convert, run_underlying hs, run_underlying hd]) (.s (.str _))
theorem evs_rep : ∀ {xs : List Operand} {as : List AOpd} {vs : List AV}, chkOpds xs as = true → Rel G ρ w S O env a → as.mapM (aeval G env) = some vs →
    vs.length = (xs.map a.eval).length ∧ ∀ (i : Nat) c v, vs[i]? = some c → (xs.map a.eval)[i]? = some v → RepV ρ w S O c v
  | [], [], vs, _, _, he => by simp at he; subst he; exact ⟨rfl, fun i c v hc => by simp at hc⟩
  | x :: xs, b :: as, vs, hc, R, he => by
    simp only [chkOpds, Bool.and_eq_true] at hc
    simp only [List.mapM_cons] at he
    obtain ⟨u, hu, he⟩ := opt_bind_some.1 he
    obtain ⟨us, hus, he⟩ := opt_bind_some.1 he
    cases he
    obtain ⟨h1, h2⟩ := evs_rep hc.2 R hus
    refine ⟨by simp [h1], fun i c v hc' hv => ?_⟩
    cases i with
    | zero => simp at hc' hv; subst hc' hv; exact ev_rep hc.1 R hu
    | succ i => exact h2 i c v (by simpa using hc') (by simpa using hv)
  | [], _ :: _, _, hc, _, _ => by cases hc
  | _ :: _, [], _, hc, _, _ => by cases hc
theorem ok_mkfn {f : Fn} {xs ys : List AOpd} (hop : chkOp P o.op (.mkfn f xs ys) = true) (R : Rel G ρ w S O env a) (he : aop G env h (.mkfn f xs ys) = some (v, h')) : FreeOk ρ w S O h ((execOp a.eval o).run P w) v h' := by
  obtain ⟨v0, h0, he⟩ := opt_bind_some.1 he
  obtain ⟨v1, h1, e⟩ := opt_map_some.1 he
  cases e
  simp only [chkOp] at hop
  split at hop
  case h_2 => cases hop
  rename_i f' first caps heq
  simp only [Bool.and_eq_true, beq_iff_eq] at hop
  obtain ⟨⟨rfl, hx⟩, hy⟩ := hop
  obtain ⟨l1, r1⟩ := evs_rep hx R h0
  obtain ⟨l2, r2⟩ := evs_rep hy R h1
  refine .pure (x := .func f (first.toList.map a.eval).toArray (caps.toList.map a.eval).toArray) ?_ (.fn f v0 v1 _ _ l1 l2 r1 r2)
  have m1 : first.map a.eval = (first.toList.map a.eval).toArray := by apply Array.ext'; simp
  have m2 : caps.map a.eval = (caps.toList.map a.eval).toArray := by apply Array.ext'; simp
  simp [execOp, heq, Instr.makeFunc, m1, m2]
theorem ok_extract {i : Nat} {x : AOpd} (hop : chkOp P o.op (.extract i x) = true) (R : Rel G ρ w S O env a) (he : aop G env h (.extract i x) = some (v, h')) : FreeOk ρ w S O h ((execOp a.eval o).run P w) v h' := by
  obtain ⟨v0, h0, he⟩ := opt_bind_some.1 he
  split at he
  case h_2 => cases he
  rename_i vs
  obtain ⟨c, hc, e⟩ := opt_map_some.1 he
  cases e
  simp only [chkOp] at hop
  split at hop
  case h_2 => cases hop
  rename_i y j heq
  simp only [Bool.and_eq_true, beq_iff_eq] at hop
  obtain ⟨hx, rfl⟩ := hop
  obtain ⟨us, e1, hl, hr⟩ := rv_tup (ev_rep hx R h0)
  have hlt : i < us.length := by have := (List.getElem?_eq_some_iff.1 hc).1; omega
  refine .pure (x := us[i]) ?_ (hr i v _ hc (by simp [hlt]))
  simp [execOp, heq, e1, Instr.extract, hlt]
end
end Go.Proofs.Ytfnonledcniojaa
