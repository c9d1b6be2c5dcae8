/- An operation of the small machine, calls among them, stands for the program's operation. Conditions: none. -/
import Derived.Test.YtfnonledcniojaaAmS
namespace Go.Proofs.Ytfnonledcniojaa
open Go Go.RowKit
section
variable {P : Program} {G : Nat → Option (List AV)} {ρ ρ2 : Rho} {w : World} {S O S2 O2 : Nat → Prop} {env : AEnv} {h : List ARow} {a : Act} {o : Oper}

theorem look_mem {s : Nat} {v : AV} : ∀ {env : AEnv}, look env s = some v → (s, v) ∈ env
  | (k, u) :: r, he => by
    unfold look at he
    split at he
    · rename_i e; cases he; subst e; exact List.mem_cons_self ..
    · exact List.mem_cons_of_mem _ (look_mem he)
theorem look_map (f : AV → AV) (s : Nat) : ∀ (env : AEnv), look (env.map fun p => (p.1, f p.2)) s = (look env s).map f
  | [] => rfl
  | (k, u) :: r => by
    simp only [List.map_cons, look]
    split
    · rfl
    · exact look_map f s r
theorem look_akeep {s : Nat} (env : AEnv) : ∀ (live : List Nat), look (akeep live env) s = if s ∈ live then look env s else none
  | [] => by simp [akeep, look]
  | k :: live => by
    have ih := look_akeep (s := s) env live
    unfold akeep at *
    rw [List.filterMap_cons]
    cases hk : look env k with
    | none =>
      simp only [Option.map_none]
      rw [ih]
      by_cases e : s = k
      · subst e; simp [hk]
      · simp [e]
    | some v =>
      simp only [Option.map_some, look]
      by_cases e : k = s
      · subst e; simp [hk]
      · have e' : ¬ s = k := fun h => e h.symm
        simp [e, e', ih]
theorem Rel.keep (R : Rel G ρ w S O env a) (live : List Nat) : Rel G ρ w S O (akeep live env) a :=
  ⟨fun s v hs => R.env s v (by
    rw [look_akeep] at hs
    split at hs
    · exact hs
    · cases hs), R.glob⟩
theorem Rel.adv {w' : World} {O' : Nat → Prop} (R : Rel G ρ w S O env a) (e : Ext ρ ρ2) (A : AdvW w O w' O') : Rel G ρ2 w' S O' env a :=
  ⟨fun s v hs => by obtain ⟨x, h1, h2⟩ := R.env s v hs; exact ⟨x, h1, h2.adv e A⟩, fun g cs hg => (R.glob g cs hg).adv e A⟩
theorem Rel.put {d : Option Nat} {v : AV} {x : Value} (R : Rel G ρ w S O env a) (hv : RepV ρ w S O v x) (hd : ∀ t, d = some t → t < a.tmps.size) : Rel G ρ w S O (aput env d v) (a.put d x) := by
  cases d with
  | none => exact R
  | some d =>
    have hlt := hd d rfl
    refine ⟨fun s u hs => ?_, R.glob⟩
    simp only [aput, look] at hs
    simp only [Act.put]
    by_cases e : d = s
    · subst e
      rw [if_pos rfl] at hs
      cases hs
      exact ⟨x, by simp [hlt], hv⟩
    · rw [if_neg e] at hs
      obtain ⟨y, h1, h2⟩ := R.env s u hs
      exact ⟨y, by rw [Array.getElem?_setIfInBounds_ne e]; exact h1, h2⟩

/-! ### At a loop's head -/
theorem agc_ok {base : Nat} {live : List Nat} {st : ASt} (H : Heap ρ w S O h) (R : Rel G ρ w S O env a) (hb : base ≤ h.length) (hg : agc base live ⟨env, h⟩ = some st) :
    ∃ ρ2, Heap ρ2 w S O st.h ∧ Rel G ρ2 w S O st.env a ∧ (∀ id, id < base → ρ2 id = ρ id) ∧ base ≤ st.h.length := by
  unfold agc at hg
  simp only at hg
  generalize hord : areach h base 64 (AV.idsL ((akeep live env).map (·.2)) ++ (h.take base).flatMap ARow.ids) [] = order at hg
  split at hg
  case isFalse => cases hg
  rename_i hok
  cases hg
  obtain ⟨hnd, hin⟩ := order_ok hok
  refine ⟨fun id => if id < base then ρ id else ((order[id - base]?).bind ρ).map fun y => (0, y.2), ?_, ?_, ?_, ?_⟩
  all_goals (try (generalize hρ2 : (fun id => if id < base then ρ id else ((order[id - base]?).bind ρ).map fun y => ((0 : Nat), y.2)) = ρ2))
  all_goals (try have e1 : ∀ id, id < base → ρ2 id = ρ id := fun id hid => by rw [← hρ2]; simp [hid])
  all_goals (try have e2 : ∀ id, base ≤ id → ρ2 id = ((order[id - base]?).bind ρ).map fun y => (0, y.2) := fun id hid => by rw [← hρ2]; simp [Nat.not_lt.2 hid])
  all_goals (try have M : RenMap ρ ρ2 base base order := ⟨fun id hid => e1 id hid, fun j id g pl hj hid => by rw [e2 _ (by omega)]; simp [hj, hid]⟩)
  · have hlen : ((h.take base).map (ARow.ren h base base order)).length = base := by simp; omega
    obtain ⟨rl, rg⟩ := rows_get (h := h) (fun r => { r.ren h base base order with gen := 0 }) (l := order) (fun i hi => (hin i hi).2)
    refine ⟨fun id g pl hid => ?_, fun i i' g g' p p' h1 h2 hbb => ?_, H.bd⟩
    · by_cases hlt : id < base
      · rw [e1 id hlt] at hid
        obtain ⟨r, hr, hg, hR⟩ := H.row id g pl hid
        refine ⟨r.ren h base base order, ?_, ?_, ?_⟩
        · rw [List.getElem?_append_left (by omega), List.getElem?_map, List.getElem?_take, if_pos hlt, hr]; rfl
        · rw [← hg]; unfold ARow.ren; split <;> rfl
        · have := ren_row (ρ2 := ρ2) (S2 := S) (O2 := O) (h := h) (low := base) (off := base) (order := order) hR (fun gg _ c _ x _ hcx => ren_rep H M hcx) (fun _ hb => hb) (fun _ hb => hb) (r.ren h base base order).gen
          exact this
      · rw [e2 id (by omega)] at hid
        obtain ⟨y, hy, e⟩ := opt_map_some.1 hid
        obtain ⟨i0, hi0, hρ'⟩ := opt_bind_some.1 hy
        obtain ⟨g0, pl0⟩ := y
        simp only [Prod.mk.injEq] at e
        obtain ⟨rfl, rfl⟩ := e
        obtain ⟨r, hr, hg, hR⟩ := H.row i0 g0 _ hρ'
        refine ⟨_, by rw [List.getElem?_append_right (by omega), hlen]; exact rg _ i0 r hi0 hr, rfl, ?_⟩
        exact ren_row hR (fun gg _ c _ x _ hcx => ren_rep H M hcx) (fun _ hb => hb) (fun _ hb => hb) 0
    · by_cases hi : i < base
      · rw [e1 i hi] at h1
        by_cases hi' : i' < base
        · rw [e1 i' hi'] at h2
          exact H.inj i i' g g' p p' h1 h2 hbb
        · rw [e2 i' (by omega)] at h2
          obtain ⟨y, hy, e⟩ := opt_map_some.1 h2
          obtain ⟨i0, hi0, hρ'⟩ := opt_bind_some.1 hy
          obtain ⟨g0, pl0⟩ := y
          simp only [Prod.mk.injEq] at e
          obtain ⟨rfl, rfl⟩ := e
          have := H.inj i i0 g g0 p p' h1 hρ' hbb
          have := (hin i0 (List.mem_of_getElem? hi0)).1
          omega
      · rw [e2 i (by omega)] at h1
        obtain ⟨y, hy, e⟩ := opt_map_some.1 h1
        obtain ⟨i0, hi0, hρ'⟩ := opt_bind_some.1 hy
        obtain ⟨g0, pl0⟩ := y
        simp only [Prod.mk.injEq] at e
        obtain ⟨rfl, rfl⟩ := e
        by_cases hi' : i' < base
        · rw [e1 i' hi'] at h2
          have := H.inj i0 i' g0 g' p p' hρ' h2 hbb
          have := (hin i0 (List.mem_of_getElem? hi0)).1
          omega
        · rw [e2 i' (by omega)] at h2
          obtain ⟨y', hy', e'⟩ := opt_map_some.1 h2
          obtain ⟨i1, hi1, hρ1⟩ := opt_bind_some.1 hy'
          obtain ⟨g1, pl1⟩ := y'
          simp only [Prod.mk.injEq] at e'
          obtain ⟨rfl, rfl⟩ := e'
          have := H.inj i0 i1 g0 g1 p p' hρ' hρ1 hbb
          subst this
          have := (List.getElem?_inj (by have := (List.getElem?_eq_some_iff.1 hi0).1; exact this) hnd).1 (hi0.trans hi1.symm)
          omega
  · refine ⟨fun s v hs => ?_, fun g cs hg => ?_⟩
    · rw [look_map (fun v => v.ren h base base order)] at hs
      obtain ⟨v0, hv0, rfl⟩ := opt_map_some.1 hs
      obtain ⟨x, hx, hr⟩ := (R.keep live).env s v0 hv0
      exact ⟨x, hx, ren_rep H M hr⟩
    · have := ren_rep (h := h) H M (R.glob g cs hg)
      simpa [AV.ren] using this
  · exact e1
  · simp; omega

/-! ### Calls -/
/-- What a call comes to. -/
def ResW (ρ : Rho) (w : World) (S O : Nat → Prop) (h : List ARow) (v : AV) (h' : List ARow) (x : Value) (w' : World) : Prop :=
  ∃ ρ' O', AdvW w O w' O' ∧ Ext ρ ρ' ∧ Heap ρ' w' S O' h' ∧ RepV ρ' w' S O' v x ∧ ∀ id, id < h.length → ρ id = none → ρ' id = none
def ResN (ρ : Rho) (w : World) (S O : Nat → Prop) (h : List ARow) (v : AV) (h' : List ARow) (x : Value) (w' : World) : Prop :=
  ∃ ρ' O', AdvW w O w' O' ∧ (∀ b, b < w.heap.size → w'.heap[b]? = w.heap[b]?) ∧ (∀ id y, ρ id = some y → ρ' id = some y) ∧
    (∀ (id g : Nat) p, ρ' id = some (g, some p) → ρ id = some (g, some p) ∨ w.heap.size ≤ p.b) ∧ Heap ρ' w' S O' h' ∧ RepV ρ' w' S O' v x ∧ (∀ id, id < h.length → ρ id = none → ρ' id = none) ∧ ∃ e, h' = h ++ e
theorem ResN.toW {v : AV} {h' : List ARow} {x : Value} {w' : World} (k : ResN ρ w S O h v h' x w') : ResW ρ w S O h v h' x w' := by
  obtain ⟨ρ', O', h2, h3, h4, h5, h6, h7, h8, h9⟩ := k
  exact ⟨ρ', O', h2, fun id g pl hi => ⟨g, pl, h4 id _ hi, Nat.le_refl _, fun _ => rfl⟩, h6, h7, h8⟩
/-- An operation that comes to its value, at once or behind a call. -/
def Yield (P : Program) (run : Result Next) (R : Value → World → Prop) : Prop :=
  (∃ x w', (run = .ok (.value x) w' ∨ (run = .ok .skip w' ∧ x = undef)) ∧ R x w') ∨ ∃ f xs w0, run = .ok (.enter f xs) w0 ∧ Calls P f xs w0 fun e w' => ∃ x, e = .returned x ∧ R x w'
theorem Yield.mono {run : Result Next} {R R' : Value → World → Prop} (k : Yield P run R) (hr : ∀ x w', R x w' → R' x w') : Yield P run R' := by
  rcases k with ⟨x, w', h1, h2⟩ | ⟨f, xs, w0, h1, h2⟩
  · exact .inl ⟨x, w', h1, hr _ _ h2⟩
  · exact .inr ⟨f, xs, w0, h1, Calls.mono h2 fun e w' ⟨x, q1, q2⟩ => ⟨x, q1, hr _ _ q2⟩⟩
theorem Yield.upon {run : Result Next} {R : Value → World → Prop} {next : Act → World → Prop} {Q : Exit → Act → World → Prop} (k : Yield P run R) (hn : ∀ x w', R x w' → next (a.put o.dst x) w') : o.upon P a next Q run := by
  rcases k with ⟨x, w', h1 | ⟨h1, rfl⟩, h2⟩ | ⟨f, xs, w0, h1, h2⟩
  · rw [h1]; exact hn _ _ h2
  · rw [h1]; exact hn _ _ h2
  · rw [h1]
    refine Calls.mono h2 fun e w' ⟨x, q1, q2⟩ => ?_
    subst q1
    exact hn _ _ q2

/-- The calls stand for the program's calls. -/
def CallOk (P : Program) (G : Nat → Option (List AV)) (raw : ARaw) : Prop :=
  ∀ (f : Nat) (args : List AV) (h : List ARow) (v : AV) (h' : List ARow), raw f args h = some (v, h') → (∃ fn, P.funcs[f]? = some fn ∧ fn.name ≠ "runtime.NumGoroutine" ∧ fn.body.isSome = true) ∧
    ∀ (ρ : Rho) (w : World) (S O : Nat → Prop) (xs : List Value), Heap ρ w S O h → (∀ g cs, G g = some cs → RepV ρ w S O (.dptr cs) (.pointer (some ⟨g, 0, none⟩))) → RepL (RepV ρ w S O) args xs →
      Calls P f xs.toArray w fun e w' => ∃ x, e = .returned x ∧ ResW ρ w S O h v h' x w'

theorem callFunc_run {f : Nat} {fn : Func} {xs : Array Value} (hf : P.funcs[f]? = some fn) (hn : fn.name ≠ "runtime.NumGoroutine") (hb : fn.body.isSome = true) : (callFunc f xs).run P w = .ok (.enter f xs) w := by
  have h2 : fn.body ≠ none := by
    intro e
    rw [e] at hb; cases hb
  simp [callFunc, program, Sem.run, hf, hn, h2]

theorem evs_repL {xs : List Operand} {as : List AOpd} {vs : List AV} (hc : chkOpds xs as = true) (R : Rel G ρ w S O env a) (he : as.mapM (aeval G env) = some vs) : RepL (RepV ρ w S O) vs (xs.map a.eval) := by
  obtain ⟨h1, h2⟩ := evs_rep hc R he
  exact ⟨h1, h2⟩
end
end Go.Proofs.Ytfnonledcniojaa
