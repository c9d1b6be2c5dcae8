/- The small machine, part 3 of 3: its values, operations and runs, and that they stand for the program's. Conditions: none. -/
import Derived.Test.YtcjlkggdcnochaaDoorM2
import Derived.WalkKit
import Derived.ProofKit
import Derived.OpenShut
import Derived.WideShapes
import Derived.ChangeShapes
set_option linter.unusedVariables false
set_option linter.unusedSimpArgs false
set_option linter.unusedSectionVars false
/- The small machine's code and functions stand for the program's. Conditions: none. -/
namespace Go.Proofs.YtcjlkggdcnochaaDoor
open Go Go.RowKit
section
variable {P : Program} {G : Nat → Option (List AV)} {F : Nat → Option AEnt} {ρ0 ρ : Rho} {w0 w : World} {S O0 O : Nat → Prop} {a : Act} {N base : Nat}

/-! ### Lengths -/
theorem aops_k {raw : ARaw} (KL : ∀ f as h r, raw f as h = some r → KeepK h r.2) : ∀ {os : List AOper} {st st' : ASt}, aops G raw os st = some st' → KeepK st.h st'.h
  | [], st, st', hs => by cases hs; exact .refl _
  | o :: os, st, st', hs => by
    obtain ⟨st1, h1, hs⟩ := opt_bind_some.1 hs
    refine KeepK.trans ?_ (aops_k KL hs)
    rw [astep_goes] at h1
    obtain ⟨b, _, h1⟩ := opt_bind_some.1 h1
    cases b with
    | true =>
      simp only [if_true] at h1
      obtain ⟨r, hr, e⟩ := opt_map_some.1 h1
      subst e
      exact exec_k KL hr
    | false =>
      simp only [Bool.false_eq_true, if_false] at h1
      cases h1
      exact .refl _
/-- The first rows stay rows of their kind. -/
def KeepB (base : Nat) (h h' : List ARow) : Prop := KeepK (h.take base) (h'.take base)
theorem KeepK.toB {h h' : List ARow} (p : KeepK h h') : KeepB base h h' := fun id x hx => by
  rw [List.getElem?_take] at hx
  split at hx
  · rename_i hi
    obtain ⟨y, hy, e⟩ := p id x hx
    exact ⟨y, by rw [List.getElem?_take, if_pos hi]; exact hy, e⟩
  · cases hx
theorem agc_k {live : List Nat} {st st' : ASt} (hg : agc base live st = some st') : KeepB base st.h st'.h := by
  unfold agc at hg
  simp only at hg
  generalize areach st.h base 64 (AV.idsL ((akeep live st.env).map (·.2)) ++ (st.h.take base).flatMap ARow.ids) [] = order at hg
  split at hg
  case isFalse => cases hg
  cases hg
  intro id x hx
  rw [List.getElem?_take] at hx
  split at hx
  · rename_i hi
    refine ⟨x.ren st.h base base order, ?_, ?_⟩
    · rw [List.getElem?_take, if_pos hi, List.getElem?_append_left (by have := (List.getElem?_eq_some_iff.1 hx).1; simp; omega), List.getElem?_map, List.getElem?_take, if_pos hi, hx]
      rfl
    · unfold ARow.ren; split <;> rfl
  · cases hx
/-- What an entry that is told outright leaves of the rows. -/
def ExtK (F : Nat → Option AEnt) : Prop := ∀ f E, F f = some (.ext E) → ∀ args h r, E args h = some r → KeepK h r.2
theorem aexec_k (hK : ExtK F) : ∀ (n : Nat), (∀ base c st r, aexec G F n base c st = some r → KeepB base st.h r.2.h) ∧ ∀ f as h r, arunFn (aexec G F n) F f as h = some r → KeepK h r.2 := by
  have fn_of : ∀ n, (∀ base c st r, aexec G F n base c st = some r → KeepB base st.h r.2.h) → ∀ f as h r, arunFn (aexec G F n) F f as h = some r → KeepK h r.2 := by
    intro n ih f as h r hr
    obtain ⟨ent, hf, hr⟩ := opt_bind_some.1 hr
    cases ent with
    | ext E => exact hK f E hf as h r hr
    | fn fn =>
      obtain ⟨r1, h1, hr⟩ := opt_bind_some.1 hr
      have := ih _ _ _ _ h1
      have hk : KeepK h r1.2.h := fun id x hx => by
        have hlt := (List.getElem?_eq_some_iff.1 hx).1
        obtain ⟨y, hy, e⟩ := this id x (by simp only [List.take_length]; exact hx)
        rw [List.getElem?_take, if_pos hlt] at hy
        exact ⟨y, hy, e⟩
      split at hr
      · cases hr
      · obtain ⟨v, _, e⟩ := opt_map_some.1 hr
        subst e
        exact hk
  intro n
  induction n with
  | zero =>
    have h0 : ∀ base c st r, aexec G F 0 base c st = some r → KeepB base st.h r.2.h := fun base c st r h => (nomatch h)
    exact ⟨h0, fn_of 0 h0⟩
  | succ n ih =>
    have h1 : ∀ base c st r, aexec G F (n + 1) base c st = some r → KeepB base st.h r.2.h := by
      intro base c st r hr
      cases c with
      | skip => cases hr; exact KeepK.refl _
      | exit id => cases hr; exact KeepK.refl _
      | ret => cases hr; exact KeepK.refl _
      | dead => cases hr
      | region ops d live =>
        obtain ⟨st', h1, e⟩ := opt_map_some.1 hr
        subst e
        exact (aops_k (G := G) (st' := st') ih.2 h1).toB
      | seq x y =>
        obtain ⟨r1, h1, hr⟩ := opt_bind_some.1 hr
        have := ih.1 _ _ _ _ h1
        split at hr
        · exact KeepK.trans this (ih.1 _ _ _ _ hr)
        · cases hr; exact this
      | cond c x y =>
        obtain ⟨v, _, hr⟩ := opt_bind_some.1 hr
        split at hr
        · exact ih.1 _ _ _ _ hr
        · cases hr
      | block id b =>
        obtain ⟨r1, h1, e⟩ := opt_map_some.1 hr
        subst e
        exact ih.1 _ _ _ r1 h1
      | loop live b =>
        obtain ⟨st1, h0, hr⟩ := opt_bind_some.1 hr
        obtain ⟨r1, h1, hr⟩ := opt_bind_some.1 hr
        have := KeepK.trans (agc_k h0) (ih.1 _ _ _ _ h1)
        split at hr
        · exact KeepK.trans this (ih.1 _ _ _ _ hr)
        · cases hr; exact this
    exact ⟨h1, fn_of (n + 1) h1⟩

/-! ### Results -/
theorem loadVar_ok {t : TypeId} {agg : Bool} {m : Nat} {v0 v : AV} {z : Value} {h : List ARow} (H : Heap ρ w S O h) (hr : RepV ρ w S O v0 z) (hag : isAggB P t = some agg) (hs : sizeIs P t m = true) (h1 : aload h agg m v0 = some v) :
    ∃ u, (do loadVar t (← asAddr z) : Sem Value).run P w = .ok u w ∧ RepV ρ w S O v u := by
  have fin : ∀ ad, (∃ u, (Instr.loadAt t (.pointer (some ad))).run P w = .ok u w ∧ RepV ρ w S O v u) → ∃ u, (do loadVar t (← asAddr (.pointer (some ad))) : Sem Value).run P w = .ok u w ∧ RepV ρ w S O v u := fun ad ⟨u, h1, h2⟩ =>
    ⟨u, by simpa [Instr.loadAt, Instr.sureAddr, asAddr] using h1, h2⟩
  cases v0 with
  | ptr id g e off =>
    obtain ⟨r, hrow, h1⟩ := opt_bind_some.1 h1
    split at h1
    case isFalse => cases h1
    rename_i hgen
    obtain ⟨grp, hg, hcut⟩ := opt_bind_some.1 h1
    obtain ⟨g', pl, ad, rfl, hρ, hle, hpl⟩ := rv_ptr hr
    obtain ⟨hg', his⟩ := H.at hρ hrow
    obtain ⟨p, rfl, rfl⟩ := hpl (by omega)
    obtain ⟨arr, ty, lo, hi, hb, hsz, _, hcell⟩ := RowRep.block his
    have hlen := RowRep.len his grp (List.mem_of_getElem? hg)
    refine fin _ (load_run (cs := grp) (b := p.b) (o := p.base + e * p.k) (off := off) (val := fun j => arr.getD (p.base + e * p.k + j) undef) hag hs (fun j hj => ?_) (fun j c hj => ?_) hcut)
    · obtain ⟨x, h1, h2, _⟩ := hcell e j grp _ hg (List.getElem?_eq_getElem hj)
      simp only [Array.getD_eq_getD_getElem?, h1, Option.getD_some]
      exact ⟨by rw [cell_of_row w p.b _ arr ty _ hb]; exact h1, h2⟩
    · obtain ⟨x, h1, _, h3, _⟩ := hcell e j grp c hg hj
      simp only [Array.getD_eq_getD_getElem?, h1, Option.getD_some]
      exact h3
  | dptr cs =>
    obtain ⟨b, off, val, rfl, _, _, h5, h6⟩ := rv_dptr hr
    exact fin _ (load_run (ρ := ρ) (S := S) (O := O) (cs := cs) (b := b) (o := off) (off := 0) (val := val) hag hs h5 (fun j c hj => .s (h6 j c hj)) h1)
  | _ => cases h1
/-- One result. -/
def resV (tmps : Array Value) : ResultVar → Sem Value
  | .tmp t => pure (tmps.getD t undef)
  | .cell c t => do loadVar t (← asAddr (tmps.getD c undef))
theorem results_eq (fn : Func) (tmps : Array Value) : results fn tmps = (do let vs ← fn.results.mapM (resV tmps); pure (if h : vs.size = 1 then vs[0] else .tuple vs)) := by
  rfl
theorem res_list {env : AEnv} {h : List ARow} (H : Heap ρ w S O h) (R : Rel G ρ w S O env a) : ∀ {rs : List ResultVar} {as : List ARes} {vs : List AV}, chkRes P rs as = true → as.mapM (ares env h) = some vs →
    ∃ xs : List Value, (rs.mapM (resV a.tmps)).run P w = .ok xs w ∧ RepL (RepV ρ w S O) vs xs
  | [], [], vs, _, hm => by simp at hm; subst hm; exact ⟨[], rfl, .nil⟩
  | .tmp t :: rs, .slot n :: as, vs, hc, hm => by
    simp only [chkRes, Bool.and_eq_true, beq_iff_eq] at hc
    obtain ⟨rfl, hc⟩ := hc
    rw [List.mapM_cons] at hm
    obtain ⟨v, hv, hm⟩ := opt_bind_some.1 hm
    obtain ⟨vs', hvs, hm⟩ := opt_bind_some.1 hm
    cases hm
    obtain ⟨xs, h1, h2⟩ := res_list H R hc hvs
    obtain ⟨x, hx, hr⟩ := R.env _ _ hv
    refine ⟨x :: xs, ?_, .cons hr h2⟩
    rw [List.mapM_cons, Sem.run_bind]
    have : (resV a.tmps (.tmp t)).run P w = .ok x w := by simp [resV, hx]
    rw [this]
    simp [h1]
  | .cell t ty :: rs, .cell n agg m :: as, vs, hc, hm => by
    simp only [chkRes, Bool.and_eq_true, beq_iff_eq] at hc
    obtain ⟨⟨⟨rfl, hag⟩, hs⟩, hc⟩ := hc
    rw [List.mapM_cons] at hm
    obtain ⟨v, hv, hm⟩ := opt_bind_some.1 hm
    obtain ⟨vs', hvs, hm⟩ := opt_bind_some.1 hm
    cases hm
    obtain ⟨xs, h1, h2⟩ := res_list H R hc hvs
    obtain ⟨vp, hp, hl⟩ := opt_bind_some.1 hv
    obtain ⟨x, hx, hr⟩ := R.env _ _ hp
    obtain ⟨u, hu, hru⟩ := loadVar_ok H hr hag hs hl
    refine ⟨u :: xs, ?_, .cons hru h2⟩
    rw [List.mapM_cons, Sem.run_bind]
    have : (resV a.tmps (.cell t ty)).run P w = .ok u w := by
      simp only [resV, Array.getD_eq_getD_getElem?, hx, Option.getD_some]
      exact hu
    rw [this]
    simp [h1]
  | [], _ :: _, _, hc, _ => by cases hc
  | .tmp _ :: _, [], _, hc, _ => by cases hc
  | .cell _ _ :: _, [], _, hc, _ => by cases hc
  | .tmp _ :: _, .cell .. :: _, _, hc, _ => by cases hc
  | .cell _ _ :: _, .slot _ :: _, _, hc, _ => by cases hc
theorem results_ok {fn : Func} {res : List ARes} {st : ASt} {v : AV} (H : Heap ρ w S O st.h) (R : Rel G ρ w S O st.env a) (hc : chkRes P fn.results.toList res = true) (hv : aresults res st = some v) : ∃ x, (results fn a.tmps).run P w = .ok x w ∧ RepV ρ w S O v x := by
  obtain ⟨vs, hvs, e⟩ := opt_map_some.1 hv
  obtain ⟨xs, h1, h2⟩ := res_list H R hc hvs
  have hrun : (results fn a.tmps).run P w = .ok (if h : xs.toArray.size = 1 then xs.toArray[0] else .tuple xs.toArray) w := by
    rw [results_eq, ← Array.toArray_toList (xs := fn.results), List.mapM_toArray, Sem.run_bind]
    have : (List.toArray <$> (fn.results.toList.mapM (resV a.tmps))).run P w = .ok xs.toArray w := by
      rw [map_eq_pure_bind, Sem.run_bind, h1]; rfl
    rw [this]; rfl
  rw [hrun]
  refine ⟨_, rfl, ?_⟩
  cases vs with
  | nil =>
    have : xs = [] := List.eq_nil_of_length_eq_zero h2.1.symm
    subst this
    subst e
    exact .tup [] [] rfl h2.2
  | cons v1 vs =>
    cases xs with
    | nil => have := h2.1; simp at this
    | cons x1 xs =>
      cases vs with
      | nil =>
        have : xs = [] := by have := h2.1; simp at this; exact this
        subst this
        subst e
        exact h2.2 0 v1 x1 rfl rfl
      | cons v2 vs =>
        cases xs with
        | nil => have := h2.1; simp at this
        | cons x2 xs =>
          subst e
          have : ¬ (x1 :: x2 :: xs).toArray.size = 1 := by simp
          rw [dif_neg this]
          exact .tup _ _ h2.1 h2.2

/-! ### Code -/
def exitOf : AEx → Exit
  | .normal => .normal
  | .exit id => .exit id
  | .ret => .ret
/-- The entries of the table are checked. -/
def EntOk (P : Program) (G : Nat → Option (List AV)) (F : Nat → Option AEnt) : Prop := ∀ f ent, F f = some ent → match ent with
  | .fn fn => chkFn P f fn = true
  | .ext E => ∀ args h v h', E args h = some (v, h') → KeepK h h' ∧ (∃ fn, P.funcs[f]? = some fn ∧ fn.name ≠ "runtime.NumGoroutine" ∧ fn.body.isSome = true) ∧
      ∀ (ρ : Rho) (w : World) (S O : Nat → Prop) (xs : List Value), Heap ρ w S O h → (∀ g cs, G g = some cs → RepV ρ w S O (.dptr cs) (.pointer (some ⟨g, 0, none⟩))) → RepL (RepV ρ w S O) args xs →
        Calls P f xs.toArray w fun e w' => ∃ x, e = .returned x ∧ ResW ρ w S O h v h' x w'
theorem EntOk.k (hE : EntOk P G F) : ExtK F := fun f E hf args h r hr => (hE f _ hf args h r.1 r.2 hr).1
theorem look_enter (args : List AV) (s : Nat) : look (aenter args) s = args[s]? := by
  have main : ∀ (args : List AV) (k : Nat), look ((args.zipIdx k).map fun p => (p.2, p.1)) s = if k ≤ s then args[s - k]? else none := by
    intro args
    induction args with
    | nil => intro k; simp [look]
    | cons v args ih =>
      intro k
      rw [List.zipIdx_cons, List.map_cons]
      simp only [look]
      rw [ih (k + 1)]
      by_cases e : k = s
      · subst e; simp
      · rw [if_neg e]
        by_cases h1 : k + 1 ≤ s
        · rw [if_pos h1, if_pos (by omega), show s - k = (s - (k + 1)) + 1 from by omega, List.getElem?_cons_succ]
        · rw [if_neg h1, if_neg (by omega)]
  have := main args 0
  simpa [aenter] using this
theorem GoodS.keep {st : ASt} (k : GoodS G ρ0 w0 S O0 base N st a w) (live : List Nat) : GoodS G ρ0 w0 S O0 base N ⟨akeep live st.env, st.h⟩ a w := by
  obtain ⟨ρ, O, k⟩ := k
  exact ⟨ρ, O, k.adv, k.ext, k.non, k.heap, k.rel.keep live, k.size, k.def0, k.bas⟩
theorem GoodS.agc {live : List Nat} {st st' : ASt} (k : GoodS G ρ0 w0 S O0 base N st a w) (hg : agc base live st = some st') : GoodS G ρ0 w0 S O0 base N st' a w := by
  obtain ⟨ρ, O, k⟩ := k
  obtain ⟨ρ2, h1, h2, h3, h4⟩ := agc_ok k.heap k.rel k.bas hg
  exact ⟨ρ2, O, k.adv, fun id hid g pl h0 => by rw [h3 id hid]; exact k.ext id hid g pl h0, fun id hid h0 => by rw [h3 id hid]; exact k.non id hid h0, h1, h2, k.size, k.def0, h4⟩

def CodeOk (P : Program) (G : Nat → Option (List AV)) (F : Nat → Option AEnt) (n : Nat) : Prop :=
  ∀ (N base : Nat) (c : Code) (ac : ACode) (st : ASt) (r : AEx × ASt), aexec G F n base ac st = some r → chkCode P N c ac = true → ∀ (ρ0 : Rho) (w0 : World) (S O0 : Nat → Prop) (Q : Exit → Act → World → Prop) (a : Act) (w : World),
    GoodS G ρ0 w0 S O0 base N st a w → (∀ a' w', GoodS G ρ0 w0 S O0 base N r.2 a' w' → Q (exitOf r.1) a' w') → c.wp P Q a w
def LoopOk (P : Program) (G : Nat → Option (List AV)) (F : Nat → Option AEnt) (n : Nat) : Prop :=
  ∀ (N base : Nat) (live : List Nat) (c : Code) (ac : ACode) (st : ASt) (r : AEx × ASt), aexec G F n base (.loop live ac) st = some r → chkCode P N c ac = true → ∀ (ρ0 : Rho) (w0 : World) (S O0 : Nat → Prop) (Q : Exit → Act → World → Prop) (a : Act) (w : World),
    GoodS G ρ0 w0 S O0 base N st a w → (∀ a' w', GoodS G ρ0 w0 S O0 base N r.2 a' w' → Q (exitOf r.1) a' w') → Code.rounds P c Q n a w

theorem call_of_code (hE : EntOk P G F) (n : Nat) (hC : CodeOk P G F n) : CallOk P G (arunFn (aexec G F n) F) := by
  intro f args h v h' hr
  obtain ⟨ent, hf, hr⟩ := opt_bind_some.1 hr
  have hent := hE f ent hf
  cases ent with
  | ext E => exact (hent args h v h' hr).2
  | fn fn =>
    obtain ⟨r, hrun, hr⟩ := opt_bind_some.1 hr
    have hent : chkFn P f fn = true := hent
    unfold chkFn at hent
    split at hent
    case h_2 => cases hent
    rename_i pf hpf
    simp only [Bool.and_eq_true] at hent
    obtain ⟨⟨hnm, hbody⟩, hres⟩ := hent
    split at hbody
    case h_2 => cases hbody
    rename_i c hpc
    have hne : ∀ id, r.1 ≠ .exit id := fun id e => by rw [e] at hr; cases hr
    obtain ⟨v1, hv1, e⟩ : ∃ v1, aresults fn.res r.2 = some v1 ∧ (v1, r.2.h) = (v, h') := by
      split at hr
      · rename_i id e; exact absurd e (hne id)
      · exact opt_map_some.1 hr
    simp only [Prod.mk.injEq] at e
    obtain ⟨rfl, rfl⟩ := e
    refine ⟨⟨pf, hpf, by simpa using hnm, by rw [hpc]; rfl⟩, fun ρ w S O xs H hG hargs => ?_⟩
    refine calls_of_wp hpf hpc (hC pf.ntmps h.length c fn.body ⟨aenter args, h⟩ r hrun hbody ρ w S O _ _ _ ⟨ρ, O, .refl w O, fun id _ g pl h => ⟨g, pl, h, Nat.le_refl _, fun _ => rfl⟩, fun id _ h => h, H, ⟨fun s u hs => ?_, hG⟩, ?_, rfl, Nat.le_refl _⟩ fun a' w' k => ?_)
    · rw [look_enter] at hs
      have hlt : s < xs.length := by have := (List.getElem?_eq_some_iff.1 hs).1; rw [← hargs.1]; exact this
      exact ⟨xs[s], by rw [Array.getElem?_append_left (by simpa using hlt)]; simp [hlt], hargs.2 s u _ hs (List.getElem?_eq_getElem hlt)⟩
    · simp; omega
    · obtain ⟨ρ', O', k⟩ := k
      obtain ⟨x, hx, hrx⟩ := results_ok k.heap k.rel hres hv1
      have fin : bodyPost P pf (fun e w' => ∃ x, e = .returned x ∧ ResW ρ w S O h v1 r.2.h x w') .ret a' w' := by
        refine ⟨k.def0, x, hx, x, rfl, ρ', O', k.adv, fun id g pl h0 => ?_, k.heap, hrx, k.non⟩
        exact k.ext id (H.lt h0) g pl h0
      cases e : r.1 with
      | normal => exact fin
      | ret => exact fin
      | exit id => exact absurd e (hne id)

theorem code_ok (hm : P.follows .mixedOrders = true) (hE : EntOk P G F) : ∀ n, CodeOk P G F n ∧ LoopOk P G F n := by
  intro n
  induction n with
  | zero => exact ⟨fun N base c ac st r h => (nomatch h), fun N base live c ac st r h => (nomatch h)⟩
  | succ n ih =>
    obtain ⟨ih, ihL⟩ := ih
    have loop : LoopOk P G F (n + 1) := by
      intro N base live c ac st r hr hc ρ0 w0 S O0 Q a w k hQ
      obtain ⟨st1, h0, hr⟩ := opt_bind_some.1 hr
      obtain ⟨r1, h1, hr⟩ := opt_bind_some.1 hr
      rw [rounds_succ]
      refine ih N base c ac st1 r1 h1 hc ρ0 w0 S O0 _ a w (k.agc h0) fun a' w' k' => ?_
      cases e : r1.1 with
      | normal =>
        rw [e] at hr
        exact ihL N base live c ac r1.2 r hr hc ρ0 w0 S O0 Q a' w' k' hQ
      | exit id =>
        rw [e] at hr
        cases hr
        have := hQ a' w' k'
        rw [e] at this
        exact this
      | ret =>
        rw [e] at hr
        cases hr
        have := hQ a' w' k'
        rw [e] at this
        exact this
    refine ⟨?_, loop⟩
    intro N base c ac st r hr hc ρ0 w0 S O0 Q a w k hQ
    have K := call_of_code hE n ih
    have KL := (aexec_k (G := G) (F := F) hE.k n).2
    cases ac with
    | dead => cases hr
    | skip =>
      cases c <;> simp only [chkCode, Bool.false_eq_true] at hc
      cases hr
      exact wp_skip (hQ a w k)
    | exit id =>
      cases c <;> simp only [chkCode, Bool.false_eq_true] at hc
      cases hr
      simp only [beq_iff_eq] at hc
      subst hc
      exact wp_exit (hQ a w k)
    | ret =>
      cases c <;> simp only [chkCode, Bool.false_eq_true] at hc
      cases hr
      exact wp_ret (hQ a w k)
    | region ao d live =>
      cases c <;> simp only [chkCode, Bool.false_eq_true] at hc
      rename_i id ops d'
      simp only [Bool.and_eq_true, beq_iff_eq] at hc
      obtain ⟨⟨rfl, hc1⟩, hc2⟩ := hc
      obtain ⟨st', h1, e⟩ := opt_map_some.1 hr
      subst e
      cases d' with
      | false => exact region_seq K KL hc1 h1 k fun a' w' k' => hQ a' w' (k'.keep live)
      | true => exact region_any hm K KL hc1 (by simpa using hc2) h1 k fun a' w' k' => hQ a' w' (k'.keep live)
    | seq x y =>
      cases c <;> simp only [chkCode, Bool.false_eq_true] at hc
      rename_i cx cy
      simp only [Bool.and_eq_true] at hc
      obtain ⟨r1, h1, hr⟩ := opt_bind_some.1 hr
      refine wp_seq (ih N base cx x st r1 h1 hc.1 ρ0 w0 S O0 _ a w k fun a' w' k' => ?_)
      cases e : r1.1 with
      | normal =>
        rw [e] at hr
        exact ih N base cy y r1.2 r hr hc.2 ρ0 w0 S O0 Q a' w' k' hQ
      | exit id =>
        rw [e] at hr
        cases hr
        have := hQ a' w' k'
        rw [e] at this
        exact this
      | ret =>
        rw [e] at hr
        cases hr
        have := hQ a' w' k'
        rw [e] at this
        exact this
    | cond ax x y =>
      cases c <;> simp only [chkCode, Bool.false_eq_true] at hc
      rename_i cx x' y'
      simp only [Bool.and_eq_true] at hc
      obtain ⟨v, hv, hr⟩ := opt_bind_some.1 hr
      split at hr
      case h_2 => cases hr
      rename_i t
      obtain ⟨ρ, O, k0⟩ := k
      have hb := rv_bool (ev_rep hc.1.1 k0.rel hv)
      refine wp_cond hb ?_
      cases t with
      | true => exact ih N base x' x st r hr hc.1.2 ρ0 w0 S O0 Q a w ⟨ρ, O, k0⟩ hQ
      | false => exact ih N base y' y st r hr hc.2 ρ0 w0 S O0 Q a w ⟨ρ, O, k0⟩ hQ
    | block id b =>
      cases c <;> simp only [chkCode, Bool.false_eq_true] at hc
      rename_i id' b'
      simp only [Bool.and_eq_true, beq_iff_eq] at hc
      obtain ⟨rfl, hc⟩ := hc
      obtain ⟨r1, h1, e⟩ := opt_map_some.1 hr
      subst e
      refine wp_block (ih N base b' b st r1 h1 hc ρ0 w0 S O0 _ a w k fun a' w' k' => ?_)
      have := hQ a' w' k'
      cases e : r1.1 with
      | normal => rw [e] at this; simpa [exitOf, Exit.inBlock] using this
      | ret => rw [e] at this; simpa [exitOf, Exit.inBlock] using this
      | exit i =>
        rw [e] at this
        by_cases hi : i = id'
        · subst hi; simpa [exitOf, Exit.inBlock] using this
        · simpa [exitOf, Exit.inBlock, hi] using this
    | loop live b =>
      cases c <;> simp only [chkCode, Bool.false_eq_true] at hc
      rename_i b'
      exact wp_loop_rounds (n + 1) (loop N base live b' b st r hr hc ρ0 w0 S O0 Q a w k hQ)
/-- The small machine's calls stand for the program's. -/
theorem aR_ok (hm : P.follows .mixedOrders = true) (hE : EntOk P G F) : CallOk P G (aR G F) := by
  intro f args h v h' hr
  obtain ⟨n, hn⟩ := aR_fin G F hr
  exact call_of_code hE n (code_ok hm hE n).1 f args h v h' (hn n (Nat.le_refl _))
/-- A law's function that answers true, told in the program's words. -/
theorem law_of (hm : P.follows .mixedOrders = true) (hE : EntOk P G F) {f : Nat} {args : List AV} {xs : List Value} {w : World} {h' : List ARow} (hr : aR G F f args [] = some (.bool true, h')) (hG : ∀ g cs, G g = some cs → RepV (fun _ => none) w (fun _ => False) (fun _ => False) (.dptr cs) (.pointer (some ⟨g, 0, none⟩)))
    (hargs : RepL (RepV (fun _ => none) w (fun _ => False) (fun _ => False)) args xs) : Calls P f xs.toArray w fun e w' => e = .returned (.bool true) ∧ Below w.heap.size w w' := by
  have K := (aR_ok hm hE f args [] _ h' hr).2 (fun _ => none) w (fun _ => False) (fun _ => False) xs ⟨fun id g pl h => (nomatch h), fun id id' g g' p p' h => (nomatch h), fun b hb => hb.elim False.elim False.elim, fun _ hb => hb.elim⟩ hG hargs
  refine Calls.mono K fun e w' ⟨x, e1, ρ', O', A, _, _, hx, _⟩ => ⟨?_, ?_⟩
  · rw [e1, rv_bool hx]
  · exact ⟨A.os, A.tape, A.output, A.size, fun b hb => A.same b hb (fun h => h)⟩
end
end Go.Proofs.YtcjlkggdcnochaaDoor
/- How arguments whose types are made of numbers, bools, strings, slices, structs and arrays stand for the small machine's values. Conditions: as each statement says. -/
namespace Go.Proofs.YtcjlkggdcnochaaDoor
open Go Go.RowKit

inductive Ty where
  | int (k : IntKind)
  | bool
  | str
  | sl (e : List Ty)

mutual
/-- Is it a value of the type? -/
def HasTy : Ty → AV → Prop
  | .int k, v => ∃ n, v = .int k n ∧ k.min ≤ n ∧ n ≤ k.max
  | .bool, v => ∃ b, v = .bool b
  | .str, v => ∃ s : ByteArray, v = .str s ∧ s.size ≤ 9223372036854775807
  | .sl e, v => ∃ (es : List (List AV)) (f : Bool), v = .data false e.length es f ∧ es.length ≤ 9223372036854775807 ∧ ∀ g ∈ es, HasTys e g
def HasTys : List Ty → List AV → Prop
  | [], [] => True
  | t :: ts, v :: vs => HasTy t v ∧ HasTys ts vs
  | _, _ => False
end

theorem HasTys.len : ∀ {ts : List Ty} {vs : List AV}, HasTys ts vs → vs.length = ts.length
  | [], [], _ => rfl
  | t :: ts, v :: vs, h => by
    simp only [HasTys] at h
    simp [HasTys.len h.2]
  | [], _ :: _, h => by simp [HasTys] at h
  | _ :: _, [], h => by simp [HasTys] at h
theorem HasTys.append : ∀ {ts us : List Ty} {vs xs : List AV}, HasTys ts vs → HasTys us xs → HasTys (ts ++ us) (vs ++ xs)
  | [], _, [], _, _, h => by simpa using h
  | t :: ts, us, v :: vs, xs, h, h2 => by
    simp only [HasTys, List.cons_append] at h ⊢
    exact ⟨h.1, HasTys.append h.2 h2⟩
  | [], _, _ :: _, _, h, _ => by simp [HasTys] at h
  | _ :: _, _, [], _, h, _ => by simp [HasTys] at h

/-- Cells that values stand for. -/
def RepC (w : World) (as : List AV) (cs : List Value) : Prop :=
  as.length = cs.length ∧ (∀ v ∈ cs, v.oneCell' = true) ∧ ∀ (i : Nat) c v, as[i]? = some c → cs[i]? = some v → RepS w (fun _ => False) c v
def TyC (w : World) (ts : List Ty) (cs : List Value) : Prop := ∃ as, HasTys ts as ∧ RepC w as cs

theorem RepC.append {w : World} {as bs : List AV} {cs ds : List Value} (h : RepC w as cs) (k : RepC w bs ds) : RepC w (as ++ bs) (cs ++ ds) := by
  obtain ⟨h1, h2, h3⟩ := h
  obtain ⟨k1, k2, k3⟩ := k
  refine ⟨by simp [h1, k1], fun v hv => (List.mem_append.1 hv).elim (h2 v) (k2 v), fun i c v hc hv => ?_⟩
  by_cases hi : i < as.length
  · rw [List.getElem?_append_left hi] at hc
    rw [List.getElem?_append_left (by omega)] at hv
    exact h3 i c v hc hv
  · rw [List.getElem?_append_right (by omega)] at hc
    rw [List.getElem?_append_right (by omega), ← h1] at hv
    exact k3 _ c v hc hv
theorem TyC.append {w : World} {ts us : List Ty} {cs ds : List Value} (h : TyC w ts cs) (k : TyC w us ds) : TyC w (ts ++ us) (cs ++ ds) := by
  obtain ⟨as, h1, h2⟩ := h
  obtain ⟨bs, k1, k2⟩ := k
  exact ⟨as ++ bs, h1.append k1, h2.append k2⟩
theorem TyC.nil {w : World} : TyC w [] [] := ⟨[], by simp [HasTys], rfl, fun _ h => by simp at h, fun i c v h => by simp at h⟩
theorem TyC.one {w : World} {t : Ty} {a : AV} {v : Value} (h : HasTy t a) (ho : v.oneCell' = true) (hr : RepS w (fun _ => False) a v) : TyC w [t] [v] :=
  ⟨[a], by simp [HasTys, h], rfl, fun x hx => by simp at hx; subst hx; exact ho, fun i c x hc hx => by
    cases i with
    | zero => simp at hc hx; subst hc hx; exact hr
    | succ i => simp at hc⟩

section
variable {H : Type} {enc : TypeId × Value → H} {P : Program} {w : World} {base : Nat} {spare : Nat → Bool} {held : Bool}

end
end Go.Proofs.YtcjlkggdcnochaaDoor
/- A loop's head in code that runs on its caller's rows and makes none. Conditions: none. -/
namespace Go.Proofs.YtcjlkggdcnochaaDoor
open Go
/-- No row names a row that is not there. -/
def ClosedH (h : List ARow) : Prop := ∀ r ∈ h, ∀ i ∈ r.ids, i < h.length
theorem ClosedH.set {h : List ARow} {id : Nat} {r : ARow} (hC : ClosedH h) (hr : r.flat = true) : ClosedH (h.set id r) := fun r' hr' i hi => by
  rw [List.length_set]
  rcases List.mem_or_eq_of_mem_set hr' with h1 | h1
  · exact hC r' h1 i hi
  · subst h1; simp [ARow.ids, hr] at hi
/-- A call that comes to its answer within so many steps. -/
theorem aP_fuel {G : Nat → Option (List AV)} {F : Nat → Option AEnt} (n : Nat) {f : Nat} {args : List AV} {v : AV} (h : ((arunFn (aexec G F n) F f args []).bind fun r => afreeze r.2 r.1) = some v) : aP G F f args = some v := by
  obtain ⟨r, h1, h2⟩ := opt_bind_some.1 h
  exact opt_bind_some.2 ⟨r, arunFn_mono F (aexec_aE G F n) _ _ _ _ h1, h2⟩
end Go.Proofs.YtcjlkggdcnochaaDoor
/- The small machine's equations in the form that a quick rewriter takes: one equation for each case, none with a premise. Conditions: none. -/
namespace Go.Proofs.YtcjlkggdcnochaaDoor
open Go


section
variable (h : List ARow)
theorem y_frz_own (id g s l c : Nat) : afreeze h (.own id g s l c) = (h[id]?).bind fun r => if r.gen = g ∧ r.flat = true ∧ s + l ≤ r.es.length then some (.data false r.k ((r.es.drop s).take l) false) else none := by rw [afreeze]
theorem y_frz_agg (cs : List AV) : afreeze h (.agg cs) = (afreezeL h cs).map .agg := by rw [afreeze]
theorem y_frz_tup (cs : List AV) : afreeze h (.tup cs) = (afreezeL h cs).map .tup := by rw [afreeze]
theorem y_frz_fn (f : Fn) (a b : List AV) : afreeze h (.fn f a b) = if (AV.stableL a && AV.stableL b) = true then some (.fn f a b) else none := by rw [afreeze]
end
end Go.Proofs.YtcjlkggdcnochaaDoor
/- Entries that are told outright. Conditions: none. -/
namespace Go.Proofs.YtcjlkggdcnochaaDoor
open Go
end Go.Proofs.YtcjlkggdcnochaaDoor
/- Short names of the equations. Conditions: none. -/
namespace Go.Proofs.YtcjlkggdcnochaaDoor
open Go
abbrev H1 := @List.flatMap_nil
abbrev H2 := @List.replicate_zero
abbrev Ne := @Nat.zero_mul
abbrev N1 := @and_false
end Go.Proofs.YtcjlkggdcnochaaDoor
/- Lists of numbers as the small machine's cells. Conditions: none. -/
namespace Go.Proofs.YtcjlkggdcnochaaDoor
open Go
end Go.Proofs.YtcjlkggdcnochaaDoor
/- From the small machine's answer to the row's: what a law's call comes to, and arguments' shapes. Conditions: as each statement says. -/
namespace Go.Proofs.YtcjlkggdcnochaaDoor
open Go Go.RowKit
theorem frz_bool {h : List ARow} {v : AV} {b : Bool} (hf : afreeze h v = some (.bool b)) : v = .bool b := by
  cases v with
  | bool c => simpa [afreeze] using hf
  | own id g s l c =>
    rw [y_frz_own] at hf
    obtain ⟨r, _, hf⟩ := opt_bind_some.1 hf
    split at hf <;> simp at hf
  | data bo k es f => cases bo <;> simp [afreeze] at hf
  | agg cs => rw [y_frz_agg] at hf; obtain ⟨x, _, hf⟩ := opt_map_some.1 hf; cases hf
  | tup cs => rw [y_frz_tup] at hf; obtain ⟨x, _, hf⟩ := opt_map_some.1 hf; cases hf
  | fn f a b => rw [y_frz_fn] at hf; split at hf <;> simp at hf
  | _ => simp [afreeze] at hf
theorem law_P {P : Program} {G : Nat → Option (List AV)} {F : Nat → Option AEnt} (hm : P.follows .mixedOrders = true) (hE : EntOk P G F) {f : Nat} {args : List AV} {xs : List Value} {w : World} (hr : aP G F f args = some (.bool true))
    (hG : ∀ g cs, G g = some cs → RepV (fun _ => none) w (fun _ => False) (fun _ => False) (.dptr cs) (.pointer (some ⟨g, 0, none⟩))) (hargs : RepL (RepV (fun _ => none) w (fun _ => False) (fun _ => False)) args xs) :
    Calls P f xs.toArray w fun e w' => e = .returned (.bool true) ∧ Below w.heap.size w w' := by
  obtain ⟨r, h1, h2⟩ := opt_bind_some.1 hr
  have hv := frz_bool h2
  obtain ⟨v, h'⟩ := r
  simp only at hv
  subst hv
  exact law_of hm hE h1 hG hargs
theorem repL_nil {R : AV → Value → Prop} : RepL R [] [] := ⟨rfl, fun i c v h => by simp at h⟩
end Go.Proofs.YtcjlkggdcnochaaDoor
