/- Parts of a function's code by the machine, between them by hand: frames that name no rows, what is lent, blocks that bear no frozen cell. Conditions: none. -/
import Derived.Test.YtfnonledcniojaaM3
import Derived.Test.YtfnonledcniojaaAmRd
set_option linter.unusedVariables false
set_option linter.unusedSimpArgs false
set_option linter.unusedSectionVars false
namespace Go.Proofs.Ytfnonledcniojaa
open Go Go.RowKit
/-- From block B on no cell is to be frozen. -/
abbrev frI (B : Nat) : FrB := ⟨fun b => B ≤ b⟩
/-- No row, all blocks below B apart. -/
abbrev noR : Rho := fun _ => none
abbrev noO : Nat → Prop := fun _ => False
abbrev Bel (w w' : World) : Prop := AdvX w noO w' noO
theorem Bel.of {w w' : World} {O : Nat → Prop} (A : AdvX w noO w' O) : Bel w w' := ⟨A.os, A.tape, A.output, A.size, A.same, fun _ h => h.elim⟩
theorem RepS.re {I J : FrB} {w : World} {X : Nat → Prop} (hJ : ∀ b, b < w.heap.size → J.fr b → I.fr b) {v : AV} {x : Value} (h : @RepS I w X v x) : @RepS J w X v x := by
  induction h with
  | int k n => exact .int k n
  | bool b => exact .bool b
  | str s => exact .str s
  | nilfn => exact .nilfn
  | nilptr => exact .nilptr
  | agg cs vs hl h1 _ ih => exact .agg cs vs hl h1 ih
  | tup cs vs hl _ ih => exact .tup cs vs hl ih
  | fn f as bs xs ys h1 h2 _ _ i1 i2 => exact .fn f as bs xs ys h1 h2 i1 i2
  | data0 k full a cap hf => exact .data0 k full a cap hf
  | data k es full b off cap val h1 h2 h3 hX hb hc _ ht ih => exact .data k es full b off cap val h1 h2 h3 hX hb hc ih (fun hf => ht (hJ b hb hf))
mutual
/-- All that is only read as what was lent. -/
def borV : AV → AV
  | .data false k es f => .data true k es f
  | .dptr cs => .dptr (cs.map (AV.tob true))
  | .agg cs => .agg (borL cs)
  | v => v
def borL : List AV → List AV
  | [] => []
  | v :: vs => borV v :: borL vs
end
theorem borL_map : ∀ cs, borL cs = cs.map borV
  | [] => by simp [borL]
  | v :: cs => by rw [borL, borL_map cs]; rfl
/-- Values that hang on nothing but data. -/
def AV.dry : AV → Bool
  | .int _ _ | .bool _ | .str _ | .nilfn | .nilptr | .data .. | .dptr _ => true
  | .agg cs => cs.all fun c => match c with
    | .int _ _ | .bool _ | .str _ | .nilfn | .nilptr | .data .. => true
    | _ => false
  | _ => false
/-- What was there may be lent, whatever blocks are apart. -/
theorem bor_leaf {I J : FrB} {w : World} {S : Nat → Prop} (hJ : ∀ b, b < w.heap.size → J.fr b → I.fr b) {v : AV} {x : Value} (hd : match v with | .int _ _ | .bool _ | .str _ | .nilfn | .nilptr | .data .. => true | _ => false) (h : @RepV I noR w noO noO v x) : @RepV J noR w S noO (borV v) x := by
  cases v with
  | int k n => obtain rfl := @rv_int I _ _ _ _ _ _ _ h; exact .s (.int _ _)
  | bool b => obtain rfl := @rv_bool I _ _ _ _ _ _ h; exact .s (.bool _)
  | str s => obtain rfl := @rv_str I _ _ _ _ _ _ h; exact .s (.str _)
  | nilfn => obtain rfl := @rv_nilfn I _ _ _ _ _ h; exact .s .nilfn
  | nilptr => obtain rfl := @rv_nilptr I _ _ _ _ _ h; exact .s .nilptr
  | data bo k es full =>
    obtain ⟨a, cap, rfl, h1, h2, h3, h4⟩ := @rv_data I _ _ _ _ _ _ _ _ _ h
    have e : borV (.data bo k es full) = .data true k es full := by cases bo <;> simp [borV]
    rw [e]
    refine @rv_mk_data J _ _ _ _ _ _ _ _ _ _ h1 h2 h3 (h4.imp id ?_)
    rintro ⟨b, off, val, q1, q2, _, q4, q5, q6⟩
    exact ⟨b, off, val, q1, q2, (fun h => by cases h), q4, q5, fun e j g c hg hc => ((q6 e j g c hg hc).re hJ).mono fun b hb => hb.elim (fun h => by cases h.1) (fun h => .inr h)⟩
  | _ => simp at hd
theorem bor_rep {I J : FrB} {w : World} {S : Nat → Prop} (hJ : ∀ b, b < w.heap.size → J.fr b → I.fr b) {v : AV} {x : Value} (hd : v.dry = true) (h : @RepV I noR w noO noO v x) : @RepV J noR w S noO (borV v) x := by
  cases v with
  | dptr cs =>
    obtain ⟨b, off, val, rfl, h1, h2, h3, h4⟩ := @rv_dptr I _ _ _ _ _ _ h
    rw [borV]
    refine @RepV.dptr J _ _ _ _ _ b off val h1 h2 (fun j hj => h3 j (by simpa using hj)) fun j c hj => ?_
    rw [List.getElem?_map] at hj
    obtain ⟨c0, hc, rfl⟩ := opt_map_some.1 hj
    have hb := h4 j c0 hc
    generalize val j = y at hb
    cases hb with
    | s hs => exact @tob_rep J _ _ _ true _ _ ((RepS.re hJ hs).mono fun b hb => hb.imp (fun h => by cases h.1) id)
    | bor0 k full a cap hf => exact .bor0 k full a cap hf
    | bor k es full b off cap val h1 h2 h3 h4 h5 h6 h7 => exact .bor k es full b off cap val h1 h2 h3 h4 h5 h6 fun e j g c hg hc => (h7 e j g c hg hc).re hJ
    | unk y => exact .unk y
  | agg cs =>
    obtain ⟨vs, rfl, h1, h2, h3⟩ := @rv_agg I _ _ _ _ _ _ h
    rw [borV]
    simp only [AV.dry, List.all_eq_true] at hd
    refine @RepV.agg J _ _ _ _ _ vs (by rw [borL_map, List.length_map]; exact h1) h2 fun i c v hc hv => ?_
    rw [borL_map, List.getElem?_map] at hc
    obtain ⟨c0, hc0, rfl⟩ := opt_map_some.1 hc
    have := hd c0 (List.mem_of_getElem? hc0)
    exact bor_leaf hJ (by cases c0 <;> simp_all) (h3 i c0 v hc0 hv)
  | int k n => exact bor_leaf hJ rfl h
  | bool b => exact bor_leaf hJ rfl h
  | str s => exact bor_leaf hJ rfl h
  | nilfn => exact bor_leaf hJ rfl h
  | nilptr => exact bor_leaf hJ rfl h
  | data bo k es full => exact bor_leaf hJ rfl h
  | _ => simp [AV.dry] at hd
/-- Data that lies apart is data. -/
theorem data_back {I J : FrB} {w : World} {S : Nat → Prop} (hJ : ∀ b, b < w.heap.size → J.fr b → I.fr b) {v : AV} {x : Value} (hs : v.stable = true) (h : @RepV I noR w S noO v x) : @RepV J noR w noO noO v x :=
  @RepV.s J _ _ _ _ _ _ (((@rv_stable I _ _ _ _ _ _ h hs).re hJ).mono fun b hb => hb.elim False.elim False.elim)
/-- Slots' values, none of them a row of the call's own. -/
def Dry (I : FrB) (S : Nat → Prop) (env : AEnv) (a : Act) (w : World) : Prop := ∀ s v, look env s = some v → ∃ x, a.tmps[s]? = some x ∧ @RepV I noR w S noO v x
def dryE (h : List ARow) : AEnv → Option AEnv
  | [] => some []
  | (s, v) :: r => (aview h v).bind fun v' => (dryE h r).bind fun r' => some ((s, v') :: r')
theorem dryE_look {h : List ARow} : ∀ {env env' : AEnv}, dryE h env = some env' → ∀ s v', look env' s = some v' → ∃ v, look env s = some v ∧ aview h v = some v'
  | [], env', he, s, v', hl => by cases he; cases hl
  | (k, v) :: r, env', he, s, v', hl => by
    obtain ⟨v1, h1, he⟩ := opt_bind_some.1 he
    obtain ⟨r1, h2, he⟩ := opt_bind_some.1 he
    cases he
    simp only [look] at hl ⊢
    by_cases e : k = s
    · rw [if_pos e] at hl ⊢
      cases hl
      exact ⟨v, rfl, h1⟩
    · rw [if_neg e] at hl ⊢
      exact dryE_look h2 s v' hl
theorem dry_rep {I : FrB} {ρ : Rho} {w : World} {S O : Nat → Prop} {h : List ARow} (H : @Heap I ρ w S O h) {v v' : AV} {x : Value} (hv : @RepV I ρ w S O v x) (hw : aview h v = some v') : @RepV I noR w S noO v' x :=
  @narrow_rep I _ _ _ _ _ _ _ _ (fun b hb => hb.elim (fun h => .inl (.inl h)) False.elim) (fun b hb => hb) (@view_rep I _ _ _ _ _ H v _ _ hv hw)
theorem Dry.mono {I : FrB} {S : Nat → Prop} {env : AEnv} {a a' : Act} {w w' : World} (k : Dry I S env a w) (A : Bel w w') (ht : ∀ s v, look env s = some v → a'.tmps[s]? = a.tmps[s]?) : Dry I S env a' w' := fun s v hl => by
  obtain ⟨x, h1, h2⟩ := k s v hl
  exact ⟨x, (ht s v hl).trans h1, @RepV.advX I _ _ _ _ _ _ _ _ _ h2 (.refl _) A⟩
/-- Slots' values, some of them rows of the call's own; nothing else was changed behind w0. -/
def Wet (I : FrB) (S : Nat → Prop) (w0 : World) (st : ASt) (a : Act) (w : World) : Prop := ∃ ρ O, AdvX w0 noO w O ∧ @Heap I ρ w S O st.h ∧ @Rel I (fun _ => none) ρ w S O st.env a
theorem Dry.wet {I : FrB} {S : Nat → Prop} {env : AEnv} {a : Act} {w : World} (k : Dry I S env a w) (hS : ∀ b, S b → b < w.heap.size) : Wet I S w ⟨env, []⟩ a w :=
  ⟨noR, noO, AdvX.refl w noO, ⟨fun id g pl h => (nomatch h), fun id id' g g' p p' h => (nomatch h), fun b hb => hb.elim (hS b) False.elim, fun _ hb => hb.elim⟩, ⟨k, fun g cs h => (nomatch h)⟩⟩
theorem Wet.dry {I : FrB} {S : Nat → Prop} {w0 : World} {st : ASt} {a : Act} {w : World} (k : Wet I S w0 st a w) {env' : AEnv} (he : dryE st.h st.env = some env') : Dry I S env' a w ∧ Bel w0 w := by
  obtain ⟨ρ, O, A, H, R⟩ := k
  refine ⟨fun s v' hl => ?_, .of A⟩
  obtain ⟨v, h1, h2⟩ := dryE_look he s v' hl
  obtain ⟨x, h3, h4⟩ := R.env s v h1
  exact ⟨x, h3, dry_rep H h4 h2⟩
/-- A part by the machine. -/
theorem Wet.part {I : FrB} {P : Program} {F : Nat → Option AEnt} (hm : P.follows .mixedOrders = true) (hE : @EntOk I P (fun _ => none) F) {S : Nat → Prop} {st : ASt} {N : Nat} {c : Code} {ac : ACode} {r : AEx × ASt} {Q : Exit → Act → World → Prop} {a : Act} {w0 w : World}
    (k : Wet I S w0 st a w) (hz : a.tmps.size = N ∧ a.defers = []) (hr : aE (fun _ => none) F 0 ac st = some r) (hc : chkCode P N c ac = true)
    (hQ : ∀ a' w', Wet I S w0 r.2 a' w' → a'.tmps.size = N ∧ a'.defers = [] → Kept (setsC c) a a' → Q (exitOf r.1) a' w') : c.wp P Q a w := by
  obtain ⟨n, hn⟩ := (aE_some (fun _ => none) F).1 hr
  obtain ⟨ρ, O, A, H, R⟩ := k
  refine (@code_okK I P (fun _ => none) F hm hE n).1 N 0 c ac _ r hn hc ([], N) ρ w S O Q a w ⟨ρ, O, AdvX.refl w O, fun id hid => absurd hid (Nat.not_lt_zero _), fun id hid => absurd hid (Nat.not_lt_zero _), H, R, Nat.le_of_eq hz.1.symm, ⟨hz.2, hz.1⟩, Nat.zero_le _⟩ ?_
  rintro a' w' ⟨ρ', O', k'⟩ hk
  exact hQ a' w' ⟨ρ', O', A.trans k'.adv, k'.heap, k'.rel⟩ ⟨k'.def0.2, k'.def0.1⟩ hk
theorem Wet.agc {I : FrB} {S : Nat → Prop} {w0 : World} {st st' : ASt} {a : Act} {w : World} {live : List Nat} (k : Wet I S w0 st a w) (hg : agc 0 live st = some st') : Wet I S w0 st' a w := by
  obtain ⟨ρ, O, A, H, R⟩ := k
  obtain ⟨ρ2, h1, h2, h3, h4⟩ := @agc_ok I _ _ _ _ _ _ _ _ _ _ _ H R (Nat.zero_le _) hg
  exact ⟨ρ2, O, A, h1, h2⟩
theorem Dry.keep {I : FrB} {S : Nat → Prop} {env : AEnv} {a : Act} {w : World} (k : Dry I S env a w) (live : List Nat) : Dry I S (akeep live env) a w := fun s v hs => k s v (by
  rw [look_akeep] at hs
  split at hs
  · exact hs
  · cases hs)
theorem look_app (e1 e2 : AEnv) (s : Nat) : look (e1 ++ e2) s = (look e1 s).or (look e2 s) := by
  induction e1 with
  | nil => rfl
  | cons p r ih =>
    obtain ⟨k, v⟩ := p
    rw [List.cons_append]
    simp only [look]
    by_cases h : k = s
    · rw [if_pos h, if_pos h]; rfl
    · rw [if_neg h, if_neg h, ih]
theorem Dry.app {I : FrB} {S : Nat → Prop} {e1 e2 : AEnv} {a : Act} {w : World} (k1 : Dry I S e1 a w) (k2 : Dry I S e2 a w) : Dry I S (e1 ++ e2) a w := fun s v hs => by
  rw [look_app] at hs
  cases h : look e1 s with
  | none => rw [h] at hs; exact k2 s v hs
  | some u => rw [h] at hs; cases hs; exact k1 s _ h
theorem lookP_mem : ∀ {env : AEnv} {s : Nat} {v : AV}, look env s = some v → (s, v) ∈ env
  | [], _, _, h => by cases h
  | (k, u) :: r, s, v, h => by
    simp only [look] at h
    split at h
    · rename_i e; cases h; subst e; exact List.mem_cons_self ..
    · exact List.mem_cons_of_mem _ (lookP_mem h)
theorem Dry.bor {I J : FrB} {S : Nat → Prop} {env : AEnv} {a : Act} {w : World} (k : Dry I noO env a w) (hJ : ∀ b, b < w.heap.size → J.fr b → I.fr b) (hd : (env.all fun p => p.2.dry) = true) : Dry J S (env.map fun p => (p.1, borV p.2)) a w := fun s v hs => by
  have main : ∀ env : AEnv, look (env.map fun p => (p.1, borV p.2)) s = (look env s).map borV := fun env => by
    induction env with
    | nil => rfl
    | cons p r ih =>
      obtain ⟨k, v⟩ := p
      rw [List.map_cons]
      simp only [look]
      split
      · rfl
      · exact ih
  rw [main] at hs
  obtain ⟨u, hu, rfl⟩ := opt_map_some.1 hs
  obtain ⟨x, h1, h2⟩ := k s u hu
  exact ⟨x, h1, bor_rep hJ (List.all_eq_true.1 hd _ (lookP_mem hu)) h2⟩
theorem Dry.back {I J : FrB} {S : Nat → Prop} {env : AEnv} {a : Act} {w : World} (k : Dry I S env a w) (hJ : ∀ b, b < w.heap.size → J.fr b → I.fr b) (hd : (env.all fun p => p.2.stable) = true) : Dry J noO env a w := fun s v hs => by
  obtain ⟨x, h1, h2⟩ := k s v hs
  exact ⟨x, h1, data_back hJ (List.all_eq_true.1 hd _ (lookP_mem hs)) h2⟩
theorem kept_all {c : Code} {a a' : Act} (hk : Kept (setsC c) a a') (L : List Nat) (h : (L.all fun s => !(setsC c).contains s) = true) : ∀ s ∈ L, a'.tmps[s]? = a.tmps[s]? := fun s hs => hk s (by
  have := List.all_eq_true.1 h s hs
  simpa using this)
theorem Dry.on {I : FrB} {S : Nat → Prop} {env : AEnv} {a a' : Act} {w w' : World} (k : Dry I S env a w) (A : Bel w w') {L : List Nat} (ht : ∀ s ∈ L, a'.tmps[s]? = a.tmps[s]?) (hL : (env.all fun p => L.contains p.1) = true) : Dry I S env a' w' :=
  k.mono A fun s v hl => ht s (by simpa using List.all_eq_true.1 hL _ (lookP_mem hl))
theorem kept_trans {a b c : Act} {L : List Nat} (h : ∀ s ∈ L, b.tmps[s]? = a.tmps[s]?) (k : ∀ s ∈ L, c.tmps[s]? = b.tmps[s]?) : ∀ s ∈ L, c.tmps[s]? = a.tmps[s]? := fun s hs => (k s hs).trans (h s hs)
theorem Bel.trans {u v w : World} (h : Bel u v) (k : Bel v w) : Bel u w := AdvX.trans h k
end Go.Proofs.Ytfnonledcniojaa
