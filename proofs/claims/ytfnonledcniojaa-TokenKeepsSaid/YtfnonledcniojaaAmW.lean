/- Regions in the text's order: the small machine's operations stand for the program's. Conditions: none. -/
import Derived.Test.YtfnonledcniojaaAmV
import Derived.LoopN
namespace Go.Proofs.Ytfnonledcniojaa
open Go Go.RowKit
section
variable {P : Program} {G : Nat → Option (List AV)} {raw : ARaw} {ρ : Rho} {w : World} {S O : Nat → Prop} {env : AEnv} {h : List ARow} {a : Act} {o : Oper} {ao : AOper} {ops : Array Oper}

theorem chkOper_parts (hc : chkOper P ops o ao = true) : o.dst = ao.dst ∧ chkOp P o.op ao.op = true ∧
    ((o.guard = none ∧ ao.guard = none) ∨ ∃ j s wt, o.guard = some (j, wt) ∧ ao.guard = some (s, wt) ∧ ((ops[j]?).bind (·.dst)) = some s) := by
  simp only [chkOper, Bool.and_eq_true, beq_iff_eq] at hc
  obtain ⟨⟨h1, h2⟩, h3⟩ := hc
  refine ⟨h1, h2, ?_⟩
  split at h3
  · rename_i e1 e2; exact .inl ⟨e1, e2⟩
  · rename_i j wt s wt' e1 e2
    simp only [Bool.and_eq_true, beq_iff_eq] at h3
    obtain ⟨rfl, h3⟩ := h3
    exact .inr ⟨j, s, wt, e1, e2, h3⟩
  · cases h3
/-- Is the operation to run? -/
def goes (ao : AOper) (env : AEnv) : Option Bool := match ao.guard with
  | none => some true
  | some (s, want) => (look env s).bind fun
    | .bool b => some (b == want)
    | .tup [] => some false
    | _ => none
theorem astep_goes {st : ASt} : astep G raw ao st = (goes ao st.env).bind fun b => if b then (aexecOp G raw st.env st.h ao.op).map fun r => ⟨aput st.env ao.dst r.1, r.2⟩ else some ⟨aput st.env ao.dst (.tup []), st.h⟩ := by
  unfold astep goes
  cases hg : ao.guard with
  | none => rfl
  | some g =>
    obtain ⟨s, want⟩ := g
    simp only
    cases look st.env s with
    | none => rfl
    | some v =>
      cases v with
      | bool b => by_cases e : b = want <;> simp [e]
      | tup l => cases l <;> rfl
      | _ => rfl
theorem wanted_of (hc : chkOper P ops o ao = true) (R : ∀ s wt, ao.guard = some (s, wt) → ∀ v, look env s = some v → ∃ x, a.tmps[s]? = some x ∧ RepV ρ w S O v x) {b : Bool} (hg : goes ao env = some b) : Region.wanted o (yielded ops a.tmps) = b := by
  obtain ⟨_, _, h3⟩ := chkOper_parts hc
  unfold goes at hg
  rcases h3 with ⟨e1, e2⟩ | ⟨j, s, wt, e1, e2, e3⟩
  · rw [e2] at hg
    cases hg
    simp [Region.wanted, e1]
  · rw [e2] at hg
    obtain ⟨v, hv, hg⟩ := opt_bind_some.1 hg
    obtain ⟨x, hx, hr⟩ := R s wt e2 v hv
    simp only [Region.wanted, e1, yielded, e3, Option.bind_some, hx]
    split at hg
    · rename_i b'
      obtain rfl := rv_bool hr
      cases hg
      simp
    · obtain ⟨vs, rfl, hl, _⟩ := rv_tup hr
      cases hg
      have : vs = [] := List.eq_nil_of_length_eq_zero hl.symm
      subst this
      rfl
    · cases hg
theorem rep_undef : RepV ρ w S O (.tup []) undef := .tup [] [] rfl fun i c v hc => by simp at hc

/-- A frame and a world as the machine's state tells, behind a start. -/
structure Good (G : Nat → Option (List AV)) (ρ0 : Rho) (w0 : World) (S O0 : Nat → Prop) (base N : Nat) (env : AEnv) (h : List ARow) (a : Act) (w : World) (ρ : Rho) (O : Nat → Prop) : Prop where
  adv : AdvW w0 O0 w O
  ext : ∀ id, id < base → ∀ g pl, ρ0 id = some (g, pl) → ∃ g' pl', ρ id = some (g', pl') ∧ g ≤ g' ∧ (g = g' → pl = pl')
  non : ∀ id, id < base → ρ0 id = none → ρ id = none
  heap : Heap ρ w S O h
  rel : Rel G ρ w S O env a
  size : N ≤ a.tmps.size
  def0 : a.defers = []
  bas : base ≤ h.length
theorem size_put {a : Act} {d : Option Nat} {x : Value} : (a.put d x).tmps.size = a.tmps.size := by cases d <;> simp [Act.put]
theorem defers_put {a : Act} {d : Option Nat} {x : Value} : (a.put d x).defers = a.defers := by cases d <;> simp [Act.put]

/-- Rows stay rows of their kind. -/
def KeepK (h h' : List ARow) : Prop := ∀ (id : Nat) x, h[id]? = some x → ∃ y, h'[id]? = some y ∧ y.k = x.k
theorem KeepK.refl (h : List ARow) : KeepK h h := fun _ x hx => ⟨x, hx, rfl⟩
theorem KeepK.trans {h h' h'' : List ARow} (p : KeepK h h') (q : KeepK h' h'') : KeepK h h'' := fun id x hx => by
  obtain ⟨y, hy, e⟩ := p id x hx
  obtain ⟨z, hz, e'⟩ := q id y hy
  exact ⟨z, hz, e'.trans e⟩
theorem KeepK.len {h h' : List ARow} (p : KeepK h h') : h.length ≤ h'.length := by
  rcases Nat.lt_or_ge h'.length h.length with hl | hl
  · obtain ⟨y, hy, _⟩ := p h'.length _ (List.getElem?_eq_getElem hl)
    have := (List.getElem?_eq_some_iff.1 hy).1
    omega
  · exact hl
theorem KeepK.app (h e : List ARow) : KeepK h (h ++ e) := fun id x hx => ⟨x, by rw [List.getElem?_append_left (List.getElem?_eq_some_iff.1 hx).1]; exact hx, rfl⟩
theorem KeepK.set {h : List ARow} {id : Nat} {r r' : ARow} (hr : h[id]? = some r) (hk : r'.k = r.k) : KeepK h (h.set id r') := fun i x hx => by
  by_cases e : id = i
  · subst e
    rw [hr] at hx
    cases hx
    exact ⟨r', by rw [List.getElem?_set_self (List.getElem?_eq_some_iff.1 hr).1], hk⟩
  · exact ⟨x, by rw [List.getElem?_set_ne e]; exact hx, rfl⟩
theorem change_k {v : AV} {h' : List ARow} {op : AOp} (KL : ∀ f as h r, raw f as h = some r → KeepK h r.2) (hc : op.cls = .change) (he : aexecOp G raw env h op = some (v, h')) : KeepK h h' := by
  cases op with
  | store agg m p x =>
    obtain ⟨vp, hp, he⟩ := opt_bind_some.1 he
    obtain ⟨vx, hx, he⟩ := opt_bind_some.1 he
    obtain ⟨h1, hst, e⟩ := opt_map_some.1 he
    cases e
    unfold astore at hst
    split at hst
    · obtain ⟨r, hr, hst⟩ := opt_bind_some.1 hst
      split at hst
      · obtain ⟨g, hg, hst⟩ := opt_bind_some.1 hst
        repeat' split at hst
        all_goals first
          | (cases hst; done)
          | (cases hst; exact .set hr rfl)
      · cases hst
    · cases hst
  | append k b x y =>
    obtain ⟨vp, hp, he⟩ := opt_bind_some.1 he
    obtain ⟨vx, hx, he⟩ := opt_bind_some.1 he
    obtain ⟨ys, hy, he⟩ := opt_bind_some.1 he
    split at he
    · obtain ⟨r, hr, he⟩ := opt_bind_some.1 he
      split at he
      · split at he
        · rename_i hc; cases he; exact .set hr hc.2.1.symm
        · cases he
      · split at he
        · rename_i hc; cases he; exact .set hr hc.2.1.symm
        · cases he
    · repeat' split at he
      all_goals first
        | (cases he; done)
        | (cases he; exact .app _ _)
        | (cases he; exact .refl _)
    · cases he
  | copy k x y =>
    obtain ⟨vp, hp, he⟩ := opt_bind_some.1 he
    obtain ⟨vx, hx, he⟩ := opt_bind_some.1 he
    obtain ⟨ys, hy, he⟩ := opt_bind_some.1 he
    split at he
    · obtain ⟨r, hr, he⟩ := opt_bind_some.1 he
      split at he
      · cases he; exact .set hr rfl
      · cases he
    · cases he
  | clear z x =>
    obtain ⟨vp, hp, he⟩ := opt_bind_some.1 he
    split at he
    · obtain ⟨r, hr, he⟩ := opt_bind_some.1 he
      split at he
      · cases he; exact .set hr rfl
      · cases he
    · cases he
  | mark x =>
    obtain ⟨vp, hp, he⟩ := opt_bind_some.1 he
    split at he
    · obtain ⟨r, hr, he⟩ := opt_bind_some.1 he
      split at he
      · cases he; exact .refl _
      · cases he
    · cases he
  | call md f args =>
    obtain ⟨vs, hvs, he⟩ := opt_bind_some.1 he
    cases md with
    | inl => exact KL _ _ _ _ he
    | _ => cases hc
  | callv x args =>
    obtain ⟨vf, hvf, he⟩ := opt_bind_some.1 he
    split at he
    · obtain ⟨vs, hvs, he⟩ := opt_bind_some.1 he
      exact KL _ _ _ _ he
    · cases he
  | _ => cases hc

theorem exec_len {v : AV} {h' : List ARow} {op : AOp} (K : CallOk P G raw) (KL : ∀ f as h r, raw f as h = some r → KeepK h r.2) (hop : chkOp P o.op op = true) (R : Rel G ρ w S O env a) (H : Heap ρ w S O h) (he : aexecOp G raw env h op = some (v, h')) :
    Yield P ((execOp a.eval o).run P w) fun x w' => ResW ρ w S O h v h' x w' ∧ h.length ≤ h'.length := by
  cases hc : op.cls with
  | free =>
    obtain ⟨q1, q2⟩ := exec_free hc hop R H.kinv he
    exact (exec_any K hop R H he).mono fun x w' hx => ⟨hx, by rw [q2]; exact Nat.le_refl _⟩
  | new => exact (exec_new K hc hop R H he).mono fun x w' hx => ⟨hx.toW, by obtain ⟨_, _, _, _, _, _, _, _, _, e, he⟩ := hx; rw [he]; simp⟩
  | change => exact (exec_any K hop R H he).mono fun x w' hx => ⟨hx, (change_k KL hc he).len⟩

variable {ρ0 : Rho} {w0 : World} {O0 : Nat → Prop} {base N : Nat} {st st' : ASt}
def GoodS (G : Nat → Option (List AV)) (ρ0 : Rho) (w0 : World) (S O0 : Nat → Prop) (base N : Nat) (st : ASt) (a : Act) (w : World) : Prop := ∃ ρ O, Good G ρ0 w0 S O0 base N st.env st.h a w ρ O
theorem Good.resW {v : AV} {h' : List ARow} {x : Value} {w' : World} {d : Option Nat} (k : Good G ρ0 w0 S O0 base N env h a w ρ O) (hd : ∀ t, d = some t → t < N) (hr : ResW ρ w S O h v h' x w') (hl : h.length ≤ h'.length) :
    GoodS G ρ0 w0 S O0 base N ⟨aput env d v, h'⟩ (a.put d x) w' := by
  obtain ⟨ρ', O', A, E, H, hv, hn⟩ := hr
  refine ⟨ρ', O', k.adv.trans A, fun id hid g pl h0 => ?_, fun id hid h0 => hn id (Nat.lt_of_lt_of_le hid k.bas) (k.non id hid h0), H, (k.rel.adv E A).put hv (fun t ht => Nat.lt_of_lt_of_le (hd t ht) k.size), by rw [size_put]; exact k.size, by rw [defers_put]; exact k.def0, Nat.le_trans k.bas hl⟩
  obtain ⟨g1, p1, e1, l1, q1⟩ := k.ext id hid g pl h0
  obtain ⟨g2, p2, e2, l2, q2⟩ := E id g1 p1 e1
  exact ⟨g2, p2, e2, Nat.le_trans l1 l2, fun e => by
    have a1 : g = g1 := by omega
    exact (q1 a1).trans (q2 (by omega))⟩
theorem oper_ok {next : Act → World → Prop} {Q : Exit → Act → World → Prop} (K : CallOk P G raw) (KL : ∀ f as h r, raw f as h = some r → KeepK h r.2) (hc : chkOper P ops o ao = true) (hd : ∀ d, o.dst = some d → d < N) (hs : astep G raw ao st = some st')
    (k : GoodS G ρ0 w0 S O0 base N st a w) (hn : ∀ a' w', GoodS G ρ0 w0 S O0 base N st' a' w' → next a' w') :
    if Region.wanted o (yielded ops a.tmps) then o.wp P a w next Q ∨ (o.asks P a w ∧ LetsOut Q) else next (a.put o.dst undef) w := by
  obtain ⟨ρ, O, k⟩ := k
  obtain ⟨h1, h2, _⟩ := chkOper_parts hc
  rw [astep_goes] at hs
  obtain ⟨b, hb, hs⟩ := opt_bind_some.1 hs
  rw [wanted_of hc (fun s wt _ v hv => k.rel.env s v hv) hb]
  cases b with
  | true =>
    simp only [if_true] at hs ⊢
    obtain ⟨r, hr, e⟩ := opt_map_some.1 hs
    subst e
    refine .inl ((exec_len K KL h2 k.rel k.heap hr).upon fun x w' hx => hn _ _ ?_)
    rw [h1]
    exact k.resW (by rw [← h1]; exact hd) hx.1 hx.2
  | false =>
    simp only [Bool.false_eq_true, if_false] at hs ⊢
    cases hs
    refine hn _ _ ⟨ρ, O, k.adv, k.ext, k.non, k.heap, ?_, by rw [size_put]; exact k.size, by rw [defers_put]; exact k.def0, k.bas⟩
    rw [h1]
    exact k.rel.put rep_undef (fun t ht => Nat.lt_of_lt_of_le (hd t (by rw [h1]; exact ht)) k.size)
/-- A region in the text's order. -/
theorem region_seq {id : Nat} {aops' : List AOper} {Q : Exit → Act → World → Prop} (K : CallOk P G raw) (KL : ∀ f as h r, raw f as h = some r → KeepK h r.2) (hc : chkRegion P ops aops' N = true) (hs : aops G raw aops' st = some st')
    (k : GoodS G ρ0 w0 S O0 base N st a w) (hn : ∀ a' w', GoodS G ρ0 w0 S O0 base N st' a' w' → Q .normal a' w') : (Code.region id ops false).wp P Q a w := by
  simp only [chkRegion, Bool.and_eq_true, beq_iff_eq, List.all_eq_true] at hc
  obtain ⟨hsz, hall⟩ := hc
  have main : ∀ (m i : Nat) (rest : List AOper) (st : ASt) (a : Act) (w : World), i + m = ops.size → aops'.drop i = rest → aops G raw rest st = some st' → GoodS G ρ0 w0 S O0 base N st a w → wpOps P ops Q (List.range' i m) a w := by
    intro m
    induction m with
    | zero =>
      intro i rest st a w hi hr hs k
      have : rest = [] := by rw [← hr]; exact List.drop_eq_nil_of_le (by omega)
      subst this
      cases hs
      exact hn a w k
    | succ m ih =>
      intro i rest st a w hi hr hs k
      have hlt : i < ops.size := by omega
      have hlt' : i < aops'.length := by omega
      rw [List.drop_eq_getElem_cons hlt'] at hr
      subst hr
      obtain ⟨st1, h1, hs⟩ := opt_bind_some.1 hs
      have ho : ops[i]? = some ops[i] := by simp [hlt]
      have hm : (ops[i], aops'[i]) ∈ ops.toList.zip aops' := by
        refine List.mem_iff_getElem.2 ⟨i, by simp; omega, ?_⟩
        simp
      have hp := hall _ hm
      simp only [Bool.and_eq_true] at hp
      show wpOps P ops Q (i :: List.range' (i + 1) m) a w
      rw [wpOps, ho]
      refine oper_ok K KL hp.1 (fun d hd => ?_) h1 k fun a' w' k' => ih (i + 1) _ st1 a' w' (by omega) rfl hs k'
      have := hp.2
      rw [hd] at this
      simpa using this
  refine wp_region ?_
  rw [List.range_eq_range']
  exact main ops.size 0 aops' st a w (by omega) rfl hs k
end
end Go.Proofs.Ytfnonledcniojaa
