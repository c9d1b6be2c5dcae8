/- Regions in any order that the text allows: what holds in between. Conditions: none. -/
import Derived.Test.YtfnonledcniojaaAmY
namespace Go.Proofs.Ytfnonledcniojaa
open Go Go.RowKit
section
variable {P : Program} {G : Nat → Option (List AV)} {raw : ARaw} {ρ0 ρ ρ' : Rho} {w0 w w' : World} {S O0 O O' : Nat → Prop} {a : Act} {ops : Array Oper} {A : List AOper} {T : Nat → ASt} {V : Nat → AV} {N : Nat} {D : Nat → Prop} {l M : Nat}

theorem first_change (A : List AOper) : ∀ (m l : Nat), l + m = A.length → ∃ M, l ≤ M ∧ M ≤ A.length ∧ (∀ k ao, l ≤ k → k < M → A[k]? = some ao → ao.op.cls ≠ .change) ∧ (M = A.length ∨ ∃ ao, A[M]? = some ao ∧ ao.op.cls = .change)
  | 0, l, h => ⟨l, Nat.le_refl _, by omega, fun k ao h1 h2 => by omega, .inl (by omega)⟩
  | m + 1, l, h => by
    obtain ⟨ao, ha⟩ : ∃ ao, A[l]? = some ao := ⟨_, List.getElem?_eq_getElem (by omega)⟩
    by_cases hc : ao.op.cls = .change
    · exact ⟨l, Nat.le_refl _, by omega, fun k ao h1 h2 => by omega, .inr ⟨ao, ha, hc⟩⟩
    · obtain ⟨M, h1, h2, h3, h4⟩ := first_change A m (l + 1) (by omega)
      refine ⟨M, by omega, h2, fun k ao' q1 q2 q3 => ?_, h4⟩
      by_cases e : k = l
      · subst e; rw [ha] at q3; cases q3; exact hc
      · exact h3 k ao' (by omega) q2 q3

/-- What holds while the operations of D are done. -/
structure Mid (G : Nat → Option (List AV)) (ops : Array Oper) (A : List AOper) (T : Nat → ASt) (N : Nat) (S : Nat → Prop) (ρ0 : Rho) (w0 : World) (O0 : Nat → Prop) (D : Nat → Prop) (a : Act) (w : World) (ρ : Rho) (O : Nat → Prop) (l M : Nat) : Prop where
  closed : Closed ops D
  adv : AdvW w0 O0 w O
  ext0 : Ext ρ0 ρ
  non0 : ∀ id, id < (T 0).h.length → ρ0 id = none → ρ id = none
  lM : l ≤ M
  Mn : M ≤ A.length
  b1 : ∀ k ao, k < l → A[k]? = some ao → ao.op.cls ≠ .free → D k
  b2 : ∀ k ao, l ≤ k → k < M → A[k]? = some ao → ao.op.cls ≠ .change
  b3 : M = A.length ∨ ∃ ao, A[M]? = some ao ∧ ao.op.cls = .change
  b4 : ∀ k ao, M ≤ k → A[k]? = some ao → ao.op.cls ≠ .free → ¬ D k
  heap : ∀ k, l ≤ k → k ≤ M → Heap (cutR ρ (T k).h.length) w S O (T k).h
  dom : ∀ id, (T M).h.length ≤ id → ρ id = none
  pend : ∀ k, k < A.length → ¬ D k → ∀ id, (T k).h.length ≤ id → id < (T (k + 1)).h.length → ρ id = none
  slots : ∀ i, i ≤ A.length → ∀ s v, look (T i).env s = some v → (∀ k ao, k < i → A[k]? = some ao → ao.dst = some s → D k) → (∀ k ao, i ≤ k → A[k]? = some ao → ao.dst = some s → ¬ D k) →
    ∃ x, a.tmps[s]? = some x ∧ RepV (cutR ρ (T i).h.length) w S O v x
  glob : ∀ g cs, G g = some cs → RepV ρ w S O (.dptr cs) (.pointer (some ⟨g, 0, none⟩))
  kinv : ∀ i, i ≤ A.length → KInv ρ (T i).h
  size : N ≤ a.tmps.size
  def0 : a.defers = []
/-- What clashes comes up in the text's order. -/
def Ordered (ops : Array Oper) (A : List AOper) : Prop := ∀ D, Closed ops D → ∀ (i j : Nat) x y, i < j → A[i]? = some x → A[j]? = some y → x.clash y = true → D j → D i

theorem clash_cls {x y : AOper} (h : x.op.cls = .change) (h' : y.op.cls ≠ .free) : x.clash y = true := by
  have : (y.op.cls != .free) = true := by simpa using h'
  simp [AOper.clash, ACls.clash, h, this]
theorem clash_cls' {x y : AOper} (h : y.op.cls = .change) (h' : x.op.cls ≠ .free) : x.clash y = true := by
  have : (x.op.cls != .free) = true := by simpa using h'
  simp [AOper.clash, ACls.clash, h, this]
theorem clash_dd {x y : AOper} {s : Nat} (h : x.dst = some s) (h' : y.dst = some s) : x.clash y = true := by simp [AOper.clash, h, h']
theorem clash_dr {x y : AOper} {s : Nat} (h : x.dst = some s) (h' : s ∈ y.reads) : x.clash y = true := by simp [AOper.clash, h, h']
theorem clash_rd {x y : AOper} {s : Nat} (h : s ∈ x.reads) (h' : y.dst = some s) : x.clash y = true := by simp [AOper.clash, h, h']

theorem mid_start (k : Good G ρ0 w0 S O0 (T 0).h.length N (T 0).env (T 0).h a w ρ O) (t : Trace G raw A T V) (KL : ∀ f as h r, raw f as h = some r → KeepK h r.2) : ∃ M, Mid G ops A T N S ρ w O (fun _ => False) a w ρ O 0 M := by
  obtain ⟨M, h1, h2, h3, h4⟩ := first_change A A.length 0 (by omega)
  have hd : ∀ id, (T 0).h.length ≤ id → ρ id = none := fun id hid => k.heap.none_ge hid
  have hl : ∀ i, i ≤ A.length → (T 0).h.length ≤ (T i).h.length := fun i hi => by have := trace_len KL t i 0 (by omega); simpa using this
  refine ⟨M, fun _ _ _ h => h.elim, .refl w O, .refl ρ, fun _ _ h => h, h1, h2, fun k ao h => by omega, h3, h4, fun _ _ _ _ _ h => h, fun i _ hi => ?_, fun id hid => hd id (Nat.le_trans (hl M h2) hid), fun i hi _ id hid _ => hd id (Nat.le_trans (hl i (by omega)) hid), fun i hi s v hs c1 _ => ?_, k.rel.glob, fun i hi id g p r hid hr => ?_, k.size, k.def0⟩
  · obtain ⟨e, he⟩ := trace_grow t i 0 (by omega) fun k ao q1 q2 q3 => h3 k ao q1 (by omega) q3
    rw [Nat.zero_add] at he
    rw [cutR_all fun id hid => hd id (Nat.le_trans (hl i (by omega)) hid), he]
    exact k.heap.more e
  · have := trace_look t s i 0 (by omega) fun k ao _ q2 q3 q4 => c1 k ao (by omega) q3 q4
    rw [Nat.zero_add] at this
    rw [this] at hs
    obtain ⟨x, hx, hr⟩ := k.rel.env s v hs
    exact ⟨x, hx, by rw [cutR_all fun id hid => hd id (Nat.le_trans (hl i hi) hid)]; exact hr⟩
  · obtain ⟨r0, hr0, _, hR⟩ := k.heap.row id g _ hid
    have hk := trace_k KL t i 0 (by omega) id r0 hr0
    rw [Nat.zero_add, hr] at hk
    obtain ⟨y, hy, e⟩ := hk
    cases hy
    exact (RowRep.k (show RowRep ρ w S O r0 p from hR)).trans e.symm

variable {i0 : Nat} {ao : AOper} {o : Oper}
/-- What the operation in hand reads is there. -/
theorem mid_reads (J : Mid G ops A T N S ρ0 w0 O0 D a w ρ O l M) (hO : Ordered ops A) (ha : A[i0]? = some ao) (ho : ops[i0]? = some o) (hr : ∀ e ∈ o.after, Region.binds .any e = true → D e.on) (hn : ¬ D i0) (s : Nat) (hs : s ∈ ao.reads) (v : AV) (hv : look (T i0).env s = some v) :
    ∃ x, a.tmps[s]? = some x ∧ RepV (cutR ρ (T i0).h.length) w S O v x := by
  have hi : i0 < A.length := (List.getElem?_eq_some_iff.1 ha).1
  have hcl : Closed ops (fun k => D k ∨ k = i0) := fun j o' ho' hj e he hb => by
    rcases hj with hj | rfl
    · exact .inl (J.closed j o' ho' hj e he hb)
    · rw [ho] at ho'; cases ho'; exact .inl (hr e he hb)
  refine J.slots i0 (by omega) s v hv (fun k ak hk h1 h2 => ?_) fun k ak hk h1 h2 hd => ?_
  · rcases hO _ hcl k i0 ak ao hk h1 ha (clash_dr h2 hs) (.inr rfl) with h | h
    · exact h
    · omega
  · by_cases e : k = i0
    · subst e; exact hn hd
    · exact hn (hO _ J.closed i0 k ao ak (by omega) ha h1 (clash_rd hs h2) hd)
/-- The slots behind an operation. -/
theorem mid_slots (J : Mid G ops A T N S ρ0 w0 O0 D a w ρ O l M) (t : Trace G raw A T V) (KL : ∀ f as h r, raw f as h = some r → KeepK h r.2) (hO : Ordered ops A) (ha : A[i0]? = some ao) (hn : ¬ D i0) (hd : ∀ d, ao.dst = some d → d < N) {x : Value} (Aw : AdvW w O w' O') (E : Ext ρ ρ')
    (hx : RepV (cutR ρ' (T (i0 + 1)).h.length) w' S O' (V i0) x) : ∀ i, i ≤ A.length → ∀ s v, look (T i).env s = some v → (∀ k ao, k < i → A[k]? = some ao → ao.dst = some s → D k ∨ k = i0) → (∀ k ao, i ≤ k → A[k]? = some ao → ao.dst = some s → ¬ (D k ∨ k = i0)) →
    ∃ x', (a.put ao.dst x).tmps[s]? = some x' ∧ RepV (cutR ρ' (T i).h.length) w' S O' v x' := by
  intro i hi s v hv c1 c2
  by_cases hs : ao.dst = some s
  · have hlt : i0 < i := by
      rcases Nat.lt_or_ge i0 i with h | h
      · exact h
      · exact absurd (.inr rfl) (c2 i0 ao h ha hs)
    have hlk := trace_look t s (i - (i0 + 1)) (i0 + 1) (by omega) fun k ak q1 q2 q3 q4 => by
      rcases c1 k ak (by omega) q3 q4 with h | h
      · exact hn (hO _ J.closed i0 k ao ak (by omega) ha q3 (clash_dd hs q4) h)
      · omega
    rw [show i0 + 1 + (i - (i0 + 1)) = i from by omega, t.env i0 ao ha, hs] at hlk
    rw [hlk] at hv
    simp only [aput, look, if_true] at hv
    cases hv
    have hsz := Nat.lt_of_lt_of_le (hd s hs) J.size
    refine ⟨x, by rw [hs]; simp [Act.put, hsz], hx.adv (ext_cut ?_) (.refl w' O')⟩
    have := trace_len KL t (i - (i0 + 1)) (i0 + 1) (by omega)
    rwa [show i0 + 1 + (i - (i0 + 1)) = i from by omega] at this
  · obtain ⟨x', h1, h2⟩ := J.slots i hi s v hv (fun k ak q1 q2 q3 => (c1 k ak q1 q2 q3).resolve_right (fun e => by subst e; rw [ha] at q2; cases q2; exact hs q3)) fun k ak q1 q2 q3 hd => c2 k ak q1 q2 q3 (.inl hd)
    refine ⟨x', ?_, h2.adv (E.cut _) Aw⟩
    cases e : ao.dst with
    | none => exact h1
    | some d =>
      rw [e] at hs
      simp only [Act.put]
      rw [Array.getElem?_setIfInBounds_ne (fun e => hs (by rw [e]))]
      exact h1
theorem mid_closed (J : Mid G ops A T N S ρ0 w0 O0 D a w ρ O l M) (ho : ops[i0]? = some o) (hr : ∀ e ∈ o.after, Region.binds .any e = true → D e.on) : Closed ops (fun k => D k ∨ k = i0) := fun j o' ho' hj e he hb => by
  rcases hj with hj | rfl
  · exact .inl (J.closed j o' ho' hj e he hb)
  · rw [ho] at ho'; cases ho'; exact .inl (hr e he hb)

theorem mid_free (J : Mid G ops A T N S ρ0 w0 O0 D a w ρ O l M) (t : Trace G raw A T V) (KL : ∀ f as h r, raw f as h = some r → KeepK h r.2) (hO : Ordered ops A) (ha : A[i0]? = some ao) (ho : ops[i0]? = some o) (hr : ∀ e ∈ o.after, Region.binds .any e = true → D e.on) (hn : ¬ D i0) (hd : ∀ d, ao.dst = some d → d < N)
    (hc : ao.op.cls = .free) {x : Value} (hx : RepV (cutR ρ (T i0).h.length) w S O (V i0) x) (hh : (T (i0 + 1)).h = (T i0).h) : Mid G ops A T N S ρ0 w0 O0 (fun k => D k ∨ k = i0) (a.put ao.dst x) w ρ O l M :=
  ⟨mid_closed J ho hr, J.adv, J.ext0, J.non0, J.lM, J.Mn, fun k ak h1 h2 h3 => .inl (J.b1 k ak h1 h2 h3), J.b2, J.b3, fun k ak h1 h2 h3 hk => hk.elim (J.b4 k ak h1 h2 h3) (fun e => by subst e; rw [ha] at h2; cases h2; exact h3 hc), J.heap, J.dom,
    fun k h1 h2 => J.pend k h1 (fun h => h2 (.inl h)), mid_slots J t KL hO ha hn hd (.refl w O) (.refl ρ) (by rw [hh]; exact hx), J.glob, J.kinv, by rw [size_put]; exact J.size, by rw [defers_put]; exact J.def0⟩

theorem mid_new (J : Mid G ops A T N S ρ0 w0 O0 D a w ρ O l M) (t : Trace G raw A T V) (KL : ∀ f as h r, raw f as h = some r → KeepK h r.2) (hO : Ordered ops A) (ha : A[i0]? = some ao) (ho : ops[i0]? = some o) (hr : ∀ e ∈ o.after, Region.binds .any e = true → D e.on) (hn : ¬ D i0) (hd : ∀ d, ao.dst = some d → d < N)
    (hc : ao.op.cls = .new) : (l ≤ i0 ∧ i0 < M) ∧ ∀ {x : Value} {w' : World}, ResN (cutR ρ (T i0).h.length) w S O (T i0).h (V i0) (T (i0 + 1)).h x w' → ∃ ρ' O', Mid G ops A T N S ρ0 w0 O0 (fun k => D k ∨ k = i0) (a.put ao.dst x) w' ρ' O' l M := by
  have hcl := mid_closed J ho hr
  have hi : i0 < A.length := (List.getElem?_eq_some_iff.1 ha).1
  have hnf : ao.op.cls ≠ .free := by rw [hc]; decide
  have hl : l ≤ i0 := by
    rcases Nat.lt_or_ge i0 l with h | h
    · exact absurd (J.b1 i0 ao h ha hnf) hn
    · exact h
  have hM : i0 < M := by
    rcases Nat.lt_or_ge i0 M with h | h
    · exact h
    · rcases J.b3 with e | ⟨am, h1, h2⟩
      · omega
      · by_cases e : i0 = M
        · subst e; rw [ha] at h1; cases h1; rw [hc] at h2; cases h2
        · rcases hO _ hcl M i0 am ao (by omega) h1 ha (clash_cls h2 hnf) (.inr rfl) with h | h
          · exact absurd h (J.b4 M am (Nat.le_refl _) h1 (by rw [h2]; decide))
          · omega
  refine ⟨⟨hl, hM⟩, fun {x w'} hres => ?_⟩
  obtain ⟨ρ1, O', Aw, keep, exact', fresh, H1, hv, non1, ⟨e1, he1⟩⟩ := hres
  have len1 : (T i0).h.length ≤ (T (i0 + 1)).h.length := by rw [he1]; simp
  have lenle : ∀ i j, i ≤ j → j ≤ A.length → (T i).h.length ≤ (T j).h.length := fun i j hij hj => by
    have := trace_len KL t (j - i) i (by omega)
    rwa [show i + (j - i) = j from by omega] at this
  have pend0 : ∀ id, (T i0).h.length ≤ id → id < (T (i0 + 1)).h.length → ρ id = none := J.pend i0 hi hn
  obtain ⟨ρ', hρ'⟩ : ∃ ρ' : Rho, ρ' = fun id => if id < (T i0).h.length then ρ id else if id < (T (i0 + 1)).h.length then ρ1 id else ρ id := ⟨_, rfl⟩
  have p1 : ∀ id, id < (T i0).h.length → ρ' id = ρ id := fun id h => by rw [hρ']; simp [h]
  have p2 : ∀ id, (T i0).h.length ≤ id → id < (T (i0 + 1)).h.length → ρ' id = ρ1 id := fun id h h' => by rw [hρ']; simp [Nat.not_lt.2 h, h']
  have p3 : ∀ id, (T (i0 + 1)).h.length ≤ id → ρ' id = ρ id := fun id h => by rw [hρ']; simp [Nat.not_lt.2 h, Nat.not_lt.2 (Nat.le_trans len1 h)]
  have f1 : cutR ρ' (T (i0 + 1)).h.length = ρ1 := by
    funext id
    rcases Nat.lt_or_ge id (T (i0 + 1)).h.length with h | h
    · rw [cutR_lt h]
      rcases Nat.lt_or_ge id (T i0).h.length with h' | h'
      · rw [p1 id h']
        cases hy : ρ id with
        | none => exact (non1 id h' (by rw [cutR_lt h']; exact hy)).symm
        | some y => exact (exact' id y (by rw [cutR_lt h']; exact hy)).symm
      · exact p2 id h' h
    · rw [cutR_ge h]; exact (H1.none_ge h).symm
  have f2 : ∀ k, k ≤ i0 → cutR ρ' (T k).h.length = cutR ρ (T k).h.length := fun k hk => by
    funext id
    rcases Nat.lt_or_ge id (T k).h.length with h | h
    · rw [cutR_lt h, cutR_lt h]
      exact p1 id (Nat.lt_of_lt_of_le h (lenle k i0 hk (by omega)))
    · rw [cutR_ge h, cutR_ge h]
  have f3 : ∀ id y, ρ id = some y → ρ' id = some y := fun id y hy => by
    rcases Nat.lt_or_ge id (T i0).h.length with h | h
    · rw [p1 id h]; exact hy
    · rcases Nat.lt_or_ge id (T (i0 + 1)).h.length with h' | h'
      · rw [pend0 id h h'] at hy; cases hy
      · rw [p3 id h']; exact hy
  have E : Ext ρ ρ' := fun id g pl hid => ⟨g, pl, f3 id _ hid, Nat.le_refl _, fun _ => rfl⟩
  have bd' : ∀ b, O' b → b < w'.heap.size := fun b hb => H1.bd b (.inr hb)
  refine ⟨ρ', O', hcl, J.adv.trans Aw, J.ext0.trans E, fun id h1 h2 => by rw [p1 id (Nat.lt_of_lt_of_le h1 (lenle 0 i0 (by omega) (by omega)))]; exact J.non0 id h1 h2, J.lM, J.Mn, fun k ak h1 h2 h3 => .inl (J.b1 k ak h1 h2 h3), J.b2, J.b3,
    fun k ak h1 h2 h3 hk => hk.elim (J.b4 k ak h1 h2 h3) (fun e => by omega), fun k hk1 hk2 => ?_, fun id hid => ?_, fun k hk1 hk2 id h1 h2 => ?_, mid_slots J t KL hO ha hn hd Aw E (by rw [f1]; exact hv), fun g cs hg => (J.glob g cs hg).adv E Aw, fun i hi id g p r hid hr => ?_, by rw [size_put]; exact J.size, by rw [defers_put]; exact J.def0⟩
  · have HJ := J.heap k hk1 hk2
    have blk : ∀ {id g : Nat} {pl : Option Pl}, cutR ρ (T k).h.length id = some (g, pl) → ∀ p, pl = some p → w'.heap[p.b]? = w.heap[p.b]? := fun {id g pl} hid p hp => by
      subst hp
      obtain ⟨r, _, _, hR⟩ := HJ.row id g _ hid
      exact keep _ (RowRep.lt (show RowRep _ w S O r p from hR))
    rcases Nat.lt_or_ge i0 k with hik | hik
    · obtain ⟨e2, he2⟩ := trace_grow t (k - (i0 + 1)) (i0 + 1) (by have := J.Mn; omega) fun j aj q1 q2 q3 => J.b2 j aj (by omega) (by omega) q3
      rw [show i0 + 1 + (k - (i0 + 1)) = k from by omega] at he2
      have split : ∀ {id g : Nat} {pl : Option Pl}, cutR ρ' (T k).h.length id = some (g, pl) → cutR ρ (T k).h.length id = some (g, pl) ∨ ((T i0).h.length ≤ id ∧ ρ1 id = some (g, pl)) := fun {id g pl} hid => by
        obtain ⟨q1, q2⟩ := cutR_some hid
        rcases Nat.lt_or_ge id (T i0).h.length with h | h
        · left; rw [cutR_lt q1, ← p1 id h]; exact q2
        · rcases Nat.lt_or_ge id (T (i0 + 1)).h.length with h' | h'
          · right; exact ⟨h, by rw [← p2 id h h']; exact q2⟩
          · left; rw [cutR_lt q1, ← p3 id h']; exact q2
      have newb : ∀ {id g : Nat} {p : Pl}, (T i0).h.length ≤ id → ρ1 id = some (g, some p) → w.heap.size ≤ p.b := fun {id g p} hid h1 => by
        rcases fresh id g p h1 with h | h
        · have := (cutR_some h).1; omega
        · exact h
      have oldb : ∀ {id g : Nat} {p : Pl}, cutR ρ (T k).h.length id = some (g, some p) → p.b < w.heap.size := fun {id g p} h1 => by
        obtain ⟨r, _, _, hR⟩ := HJ.row id g _ h1
        exact RowRep.lt (show RowRep _ w S O r p from hR)
      refine HJ.step (E.cut _) Aw bd' (fun id g pl hid => ?_) (fun id id' g g' p p' h1 h2 hb => ?_)
      · rcases split hid with h | ⟨h, h'⟩
        · exact .inl ⟨h, rfl, blk h⟩
        · obtain ⟨r, q1, q2, q3⟩ := H1.row id g pl h'
          refine .inr ⟨r, by rw [he2, List.getElem?_append_left (H1.lt h')]; exact q1, q2, ?_⟩
          cases pl with
          | none => exact q3
          | some p => exact RowRep.adv (show RowRep ρ1 w' S O' r p from q3) (by rw [← f1]; exact ext_cut (lenle _ _ (by omega) (by have := J.Mn; omega))) (.refl w' O') rfl
      · rcases split h1 with h1 | ⟨l1, h1⟩ <;> rcases split h2 with h2 | ⟨l2, h2⟩
        · exact HJ.inj id id' g g' p p' h1 h2 hb
        · have := oldb h1; have := newb l2 h2; omega
        · have := oldb h2; have := newb l1 h1; omega
        · exact H1.inj id id' g g' p p' h1 h2 hb
    · rw [f2 k hik]
      exact HJ.step (.refl _) Aw bd' (fun id g pl hid => .inl ⟨hid, rfl, blk hid⟩) HJ.inj
  · rw [p3 id (Nat.le_trans (lenle (i0 + 1) M hM J.Mn) hid)]; exact J.dom id hid
  · have hne : k ≠ i0 := fun e => hk2 (.inr e)
    have hnd : ¬ D k := fun h => hk2 (.inl h)
    rcases Nat.lt_or_ge k i0 with h | h
    · rw [p1 id (Nat.lt_of_lt_of_le h2 (lenle (k + 1) i0 h (by omega)))]; exact J.pend k hk1 hnd id h1 h2
    · rw [p3 id (Nat.le_trans (lenle (i0 + 1) k (by omega) (by omega)) h1)]; exact J.pend k hk1 hnd id h1 h2
  · rcases Nat.lt_or_ge id (T i0).h.length with h | h
    · rw [p1 id h] at hid; exact J.kinv i hi id g p r hid hr
    · rcases Nat.lt_or_ge id (T (i0 + 1)).h.length with h' | h'
      · rw [p2 id h h'] at hid
        obtain ⟨r1, q1, _, q3⟩ := H1.row id g _ hid
        have hlt := (List.getElem?_eq_some_iff.1 hr).1
        have hii : i0 + 1 ≤ i := by
          rcases Nat.lt_or_ge i0 i with h2 | h2
          · exact h2
          · have := lenle i i0 h2 (by omega); omega
        have hk := trace_k KL t (i - (i0 + 1)) (i0 + 1) (by omega) id r1 q1
        rw [show i0 + 1 + (i - (i0 + 1)) = i from by omega, hr] at hk
        obtain ⟨y, hy, e⟩ := hk
        cases hy
        exact (RowRep.k (show RowRep ρ1 w' S O' r1 p from q3)).trans e.symm
      · rw [p3 id h'] at hid; exact J.kinv i hi id g p r hid hr

theorem mid_change (J : Mid G ops A T N S ρ0 w0 O0 D a w ρ O l M) (t : Trace G raw A T V) (KL : ∀ f as h r, raw f as h = some r → KeepK h r.2) (hO : Ordered ops A) (ha : A[i0]? = some ao) (ho : ops[i0]? = some o) (hr : ∀ e ∈ o.after, Region.binds .any e = true → D e.on) (hn : ¬ D i0) (hd : ∀ d, ao.dst = some d → d < N)
    (hc : ao.op.cls = .change) : (i0 = M ∧ Heap ρ w S O (T i0).h ∧ cutR ρ (T i0).h.length = ρ) ∧ ∀ {x : Value} {w' : World}, ResW ρ w S O (T i0).h (V i0) (T (i0 + 1)).h x w' → ∃ ρ' O' l' M', Mid G ops A T N S ρ0 w0 O0 (fun k => D k ∨ k = i0) (a.put ao.dst x) w' ρ' O' l' M' := by
  have hcl := mid_closed J ho hr
  have hi : i0 < A.length := (List.getElem?_eq_some_iff.1 ha).1
  have hnf : ao.op.cls ≠ .free := by rw [hc]; decide
  have hiM : i0 = M := by
    rcases Nat.lt_or_ge i0 l with h | h
    · exact absurd (J.b1 i0 ao h ha hnf) hn
    rcases Nat.lt_or_ge i0 M with h' | h'
    · exact absurd hc (J.b2 i0 ao h h' ha)
    rcases J.b3 with e | ⟨am, h1, h2⟩
    · omega
    by_cases e : i0 = M
    · exact e
    · rcases hO _ hcl M i0 am ao (by omega) h1 ha (clash_cls h2 hnf) (.inr rfl) with h | h
      · exact absurd h (J.b4 M am (Nat.le_refl _) h1 (by rw [h2]; decide))
      · omega
  subst hiM
  have hcut : cutR ρ (T i0).h.length = ρ := cutR_all J.dom
  have HM : Heap ρ w S O (T i0).h := by have := J.heap i0 J.lM (Nat.le_refl _); rwa [hcut] at this
  refine ⟨⟨rfl, HM, hcut⟩, fun {x w'} hres => ?_⟩
  obtain ⟨ρ', O', Aw, E, H1, hv, non1⟩ := hres
  have lenle : ∀ i j, i ≤ j → j ≤ A.length → (T i).h.length ≤ (T j).h.length := fun i j hij hj => by
    have := trace_len KL t (j - i) i (by omega)
    rwa [show i + (j - i) = j from by omega] at this
  obtain ⟨M', m1, m2, m3, m4⟩ := first_change A (A.length - (i0 + 1)) (i0 + 1) (by omega)
  have dom1 : ∀ id, (T (i0 + 1)).h.length ≤ id → ρ' id = none := fun id hid => H1.none_ge hid
  have cut1 : ∀ k, i0 + 1 ≤ k → k ≤ A.length → cutR ρ' (T k).h.length = ρ' := fun k hk hk' => cutR_all fun id hid => dom1 id (Nat.le_trans (lenle _ _ hk hk') hid)
  have done : ∀ k ak, k < i0 → A[k]? = some ak → ak.op.cls ≠ .free → D k := fun k ak hk h1 h2 => by
    rcases hO _ hcl k i0 ak ao hk h1 ha (clash_cls' hc h2) (.inr rfl) with h | h
    · exact h
    · omega
  refine ⟨ρ', O', i0 + 1, M', hcl, J.adv.trans Aw, J.ext0.trans E, fun id h1 h2 => non1 id (Nat.lt_of_lt_of_le h1 (lenle 0 i0 (by omega) (by omega))) (J.non0 id h1 h2), m1, m2, fun k ak h1 h2 h3 => ?_, m3, m4, fun k ak h1 h2 h3 hk => ?_, fun k hk1 hk2 => ?_, fun id hid => dom1 id (Nat.le_trans (lenle _ _ m1 m2) hid),
    fun k hk1 hk2 id h1 h2 => ?_, mid_slots J t KL hO ha hn hd Aw E (by rw [cut1 (i0 + 1) (Nat.le_refl _) hi]; exact hv), fun g cs hg => (J.glob g cs hg).adv E Aw, fun i hi' id g p r hid hr => ?_, by rw [size_put]; exact J.size, by rw [defers_put]; exact J.def0⟩
  · by_cases e : k = i0
    · exact .inr e
    · exact .inl (done k ak (by omega) h2 h3)
  · rcases hk with hk | hk
    · exact J.b4 k ak (by omega) h2 h3 hk
    · omega
  · obtain ⟨e2, he2⟩ := trace_grow t (k - (i0 + 1)) (i0 + 1) (by omega) fun j aj q1 q2 q3 => m3 j aj (by omega) (by omega) q3
    rw [show i0 + 1 + (k - (i0 + 1)) = k from by omega] at he2
    rw [cut1 k hk1 (by omega), he2]
    exact H1.more e2
  · have hne : k ≠ i0 := fun e => hk2 (.inr e)
    have hnd : ¬ D k := fun h => hk2 (.inl h)
    rcases Nat.lt_or_ge k i0 with h | h
    · obtain ⟨ak, hak⟩ : ∃ ak, A[k]? = some ak := ⟨_, List.getElem?_eq_getElem hk1⟩
      have hfree : ak.op.cls = .free := by
        by_cases e : ak.op.cls = .free
        · exact e
        · exact absurd (done k ak h hak e) hnd
      have : (T (k + 1)).h = (T k).h := by
        obtain ⟨b, _, hb | hb⟩ := t.run k ak hak
        · exact free_h hfree hb.2
        · exact hb.2.2
      rw [this] at h2; omega
    · exact dom1 id (Nat.le_trans (lenle _ _ (by omega) (by omega)) h1)
  · obtain ⟨r1, q1, _, q3⟩ := H1.row id g _ hid
    have hp := RowRep.k (show RowRep ρ' w' S O' r1 p from q3)
    rcases Nat.lt_or_ge i0 i with h2 | h2
    · have hk := trace_k KL t (i - (i0 + 1)) (i0 + 1) (by omega) id r1 q1
      rw [show i0 + 1 + (i - (i0 + 1)) = i from by omega, hr] at hk
      obtain ⟨y, hy, e⟩ := hk
      cases hy
      exact hp.trans e.symm
    · have hk := trace_k KL t (i0 + 1 - i) i (by omega) id r hr
      rw [show i + (i0 + 1 - i) = i0 + 1 from by omega, q1] at hk
      obtain ⟨y, hy, e⟩ := hk
      cases hy
      exact hp.trans e
end
end Go.Proofs.Ytfnonledcniojaa
