/- Regions in any order that the text allows, whole; code; functions. Conditions: none. -/
import Derived.Test.YtfnonledcniojaaAmZ
namespace Go.Proofs.Ytfnonledcniojaa
open Go Go.RowKit
section
variable {P : Program} {G : Nat → Option (List AV)} {raw : ARaw} {ρ0 ρ ρ' : Rho} {w0 w w' : World} {S O0 O O' : Nat → Prop} {a : Act} {ops : Array Oper} {A : List AOper} {T : Nat → ASt} {V : Nat → AV} {N : Nat} {D : Nat → Prop} {l M : Nat}

theorem goes_congr {ao : AOper} {env env' : AEnv} (hs : ∀ s ∈ ao.reads, look env' s = look env s) : goes ao env' = goes ao env := by
  unfold goes
  cases hg : ao.guard with
  | none => rfl
  | some g =>
    obtain ⟨s, wt⟩ := g
    simp only
    rw [hs s (by simp [AOper.reads, hg])]
theorem mid_eq {D' : Nat → Prop} (hD : ∀ k, D k ↔ D' k) (J : Mid G ops A T N S ρ0 w0 O0 D a w ρ O l M) : Mid G ops A T N S ρ0 w0 O0 D' a w ρ O l M := by
  have : D = D' := funext fun k => propext (hD k)
  rw [← this]; exact J
def MidE (G : Nat → Option (List AV)) (ops : Array Oper) (A : List AOper) (T : Nat → ASt) (N : Nat) (S : Nat → Prop) (ρ0 : Rho) (w0 : World) (O0 : Nat → Prop) (D : Nat → Prop) (a : Act) (w : World) : Prop := ∃ ρ O l M, Mid G ops A T N S ρ0 w0 O0 D a w ρ O l M

theorem mid_step {i0 : Nat} {ao : AOper} {o : Oper} {next : Act → World → Prop} {Q : Exit → Act → World → Prop} (J : MidE G ops A T N S ρ0 w0 O0 D a w) (t : Trace G raw A T V) (K : CallOk P G raw) (KL : ∀ f as h r, raw f as h = some r → KeepK h r.2) (hO : Ordered ops A)
    (ha : A[i0]? = some ao) (ho : ops[i0]? = some o) (hchk : chkOper P ops o ao = true) (hr : ∀ e ∈ o.after, Region.binds .any e = true → D e.on) (hn : ¬ D i0) (hd : ∀ d, o.dst = some d → d < N)
    (hnext : ∀ a' w', MidE G ops A T N S ρ0 w0 O0 (fun k => D k ∨ k = i0) a' w' → next a' w') :
    if Region.wanted o (yielded ops a.tmps) then o.wp P a w next Q ∨ (o.asks P a w ∧ LetsOut Q) else next (a.put o.dst undef) w := by
  obtain ⟨ρ, O, l, M, J⟩ := J
  obtain ⟨h1, h2, _⟩ := chkOper_parts hchk
  rw [h1] at hd
  have rd := mid_reads J hO ha ho hr hn
  have R : Rel G (cutR ρ (T i0).h.length) w S O (akeep ao.reads (T i0).env) a := ⟨fun s v hs => (by
    rw [look_akeep] at hs
    split at hs
    · rename_i hm; exact rd s hm v hs
    · cases hs), fun g cs hg => dptr_any (J.glob g cs hg)⟩
  have lk : ∀ s ∈ ao.reads, look (akeep ao.reads (T i0).env) s = look (T i0).env s := fun s hs => by rw [look_akeep, if_pos hs]
  obtain ⟨b, hb, hrun⟩ := t.run i0 ao ha
  rw [← goes_congr lk] at hb
  rw [wanted_of hchk (fun s wt _ v hv => R.env s v hv) hb]
  rcases hrun with ⟨rfl, hx⟩ | ⟨rfl, hV, hh⟩
  · simp only [if_true]
    rw [← exec_congr (env' := akeep ao.reads (T i0).env) (fun s hs => lk s (by simp [AOper.reads, hs]))] at hx
    refine .inl ?_
    cases hc : ao.op.cls with
    | free =>
      obtain ⟨⟨x, q1, q2⟩, q3⟩ := exec_free hc h2 R (J.kinv i0 (Nat.le_of_lt (List.getElem?_eq_some_iff.1 ha).1)).cut hx
      have : Yield P ((execOp a.eval o).run P w) (fun x' w' => x' = x ∧ w' = w) := .inl ⟨x, w, .inl q1, rfl, rfl⟩
      refine this.upon fun x' w' hxw => hnext _ _ ?_
      obtain ⟨rfl, rfl⟩ := hxw
      rw [h1]
      exact ⟨ρ, O, l, M, mid_free J t KL hO ha ho hr hn hd hc q2 q3⟩
    | new =>
      obtain ⟨⟨m1, m2⟩, m3⟩ := mid_new J t KL hO ha ho hr hn hd hc
      refine (exec_new K hc h2 R (J.heap i0 m1 (by omega)) hx).upon fun x' w' hxw => hnext _ _ ?_
      obtain ⟨ρ', O', J'⟩ := m3 hxw
      rw [h1]
      exact ⟨ρ', O', l, M, J'⟩
    | change =>
      obtain ⟨⟨m1, m2, m4⟩, m3⟩ := mid_change J t KL hO ha ho hr hn hd hc
      rw [m4] at R
      refine (exec_any K h2 R m2 hx).upon fun x' w' hxw => hnext _ _ ?_
      obtain ⟨ρ', O', l', M', J'⟩ := m3 hxw
      rw [h1]
      exact ⟨ρ', O', l', M', J'⟩
  · simp only [Bool.false_eq_true, if_false]
    rw [h1]
    refine hnext _ _ ?_
    cases hc : ao.op.cls with
    | free => exact ⟨ρ, O, l, M, mid_free J t KL hO ha ho hr hn hd hc (by rw [hV]; exact rep_undef) hh⟩
    | new =>
      obtain ⟨⟨m1, m2⟩, m3⟩ := mid_new J t KL hO ha ho hr hn hd hc
      obtain ⟨ρ', O', J'⟩ := m3 (x := undef) (w' := w) (by
        rw [hV, hh]
        exact ⟨_, O, .refl w O, fun _ _ => rfl, fun _ _ h => h, fun _ _ _ h => .inl h, J.heap i0 m1 (by omega), rep_undef, fun _ _ h => h, [], by simp⟩)
      exact ⟨ρ', O', l, M, J'⟩
    | change =>
      obtain ⟨⟨m1, m2, m4⟩, m3⟩ := mid_change J t KL hO ha ho hr hn hd hc
      obtain ⟨ρ', O', l', M', J'⟩ := m3 (x := undef) (w' := w) (by
        rw [hV, hh]
        exact ⟨ρ, O, .refl w O, .refl ρ, m2, rep_undef, fun _ _ h => h⟩)
      exact ⟨ρ', O', l', M', J'⟩
/-- All is done. -/
theorem mid_end (J : MidE G ops A T N S ρ0 w0 O0 D a w) (hall : ∀ k, k < A.length → D k) : ∃ ρ O, AdvW w0 O0 w O ∧ Ext ρ0 ρ ∧ (∀ id, id < (T 0).h.length → ρ0 id = none → ρ id = none) ∧ Heap ρ w S O (T A.length).h ∧ Rel G ρ w S O (T A.length).env a ∧ N ≤ a.tmps.size ∧ a.defers = [] := by
  obtain ⟨ρ, O, l, M, J⟩ := J
  have hM : M = A.length := by
    rcases J.b3 with h | ⟨am, h1, h2⟩
    · exact h
    · exact absurd (hall M (List.getElem?_eq_some_iff.1 h1).1) (J.b4 M am (Nat.le_refl _) h1 (by rw [h2]; decide))
  subst hM
  have hcut : cutR ρ (T A.length).h.length = ρ := cutR_all J.dom
  have HM := J.heap A.length J.lM (Nat.le_refl _)
  rw [hcut] at HM
  refine ⟨ρ, O, J.adv, J.ext0, J.non0, HM, ⟨fun s v hs => ?_, J.glob⟩, J.size, J.def0⟩
  obtain ⟨x, h1, h2⟩ := J.slots A.length (Nat.le_refl _) s v hs (fun k ao hk _ _ => hall k hk) fun k ao hk h _ => by have := (List.getElem?_eq_some_iff.1 h).1; omega
  rw [hcut] at h2
  exact ⟨x, h1, h2⟩

/-! ### The region -/
def Done (listed : Array Bool) (k : Nat) : Prop := listed.getD k false = true
theorem done_set {listed : Array Bool} {i : Nat} (hi : i < listed.size) (k : Nat) : Done (listed.setIfInBounds i true) k ↔ (Done listed k ∨ k = i) := by
  unfold Done
  simp only [Array.getD_eq_getD_getElem?, Array.getElem?_setIfInBounds]
  by_cases e : i = k
  · subst e; simp [hi]
  · have e' : ¬ k = i := fun h => e h.symm
    simp [e, e']
theorem count_set {listed : Array Bool} {i : Nat} (h : listed.getD i true = false) : (listed.setIfInBounds i true).toList.count false + 1 = listed.toList.count false ∧ i < listed.size := by
  have hi : i < listed.size := by
    rcases Nat.lt_or_ge i listed.size with h' | h'
    · exact h'
    · simp [Array.getElem?_eq_none h'] at h
  have hv : listed[i] = false := by simpa [hi] using h
  refine ⟨?_, hi⟩
  rw [Array.toList_setIfInBounds, List.count_set (by simpa using hi)]
  have hm : false ∈ listed.toList := by rw [List.mem_iff_getElem]; exact ⟨i, by simpa using hi, by simpa using hv⟩
  have hp := List.count_pos_iff.2 hm
  have e : listed.toList[i]'(by simpa using hi) = false := by simpa using hv
  rw [e]
  simp only [beq_self_eq_true, if_true]
  have e2 : (true == false) = false := rfl
  rw [e2]
  simp only [Bool.false_eq_true, if_false]
  omega
theorem wpAny_mid {Q : Exit → Act → World → Prop} (t : Trace G raw A T V) (K : CallOk P G raw) (KL : ∀ f as h r, raw f as h = some r → KeepK h r.2) (hO : Ordered ops A) (hsz : ops.size = A.length) (hlt : ∀ j o, ops[j]? = some o → ∀ e ∈ o.after, Region.binds .any e = true → e.on < j)
    (hall : ∀ (i : Nat) o ao, ops[i]? = some o → A[i]? = some ao → chkOper P ops o ao = true ∧ ∀ d, o.dst = some d → d < N)
    (hend : ∀ a' w' D, MidE G ops A T N S ρ0 w0 O0 D a' w' → (∀ k, k < A.length → D k) → Q .normal a' w') :
    ∀ (fuel : Nat) (listed : Array Bool) (a : Act) (w : World), listed.size = ops.size → listed.toList.count false ≤ fuel → MidE G ops A T N S ρ0 w0 O0 (Done listed) a w → wpAny P .any ops Q fuel listed a w := by
  have ready_all : ∀ (listed : Array Bool), listed.size = ops.size → Region.ready .any ops listed = [] → ∀ k, k < A.length → Done listed k := by
    intro listed hl hrd k
    induction k using Nat.strongRecOn with
    | _ k ih =>
      intro hk
      by_cases hd : Done listed k
      · exact hd
      · exfalso
        have hks : k < ops.size := by omega
        have hmem : k ∈ Region.ready .any ops listed := mem_ready.2 ⟨by
          unfold Done at hd
          simp only [Array.getD_eq_getD_getElem?] at hd ⊢
          have : listed[k]? = some listed[k] := by simp [hl, hks]
          rw [this] at hd ⊢
          simpa using hd, ops[k], by simp [hks], fun e he hb => ih e.on (hlt k _ (by simp [hks]) e he hb) (by have := hlt k _ (by simp [hks]) e he hb; omega)⟩
        rw [hrd] at hmem
        cases hmem
  intro fuel
  induction fuel with
  | zero =>
    intro listed a w hl hcnt J
    have h0 : listed.toList.count false = 0 := by omega
    have hall' : ∀ k, k < A.length → Done listed k := fun k hk => by
      have hks : k < listed.size := by omega
      unfold Done
      rw [List.count_eq_zero] at h0
      have hx : listed[k] ≠ false := fun e => h0 (by rw [List.mem_iff_getElem]; exact ⟨k, by simpa using hks, by simpa using e⟩)
      simpa [hks] using hx
    refine ⟨?_, hend a w _ J hall'⟩
    apply List.eq_nil_iff_forall_not_mem.2
    intro i hi
    obtain ⟨h1, o, ho, _⟩ := mem_ready.1 hi
    have his : i < ops.size := (Array.getElem?_eq_some_iff.1 ho).1
    have := hall' i (by omega)
    unfold Done at this
    have e : listed[i]? = some listed[i] := by simp [hl, his]
    simp only [Array.getD_eq_getD_getElem?, e, Option.getD_some] at this h1
    rw [h1] at this; cases this
  | succ fuel ih =>
    intro listed a w hl hcnt J
    refine ⟨fun hrd => hend a w _ J (ready_all listed hl hrd), fun i hi => ?_⟩
    obtain ⟨h1, o, ho, hafter⟩ := mem_ready.1 hi
    have his : i < ops.size := (Array.getElem?_eq_some_iff.1 ho).1
    obtain ⟨ao, hao⟩ : ∃ ao, A[i]? = some ao := ⟨_, List.getElem?_eq_getElem (by omega)⟩
    obtain ⟨c1, c2⟩ := count_set h1
    obtain ⟨q1, q2⟩ := hall i o ao ho hao
    unfold wpOp
    rw [ho]
    refine mid_step J t K KL hO hao ho q1 hafter (fun hd => ?_) q2 fun a' w' J' => ih _ a' w' (by simpa using hl) (by omega) ?_
    · unfold Done at hd
      have e : listed[i]? = some listed[i] := by simp [hl, his]
      simp only [Array.getD_eq_getD_getElem?, e, Option.getD_some] at hd h1
      rw [h1] at hd; cases hd
    · obtain ⟨ρ, O, l, M, J'⟩ := J'
      exact ⟨ρ, O, l, M, mid_eq (fun k => (done_set c2 k).symm) J'⟩
theorem ordered_of {aops' : List AOper} (hc : chkOrder ops aops' = true) (hsz : ops.size = aops'.length) : Ordered ops aops' := by
  obtain ⟨h1, h2⟩ := chkOrder_parts hc
  intro D hD i j x y hij hx hy hcl hj
  have hjs : j < ops.size := by have := (List.getElem?_eq_some_iff.1 hy).1; omega
  have ho : ops[j]? = some ops[j] := by simp [hjs]
  exact closed_before hD h2 j i _ ho (fun e he hb => hD j _ ho hj e he hb) (h1 i j x y hij hx hy hcl)
/-- A region in any order. -/
theorem region_any {id : Nat} {aops' : List AOper} {st st' : ASt} {base : Nat} {Q : Exit → Act → World → Prop} (hm : P.follows .mixedOrders = true) (K : CallOk P G raw) (KL : ∀ f as h r, raw f as h = some r → KeepK h r.2) (hc : chkRegion P ops aops' N = true) (hord : chkOrder ops aops' = true) (hs : aops G raw aops' st = some st')
    (k : GoodS G ρ0 w0 S O0 base N st a w) (hn : ∀ a' w', GoodS G ρ0 w0 S O0 base N st' a' w' → Q .normal a' w') : (Code.region id ops true).wp P Q a w := by
  simp only [chkRegion, Bool.and_eq_true, beq_iff_eq, List.all_eq_true] at hc
  obtain ⟨hsz, hall⟩ := hc
  obtain ⟨ρ, O, k⟩ := k
  obtain ⟨T, V, t, t0, t1⟩ := trace_exists hs
  subst t0
  have k1 : Good G ρ w S O (T 0).h.length N (T 0).env (T 0).h a w.drew ρ O :=
    ⟨.drew w O, fun id _ g pl h => ⟨g, pl, h, Nat.le_refl _, fun _ => rfl⟩, fun id _ h => h, k.heap.drew, k.rel.adv (.refl ρ) (.drew w O), k.size, k.def0, Nat.le_refl _⟩
  obtain ⟨M, J⟩ := mid_start (ops := ops) k1 t KL
  refine wp_region_any hm ?_
  refine wpAny_mid t K KL (ordered_of hord hsz) hsz (chkOrder_parts hord).2 (fun i o ao ho hao => ?_) (fun a' w' D J' hD => ?_) ops.size _ a _ (by simp) (by simp) ⟨ρ, O, 0, M, mid_eq (fun k => ?_) J⟩
  · have hm : (o, ao) ∈ ops.toList.zip aops' := by
      rw [List.mem_iff_getElem?]
      refine ⟨i, ?_⟩
      rw [List.getElem?_zip_eq_some]
      exact ⟨by simpa using ho, hao⟩
    have hp := hall _ hm
    simp only [Bool.and_eq_true] at hp
    refine ⟨hp.1, fun d hd => ?_⟩
    have := hp.2
    rw [hd] at this
    simpa using this
  · obtain ⟨ρ2, O2, A1, E1, N1, H1, R1, s1, d1⟩ := mid_end J' hD
    rw [t1] at H1 R1
    refine hn _ _ ⟨ρ2, O2, k.adv.trans ((AdvW.drew w O).trans A1), fun id hid g pl h0 => ?_, fun id hid h0 => N1 id (Nat.lt_of_lt_of_le hid k.bas) (k.non id hid h0), H1, R1, s1, d1, ?_⟩
    · obtain ⟨g1, p1, e1, l1, q1⟩ := k.ext id hid g pl h0
      obtain ⟨g2, p2, e2, l2, q2⟩ := E1 id g1 p1 e1
      exact ⟨g2, p2, e2, Nat.le_trans l1 l2, fun e => by
        have a1 : g = g1 := by omega
        exact (q1 a1).trans (q2 (by omega))⟩
    · have := trace_len KL t aops'.length 0 (by omega)
      rw [Nat.zero_add, t1] at this
      exact Nat.le_trans k.bas this
  · unfold Done
    simp only [false_iff]
    intro hh
    by_cases hk : k < ops.size
    · simp [hk] at hh
    · simp [hk] at hh
end
end Go.Proofs.Ytfnonledcniojaa
