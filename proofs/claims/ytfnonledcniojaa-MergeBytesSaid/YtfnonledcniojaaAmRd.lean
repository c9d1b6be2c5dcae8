/- The small machine's code within a round of a range over a function: regions in the text's order, branches, blocks. Conditions: none. -/
import Derived.Test.YtfnonledcniojaaM3
import Derived.CallsIn
import Derived.ControlIn
import Derived.RangeFuncCalls
set_option linter.unusedVariables false
set_option linter.unusedSimpArgs false
set_option linter.unusedSectionVars false
namespace Go.Proofs.Ytfnonledcniojaa
open Go
section
variable {D0 : List Deferred × Nat} {P : Program} {G : Nat → Option (List AV)} {F : Nat → Option AEnt} {raw : ARaw} {ρ0 : Rho} {w0 w : World} {S O0 : Nat → Prop} {a : Act} {N base : Nat} {o : Oper} {ao : AOper} {ops : Array Oper} {st st' : ASt}
theorem Yield.uponIn {l n : Nat} {run : Result Next} {R : Value → World → Prop} {next : Act → World → Prop} {Q : Exit → Act → World → Prop} (k : Yield P run R) (hn : ∀ x w', R x w' → next (a.put o.dst x) w') : o.uponIn (Fence.wide.inRound l) n P a next Q run := by
  rcases k with ⟨x, w', h1 | ⟨h1, rfl⟩, h2⟩ | ⟨f, xs, w0, h1, h2⟩
  · rw [h1]; exact hn _ _ h2
  · rw [h1]; exact hn _ _ h2
  · rw [h1, Oper.uponIn_enter]
    refine ⟨fun h => by simp [Fence.wide] at h, CallsIn.inRound l (callsIn_wide.2 (Calls.mono h2 fun e w' ⟨x, q1, q2⟩ => ?_))⟩
    subst q1
    exact hn _ _ q2
theorem chk_no_defer {op : Op} {aop : AOp} (h : chkOp P op aop = true) : ∀ c, op ≠ .defer c := by
  intro c e
  subst e
  cases aop <;> simp [chkOp] at h
theorem oper_in {l n : Nat} {next : Act → World → Prop} {Q : Exit → Act → World → Prop} (K : CallOk P G raw) (KL : ∀ f as h r, raw f as h = some r → KeepK h r.2) (hc : chkOper P ops o ao = true) (hd : ∀ d, o.dst = some d → d < N) (hs : astep G raw ao st = some st')
    (k : GoodS D0 G ρ0 w0 S O0 base N st a w) (hn : ∀ a' w', GoodS D0 G ρ0 w0 S O0 base N st' a' w' → next a' w') :
    if Region.wanted o (yielded ops a.tmps) then o.wpIn (Fence.wide.inRound l) n P a w next Q else (∀ f, o.about P w a.eval = some f → (Fence.wide.inRound l).fn f) ∧ next (a.put o.dst undef) w := by
  obtain ⟨ρ, O, k⟩ := k
  obtain ⟨h1, h2, _⟩ := chkOper_parts hc
  rw [astep_goes] at hs
  obtain ⟨b, hb, hs⟩ := opt_bind_some.1 hs
  rw [wanted_of hc (fun s wt _ v hv => k.rel.env s v hv) hb]
  cases b with
  | true =>
    simp only [if_true] at hs ⊢
    obtain ⟨r, hr, e⟩ := opt_map_some.1 hs
    subst e
    refine ⟨fun _ _ => trivial, ?_⟩
    rw [Oper.semAt_eq _ _ _ (chk_no_defer h2)]
    refine (exec_len K KL h2 k.rel k.heap hr).uponIn fun x w' hx => hn _ _ ?_
    rw [h1]
    exact k.resW (by rw [← h1]; exact hd) hx.1 hx.2
  | false =>
    simp only [Bool.false_eq_true, if_false] at hs ⊢
    cases hs
    refine ⟨fun _ _ => trivial, hn _ _ ⟨ρ, O, k.adv, k.ext, k.non, k.heap, ?_, by rw [size_put]; exact k.size, def0_put k.def0, k.bas⟩⟩
    rw [h1]
    exact k.rel.put rep_undef (fun t ht => Nat.lt_of_lt_of_le (hd t (by rw [h1]; exact ht)) k.size)
theorem region_in {l n id : Nat} {aops' : List AOper} {Q : Exit → Act → World → Prop} (K : CallOk P G raw) (KL : ∀ f as h r, raw f as h = some r → KeepK h r.2) (hc : chkRegion P ops aops' N = true) (hs : aops G raw aops' st = some st')
    (k : GoodS D0 G ρ0 w0 S O0 base N st a w) (hn : ∀ a' w', GoodS D0 G ρ0 w0 S O0 base N st' a' w' → Q .normal a' w') : (Code.region id ops false).wpIn (Fence.wide.inRound l) n P Q a w := by
  simp only [chkRegion, Bool.and_eq_true, beq_iff_eq, List.all_eq_true] at hc
  obtain ⟨hsz, hall⟩ := hc
  have main : ∀ (m i : Nat) (rest : List AOper) (st : ASt) (a : Act) (w : World), i + m = ops.size → aops'.drop i = rest → aops G raw rest st = some st' → GoodS D0 G ρ0 w0 S O0 base N st a w → wpOpsIn (Fence.wide.inRound l) n P ops Q (List.range' i m) a w := by
    intro m
    induction m with
    | zero =>
      intro i rest st a w hi hr hs k
      have : rest = [] := by rw [← hr]; exact List.drop_eq_nil_of_le (by omega)
      subst this
      cases hs
      exact hn a w k
    | succ m ih =>
      intro i rest st a w hi hr hs k
      have hlt : i < ops.size := by omega
      have hlt' : i < aops'.length := by omega
      rw [List.drop_eq_getElem_cons hlt'] at hr
      subst hr
      obtain ⟨st1, h1, hs⟩ := opt_bind_some.1 hs
      have ho : ops[i]? = some ops[i] := by simp [hlt]
      have hm : (ops[i], aops'[i]) ∈ ops.toList.zip aops' := by
        refine List.mem_iff_getElem.2 ⟨i, by simp; omega, ?_⟩
        simp
      have hp := hall _ hm
      simp only [Bool.and_eq_true] at hp
      show wpOpsIn (Fence.wide.inRound l) n P ops Q (i :: List.range' (i + 1) m) a w
      rw [wpOpsIn, ho]
      refine oper_in K KL hp.1 (fun d hd => ?_) h1 k fun a' w' k' => ih (i + 1) _ st1 a' w' (by omega) rfl hs k'
      have := hp.2
      rw [hd] at this
      simpa using this
  refine wpIn_region ?_
  rw [List.range_eq_range']
  exact main ops.size 0 aops' st a w (by omega) rfl hs k
/-- Code of a round: no loop, no drawn region. -/
def ACode.plainB : ACode → Bool
  | .skip | .exit _ | .ret => true
  | .region _ d _ => !d
  | .seq x y | .cond _ x y => x.plainB && y.plainB
  | .block _ x => x.plainB
  | _ => false
theorem code_in (hm : P.follows .mixedOrders = true) (hE : EntOk P G F) (l n : Nat) : ∀ (m N base : Nat) (c : Code) (ac : ACode) (st : ASt) (r : AEx × ASt), aexec G F m base ac st = some r → chkCode P N c ac = true → ac.plainB = true → ∀ (D0 : List Deferred × Nat) (ρ0 : Rho) (w0 : World) (S O0 : Nat → Prop) (Q : Exit → Act → World → Prop) (a : Act) (w : World),
    GoodS D0 G ρ0 w0 S O0 base N st a w → (∀ a' w', GoodS D0 G ρ0 w0 S O0 base N r.2 a' w' → Q (exitOf r.1) a' w') → c.wpIn (Fence.wide.inRound l) n P Q a w := by
  intro m
  induction m with
  | zero => intro N base c ac st r h; cases h
  | succ m ih =>
    intro N base c ac st r hr hc hp D0 ρ0 w0 S O0 Q a w k hQ
    have K := call_of_code hE m (code_ok hm hE m).1
    have KL := (aexec_k (G := G) (F := F) hE.k m).2
    cases ac with
    | dead => cases hr
    | skip =>
      cases c <;> simp only [chkCode, Bool.false_eq_true] at hc
      cases hr
      exact wpIn_skip (hQ a w k)
    | exit id =>
      cases c <;> simp only [chkCode, Bool.false_eq_true] at hc
      cases hr
      simp only [beq_iff_eq] at hc
      subst hc
      exact wpIn_exit (hQ a w k)
    | ret =>
      cases c <;> simp only [chkCode, Bool.false_eq_true] at hc
      cases hr
      exact wpIn_ret (hQ a w k)
    | region ao d live =>
      cases c <;> simp only [chkCode, Bool.false_eq_true] at hc
      rename_i id ops d'
      simp only [Bool.and_eq_true, beq_iff_eq] at hc
      obtain ⟨⟨rfl, hc1⟩, hc2⟩ := hc
      obtain ⟨st', h1, e⟩ := opt_map_some.1 hr
      subst e
      cases d' with
      | false => exact region_in K KL hc1 h1 k fun a' w' k' => hQ a' w' (k'.keep live)
      | true => simp [ACode.plainB] at hp
    | regionQ => simp [ACode.plainB] at hp
    | loop => simp [ACode.plainB] at hp
    | seq x y =>
      cases c <;> simp only [chkCode, Bool.false_eq_true] at hc
      rename_i cx cy
      simp only [Bool.and_eq_true] at hc
      simp only [ACode.plainB, Bool.and_eq_true] at hp
      obtain ⟨r1, h1, hr⟩ := opt_bind_some.1 hr
      refine wpIn_seq (ih N base cx x st r1 h1 hc.1 hp.1 D0 ρ0 w0 S O0 _ a w k fun a' w' k' => ?_)
      cases e : r1.1 with
      | normal =>
        rw [e] at hr
        exact ih N base cy y r1.2 r hr hc.2 hp.2 D0 ρ0 w0 S O0 Q a' w' k' hQ
      | exit id =>
        rw [e] at hr
        cases hr
        have := hQ a' w' k'
        rw [e] at this
        exact this
      | ret =>
        rw [e] at hr
        cases hr
        have := hQ a' w' k'
        rw [e] at this
        exact this
    | cond ax x y =>
      cases c <;> simp only [chkCode, Bool.false_eq_true] at hc
      rename_i cx x' y'
      simp only [Bool.and_eq_true] at hc
      simp only [ACode.plainB, Bool.and_eq_true] at hp
      obtain ⟨v, hv, hr⟩ := opt_bind_some.1 hr
      split at hr
      case h_2 => cases hr
      rename_i t
      obtain ⟨ρ, O, k0⟩ := k
      have hb := rv_bool (ev_rep hc.1.1 k0.rel hv)
      refine wpIn_cond hb ?_
      cases t with
      | true => exact ih N base x' x st r hr hc.1.2 hp.1 D0 ρ0 w0 S O0 Q a w ⟨ρ, O, k0⟩ hQ
      | false => exact ih N base y' y st r hr hc.2 hp.2 D0 ρ0 w0 S O0 Q a w ⟨ρ, O, k0⟩ hQ
    | block id b =>
      cases c <;> simp only [chkCode, Bool.false_eq_true] at hc
      rename_i id' b'
      simp only [Bool.and_eq_true, beq_iff_eq] at hc
      obtain ⟨rfl, hc⟩ := hc
      have hp : b.plainB = true := hp
      obtain ⟨r1, h1, e⟩ := opt_map_some.1 hr
      subst e
      refine wpIn_block (ih N base b' b st r1 h1 hc hp D0 ρ0 w0 S O0 _ a w k fun a' w' k' => ?_)
      have := hQ a' w' k'
      cases e : r1.1 with
      | normal => rw [e] at this; simpa [exitOf, Exit.inBlock] using this
      | ret => rw [e] at this; simpa [exitOf, Exit.inBlock] using this
      | exit i =>
        rw [e] at this
        by_cases hi : i = id'
        · subst hi; simpa [exitOf, Exit.inBlock] using this
        · simpa [exitOf, Exit.inBlock, hi] using this
end
end Go.Proofs.Ytfnonledcniojaa
