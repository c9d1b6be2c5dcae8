/- An operation of the small machine stands for the program's operation: all operations. Conditions: none. -/
import Derived.Test.YtfnonledcniojaaAmU
namespace Go.Proofs.Ytfnonledcniojaa
open Go Go.RowKit

section
variable {P : Program} {G : Nat → Option (List AV)} {raw : ARaw} {ρ : Rho} {w : World} {S O : Nat → Prop} {env : AEnv} {h : List ARow} {a : Act} {o : Oper} {v : AV} {h' : List ARow} {op : AOp}

theorem exec_free (hc : op.cls = .free) (hop : chkOp P o.op op = true) (R : Rel G ρ w S O env a) (HK : KInv ρ h) (he : aexecOp G raw env h op = some (v, h')) : FreeOk ρ w S O h ((execOp a.eval o).run P w) v h' := by
  cases op with
  | mov x => exact ok_mov hop R he
  | pick => exact ok_pick hop R he
  | build => exact ok_build hop R he
  | nilchk => exact ok_nilchk hop R he
  | bin => exact ok_bin hop R he
  | eq => exact ok_eq hop R he
  | isnil => exact ok_isnil hop R he
  | not => exact ok_not hop R he
  | neg => exact ok_neg hop R he
  | conv => exact ok_conv hop R he
  | rstr => exact ok_rstr hop R he
  | cvs => exact ok_cvs hop R he
  | mkfn => exact ok_mkfn hop R he
  | sl => exact ok_sl hop R HK he
  | slstr => exact ok_slstr hop R he
  | faddr => exact ok_faddr hop R he
  | field => exact ok_field hop R he
  | idxarr => exact ok_idxarr hop R he
  | idxv => exact ok_idxv hop R he
  | idxs => exact ok_idxs hop R he
  | extract => exact ok_extract hop R he
  | len => exact ok_len hop R he
  | lenarr => exact ok_lenarr hop R he
  | max => exact ok_max hop R he
  | min => exact ok_min hop R he
  | call md f args => cases md <;> cases hc
  | _ => cases hc

theorem OpN.yield {run : Result Next} (k : OpN ρ w S O h run v h') : Yield P run (ResN ρ w S O h v h') := by
  obtain ⟨x, w', ρ', O', h1, h2⟩ := k
  exact .inl ⟨x, w', .inl h1, ρ', O', h2⟩
theorem OpOk.yield {run : Result Next} (k : OpOk ρ w S O h run v h') : Yield P run (ResW ρ w S O h v h') := by
  obtain ⟨x, w', ρ', O', h1, h2⟩ := k
  exact .inl ⟨x, w', h1, ρ', O', h2⟩

/-- The program's side of a call. -/
theorem call_run {f : Nat} {args : Array Operand} {ts : Array TypeId} {fn : Func} (ho : o.op = .call ⟨.value (.func f), args, ts⟩) (hf : P.funcs[f]? = some fn) (hn : fn.name ≠ "runtime.NumGoroutine") (hb : fn.body.isSome = true) :
    (execOp a.eval o).run P w = .ok (.enter f (args.toList.map a.eval).toArray) w := by
  have e : (args.toList.map a.eval).toArray = args.map a.eval := by apply Array.ext'; simp
  rw [e]
  simp [execOp, ho, resolve, Deferred.ofValue, Act.eval, invoke, callFunc_run hf hn hb]
/-- A call whose arguments are only read: what is known behind it. -/
theorem pure_call {f : Nat} {as : List AV} {xs : List Value} {vs : List AV} {r : AV × List ARow} (K : CallOk P G raw) (H : Heap ρ w S O h) (R : Rel G ρ w S O env a) (hv : RepL (RepV ρ w S O) vs xs) (hvw : aviewL h vs = some as) (hr : raw f as [] = some r) :
    (∃ fn, P.funcs[f]? = some fn ∧ fn.name ≠ "runtime.NumGoroutine" ∧ fn.body.isSome = true) ∧
    Calls P f xs.toArray w fun e w' => ∃ x, e = .returned x ∧ ∃ ρ' O', AdvW w (fun _ => False) w' O' ∧ Heap ρ' w' (fun b => S b ∨ O b) O' r.2 ∧ RepV ρ' w' (fun b => S b ∨ O b) O' r.1 x := by
  obtain ⟨h1, h2⟩ := K f as [] r.1 r.2 hr
  refine ⟨h1, Calls.mono (h2 (fun _ => none) w (fun b => S b ∨ O b) (fun _ => False) xs ⟨fun id g pl h => (nomatch h), fun id id' g g' p p' h => (nomatch h), fun b hb => hb.elim (H.bd b) False.elim⟩ (fun g cs hg => ?_) (viewL_rep H vs hv hvw)) fun e w' ⟨x, q1, ρ', O', q2, _, q3, q4, _⟩ => ⟨x, q1, ρ', O', q2, q3, q4⟩⟩
  exact view_rep H (.dptr cs) (R.glob g cs hg) rfl
theorem AdvW.of_none {w' : World} {O' : Nat → Prop} (A : AdvW w (fun _ => False) w' O') (O : Nat → Prop) : AdvW w O w' O :=
  ⟨A.os, A.tape, A.output, A.size, fun b hb _ => A.same b hb (fun h => h), fun _ h => h, fun _ h => .inl h⟩
theorem exec_new (K : CallOk P G raw) (hc : op.cls = .new) (hop : chkOp P o.op op = true) (R : Rel G ρ w S O env a) (H : Heap ρ w S O h) (he : aexecOp G raw env h op = some (v, h')) : Yield P ((execOp a.eval o).run P w) (ResN ρ w S O h v h') := by
  cases op with
  | mknil => exact (ok_mknil hop R H he).yield
  | alloc => exact (ok_alloc hop R H he).yield
  | box => exact (ok_box hop R H he).yield
  | mkslice => exact (ok_mkslice hop R H he).yield
  | mkdata => exact (ok_mkdata hop R H he).yield
  | load => exact (ok_load hop R H he).yield
  | bstr => exact (ok_bstr hop R H he).yield
  | strb => exact (ok_strb hop R H he).yield
  | mkrow => exact (ok_mkrow hop R H he).yield
  | idx => exact (ok_idx hop R H he).yield
  | appendD => exact (ok_appendD hop R H he).yield
  | call md f args =>
    obtain ⟨vs, hvs, he⟩ := opt_bind_some.1 he
    simp only [chkOp] at hop
    split at hop
    case h_2 => cases hop
    rename_i f' args' ts heq
    simp only [Bool.and_eq_true, beq_iff_eq] at hop
    obtain ⟨rfl, hargs⟩ := hop
    have hv := evs_repL hargs R hvs
    cases md with
    | inl => cases hc
    | frz =>
      obtain ⟨as, has, he⟩ := opt_bind_some.1 he
      obtain ⟨r, hr, he⟩ := opt_bind_some.1 he
      obtain ⟨v1, hv1, e⟩ := opt_map_some.1 he
      cases e
      obtain ⟨⟨fn, q1, q2, q3⟩, q4⟩ := pure_call K H R hv has hr
      refine .inr ⟨f, _, w, call_run heq q1 q2 q3, Calls.mono q4 fun e w' ⟨x, e1, ρ', O', A, H', hx⟩ => ⟨x, e1, ρ, O, A.of_none O, fun b hb => A.same b hb (fun h => h), fun _ _ h => h, fun _ _ _ h => .inl h, ?_, ?_, fun _ _ h => h, [], by simp⟩⟩
      · exact H.step (.refl ρ) (A.of_none O) (fun b hb => Nat.lt_of_lt_of_le (H.bd b (.inr hb)) A.size) (fun id g pl hid => .inl ⟨hid, rfl, fun p hp => by
          subst hp
          obtain ⟨r', _, _, hR⟩ := H.row id g _ hid
          exact A.same _ (RowRep.lt (show RowRep ρ w S O r' p from hR)) (fun h => h)⟩) H.inj
      · exact .s (freeze_rep H' (fun b hb => .inl hb) (fun b hb hx => by
          have := (A.new b hb).elim False.elim (fun h => h)
          have := H.bd b hx
          omega) r.1 hx hv1)
    | adp =>
      obtain ⟨as, has, he⟩ := opt_bind_some.1 he
      obtain ⟨r, hr, he⟩ := opt_bind_some.1 he
      obtain ⟨⟨fn, q1, q2, q3⟩, q4⟩ := pure_call K H R hv has hr
      refine .inr ⟨f, _, w, call_run heq q1 q2 q3, Calls.mono q4 fun e w' ⟨x, e1, ρ', O', A, H', hx⟩ => ⟨x, e1, ?_⟩⟩
      obtain ⟨ρ2, t1, t2, t3, t4, t5, t6, t7⟩ := adopt_ok H A H' hx he
      exact ⟨ρ2, _, t1, fun b hb => A.same b hb (fun h => h), t2, t3, t4, t5, t6, t7⟩
  | _ => cases hc
theorem exec_any (K : CallOk P G raw) (hop : chkOp P o.op op = true) (R : Rel G ρ w S O env a) (H : Heap ρ w S O h) (he : aexecOp G raw env h op = some (v, h')) : Yield P ((execOp a.eval o).run P w) (ResW ρ w S O h v h') := by
  cases hc : op.cls with
  | free => exact ((exec_free hc hop R H.kinv he).toN H).yield.mono fun _ _ => ResN.toW
  | new => exact (exec_new K hc hop R H he).mono fun _ _ => ResN.toW
  | change =>
    cases op with
    | store => exact (ok_store hop R H he).yield
    | append => exact (ok_append hop R H he).yield
    | copy => exact (ok_copy hop R H he).yield
    | clear => exact (ok_clear hop R H he).yield
    | mark => exact (ok_mark hop R H he).yield
    | call md f args =>
      obtain ⟨vs, hvs, he⟩ := opt_bind_some.1 he
      simp only [chkOp] at hop
      split at hop
      case h_2 => cases hop
      rename_i f' args' ts heq
      simp only [Bool.and_eq_true, beq_iff_eq] at hop
      obtain ⟨rfl, hargs⟩ := hop
      have hv := evs_repL hargs R hvs
      cases md with
      | frz => cases hc
      | adp => cases hc
      | inl =>
        obtain ⟨⟨fn, q1, q2, q3⟩, q4⟩ := K f vs h v h' he
        exact .inr ⟨f, _, w, call_run heq q1 q2 q3, q4 ρ w S O _ H R.glob hv⟩
    | callv x args =>
      obtain ⟨vf, hvf, he⟩ := opt_bind_some.1 he
      split at he
      case h_2 => cases he
      rename_i f fs cs
      obtain ⟨vs, hvs, he⟩ := opt_bind_some.1 he
      simp only [chkOp] at hop
      split at hop
      case h_2 => cases hop
      rename_i x' args' ts heq
      simp only [Bool.and_eq_true] at hop
      have hv := evs_repL hop.2 R hvs
      obtain ⟨xs, ys, hz, l1, l2, r1, r2⟩ := rv_fn (ev_rep hop.1 R hvf)
      obtain ⟨⟨fn, q1, q2, q3⟩, q4⟩ := K f _ h v h' he
      have hrun : (execOp a.eval o).run P w = .ok (.enter f (xs ++ args'.toList.map a.eval ++ ys).toArray) w := by
        have e : (xs ++ args'.toList.map a.eval ++ ys).toArray = xs.toArray ++ args'.map a.eval ++ ys.toArray := by apply Array.ext'; simp
        rw [e]
        simp [execOp, heq, resolve, Deferred.ofValue, hz, invoke, callFunc_run q1 q2 q3]
      exact .inr ⟨f, _, w, hrun, q4 ρ w S O _ H R.glob ((RepL.append ⟨l1, r1⟩ hv).append ⟨l2, r2⟩)⟩
    | _ => cases hc
end
end Go.Proofs.Ytfnonledcniojaa
