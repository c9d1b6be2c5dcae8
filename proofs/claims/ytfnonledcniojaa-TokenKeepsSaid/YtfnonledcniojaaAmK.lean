/- Each operation of the small machine stands for the program's operation: lengths, cuts, comparisons, structs. Conditions: none. -/
import Derived.Test.YtfnonledcniojaaAmJ
namespace Go.Proofs.Ytfnonledcniojaa
open Go Go.RowKit
section
variable {P : Program} {G : Nat → Option (List AV)} {ρ : Rho} {w : World} {S O : Nat → Prop} {env : AEnv} {h : List ARow} {a : Act} {o : Oper} {v : AV} {h' : List ARow}

theorem ok_len {b : Bool} {x : AOpd} (hop : chkOp P o.op (.len b x) = true) (R : Rel G ρ w S O env a) (he : aop G env h (.len b x) = some (v, h')) : FreeOk ρ w S O h ((execOp a.eval o).run P w) v h' := by
  obtain ⟨v0, h0, he⟩ := opt_bind_some.1 he
  obtain ⟨v1, h1, e⟩ := opt_map_some.1 he
  cases e
  simp only [chkOp] at hop
  split at hop
  case h_2 => cases hop
  rename_i args ts heq
  split at hop
  case h_2 => cases hop
  rename_i y t ha ht
  simp only [Bool.and_eq_true] at hop
  obtain ⟨hx, hop⟩ := hop
  have hr := ev_rep hx R h0
  have e1 : args = #[y] := by apply Array.ext'; simp [ha]
  have e2 : ts = #[t] := by apply Array.ext'; simp [ht]
  subst e1 e2
  split at hop
  · rename_i hu
    subst hop
    cases v0 with
    | str s => cases h1; exact .pure (by simp [execOp, heq, resolve, invoke, builtin, Builtin.len_, rv_str hr, run_underlying hu, goInt]) (.s (.int _ _))
    | _ => cases h1
  · rename_i e hu
    obtain rfl : b = false := by simpa using hop
    cases v0 with
    | own id g s l c =>
      cases h1
      obtain ⟨g', pl, ad, cap, hz, _⟩ := rv_own hr
      exact .pure (by simp [execOp, heq, resolve, invoke, builtin, Builtin.len_, hz, run_underlying hu, goInt]) (.s (.int _ _))
    | data bo k es f =>
      cases h1
      obtain ⟨ad, cap, hz, _⟩ := rv_data hr
      exact .pure (by simp [execOp, heq, resolve, invoke, builtin, Builtin.len_, hz, run_underlying hu, goInt]) (.s (.int _ _))
    | _ => cases h1
  · cases hop
theorem ok_lenarr {n : Nat} (hop : chkOp P o.op (.lenarr n) = true) (R : Rel G ρ w S O env a) (he : aop G env h (.lenarr n) = some (v, h')) : FreeOk ρ w S O h ((execOp a.eval o).run P w) v h' := by
  simp only [aop, Option.some.injEq, Prod.mk.injEq] at he
  obtain ⟨rfl, rfl⟩ := he
  simp only [chkOp] at hop
  split at hop
  case h_2 => cases hop
  rename_i args ts heq
  split at hop
  case h_2 => cases hop
  rename_i y t ha ht
  have e1 : args = #[y] := by apply Array.ext'; simp [ha]
  have e2 : ts = #[t] := by apply Array.ext'; simp [ht]
  subst e1 e2
  split at hop
  · rename_i n' e hu
    obtain rfl : n = n' := by simpa using hop
    exact .pure (by simp [execOp, heq, resolve, invoke, builtin, Builtin.len_, run_underlying hu, goInt]) (.s (.int _ _))
  · rename_i ar hu
    split at hop
    · rename_i n' e hu2
      obtain rfl : n = n' := by simpa using hop
      exact .pure (by simp [execOp, heq, resolve, invoke, builtin, Builtin.len_, run_underlying hu, run_underlying hu2, goInt]) (.s (.int _ _))
    · cases hop
  · cases hop
theorem ints_run {f : Int → Int → Bool} {x y r : AV} (e : aints f x y = some r) : ∃ k m n, x = .int k m ∧ y = .int k n ∧ r = .int k (if f n m then n else m) := by
  unfold aints at e
  split at e
  · split at e
    · rename_i hk; subst hk; cases e; exact ⟨_, _, _, rfl, rfl, rfl⟩
    · cases e
  · cases e
theorem ok_max {x y : AOpd} (hop : chkOp P o.op (.max x y) = true) (R : Rel G ρ w S O env a) (he : aop G env h (.max x y) = some (v, h')) : FreeOk ρ w S O h ((execOp a.eval o).run P w) v h' := by
  obtain ⟨v0, h0, he⟩ := opt_bind_some.1 he
  obtain ⟨v1, h1, he⟩ := opt_bind_some.1 he
  obtain ⟨r, hb, e⟩ := opt_map_some.1 he
  cases e
  obtain ⟨k, m, n, rfl, rfl, rfl⟩ := ints_run hb
  simp only [chkOp] at hop
  split at hop
  case h_2 => cases hop
  rename_i args ts heq
  split at hop
  case h_2 => cases hop
  rename_i x' y' ha
  have e1 : args = #[x', y'] := by apply Array.ext'; simp [ha]
  subst e1
  simp only [Bool.and_eq_true] at hop
  have rx := rv_int (ev_rep hop.1 R h0)
  have ry := rv_int (ev_rep hop.2 R h1)
  refine .pure (x := .int k (if n > m then n else m)) (by simp [execOp, heq, resolve, invoke, builtin, rx, ry, run_max_int2]) ?_
  by_cases hh : n > m
  · simp only [decide_eq_true_eq, if_pos hh]; exact .s (.int _ _)
  · simp only [decide_eq_true_eq, if_neg hh]; exact .s (.int _ _)
theorem ok_min {x y : AOpd} (hop : chkOp P o.op (.min x y) = true) (R : Rel G ρ w S O env a) (he : aop G env h (.min x y) = some (v, h')) : FreeOk ρ w S O h ((execOp a.eval o).run P w) v h' := by
  obtain ⟨v0, h0, he⟩ := opt_bind_some.1 he
  obtain ⟨v1, h1, he⟩ := opt_bind_some.1 he
  obtain ⟨r, hb, e⟩ := opt_map_some.1 he
  cases e
  obtain ⟨k, m, n, rfl, rfl, rfl⟩ := ints_run hb
  simp only [chkOp] at hop
  split at hop
  case h_2 => cases hop
  rename_i args ts heq
  split at hop
  case h_2 => cases hop
  rename_i x' y' ha
  have e1 : args = #[x', y'] := by apply Array.ext'; simp [ha]
  subst e1
  simp only [Bool.and_eq_true] at hop
  have rx := rv_int (ev_rep hop.1 R h0)
  have ry := rv_int (ev_rep hop.2 R h1)
  refine .pure (x := .int k (if n < m then n else m)) (by simp [execOp, heq, resolve, invoke, builtin, rx, ry, run_min_int2]) ?_
  by_cases hh : n < m
  · simp only [decide_eq_true_eq, if_pos hh]; exact .s (.int _ _)
  · simp only [decide_eq_true_eq, if_neg hh]; exact .s (.int _ _)

/-! ### Cuts -/
def OptRep (ρ : Rho) (w : World) (S O : Nat → Prop) : Option AV → Option Value → Prop
  | none, x => x = none
  | some v, x => ∃ u, x = some u ∧ RepV ρ w S O v u
theorem optv_rep {x : Option Operand} {ax : Option AOpd} {r : Option AV} (hc : chkOpt x ax = true) (R : Rel G ρ w S O env a)
    (he : aopt G env ax = some r) : OptRep ρ w S O r (x.map a.eval) := by
  unfold chkOpt at hc
  split at hc
  · cases he; rfl
  · obtain ⟨v, hv, e⟩ := opt_bind_some.1 he
    cases e
    exact ⟨_, rfl, ev_rep hc R hv⟩
  · cases hc
theorem bound_run {v : AV} {x : Value} {n b : Nat} (hr : RepV ρ w S O v x) (hb : abound n (some v) = some b) (y : Nat) (hy : b ≤ y) (c : BoundsCode) : (Instr.sliceBound x y c).run P w = .ok b w := by
  cases v with
  | int k i =>
    have hb : (if 0 ≤ i then some i.toNat else none) = some b := hb
    split at hb
    · rename_i h0; cases hb
      rw [rv_int hr]
      exact run_sliceBound w k i y c h0 (by omega)
    · cases hb
  | _ => cases hb
theorem bounds_run {lo hi mx : Option AV} {lo' hi' mx' : Option Value} {l c cap x y m : Nat} (hl : OptRep ρ w S O lo lo')
    (hh : OptRep ρ w S O hi hi') (hm : OptRep ρ w S O mx mx')
    (b1 : abound 0 lo = some x) (b2 : abound l hi = some y) (b3 : abound c mx = some m) (h1 : x ≤ y) (h2 : y ≤ m) (h3 : m ≤ c) (h4 : c ≤ cap) (hmh : mx.isSome = true → hi.isSome = true) (is : Bool) :
    (Instr.sliceBounds is l cap lo' hi' mx').run P w = .ok (x, y, if mx.isSome then m else cap) w := by
  cases mx with
  | none =>
    obtain rfl : mx' = none := hm
    cases b3
    cases hi with
    | none =>
      obtain rfl : hi' = none := hh
      cases b2
      cases lo with
      | none => obtain rfl : lo' = none := hl; cases b1; rfl
      | some v =>
        obtain ⟨u, rfl, hu⟩ := hl
        simp only [Instr.sliceBounds, Sem.run_bind, Sem.run_pure, Result.andThen_ok, Option.isSome_none, Bool.false_eq_true, if_false, bound_run hu b1 _ h1]
    | some hv =>
      obtain ⟨u, rfl, hu⟩ := hh
      cases lo with
      | none =>
        obtain rfl : lo' = none := hl
        cases b1
        simp only [Instr.sliceBounds, Sem.run_bind, Sem.run_pure, Result.andThen_ok, Option.isSome_none, Bool.false_eq_true, if_false, bound_run hu b2 cap (by omega)]
      | some v =>
        obtain ⟨u', rfl, hu'⟩ := hl
        simp only [Instr.sliceBounds, Sem.run_bind, Sem.run_pure, Result.andThen_ok, Option.isSome_none, Bool.false_eq_true, if_false, bound_run hu b2 cap (by omega), bound_run hu' b1 y h1]
  | some mv =>
    obtain ⟨mu, rfl, hmu⟩ := hm
    cases hi with
    | none => simp at hmh
    | some hv =>
      obtain ⟨u, rfl, hu⟩ := hh
      cases lo with
      | none =>
        obtain rfl : lo' = none := hl
        cases b1
        simp only [Instr.sliceBounds, Sem.run_bind, Sem.run_pure, Result.andThen_ok, Option.isSome_some, if_true, bound_run hmu b3 cap (by omega), bound_run hu b2 m h2]
      | some v =>
        obtain ⟨u', rfl, hu'⟩ := hl
        simp only [Instr.sliceBounds, Sem.run_bind, Sem.run_pure, Result.andThen_ok, Option.isSome_some, if_true, bound_run hmu b3 cap (by omega), bound_run hu b2 m h2, bound_run hu' b1 y h1]
theorem ok_sl {k : Nat} {x : AOpd} {lo hi mx : Option AOpd} (hop : chkOp P o.op (.sl k x lo hi mx) = true) (R : Rel G ρ w S O env a) (HK : KInv ρ h) (he : aop G env h (.sl k x lo hi mx) = some (v, h')) : FreeOk ρ w S O h ((execOp a.eval o).run P w) v h' := by
  obtain ⟨v0, h0, he⟩ := opt_bind_some.1 he
  obtain ⟨vl, hl0, he⟩ := opt_bind_some.1 he
  obtain ⟨vh, hh0, he⟩ := opt_bind_some.1 he
  obtain ⟨vm, hm0, he⟩ := opt_bind_some.1 he
  obtain ⟨v1, h1, e⟩ := opt_map_some.1 he
  cases e
  simp only [chkOp] at hop
  split at hop
  case h_2 => cases hop
  rename_i t y lo' hi' mx' heq
  simp only [Bool.and_eq_true] at hop
  obtain ⟨⟨⟨⟨⟨hx, hlo⟩, hhi⟩, hmx⟩, hmh⟩, hop⟩ := hop
  split at hop
  case h_2 => cases hop
  rename_i e hu
  have hr := ev_rep hx R h0
  have rl := optv_rep hlo R hl0
  have rh := optv_rep hhi R hh0
  have rm := optv_rep hmx R hm0
  have hmh' : vm.isSome = true → vh.isSome = true := by
    intro hs
    have q1 : mx.isSome = true := by cases mx with | none => cases hm0; cases hs | some m => rfl
    have q2 : hi.isSome = true := by simpa [q1] using hmh
    cases hi with | none => cases q2 | some hh => obtain ⟨u, _, e⟩ := opt_bind_some.1 hh0; cases e; rfl
  have elem : P.elem t = e := by simp [Program.elem, hu]
  have run : ∀ (ad : Option Addr) (len cap x y m : Nat), (Instr.sliceBounds true len cap (lo'.map a.eval) (hi'.map a.eval) (mx'.map a.eval)).run P w = .ok (x, y, m) w →
      (Instr.sliceAt t (.slice ad len cap) (lo'.map a.eval) (hi'.map a.eval) (mx'.map a.eval)).run P w = .ok (.slice (if m = x then ad else ad.map (·.add (x * k))) (y - x) (m - x)) w := fun ad len cap x y m hb => by
    rw [run_sliceAt_slice w t _ _ _ _ (by rw [elem]; exact hu), run_slice_any w t ad len cap (by rw [elem]; exact hu), hb]
    simp only [Result.andThen_ok, elem, sizeOf_run hop, sliced]
  cases v0 with
  | own id g s l c =>
    obtain ⟨bx, b1, h1⟩ := opt_bind_some.1 h1
    obtain ⟨bb, b2, h1⟩ := opt_bind_some.1 h1
    obtain ⟨bm, b3, h1⟩ := opt_bind_some.1 h1
    obtain ⟨r, hrow, h1⟩ := opt_bind_some.1 h1
    split at h1
    case isFalse => cases h1
    rename_i hgk
    split at h1
    case isFalse => cases h1
    rename_i hle
    cases h1
    obtain ⟨g', pl, ad, cap, hz, hρ, hle', hlc, hcc, has, hpl⟩ := rv_own hr
    have hb := bounds_run (P := P) rl rh rm b1 b2 b3 hle.1 hle.2.1 hle.2.2 hcc hmh' true
    have hm2 : bb ≤ (if vm.isSome then bm else cap) ∧ (if vm.isSome then bm else cap) ≤ cap ∧ bm ≤ (if vm.isSome then bm else cap) := by split <;> omega
    refine .pure (x := .slice (if (if vm.isSome then bm else cap) = bx then ad else ad.map (·.add (bx * k))) (bb - bx) ((if vm.isSome then bm else cap) - bx)) (by simp only [execOp, heq, hz, Sem.run_bind, run _ _ _ _ _ _ hb, Result.andThen_ok, Sem.run_pure]) ?_
    generalize (if vm.isSome then bm else cap) = m2 at hm2
    refine .own id g g' pl (s + bx) (bb - bx) (bm - bx) _ _ hρ hle' (by omega) (by omega) (fun hpos => ?_) (fun hg => ?_)
    · have : 0 < cap := by omega
      have := has this
      split
      · exact this
      · simpa using this
    · rcases hpl hg with hc0 | ⟨p, rfl, rfl, hlim⟩
      · left; omega
      · have hk : p.k = k := (HK id g' p r hρ hrow).trans hgk.2
        by_cases hmx0 : m2 = bx
        · left; omega
        · right
          refine ⟨p, rfl, ?_, by omega⟩
          rw [if_neg hmx0]
          simp only [Option.map_some, addr_add, hk, Nat.add_mul]
          rw [Nat.add_assoc]
  | data bo k' es f =>
    obtain ⟨bx, b1, h1⟩ := opt_bind_some.1 h1
    obtain ⟨bb, b2, h1⟩ := opt_bind_some.1 h1
    obtain ⟨bm, b3, h1⟩ := opt_bind_some.1 h1
    split at h1
    case isFalse => cases h1
    rename_i hk
    split at h1
    case isFalse => cases h1
    rename_i hle
    cases h1
    subst hk
    obtain ⟨ad, cap, hz, hlc, hfull, hlen, hd⟩ := rv_data hr
    have hb := bounds_run (P := P) rl rh rm b1 b2 b3 hle.1 hle.2.1 hle.2.2 hlc hmh' true
    have hm2 : bb ≤ (if vm.isSome then bm else cap) ∧ (if vm.isSome then bm else cap) ≤ cap := by split <;> omega
    refine .pure (x := .slice (if (if vm.isSome then bm else cap) = bx then ad else ad.map (·.add (bx * k'))) (bb - bx) ((if vm.isSome then bm else cap) - bx)) (by simp only [execOp, heq, hz, Sem.run_bind, run _ _ _ _ _ _ hb, Result.andThen_ok, Sem.run_pure]) ?_
    have hl2 : ((es.take bb).drop bx).length = bb - bx := by simp; omega
    rw [← hl2]
    refine rv_mk_data (by rw [hl2]; omega) (fun hf => ?_) (fun g hg => hlen g (List.mem_of_mem_take (List.mem_of_mem_drop hg))) ?_
    · rw [hl2]
      cases vm with
      | some mv => simp only [decide_eq_true_eq] at hf; subst hf; rfl
      | none =>
        simp only [Bool.and_eq_true, decide_eq_true_eq] at hf
        have := hfull hf.1
        simp [this, hf.2]
    · rcases hd with rfl | ⟨b, off, val, rfl, hO, hS, hb', hc, hrp⟩
      · left; simp
      · by_cases hne : bb - bx = 0
        · left; exact List.eq_nil_of_length_eq_zero (by omega)
        · right
          refine ⟨b, off + bx * k', fun e j => val (bx + e) j, ?_, hO, hS, hb', fun e j he hj => ?_, fun e j g c hg hcc => ?_⟩
          · rw [if_neg (by omega)]; simp only [Option.map_some, addr_add]
          · rw [show off + bx * k' + (e * k' + j) = off + ((bx + e) * k' + j) from by rw [Nat.add_mul]; omega]
            exact hc _ _ (by omega) hj
          · rw [List.getElem?_drop, List.getElem?_take] at hg
            split at hg
            · exact hrp _ _ _ _ hg hcc
            · cases hg
  | _ => cases h1
theorem ok_slstr {x : AOpd} {lo hi : Option AOpd} (hop : chkOp P o.op (.slstr x lo hi) = true) (R : Rel G ρ w S O env a) (he : aop G env h (.slstr x lo hi) = some (v, h')) : FreeOk ρ w S O h ((execOp a.eval o).run P w) v h' := by
  obtain ⟨v0, h0, he⟩ := opt_bind_some.1 he
  obtain ⟨vl, hl0, he⟩ := opt_bind_some.1 he
  obtain ⟨vh, hh0, he⟩ := opt_bind_some.1 he
  obtain ⟨v1, h1, e⟩ := opt_map_some.1 he
  cases e
  simp only [chkOp] at hop
  split at hop
  case h_2 => cases hop
  rename_i t y lo' hi' mx' heq
  simp only [Bool.and_eq_true] at hop
  obtain ⟨⟨⟨⟨hx, hlo⟩, hhi⟩, hmx⟩, hop⟩ := hop
  split at hop
  case h_2 => cases hop
  rename_i hu
  have hr := ev_rep hx R h0
  have rl := optv_rep hlo R hl0
  have rh := optv_rep hhi R hh0
  obtain rfl : mx' = none := by simpa using hmx
  cases v0 with
  | str s =>
    obtain ⟨bx, b1, h1⟩ := opt_bind_some.1 h1
    obtain ⟨bb, b2, h1⟩ := opt_bind_some.1 h1
    split at h1
    case isFalse => cases h1
    rename_i hle
    cases h1
    have hb := bounds_run (P := P) (mx := none) (mx' := none) (l := s.size) (cap := s.size) (m := s.size) rl rh rfl b1 b2 rfl hle.1 hle.2 (Nat.le_refl _) (Nat.le_refl _) (by simp) false
    refine .pure (x := .string (s.extract bx bb)) ?_ (.s (.str _))
    simp only [execOp, heq, rv_str hr, Sem.run_bind, run_sliceAt_string w t _ _ _ _ hu, Instr.slice, run_underlying hu, Result.andThen_ok, Option.map_none, Option.isSome_none, Bool.false_eq_true, if_false, Sem.run_pure, hb]
  | _ => cases h1
theorem ok_idxv {agg : Bool} {m n : Nat} {x i : AOpd} (hop : chkOp P o.op (.idxv agg m n x i) = true) (R : Rel G ρ w S O env a) (he : aop G env h (.idxv agg m n x i) = some (v, h')) : FreeOk ρ w S O h ((execOp a.eval o).run P w) v h' := by
  obtain ⟨v0, h0, he⟩ := opt_bind_some.1 he
  obtain ⟨vi, hi0, he⟩ := opt_bind_some.1 he
  obtain ⟨v1, h1, e⟩ := opt_map_some.1 he
  cases e
  simp only [chkOp] at hop
  split at hop
  case h_2 => cases hop
  rename_i t y j heq
  simp only [Bool.and_eq_true] at hop
  obtain ⟨⟨hx, hj⟩, hop⟩ := hop
  split at hop
  case h_2 => cases hop
  rename_i n' e hu
  simp only [Bool.and_eq_true, beq_iff_eq] at hop
  obtain ⟨⟨rfl, hs⟩, hag⟩ := hop
  cases v0 with
  | agg cs =>
    cases vi with
    | int kk i =>
      have h1 : (if 0 ≤ i ∧ i < n then acut agg m (i.toNat * m) cs else none) = some v := h1
      split at h1
      case isFalse => cases h1
      rename_i hn
      obtain ⟨vs, hz, hl, hone, hrep⟩ := rv_agg (ev_rep hx R h0)
      have e2 := rv_int (ev_rep hj R hi0)
      have key : ∃ u, (part e vs.toArray (i.toNat * m)).run P w = .ok u w ∧ RepV ρ w S O v u := by
        generalize i.toNat * m = off at h1
        cases agg with
        | false =>
          have h1 : cs[off]? = some v := h1
          have hlt := (List.getElem?_eq_some_iff.1 h1).1
          refine ⟨vs[off], ?_, hrep _ _ _ h1 (by simp [hl ▸ hlt])⟩
          simp [part, isAgg_run hag, hl ▸ hlt]
        | true =>
          unfold acut at h1
          rw [if_pos rfl] at h1
          split at h1
          case isFalse => cases h1
          rename_i hle
          cases h1
          refine ⟨.agg ((vs.drop off).take m).toArray, ?_, .agg _ _ (by simp; omega) ?_ ?_⟩
          · simp only [part, Sem.run_bind, isAgg_run hag, Result.andThen_ok, if_true, sizeOf_run hs, Sem.run_pure]
            congr 2
            apply Array.ext'
            simp
          · intro u hu; exact hone u (List.mem_of_mem_drop (List.mem_of_mem_take hu))
          · intro i c u hc hu
            have hi : i < m := by have := (List.getElem?_eq_some_iff.1 hu).1; simp at this; omega
            rw [List.getElem?_take, if_pos hi, List.getElem?_drop] at hc hu
            exact hrep _ _ _ hc hu
      obtain ⟨u, hrun, hu'⟩ := key
      refine .pure (x := u) ?_ hu'
      simp only [execOp, heq, hz, e2, Instr.index, Sem.run_bind, asIntOf, Sem.run_pure, Result.andThen_ok, run_underlying hu, if_pos hn, sizeOf_run hs, hrun]
    | _ => cases h1
  | _ => cases vi <;> cases h1
theorem ok_idxs {x i : AOpd} (hop : chkOp P o.op (.idxs x i) = true) (R : Rel G ρ w S O env a) (he : aop G env h (.idxs x i) = some (v, h')) : FreeOk ρ w S O h ((execOp a.eval o).run P w) v h' := by
  obtain ⟨v0, h0, he⟩ := opt_bind_some.1 he
  obtain ⟨vi, hi0, he⟩ := opt_bind_some.1 he
  obtain ⟨v1, h1, e⟩ := opt_map_some.1 he
  cases e
  simp only [chkOp] at hop
  split at hop
  case h_2 => cases hop
  rename_i t y j heq
  simp only [Bool.and_eq_true] at hop
  obtain ⟨⟨hx, hj⟩, hop⟩ := hop
  split at hop
  case h_2 => cases hop
  rename_i hu
  cases v0 with
  | str s =>
    cases vi with
    | int kk i =>
      have h1 : (if 0 ≤ i then (s.data.toList[i.toNat]?).map fun b => AV.int .u8 (b.toNat : Int) else none) = some v := h1
      split at h1
      case isFalse => cases h1
      rename_i hn
      obtain ⟨b, hb, rfl⟩ := opt_map_some.1 h1
      have e1 := rv_str (ev_rep hx R h0)
      have e2 := rv_int (ev_rep hj R hi0)
      have hs : s[i.toNat]? = some b := by
        have hlt := (List.getElem?_eq_some_iff.1 hb).1
        have hlt' : i.toNat < s.size := by simpa using hlt
        simp only [getElem?_pos s i.toNat hlt']
        rw [List.getElem?_eq_getElem hlt] at hb
        have hb' : s.data[i.toNat] = b := by simpa using hb
        exact congrArg some hb'
      refine .pure (x := .int .u8 b.toNat) ?_ (.s (.int _ _))
      simp only [execOp, heq, e1, e2, Instr.index, Sem.run_bind, asIntOf, Sem.run_pure, Result.andThen_ok, run_underlying hu, if_pos hn, hs]
    | _ => cases h1
  | _ => cases vi <;> cases h1
end
end Go.Proofs.Ytfnonledcniojaa
