/- What the small machine's operations hang on; what must come first in a region. Conditions: none. -/
import Derived.Test.YtfnonledcniojaaAmW
namespace Go.Proofs.Ytfnonledcniojaa
open Go Go.RowKit
section
variable {P : Program} {G : Nat → Option (List AV)} {raw : ARaw} {env env' : AEnv} {h h' : List ARow} {v : AV} {op : AOp}

/-! ### An operation looks at its own slots -/
theorem aeval_congr {x : AOpd} (hs : ∀ s ∈ x.slots, look env' s = look env s) : aeval G env' x = aeval G env x := by
  cases x with
  | slot n => exact hs n (by simp [AOpd.slots])
  | _ => rfl
theorem aopt_congr {x : Option AOpd} (hs : ∀ s ∈ optSlots x, look env' s = look env s) : aopt G env' x = aopt G env x := by
  cases x with
  | none => rfl
  | some x => simp only [aopt]; rw [aeval_congr hs]
theorem mapM_congr' {α β : Type} {f g : α → Option β} : ∀ {l : List α}, (∀ x ∈ l, f x = g x) → l.mapM f = l.mapM g
  | [], _ => rfl
  | a :: l, hx => by
    rw [List.mapM_cons, List.mapM_cons, hx a (by simp), mapM_congr' (l := l) fun x h => hx x (by simp [h])]
theorem evs_congr {l : List AOpd} (hs : ∀ s ∈ l.flatMap AOpd.slots, look env' s = look env s) : l.mapM (aeval G env') = l.mapM (aeval G env) :=
  mapM_congr' fun x hx => aeval_congr fun s h => hs s (List.mem_flatMap.2 ⟨x, hx, h⟩)
theorem parts_congr {l : List (Nat × Nat × AOpd)} (hs : ∀ s ∈ l.flatMap (·.2.2.slots), look env' s = look env s) :
    (l.mapM fun (p : Nat × Nat × AOpd) => (aeval G env' p.2.2).map fun v => (p.1, p.2.1, v)) = l.mapM fun (p : Nat × Nat × AOpd) => (aeval G env p.2.2).map fun v => (p.1, p.2.1, v) :=
  mapM_congr' fun x hx => by rw [aeval_congr fun s h => hs s (List.mem_flatMap.2 ⟨x, hx, h⟩)]
theorem parts2_congr {l : List (Nat × AOpd)} (hs : ∀ s ∈ l.flatMap (·.2.slots), look env' s = look env s) :
    (l.mapM fun (p : Nat × AOpd) => (aeval G env' p.2).map fun v => (p.1, v)) = l.mapM fun (p : Nat × AOpd) => (aeval G env p.2).map fun v => (p.1, v) :=
  mapM_congr' fun x hx => by rw [aeval_congr fun s h => hs s (List.mem_flatMap.2 ⟨x, hx, h⟩)]
theorem exec_congr (hs : ∀ s ∈ op.slots, look env' s = look env s) : aexecOp G raw env' h op = aexecOp G raw env h op := by
  cases op <;> simp only [AOp.slots, List.mem_append, or_imp, forall_and] at hs <;> simp only [aexecOp, aop]
  case mov x => rw [aeval_congr hs]
  case pick c x y =>
    rw [aeval_congr hs.1.1]
    congr 1
    funext v
    cases v with
    | bool c => cases c <;> simp [aeval_congr hs.1.2, aeval_congr hs.2]
    | _ => rfl
  case box m x => rw [aeval_congr hs]
  case build z ps => rw [parts_congr hs]
  case mkslice k n z ps => rw [parts2_congr hs]
  case mkdata k n z ps => rw [parts2_congr hs]
  case load a m x => rw [aeval_congr hs]
  case store a m x y => rw [aeval_congr hs.1, aeval_congr hs.2]
  case nilchk x => rw [aeval_congr hs]
  case bin b x y => rw [aeval_congr hs.1, aeval_congr hs.2]
  case eq a sh n x y => rw [aeval_congr hs.1, aeval_congr hs.2]
  case isnil k n x => rw [aeval_congr hs]
  case not x => rw [aeval_congr hs]
  case neg x => rw [aeval_congr hs]
  case conv k x => rw [aeval_congr hs]
  case rstr x => rw [aeval_congr hs]
  case bstr x => rw [aeval_congr hs]
  case strb x => rw [aeval_congr hs]
  case mark x => rw [aeval_congr hs]
  case cvs x => rw [aeval_congr hs]
  case mkfn f a b => rw [evs_congr hs.1, evs_congr hs.2]
  case mkrow k b z x y => rw [aeval_congr hs.1, aeval_congr hs.2]
  case sl k x lo hi mx => rw [aeval_congr hs.1.1.1, aopt_congr hs.1.1.2, aopt_congr hs.1.2, aopt_congr hs.2]
  case slstr x lo hi => rw [aeval_congr hs.1.1, aopt_congr hs.1.2, aopt_congr hs.2]
  case faddr o x => rw [aeval_congr hs]
  case field a m o x => rw [aeval_congr hs]
  case idx k x y => rw [aeval_congr hs.1, aeval_congr hs.2]
  case idxarr k n x y => rw [aeval_congr hs.1, aeval_congr hs.2]
  case idxv a m n x y => rw [aeval_congr hs.1, aeval_congr hs.2]
  case idxs x y => rw [aeval_congr hs.1, aeval_congr hs.2]
  case extract i x => rw [aeval_congr hs]
  case len b x => rw [aeval_congr hs]
  case append k b x y => rw [aeval_congr hs.1, aeval_congr hs.2]
  case appendD k b x y => rw [aeval_congr hs.1, aeval_congr hs.2]
  case copy k x y => rw [aeval_congr hs.1, aeval_congr hs.2]
  case clear z x => rw [aeval_congr hs]
  case max x y => rw [aeval_congr hs.1, aeval_congr hs.2]
  case min x y => rw [aeval_congr hs.1, aeval_congr hs.2]
  case call md f args => rw [evs_congr hs]
  case callv x args => rw [aeval_congr hs.1, evs_congr hs.2]

/-! ### What becomes of the rows -/
theorem free_h (hc : op.cls = .free) (he : aexecOp G raw env h op = some (v, h')) : h' = h := by
  cases op <;> first
    | (cases hc; done)
    | (rename_i md _ _; cases md <;> cases hc; done)
    | (obtain ⟨u, _, he⟩ := opt_bind_some.1 he; split at he <;> first | (cases he; done) | (obtain ⟨_, _, e⟩ := opt_map_some.1 he; cases e; rfl))
    | (simp only [aexecOp, aop, Option.bind_eq_some_iff, Option.map_eq_some_iff, Prod.mk.injEq, Option.some.injEq] at he; grind)
theorem new_h (hc : op.cls = .new) (he : aexecOp G raw env h op = some (v, h')) : ∃ e, h' = h ++ e := by
  cases op with
  | mknil => cases he; exact ⟨_, rfl⟩
  | alloc => cases he; exact ⟨_, rfl⟩
  | box m x =>
    obtain ⟨u, _, he⟩ := opt_bind_some.1 he
    obtain ⟨cs, _, he⟩ := opt_bind_some.1 he
    split at he <;> cases he
    exact ⟨_, rfl⟩
  | mkslice k n z ps =>
    obtain ⟨u, _, he⟩ := opt_bind_some.1 he
    obtain ⟨cs, _, e⟩ := opt_map_some.1 he
    cases e
    exact ⟨_, rfl⟩
  | mkdata k n z ps =>
    obtain ⟨u, _, he⟩ := opt_bind_some.1 he
    obtain ⟨cs, _, he⟩ := opt_bind_some.1 he
    split at he <;> cases he
    exact ⟨[], by simp⟩
  | load a m x =>
    obtain ⟨u, _, he⟩ := opt_bind_some.1 he
    obtain ⟨cs, _, e⟩ := opt_map_some.1 he
    cases e
    exact ⟨[], by simp⟩
  | bstr x =>
    obtain ⟨u, _, he⟩ := opt_bind_some.1 he
    obtain ⟨u, _, he⟩ := opt_bind_some.1 he
    obtain ⟨cs, _, e⟩ := opt_map_some.1 he
    cases e
    exact ⟨[], by simp⟩
  | strb x =>
    obtain ⟨u, _, he⟩ := opt_bind_some.1 he
    split at he <;> cases he
    exact ⟨_, rfl⟩
  | mkrow k b z x y =>
    obtain ⟨u, _, he⟩ := opt_bind_some.1 he
    obtain ⟨u', _, he⟩ := opt_bind_some.1 he
    split at he
    · split at he <;> cases he
      exact ⟨_, rfl⟩
    · cases he
  | idx k x y =>
    obtain ⟨u, _, he⟩ := opt_bind_some.1 he
    obtain ⟨u1, _, he⟩ := opt_bind_some.1 he
    obtain ⟨cs, _, e⟩ := opt_map_some.1 he
    cases e
    exact ⟨[], by simp⟩
  | appendD k b x y =>
    obtain ⟨u, _, he⟩ := opt_bind_some.1 he
    obtain ⟨u1, _, he⟩ := opt_bind_some.1 he
    obtain ⟨cs, _, e⟩ := opt_map_some.1 he
    cases e
    exact ⟨[], by simp⟩
  | call md f args =>
    obtain ⟨u, _, he⟩ := opt_bind_some.1 he
    cases md with
    | inl => cases hc
    | frz =>
      obtain ⟨as, has, he⟩ := opt_bind_some.1 he
      obtain ⟨r, hr, he⟩ := opt_bind_some.1 he
      obtain ⟨v1, hv1, e⟩ := opt_map_some.1 he
      cases e
      exact ⟨[], by simp⟩
    | adp =>
      obtain ⟨as, has, he⟩ := opt_bind_some.1 he
      obtain ⟨r, hr, he⟩ := opt_bind_some.1 he
      unfold aadopt at he
      simp only at he
      split at he <;> cases he
      exact ⟨_, rfl⟩
  | _ => cases hc
theorem exec_k (KL : ∀ f as h r, raw f as h = some r → KeepK h r.2) (he : aexecOp G raw env h op = some (v, h')) : KeepK h h' := by
  cases hc : op.cls with
  | free => rw [free_h hc he]; exact .refl _
  | new => obtain ⟨e, he⟩ := new_h hc he; rw [he]; exact .app _ _
  | change => exact change_k KL hc he

/-! ### What must come first -/
theorem befores_get : ∀ (os : List Oper) (acc : List Nat) (j : Nat), j < acc.length → (befores os acc)[j]? = acc[j]?
  | [], _, _, _ => rfl
  | o :: os, acc, j, hj => by rw [befores, befores_get os _ j (by simp; omega), List.getElem?_append_left hj]
theorem befores_new : ∀ (os : List Oper) (acc : List Nat) (j : Nat) (o : Oper), os[j]? = some o → ∃ acc', (befores os acc)[acc.length + j]? = some (beforeOf acc' o) ∧ acc'.length = acc.length + j ∧ ∀ i, i < acc'.length → acc'[i]? = (befores os acc)[i]?
  | [], _, _, _, h => by simp at h
  | o :: os, acc, 0, o', h => by
    simp at h
    subst h
    refine ⟨acc, ?_, rfl, fun i hi => (befores_get (o :: os) acc i hi).symm⟩
    rw [befores, befores_get os _ _ (by simp)]
    simp
  | o :: os, acc, j + 1, o', h => by
    obtain ⟨acc', h1, h2, h3⟩ := befores_new os (acc ++ [beforeOf acc o]) j o' (by simpa using h)
    simp only [List.length_append, List.length_singleton] at h1 h2
    refine ⟨acc', ?_, by omega, fun i hi => h3 i hi⟩
    rw [befores, ← h1]
    congr 1; omega
theorem beforeOf_bit {acc : List Nat} {o : Oper} {i : Nat} (hb : (beforeOf acc o).testBit i = true) : ∃ e ∈ o.after, Region.binds .any e = true ∧ (e.on = i ∨ (acc.getD e.on 0).testBit i = true) := by
  have main : ∀ (l : List Edge) (s : Nat), (l.foldl (fun s e => s ||| (2 ^ e.on ||| acc.getD e.on 0)) s).testBit i = true → s.testBit i = true ∨ ∃ e ∈ l, e.on = i ∨ (acc.getD e.on 0).testBit i = true := by
    intro l
    induction l with
    | nil => intro s h; exact .inl h
    | cons e l ih =>
      intro s h
      rcases ih _ h with h | ⟨e', h1, h2⟩
      · rw [Nat.testBit_or, Nat.testBit_or, Bool.or_eq_true, Bool.or_eq_true, Nat.testBit_two_pow] at h
        rcases h with h | h | h
        · exact .inl h
        · exact .inr ⟨e, by simp, .inl (by simpa using h)⟩
        · exact .inr ⟨e, by simp, .inr h⟩
      · exact .inr ⟨e', by simp [h1], h2⟩
  rcases main _ 0 hb with h | ⟨e, h1, h2⟩
  · simp at h
  · rw [List.mem_filter] at h1
    exact ⟨e, by simpa using h1.1, h1.2, h2⟩
/-- A set of operations that holds, with one, what that one waits for. -/
def Closed (ops : Array Oper) (D : Nat → Prop) : Prop := ∀ j o, ops[j]? = some o → D j → ∀ e ∈ o.after, Region.binds .any e = true → D e.on
theorem closed_before {ops : Array Oper} {D : Nat → Prop} (hcl : Closed ops D) (hlt : ∀ j o, ops[j]? = some o → ∀ e ∈ o.after, Region.binds .any e = true → e.on < j) :
    ∀ (j i : Nat) (o : Oper), ops[j]? = some o → (∀ e ∈ o.after, Region.binds .any e = true → D e.on) → ((befores ops.toList []).getD j 0).testBit i = true → D i := by
  intro j
  induction j using Nat.strongRecOn with
  | _ j ih =>
    intro i o ho hd hb
    obtain ⟨acc, h1, h2, h3⟩ := befores_new ops.toList [] j o (by simpa using ho)
    simp only [List.length_nil, Nat.zero_add] at h1 h2
    rw [List.getD_eq_getElem?_getD, h1, Option.getD_some] at hb
    obtain ⟨e, he, hbd, hor⟩ := beforeOf_bit hb
    have hej := hlt j o ho e he hbd
    have hDe := hd e he hbd
    rcases hor with hor | hor
    · rw [← hor]; exact hDe
    · have hjs : j < ops.size := (Array.getElem?_eq_some_iff.1 ho).1
      have hoe : ops[e.on]? = some ops[e.on] := by simp
      rw [List.getD_eq_getElem?_getD, h3 e.on (by omega), ← List.getD_eq_getElem?_getD] at hor
      exact ih e.on hej i _ hoe (fun e' he' hb' => hcl e.on _ hoe hDe e' he' hb') hor
theorem chkClash_get {bs : List Nat} : ∀ {ys done : List AOper} {j : Nat}, done.length = j → chkClash bs j done ys = true → ∀ (b i : Nat) (x y : AOper), i < j + b → ys[b]? = some y → (done ++ ys)[i]? = some x → x.clash y = true → (bs.getD (j + b) 0).testBit i = true
  | [], _, _, _, _, b, i, x, y, _, hy, _, _ => by simp at hy
  | z :: ys, done, j, hl, hc, b, i, x, y, hi, hy, hx, hcl => by
    simp only [chkClash, Bool.and_eq_true, List.all_eq_true] at hc
    cases b with
    | zero =>
      simp at hy
      subst hy
      rw [List.getElem?_append_left (by omega)] at hx
      have hm : (x, i) ∈ done.zipIdx := by
        rw [List.mk_mem_zipIdx_iff_getElem?]; exact hx
      have := hc.1 _ hm
      simp only [hcl, Bool.not_true, Bool.false_or] at this
      simpa using this
    | succ b =>
      have := chkClash_get (ys := ys) (done := done ++ [z]) (j := j + 1) (by simp [hl]) hc.2 b i x y (by omega) (by simpa using hy) (by simpa using hx) hcl
      rw [show j + (b + 1) = j + 1 + b from by omega]
      exact this
theorem chkOrder_parts {ops : Array Oper} {aops : List AOper} (hc : chkOrder ops aops = true) : (∀ (i j : Nat) x y, i < j → aops[i]? = some x → aops[j]? = some y → x.clash y = true → ((befores ops.toList []).getD j 0).testBit i = true) ∧
    ∀ j o, ops[j]? = some o → ∀ e ∈ o.after, Region.binds .any e = true → e.on < j := by
  simp only [chkOrder, Bool.and_eq_true, List.all_eq_true] at hc
  refine ⟨fun i j x y hij hx hy hcl => ?_, fun j o ho e he hb => ?_⟩
  · have := chkClash_get (done := []) (j := 0) rfl hc.1 j i x y (by omega) hy (by simpa using hx) hcl
    simpa using this
  · have hm : (o, j) ∈ ops.toList.zipIdx := by
      rw [List.mk_mem_zipIdx_iff_getElem?]; simpa using ho
    have := hc.2 _ hm e (by simpa using he)
    simpa [hb] using this
end
end Go.Proofs.Ytfnonledcniojaa
