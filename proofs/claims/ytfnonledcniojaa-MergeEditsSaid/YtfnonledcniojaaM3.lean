/- The small machine, part 3 of 3: its values, operations and runs, and that they stand for the program's. Conditions: none. -/
import Derived.Test.YtfnonledcniojaaM2
import Derived.WalkKit
import Derived.ProofKit
import Derived.OpenShut
import Derived.WideShapes
import Derived.ChangeShapes
set_option linter.unusedVariables false
set_option linter.unusedSimpArgs false
set_option linter.unusedSectionVars false
/- What the small machine's operations hang on; what must come first in a region. Conditions: none. -/
namespace Go.Proofs.Ytfnonledcniojaa
open Go Go.RowKit
variable [FrB]
section
variable {P : Program} {G : Nat → Option (List AV)} {raw : ARaw} {env env' : AEnv} {h h' : List ARow} {v : AV} {op : AOp}

/-! ### An operation looks at its own slots -/
theorem aeval_congr {x : AOpd} (hs : ∀ s ∈ x.slots, look env' s = look env s) : aeval G env' x = aeval G env x := by
  cases x with
  | slot n => exact hs n (by simp [AOpd.slots])
  | _ => rfl
theorem aopt_congr {x : Option AOpd} (hs : ∀ s ∈ optSlots x, look env' s = look env s) : aopt G env' x = aopt G env x := by
  cases x with
  | none => rfl
  | some x => simp only [aopt]; rw [aeval_congr hs]
theorem mapM_congr' {α β : Type} {f g : α → Option β} : ∀ {l : List α}, (∀ x ∈ l, f x = g x) → l.mapM f = l.mapM g
  | [], _ => rfl
  | a :: l, hx => by
    rw [List.mapM_cons, List.mapM_cons, hx a (by simp), mapM_congr' (l := l) fun x h => hx x (by simp [h])]
theorem evs_congr {l : List AOpd} (hs : ∀ s ∈ l.flatMap AOpd.slots, look env' s = look env s) : l.mapM (aeval G env') = l.mapM (aeval G env) :=
  mapM_congr' fun x hx => aeval_congr fun s h => hs s (List.mem_flatMap.2 ⟨x, hx, h⟩)
theorem parts_congr {l : List (Nat × Nat × AOpd)} (hs : ∀ s ∈ l.flatMap (·.2.2.slots), look env' s = look env s) :
    (l.mapM fun (p : Nat × Nat × AOpd) => (aeval G env' p.2.2).map fun v => (p.1, p.2.1, v)) = l.mapM fun (p : Nat × Nat × AOpd) => (aeval G env p.2.2).map fun v => (p.1, p.2.1, v) :=
  mapM_congr' fun x hx => by rw [aeval_congr fun s h => hs s (List.mem_flatMap.2 ⟨x, hx, h⟩)]
theorem parts2_congr {l : List (Nat × AOpd)} (hs : ∀ s ∈ l.flatMap (·.2.slots), look env' s = look env s) :
    (l.mapM fun (p : Nat × AOpd) => (aeval G env' p.2).map fun v => (p.1, v)) = l.mapM fun (p : Nat × AOpd) => (aeval G env p.2).map fun v => (p.1, v) :=
  mapM_congr' fun x hx => by rw [aeval_congr fun s h => hs s (List.mem_flatMap.2 ⟨x, hx, h⟩)]
theorem exec_congr (hs : ∀ s ∈ op.slots, look env' s = look env s) : aexecOp G raw env' h op = aexecOp G raw env h op := by
  cases op <;> simp only [AOp.slots, List.mem_append, or_imp, forall_and] at hs <;> simp only [aexecOp, aop]
  case mov x => rw [aeval_congr hs]
  case pick c x y =>
    rw [aeval_congr hs.1.1]
    congr 1
    funext v
    cases v with
    | bool c => cases c <;> simp [aeval_congr hs.1.2, aeval_congr hs.2]
    | _ => rfl
  case box m x => rw [aeval_congr hs]
  case build z ps => rw [parts_congr hs]
  case mkslice k n z ps => rw [parts2_congr hs]
  case mkdata k n z ps => rw [parts2_congr hs]
  case load a m x => rw [aeval_congr hs]
  case loadd a m x => rw [aeval_congr hs]
  case melt x => rw [aeval_congr hs]
  case idxd k x y => rw [aeval_congr hs.1, aeval_congr hs.2]
  case store a m x y => rw [aeval_congr hs.1, aeval_congr hs.2]
  case nilchk x => rw [aeval_congr hs]
  case bin b x y => rw [aeval_congr hs.1, aeval_congr hs.2]
  case eq a sh n x y => rw [aeval_congr hs.1, aeval_congr hs.2]
  case isnil k n x => rw [aeval_congr hs]
  case not x => rw [aeval_congr hs]
  case neg x => rw [aeval_congr hs]
  case conv k x => rw [aeval_congr hs]
  case rstr x => rw [aeval_congr hs]
  case bstr x => rw [aeval_congr hs]
  case strb x => rw [aeval_congr hs]
  case mark x => rw [aeval_congr hs]
  case cvs x => rw [aeval_congr hs]
  case mkfn f a b => rw [evs_congr hs.1, evs_congr hs.2]
  case mkrow k b z x y => rw [aeval_congr hs.1, aeval_congr hs.2]
  case sl k x lo hi mx => rw [aeval_congr hs.1.1.1, aopt_congr hs.1.1.2, aopt_congr hs.1.2, aopt_congr hs.2]
  case slstr x lo hi => rw [aeval_congr hs.1.1, aopt_congr hs.1.2, aopt_congr hs.2]
  case faddr o x => rw [aeval_congr hs]
  case field a m o x => rw [aeval_congr hs]
  case idx k x y => rw [aeval_congr hs.1, aeval_congr hs.2]
  case idxarr k n x y => rw [aeval_congr hs.1, aeval_congr hs.2]
  case idxv a m n x y => rw [aeval_congr hs.1, aeval_congr hs.2]
  case idxs x y => rw [aeval_congr hs.1, aeval_congr hs.2]
  case extract i x => rw [aeval_congr hs]
  case len b x => rw [aeval_congr hs]
  case append k b x y => rw [aeval_congr hs.1, aeval_congr hs.2]
  case appendD k b x y => rw [aeval_congr hs.1, aeval_congr hs.2]
  case copy k x y => rw [aeval_congr hs.1, aeval_congr hs.2]
  case clear z x => rw [aeval_congr hs]
  case max x y => rw [aeval_congr hs.1, aeval_congr hs.2]
  case min x y => rw [aeval_congr hs.1, aeval_congr hs.2]
  case call md f args => rw [evs_congr hs]
  case callv x args => rw [aeval_congr hs.1, evs_congr hs.2]

/-! ### What becomes of the rows -/
theorem free_h (hc : op.cls = .free) (he : aexecOp G raw env h op = some (v, h')) : h' = h := by
  cases op <;> first
    | (cases hc; done)
    | (rename_i md _ _; cases md <;> cases hc; done)
    | (obtain ⟨u, _, he⟩ := opt_bind_some.1 he; split at he <;> first | (cases he; done) | (obtain ⟨_, _, e⟩ := opt_map_some.1 he; cases e; rfl))
    | (simp only [aexecOp, aop, Option.bind_eq_some_iff, Option.map_eq_some_iff, Prod.mk.injEq, Option.some.injEq] at he; grind)
theorem new_h (hc : op.cls = .new) (he : aexecOp G raw env h op = some (v, h')) : ∃ e, h' = h ++ e := by
  cases op with
  | mknil => cases he; exact ⟨_, rfl⟩
  | alloc => cases he; exact ⟨_, rfl⟩
  | box m x =>
    obtain ⟨u, _, he⟩ := opt_bind_some.1 he
    obtain ⟨cs, _, he⟩ := opt_bind_some.1 he
    split at he <;> cases he
    exact ⟨_, rfl⟩
  | mkslice k n z ps =>
    obtain ⟨u, _, he⟩ := opt_bind_some.1 he
    obtain ⟨cs, _, e⟩ := opt_map_some.1 he
    cases e
    exact ⟨_, rfl⟩
  | mkdata k n z ps =>
    obtain ⟨u, _, he⟩ := opt_bind_some.1 he
    obtain ⟨cs, _, he⟩ := opt_bind_some.1 he
    split at he <;> cases he
    exact ⟨[], by simp⟩
  | load a m x =>
    obtain ⟨u, _, he⟩ := opt_bind_some.1 he
    obtain ⟨cs, _, e⟩ := opt_map_some.1 he
    cases e
    exact ⟨[], by simp⟩
  | bstr x =>
    obtain ⟨u, _, he⟩ := opt_bind_some.1 he
    obtain ⟨u, _, he⟩ := opt_bind_some.1 he
    obtain ⟨cs, _, e⟩ := opt_map_some.1 he
    cases e
    exact ⟨[], by simp⟩
  | strb x =>
    obtain ⟨u, _, he⟩ := opt_bind_some.1 he
    split at he <;> cases he
    exact ⟨_, rfl⟩
  | mkrow k b z x y =>
    obtain ⟨u, _, he⟩ := opt_bind_some.1 he
    obtain ⟨u', _, he⟩ := opt_bind_some.1 he
    split at he
    · split at he <;> cases he
      exact ⟨_, rfl⟩
    · cases he
  | idx k x y =>
    obtain ⟨u, _, he⟩ := opt_bind_some.1 he
    obtain ⟨u1, _, he⟩ := opt_bind_some.1 he
    obtain ⟨cs, _, e⟩ := opt_map_some.1 he
    cases e
    exact ⟨[], by simp⟩
  | appendD k b x y =>
    obtain ⟨u, _, he⟩ := opt_bind_some.1 he
    obtain ⟨u1, _, he⟩ := opt_bind_some.1 he
    obtain ⟨cs, _, e⟩ := opt_map_some.1 he
    cases e
    exact ⟨[], by simp⟩
  | call md f args =>
    obtain ⟨u, _, he⟩ := opt_bind_some.1 he
    cases md with
    | inl => cases hc
    | iso => cases hc
    | pk => cases hc
    | frz =>
      obtain ⟨as, has, he⟩ := opt_bind_some.1 he
      obtain ⟨r, hr, he⟩ := opt_bind_some.1 he
      obtain ⟨v1, hv1, e⟩ := opt_map_some.1 he
      cases e
      exact ⟨[], by simp⟩
    | adp =>
      obtain ⟨as, has, he⟩ := opt_bind_some.1 he
      obtain ⟨r, hr, he⟩ := opt_bind_some.1 he
      unfold aadopt at he
      simp only at he
      split at he <;> cases he
      exact ⟨_, rfl⟩
  | _ => cases hc
theorem exec_k (KL : ∀ f as h r, raw f as h = some r → KeepK h r.2) (he : aexecOp G raw env h op = some (v, h')) : KeepK h h' := by
  cases hc : op.cls with
  | free => rw [free_h hc he]; exact .refl _
  | new => obtain ⟨e, he⟩ := new_h hc he; rw [he]; exact .app _ _
  | change => exact change_k KL hc he

/-! ### What must come first -/
theorem befores_get : ∀ (os : List Oper) (acc : List Nat) (j : Nat), j < acc.length → (befores os acc)[j]? = acc[j]?
  | [], _, _, _ => rfl
  | o :: os, acc, j, hj => by rw [befores, befores_get os _ j (by simp; omega), List.getElem?_append_left hj]
theorem befores_new : ∀ (os : List Oper) (acc : List Nat) (j : Nat) (o : Oper), os[j]? = some o → ∃ acc', (befores os acc)[acc.length + j]? = some (beforeOf acc' o) ∧ acc'.length = acc.length + j ∧ ∀ i, i < acc'.length → acc'[i]? = (befores os acc)[i]?
  | [], _, _, _, h => by simp at h
  | o :: os, acc, 0, o', h => by
    simp at h
    subst h
    refine ⟨acc, ?_, rfl, fun i hi => (befores_get (o :: os) acc i hi).symm⟩
    rw [befores, befores_get os _ _ (by simp)]
    simp
  | o :: os, acc, j + 1, o', h => by
    obtain ⟨acc', h1, h2, h3⟩ := befores_new os (acc ++ [beforeOf acc o]) j o' (by simpa using h)
    simp only [List.length_append, List.length_singleton] at h1 h2
    refine ⟨acc', ?_, by omega, fun i hi => h3 i hi⟩
    rw [befores, ← h1]
    congr 1; omega
theorem beforeOf_bit {acc : List Nat} {o : Oper} {i : Nat} (hb : (beforeOf acc o).testBit i = true) : ∃ e ∈ o.after, Region.binds .any e = true ∧ (e.on = i ∨ (acc.getD e.on 0).testBit i = true) := by
  have main : ∀ (l : List Edge) (s : Nat), (l.foldl (fun s e => s ||| (2 ^ e.on ||| acc.getD e.on 0)) s).testBit i = true → s.testBit i = true ∨ ∃ e ∈ l, e.on = i ∨ (acc.getD e.on 0).testBit i = true := by
    intro l
    induction l with
    | nil => intro s h; exact .inl h
    | cons e l ih =>
      intro s h
      rcases ih _ h with h | ⟨e', h1, h2⟩
      · rw [Nat.testBit_or, Nat.testBit_or, Bool.or_eq_true, Bool.or_eq_true, Nat.testBit_two_pow] at h
        rcases h with h | h | h
        · exact .inl h
        · exact .inr ⟨e, by simp, .inl (by simpa using h)⟩
        · exact .inr ⟨e, by simp, .inr h⟩
      · exact .inr ⟨e', by simp [h1], h2⟩
  rcases main _ 0 hb with h | ⟨e, h1, h2⟩
  · simp at h
  · rw [List.mem_filter] at h1
    exact ⟨e, by simpa using h1.1, h1.2, h2⟩
/-- A set of operations that holds, with one, what that one waits for. -/
def Closed (ops : Array Oper) (D : Nat → Prop) : Prop := ∀ j o, ops[j]? = some o → D j → ∀ e ∈ o.after, Region.binds .any e = true → D e.on
theorem closed_before {ops : Array Oper} {D : Nat → Prop} (hcl : Closed ops D) (hlt : ∀ j o, ops[j]? = some o → ∀ e ∈ o.after, Region.binds .any e = true → e.on < j) :
    ∀ (j i : Nat) (o : Oper), ops[j]? = some o → (∀ e ∈ o.after, Region.binds .any e = true → D e.on) → ((befores ops.toList []).getD j 0).testBit i = true → D i := by
  intro j
  induction j using Nat.strongRecOn with
  | _ j ih =>
    intro i o ho hd hb
    obtain ⟨acc, h1, h2, h3⟩ := befores_new ops.toList [] j o (by simpa using ho)
    simp only [List.length_nil, Nat.zero_add] at h1 h2
    rw [List.getD_eq_getElem?_getD, h1, Option.getD_some] at hb
    obtain ⟨e, he, hbd, hor⟩ := beforeOf_bit hb
    have hej := hlt j o ho e he hbd
    have hDe := hd e he hbd
    rcases hor with hor | hor
    · rw [← hor]; exact hDe
    · have hjs : j < ops.size := (Array.getElem?_eq_some_iff.1 ho).1
      have hoe : ops[e.on]? = some ops[e.on] := by simp
      rw [List.getD_eq_getElem?_getD, h3 e.on (by omega), ← List.getD_eq_getElem?_getD] at hor
      exact ih e.on hej i _ hoe (fun e' he' hb' => hcl e.on _ hoe hDe e' he' hb') hor
theorem chkClash_get {pm : Nat → Nat} {qs bs : List Nat} : ∀ {ys done : List AOper} {j : Nat}, done.length = j → chkClash pm qs bs j done ys = true → ∀ (b i : Nat) (x y : AOper), i < j + b → ys[b]? = some y → (done ++ ys)[i]? = some x → clashQ qs i x (j + b) y = true → (bs.getD (pm (j + b)) 0).testBit (pm i) = true
  | [], _, _, _, _, b, i, x, y, _, hy, _, _ => by simp at hy
  | z :: ys, done, j, hl, hc, b, i, x, y, hi, hy, hx, hcl => by
    simp only [chkClash, Bool.and_eq_true, List.all_eq_true] at hc
    cases b with
    | zero =>
      simp at hy
      subst hy
      rw [List.getElem?_append_left (by omega)] at hx
      have hm : (x, i) ∈ done.zipIdx := by
        rw [List.mk_mem_zipIdx_iff_getElem?]; exact hx
      have := hc.1 _ hm
      simp only [Nat.add_zero] at hcl
      simp only [hcl, Bool.not_true, Bool.false_or] at this
      simpa using this
    | succ b =>
      have := chkClash_get (ys := ys) (done := done ++ [z]) (j := j + 1) (by simp [hl]) hc.2 b i x y (by omega) (by simpa using hy) (by simpa using hx) (by rw [show j + 1 + b = j + (b + 1) from by omega]; exact hcl)
      rw [show j + (b + 1) = j + 1 + b from by omega]
      exact this
theorem chkOrder_parts {ops : Array Oper} {aops : List AOper} {pm : Nat → Nat} {qs : List (Nat × List Nat)} (hc : chkOrder ops aops pm qs = true) : (∀ (i j : Nat) x y, i < j → aops[i]? = some x → aops[j]? = some y → clashQ (qs.map (·.1)) i x j y = true → ((befores ops.toList []).getD (pm j) 0).testBit (pm i) = true) ∧
    (∀ q ∈ qs, chkCover pm (qs.map (·.1)) (befores ops.toList []) aops q = true) ∧ ∀ j o, ops[j]? = some o → ∀ e ∈ o.after, Region.binds .any e = true → e.on < j := by
  simp only [chkOrder, Bool.and_eq_true, List.all_eq_true] at hc
  refine ⟨fun i j x y hij hx hy hcl => ?_, fun q hq => hc.1.2 q hq, fun j o ho e he hb => ?_⟩
  · have := chkClash_get (done := []) (j := 0) rfl hc.1.1 j i x y (by omega) hy (by simpa using hx) (by rw [Nat.zero_add]; exact hcl)
    simpa using this
  · have hm : (o, j) ∈ ops.toList.zipIdx := by
      rw [List.mk_mem_zipIdx_iff_getElem?]; simpa using ho
    have := hc.2 _ hm e (by simpa using he)
    simpa [hb] using this
end
end Go.Proofs.Ytfnonledcniojaa
/- Regions in any order that the text allows. Conditions: none. -/
namespace Go.Proofs.Ytfnonledcniojaa
open Go Go.RowKit
variable [FrB]
section
variable {P : Program} {G : Nat → Option (List AV)} {raw : ARaw} {ρ ρ' : Rho} {w w' : World} {S O O' : Nat → Prop} {env : AEnv} {h h' : List ARow} {a : Act} {ops : Array Oper} {A : List AOper}

/-- The places of the first n rows alone. -/
def cutR (ρ : Rho) (n : Nat) : Rho := fun id => if id < n then ρ id else none
theorem cutR_lt {n id : Nat} (hi : id < n) : cutR ρ n id = ρ id := if_pos hi
theorem cutR_ge {n id : Nat} (hi : n ≤ id) : cutR ρ n id = none := if_neg (Nat.not_lt.2 hi)
theorem cutR_some {n id : Nat} {y : Nat × Option Pl} (hy : cutR ρ n id = some y) : id < n ∧ ρ id = some y := by
  unfold cutR at hy
  split at hy
  · rename_i hi; exact ⟨hi, hy⟩
  · cases hy
theorem cutR_all {n : Nat} (hd : ∀ id, n ≤ id → ρ id = none) : cutR ρ n = ρ := by
  funext id
  unfold cutR
  split
  · rfl
  · rename_i hi; exact (hd id (by omega)).symm
theorem ext_cut {n m : Nat} (hnm : n ≤ m) : Ext (cutR ρ n) (cutR ρ m) := fun id g pl hid => by
  obtain ⟨h1, h2⟩ := cutR_some hid
  exact ⟨g, pl, by rw [cutR_lt (by omega)]; exact h2, Nat.le_refl _, fun _ => rfl⟩
theorem Ext.cut (e : Ext ρ ρ') (n : Nat) : Ext (cutR ρ n) (cutR ρ' n) := fun id g pl hid => by
  obtain ⟨h1, h2⟩ := cutR_some hid
  obtain ⟨g', pl', h3, h4⟩ := e id g pl h2
  exact ⟨g', pl', by rw [cutR_lt h1]; exact h3, h4⟩
theorem KInv.cut {n : Nat} (hk : KInv ρ h) : KInv (cutR ρ n) h := fun id g p r hid hr => hk id g p r (cutR_some hid).2 hr
/-- Addresses of what is there hang on no row. -/
theorem dptr_any {cs : List AV} {x : Value} (hr : RepV ρ w S O (.dptr cs) x) : RepV ρ' w S O (.dptr cs) x := by
  obtain ⟨b, off, val, rfl, h1, h2, h3, h4⟩ := rv_dptr hr
  exact .dptr cs b off val h1 h2 h3 h4
/-- More rows that have no place. -/
theorem Heap.more (H : Heap ρ w S O h) (e : List ARow) : Heap ρ w S O (h ++ e) :=
  ⟨fun id g pl hid => by
    obtain ⟨r, h1, h2⟩ := H.row id g pl hid
    exact ⟨r, by rw [List.getElem?_append_left (H.lt hid)]; exact h1, h2⟩, H.inj, H.bd, H.dis⟩

/-- The states of a run through the operations in the text's order. -/
structure Trace (G : Nat → Option (List AV)) (raw : ARaw) (A : List AOper) (T : Nat → ASt) (V : Nat → AV) : Prop where
  env : ∀ k ao, A[k]? = some ao → (T (k + 1)).env = aput (T k).env ao.dst (V k)
  run : ∀ k ao, A[k]? = some ao → ∃ b, goes ao (T k).env = some b ∧ ((b = true ∧ aexecOp G raw (T k).env (T k).h ao.op = some (V k, (T (k + 1)).h)) ∨ (b = false ∧ V k = .tup [] ∧ (T (k + 1)).h = (T k).h))
theorem trace_exists : ∀ {A : List AOper} {st st' : ASt}, aops G raw A st = some st' → ∃ T V, Trace G raw A T V ∧ T 0 = st ∧ T A.length = st'
  | [], st, st', hs => by
    cases hs
    exact ⟨fun _ => st, fun _ => .unk, ⟨fun k ao h => by simp at h, fun k ao h => by simp at h⟩, rfl, rfl⟩
  | ao :: A, st, st', hs => by
    obtain ⟨st1, h1, hs⟩ := opt_bind_some.1 hs
    obtain ⟨T, V, t1, t2, t3⟩ := trace_exists hs
    rw [astep_goes] at h1
    obtain ⟨b, hb, h1⟩ := opt_bind_some.1 h1
    obtain ⟨v, e1, e2⟩ : ∃ v, st1.env = aput st.env ao.dst v ∧ ((b = true ∧ aexecOp G raw st.env st.h ao.op = some (v, st1.h)) ∨ (b = false ∧ v = .tup [] ∧ st1.h = st.h)) := by
      cases b with
      | true =>
        simp only [if_true] at h1
        obtain ⟨r, hr, e⟩ := opt_map_some.1 h1
        subst e
        exact ⟨r.1, rfl, .inl ⟨rfl, hr⟩⟩
      | false =>
        simp only [Bool.false_eq_true, if_false] at h1
        cases h1
        exact ⟨.tup [], rfl, .inr ⟨rfl, rfl, rfl⟩⟩
    refine ⟨fun k => match k with | 0 => st | k + 1 => T k, fun k => match k with | 0 => v | k + 1 => V k, ⟨fun k o hk => ?_, fun k o hk => ?_⟩, rfl, by simpa using t3⟩
    · cases k with
      | zero => simp at hk; subst hk; simpa [t2] using e1
      | succ k => exact t1.env k o (by simpa using hk)
    · cases k with
      | zero => simp at hk; subst hk; exact ⟨b, hb, by simpa [t2] using e2⟩
      | succ k => exact t1.run k o (by simpa using hk)
theorem aopsS_ok : ∀ {A : List AOper} {acc : List ASt} {st : ASt} {Ts : List ASt}, aopsS G raw A acc st = some Ts → ∃ Us, Ts = acc ++ Us ∧ Us.length = A.length + 1 ∧ Us[0]? = some st ∧ ∀ k ao, A[k]? = some ao → ∃ s s', Us[k]? = some s ∧ Us[k + 1]? = some s' ∧ astep G raw ao s = some s'
  | [], acc, st, Ts, hs => by
    cases hs
    exact ⟨[st], rfl, rfl, rfl, fun k ao h => by simp at h⟩
  | o :: A, acc, st, Ts, hs => by
    obtain ⟨st1, h1, hs⟩ := opt_bind_some.1 hs
    obtain ⟨Us, h2, h3, h4, h5⟩ := aopsS_ok hs
    refine ⟨st :: Us, by rw [h2]; simp, by simp [h3], rfl, fun k ao hk => ?_⟩
    cases k with
    | zero => simp at hk; subst hk; exact ⟨st, st1, rfl, by simpa using h4, h1⟩
    | succ k =>
      obtain ⟨s, s', q1, q2, q3⟩ := h5 k ao (by simpa using hk)
      exact ⟨s, s', by simpa using q1, by simpa using q2, q3⟩
/-- The trace that a list of states is. -/
theorem trace_of_states {A : List AOper} {st : ASt} {Ts : List ASt} (hs : aopsS G raw A [] st = some Ts) : ∃ V, Trace G raw A (fun k => Ts.getD k st) V ∧ Ts.length = A.length + 1 ∧ Ts.getD 0 st = st := by
  obtain ⟨Us, h1, h2, h3, h4⟩ := aopsS_ok hs
  rw [List.nil_append] at h1
  subst h1
  have g : ∀ k s, Ts[k]? = some s → Ts.getD k st = s := fun k s h => by simp [List.getD_eq_getElem?_getD, h]
  have key : ∀ k, ∃ v, ∀ ao, A[k]? = some ao → (Ts.getD (k + 1) st).env = aput (Ts.getD k st).env ao.dst v ∧ ∃ b, goes ao (Ts.getD k st).env = some b ∧ ((b = true ∧ aexecOp G raw (Ts.getD k st).env (Ts.getD k st).h ao.op = some (v, (Ts.getD (k + 1) st).h)) ∨ (b = false ∧ v = .tup [] ∧ (Ts.getD (k + 1) st).h = (Ts.getD k st).h)) := fun k => by
    cases ha : A[k]? with
    | none => exact ⟨.unk, fun ao h => by cases h⟩
    | some ao =>
      obtain ⟨s, s', q1, q2, h1⟩ := h4 k ao ha
      rw [astep_goes] at h1
      obtain ⟨b, hb, h1⟩ := opt_bind_some.1 h1
      cases b with
      | true =>
        simp only [if_true] at h1
        obtain ⟨r, hr, e⟩ := opt_map_some.1 h1
        subst e
        refine ⟨r.1, fun ao' h => ?_⟩
        cases h
        rw [g _ _ q1, g _ _ q2]
        exact ⟨rfl, true, hb, .inl ⟨rfl, hr⟩⟩
      | false =>
        simp only [Bool.false_eq_true, if_false] at h1
        cases h1
        refine ⟨.tup [], fun ao' h => ?_⟩
        cases h
        rw [g _ _ q1, g _ _ q2]
        exact ⟨rfl, false, hb, .inr ⟨rfl, rfl, rfl⟩⟩
  refine ⟨fun k => Classical.choose (key k), ⟨fun k ao h => (Classical.choose_spec (key k) ao h).1, fun k ao h => (Classical.choose_spec (key k) ao h).2⟩, h2, g _ _ h3⟩
theorem trace_k (KL : ∀ f as h r, raw f as h = some r → KeepK h r.2) {T : Nat → ASt} {V : Nat → AV} (t : Trace G raw A T V) : ∀ (m i : Nat), i + m ≤ A.length → KeepK (T i).h (T (i + m)).h
  | 0, _, _ => .refl _
  | m + 1, i, hi => by
    have h1 := trace_k KL t m i (by omega)
    obtain ⟨ao, ha⟩ : ∃ ao, A[i + m]? = some ao := ⟨_, List.getElem?_eq_getElem (by omega)⟩
    obtain ⟨b, _, hb | hb⟩ := t.run _ ao ha
    · exact h1.trans (exec_k KL hb.2)
    · rw [show i + (m + 1) = i + m + 1 from rfl, hb.2.2]; exact h1
/-- How many. -/
theorem trace_len (KL : ∀ f as h r, raw f as h = some r → KeepK h r.2) {T : Nat → ASt} {V : Nat → AV} (t : Trace G raw A T V) (m i : Nat) (hi : i + m ≤ A.length) : (T i).h.length ≤ (T (i + m)).h.length := (trace_k KL t m i hi).len
/-- Operations that are told to be quiet change no row. -/
def Hush (A : List AOper) (T : Nat → ASt) (qs : List Nat) : Prop := ∀ k ao, A[k]? = some ao → qs.contains k = true → ∃ e, (T (k + 1)).h = (T k).h ++ e
/-- No operation that changes rows between: the rows stay, and more come. -/
theorem trace_grow {T : Nat → ASt} {V : Nat → AV} {qs : List Nat} (t : Trace G raw A T V) (hu : Hush A T qs) : ∀ (m i : Nat), i + m ≤ A.length → (∀ k ao, i ≤ k → k < i + m → A[k]? = some ao → qc qs k ao ≠ .change) → ∃ e, (T (i + m)).h = (T i).h ++ e
  | 0, _, _, _ => ⟨[], by simp⟩
  | m + 1, i, hi, hn => by
    obtain ⟨e, he⟩ := trace_grow t hu m i (by omega) fun k ao h1 h2 h3 => hn k ao h1 (by omega) h3
    obtain ⟨ao, ha⟩ : ∃ ao, A[i + m]? = some ao := ⟨_, List.getElem?_eq_getElem (by omega)⟩
    have hc := hn _ ao (by omega) (by omega) ha
    unfold qc at hc
    split at hc
    · rename_i hq
      obtain ⟨e', he'⟩ := hu _ ao ha hq
      exact ⟨e ++ e', by rw [show i + (m + 1) = i + m + 1 from rfl, he', he, List.append_assoc]⟩
    obtain ⟨b, _, hb | hb⟩ := t.run _ ao ha
    · have hx := hb.2
      cases hcl : ao.op.cls with
      | free => exact ⟨e, by rw [show i + (m + 1) = i + m + 1 from rfl, free_h hcl hx]; exact he⟩
      | new =>
        obtain ⟨e', he'⟩ := new_h hcl hx
        exact ⟨e ++ e', by rw [show i + (m + 1) = i + m + 1 from rfl, he', he, List.append_assoc]⟩
      | change => exact absurd hcl hc
    · exact ⟨e, by rw [show i + (m + 1) = i + m + 1 from rfl, hb.2.2]; exact he⟩
/-- What a slot holds at a point of the text. -/
theorem trace_look {T : Nat → ASt} {V : Nat → AV} (t : Trace G raw A T V) (s : Nat) : ∀ (m i : Nat), i + m ≤ A.length → (∀ k ao, i ≤ k → k < i + m → A[k]? = some ao → ao.dst ≠ some s) → look (T (i + m)).env s = look (T i).env s
  | 0, _, _, _ => rfl
  | m + 1, i, hi, hn => by
    obtain ⟨ao, ha⟩ : ∃ ao, A[i + m]? = some ao := ⟨_, List.getElem?_eq_getElem (by omega)⟩
    have hd := hn _ ao (by omega) (by omega) ha
    rw [show i + (m + 1) = i + m + 1 from rfl, t.env _ ao ha]
    rw [← trace_look t s m i (by omega) fun k ao h1 h2 h3 => hn k ao h1 (by omega) h3]
    cases e : ao.dst with
    | none => rfl
    | some d =>
      rw [e] at hd
      simp only [aput, look]
      rw [if_neg (fun e => hd (by rw [e]))]
end
end Go.Proofs.Ytfnonledcniojaa
/- Regions in any order that the text allows: what holds in between. Conditions: none. -/
namespace Go.Proofs.Ytfnonledcniojaa
open Go Go.RowKit
variable [FrB]
section
variable {D0 : List Deferred × Nat} {P : Program} {G : Nat → Option (List AV)} {raw : ARaw} {ρ0 ρ ρ' : Rho} {w0 w w' : World} {S O0 O O' : Nat → Prop} {a : Act} {B : Nat → Nat → Prop} {A : List AOper} {T : Nat → ASt} {V : Nat → AV} {N : Nat} {D : Nat → Prop} {l M : Nat} {qs : List Nat}

theorem first_change (A : List AOper) (qs : List Nat) : ∀ (m l : Nat), l + m = A.length → ∃ M, l ≤ M ∧ M ≤ A.length ∧ (∀ k ao, l ≤ k → k < M → A[k]? = some ao → qc qs k ao ≠ .change) ∧ (M = A.length ∨ ∃ ao, A[M]? = some ao ∧ qc qs M ao = .change)
  | 0, l, h => ⟨l, Nat.le_refl _, by omega, fun k ao h1 h2 => by omega, .inl (by omega)⟩
  | m + 1, l, h => by
    obtain ⟨ao, ha⟩ : ∃ ao, A[l]? = some ao := ⟨_, List.getElem?_eq_getElem (by omega)⟩
    by_cases hc : qc qs l ao = .change
    · exact ⟨l, Nat.le_refl _, by omega, fun k ao h1 h2 => by omega, .inr ⟨ao, ha, hc⟩⟩
    · obtain ⟨M, h1, h2, h3, h4⟩ := first_change A qs m (l + 1) (by omega)
      refine ⟨M, by omega, h2, fun k ao' q1 q2 q3 => ?_, h4⟩
      by_cases e : k = l
      · subst e; rw [ha] at q3; cases q3; exact hc
      · exact h3 k ao' (by omega) q2 q3

/-- A set of operations that holds, with one, what that one waits for ('B': what waits for what). -/
def ClosedB (B : Nat → Nat → Prop) (D : Nat → Prop) : Prop := ∀ j i, D j → B j i → D i
/-- What holds while the operations of D are done. -/
structure Mid (D0 : List Deferred × Nat) (G : Nat → Option (List AV)) (B : Nat → Nat → Prop) (A : List AOper) (qs : List Nat) (T : Nat → ASt) (N : Nat) (S : Nat → Prop) (ρ0 : Rho) (w0 : World) (O0 : Nat → Prop) (D : Nat → Prop) (a : Act) (w : World) (ρ : Rho) (O : Nat → Prop) (l M : Nat) : Prop where
  closed : ClosedB B D
  adv : AdvX w0 O0 w O
  ext0 : Ext ρ0 ρ
  non0 : ∀ id, id < (T 0).h.length → ρ0 id = none → ρ id = none
  lM : l ≤ M
  Mn : M ≤ A.length
  b1 : ∀ k ao, k < l → A[k]? = some ao → qc qs k ao ≠ .free → D k
  b2 : ∀ k ao, l ≤ k → k < M → A[k]? = some ao → qc qs k ao ≠ .change
  b3 : M = A.length ∨ ∃ ao, A[M]? = some ao ∧ qc qs M ao = .change
  b4 : ∀ k ao, M ≤ k → A[k]? = some ao → qc qs k ao ≠ .free → ¬ D k
  heap : ∀ k, l ≤ k → k ≤ M → Heap (cutR ρ (T k).h.length) w S O (T k).h
  dom : ∀ id, (T M).h.length ≤ id → ρ id = none
  pend : ∀ k, k < A.length → ¬ D k → ∀ id, (T k).h.length ≤ id → id < (T (k + 1)).h.length → ρ id = none
  slots : ∀ i, i ≤ A.length → ∀ s v, look (T i).env s = some v → (∀ k ao, k < i → A[k]? = some ao → ao.dst = some s → D k) → (∀ k ao, i ≤ k → A[k]? = some ao → ao.dst = some s → ¬ D k) →
    ∃ x, a.tmps[s]? = some x ∧ RepV (cutR ρ (T i).h.length) w S O v x
  glob : ∀ g cs, G g = some cs → RepV ρ w S O (.dptr cs) (.pointer (some ⟨g, 0, none⟩))
  kinv : ∀ i, i ≤ A.length → KInv ρ (T i).h
  size : N ≤ a.tmps.size
  def0 : a.defers = D0.1 ∧ a.tmps.size = D0.2
/-- What clashes comes up in the order told. -/
def Ordered (B : Nat → Nat → Prop) (A : List AOper) (qs : List Nat) : Prop := ∀ D, ClosedB B D → ∀ (i j : Nat) x y, i < j → A[i]? = some x → A[j]? = some y → clashQ qs i x j y = true → D j → D i

theorem clash_cls {x y : AOper} {i j : Nat} (h : qc qs i x = .change) (h' : qc qs j y ≠ .free) : clashQ qs i x j y = true := by
  unfold qc at h h'
  split at h
  · cases h
  split at h'
  · exact absurd rfl h'
  rename_i h1 h2
  have : (y.op.cls != .free) = true := by simpa using h'
  simp only [clashQ, if_neg h1, if_neg h2, ACls.clash, h, this]
  simp
theorem clash_cls' {x y : AOper} {i j : Nat} (h : qc qs j y = .change) (h' : qc qs i x ≠ .free) : clashQ qs i x j y = true := by
  unfold qc at h h'
  split at h
  · cases h
  split at h'
  · exact absurd rfl h'
  rename_i h1 h2
  have : (x.op.cls != .free) = true := by simpa using h'
  simp only [clashQ, if_neg h1, if_neg h2, ACls.clash, h, this]
  simp
theorem clash_early {x y : AOper} {i j : Nat} (h : qc qs i x = .change) (hq : qs.contains j = true) (he : y.op.early = true) : clashQ qs i x j y = true := by
  unfold qc at h
  split at h
  · cases h
  rename_i h1
  simp only [clashQ, if_neg h1, if_pos hq, he, h]
  simp
theorem clash_dd {x y : AOper} {i j : Nat} {s : Nat} (h : x.dst = some s) (h' : y.dst = some s) : clashQ qs i x j y = true := by simp [clashQ, h, h']
theorem clash_dr {x y : AOper} {i j : Nat} {s : Nat} (h : x.dst = some s) (h' : s ∈ y.reads) : clashQ qs i x j y = true := by simp [clashQ, h, h']
theorem clash_rd {x y : AOper} {i j : Nat} {s : Nat} (h : s ∈ x.reads) (h' : y.dst = some s) : clashQ qs i x j y = true := by simp [clashQ, h, h']

theorem mid_start (k : Good D0 G ρ0 w0 S O0 (T 0).h.length N (T 0).env (T 0).h a w ρ O) (t : Trace G raw A T V) (hu : Hush A T qs) (KL : ∀ f as h r, raw f as h = some r → KeepK h r.2) : ∃ M, Mid D0 G B A qs T N S ρ w O (fun _ => False) a w ρ O 0 M := by
  obtain ⟨M, h1, h2, h3, h4⟩ := first_change A qs A.length 0 (by omega)
  have hd : ∀ id, (T 0).h.length ≤ id → ρ id = none := fun id hid => k.heap.none_ge hid
  have hl : ∀ i, i ≤ A.length → (T 0).h.length ≤ (T i).h.length := fun i hi => by have := trace_len KL t i 0 (by omega); simpa using this
  refine ⟨M, fun _ _ h => h.elim, .refl w O, .refl ρ, fun _ _ h => h, h1, h2, fun k ao h => by omega, h3, h4, fun _ _ _ _ _ h => h, fun i _ hi => ?_, fun id hid => hd id (Nat.le_trans (hl M h2) hid), fun i hi _ id hid _ => hd id (Nat.le_trans (hl i (by omega)) hid), fun i hi s v hs c1 _ => ?_, k.rel.glob, fun i hi id g p r hid hr => ?_, k.size, k.def0⟩
  · obtain ⟨e, he⟩ := trace_grow t hu i 0 (by omega) fun k ao q1 q2 q3 => h3 k ao q1 (by omega) q3
    rw [Nat.zero_add] at he
    rw [cutR_all fun id hid => hd id (Nat.le_trans (hl i (by omega)) hid), he]
    exact k.heap.more e
  · have := trace_look t s i 0 (by omega) fun k ao _ q2 q3 q4 => c1 k ao (by omega) q3 q4
    rw [Nat.zero_add] at this
    rw [this] at hs
    obtain ⟨x, hx, hr⟩ := k.rel.env s v hs
    exact ⟨x, hx, by rw [cutR_all fun id hid => hd id (Nat.le_trans (hl i hi) hid)]; exact hr⟩
  · obtain ⟨r0, hr0, _, hR⟩ := k.heap.row id g _ hid
    have hk := trace_k KL t i 0 (by omega) id r0 hr0
    rw [Nat.zero_add, hr] at hk
    obtain ⟨y, hy, e⟩ := hk
    cases hy
    exact (RowRep.k (show RowRep ρ w S O r0 p from hR)).trans e.symm

variable {i0 : Nat} {ao : AOper}
/-- What the operation in hand reads is there. -/
theorem mid_reads (J : Mid D0 G B A qs T N S ρ0 w0 O0 D a w ρ O l M) (hO : Ordered B A qs) (ha : A[i0]? = some ao) (hr : ∀ i, B i0 i → D i) (hn : ¬ D i0) (s : Nat) (hs : s ∈ ao.reads) (v : AV) (hv : look (T i0).env s = some v) :
    ∃ x, a.tmps[s]? = some x ∧ RepV (cutR ρ (T i0).h.length) w S O v x := by
  have hi : i0 < A.length := (List.getElem?_eq_some_iff.1 ha).1
  have hcl : ClosedB B (fun k => D k ∨ k = i0) := fun j i hj hb => by
    rcases hj with hj | rfl
    · exact .inl (J.closed j i hj hb)
    · exact .inl (hr i hb)
  refine J.slots i0 (by omega) s v hv (fun k ak hk h1 h2 => ?_) fun k ak hk h1 h2 hd => ?_
  · rcases hO _ hcl k i0 ak ao hk h1 ha (clash_dr h2 hs) (.inr rfl) with h | h
    · exact h
    · omega
  · by_cases e : k = i0
    · subst e; exact hn hd
    · exact hn (hO _ J.closed i0 k ao ak (by omega) ha h1 (clash_rd hs h2) hd)
/-- The slots behind an operation. -/
theorem mid_slots (J : Mid D0 G B A qs T N S ρ0 w0 O0 D a w ρ O l M) (t : Trace G raw A T V) (KL : ∀ f as h r, raw f as h = some r → KeepK h r.2) (hO : Ordered B A qs) (ha : A[i0]? = some ao) (hn : ¬ D i0) (hd : ∀ d, ao.dst = some d → d < N) {x : Value} (Aw : AdvX w O w' O') (E : Ext ρ ρ')
    (hx : RepV (cutR ρ' (T (i0 + 1)).h.length) w' S O' (V i0) x) : ∀ i, i ≤ A.length → ∀ s v, look (T i).env s = some v → (∀ k ao, k < i → A[k]? = some ao → ao.dst = some s → D k ∨ k = i0) → (∀ k ao, i ≤ k → A[k]? = some ao → ao.dst = some s → ¬ (D k ∨ k = i0)) →
    ∃ x', (a.put ao.dst x).tmps[s]? = some x' ∧ RepV (cutR ρ' (T i).h.length) w' S O' v x' := by
  intro i hi s v hv c1 c2
  by_cases hs : ao.dst = some s
  · have hlt : i0 < i := by
      rcases Nat.lt_or_ge i0 i with h | h
      · exact h
      · exact absurd (.inr rfl) (c2 i0 ao h ha hs)
    have hlk := trace_look t s (i - (i0 + 1)) (i0 + 1) (by omega) fun k ak q1 q2 q3 q4 => by
      rcases c1 k ak (by omega) q3 q4 with h | h
      · exact hn (hO _ J.closed i0 k ao ak (by omega) ha q3 (clash_dd hs q4) h)
      · omega
    rw [show i0 + 1 + (i - (i0 + 1)) = i from by omega, t.env i0 ao ha, hs] at hlk
    rw [hlk] at hv
    simp only [aput, look, if_true] at hv
    cases hv
    have hsz := Nat.lt_of_lt_of_le (hd s hs) J.size
    refine ⟨x, by rw [hs]; simp [Act.put, hsz], hx.adv (ext_cut ?_) (.refl w' O')⟩
    have := trace_len KL t (i - (i0 + 1)) (i0 + 1) (by omega)
    rwa [show i0 + 1 + (i - (i0 + 1)) = i from by omega] at this
  · obtain ⟨x', h1, h2⟩ := J.slots i hi s v hv (fun k ak q1 q2 q3 => (c1 k ak q1 q2 q3).resolve_right (fun e => by subst e; rw [ha] at q2; cases q2; exact hs q3)) fun k ak q1 q2 q3 hd => c2 k ak q1 q2 q3 (.inl hd)
    refine ⟨x', ?_, h2.advX (E.cut _) Aw⟩
    cases e : ao.dst with
    | none => exact h1
    | some d =>
      rw [e] at hs
      simp only [Act.put]
      rw [Array.getElem?_setIfInBounds_ne (fun e => hs (by rw [e]))]
      exact h1
theorem mid_closed (J : Mid D0 G B A qs T N S ρ0 w0 O0 D a w ρ O l M) (hr : ∀ i, B i0 i → D i) : ClosedB B (fun k => D k ∨ k = i0) := fun j i hj hb => by
  rcases hj with hj | rfl
  · exact .inl (J.closed j i hj hb)
  · exact .inl (hr i hb)

theorem mid_free (J : Mid D0 G B A qs T N S ρ0 w0 O0 D a w ρ O l M) (t : Trace G raw A T V) (KL : ∀ f as h r, raw f as h = some r → KeepK h r.2) (hO : Ordered B A qs) (ha : A[i0]? = some ao) (hr : ∀ i, B i0 i → D i) (hn : ¬ D i0) (hd : ∀ d, ao.dst = some d → d < N)
    (hc : qc qs i0 ao = .free) {x : Value} (hx : RepV (cutR ρ (T i0).h.length) w S O (V i0) x) (hh : (T (i0 + 1)).h = (T i0).h) : Mid D0 G B A qs T N S ρ0 w0 O0 (fun k => D k ∨ k = i0) (a.put ao.dst x) w ρ O l M :=
  ⟨mid_closed J hr, J.adv, J.ext0, J.non0, J.lM, J.Mn, fun k ak h1 h2 h3 => .inl (J.b1 k ak h1 h2 h3), J.b2, J.b3, fun k ak h1 h2 h3 hk => hk.elim (J.b4 k ak h1 h2 h3) (fun e => by subst e; rw [ha] at h2; cases h2; exact h3 hc), J.heap, J.dom,
    fun k h1 h2 => J.pend k h1 (fun h => h2 (.inl h)), mid_slots J t KL hO ha hn hd (.refl w O) (.refl ρ) (by rw [hh]; exact hx), J.glob, J.kinv, by rw [size_put]; exact J.size, def0_put J.def0⟩

theorem mid_new (J : Mid D0 G B A qs T N S ρ0 w0 O0 D a w ρ O l M) (t : Trace G raw A T V) (hu : Hush A T qs) (KL : ∀ f as h r, raw f as h = some r → KeepK h r.2) (hO : Ordered B A qs) (ha : A[i0]? = some ao) (hr : ∀ i, B i0 i → D i) (hn : ¬ D i0) (hd : ∀ d, ao.dst = some d → d < N)
    (hc : qc qs i0 ao = .new) : (l ≤ i0 ∧ i0 < M) ∧ ∀ {x : Value} {w' : World}, ResN (cutR ρ (T i0).h.length) w S O (T i0).h (V i0) (T (i0 + 1)).h x w' → ∃ ρ' O', Mid D0 G B A qs T N S ρ0 w0 O0 (fun k => D k ∨ k = i0) (a.put ao.dst x) w' ρ' O' l M := by
  have hcl := mid_closed J hr
  have hi : i0 < A.length := (List.getElem?_eq_some_iff.1 ha).1
  have hnf : qc qs i0 ao ≠ .free := by rw [hc]; decide
  have hl : l ≤ i0 := by
    rcases Nat.lt_or_ge i0 l with h | h
    · exact absurd (J.b1 i0 ao h ha hnf) hn
    · exact h
  have hM : i0 < M := by
    rcases Nat.lt_or_ge i0 M with h | h
    · exact h
    · rcases J.b3 with e | ⟨am, h1, h2⟩
      · omega
      · by_cases e : i0 = M
        · subst e; rw [ha] at h1; cases h1; rw [hc] at h2; cases h2
        · rcases hO _ hcl M i0 am ao (by omega) h1 ha (clash_cls h2 hnf) (.inr rfl) with h | h
          · exact absurd h (J.b4 M am (Nat.le_refl _) h1 (by rw [h2]; decide))
          · omega
  refine ⟨⟨hl, hM⟩, fun {x w'} hres => ?_⟩
  obtain ⟨ρ1, O', Aw, keep, exact', fresh, H1, hv, non1, ⟨e1, he1⟩⟩ := hres
  have len1 : (T i0).h.length ≤ (T (i0 + 1)).h.length := by rw [he1]; simp
  have lenle : ∀ i j, i ≤ j → j ≤ A.length → (T i).h.length ≤ (T j).h.length := fun i j hij hj => by
    have := trace_len KL t (j - i) i (by omega)
    rwa [show i + (j - i) = j from by omega] at this
  have pend0 : ∀ id, (T i0).h.length ≤ id → id < (T (i0 + 1)).h.length → ρ id = none := J.pend i0 hi hn
  obtain ⟨ρ', hρ'⟩ : ∃ ρ' : Rho, ρ' = fun id => if id < (T i0).h.length then ρ id else if id < (T (i0 + 1)).h.length then ρ1 id else ρ id := ⟨_, rfl⟩
  have p1 : ∀ id, id < (T i0).h.length → ρ' id = ρ id := fun id h => by rw [hρ']; simp [h]
  have p2 : ∀ id, (T i0).h.length ≤ id → id < (T (i0 + 1)).h.length → ρ' id = ρ1 id := fun id h h' => by rw [hρ']; simp [Nat.not_lt.2 h, h']
  have p3 : ∀ id, (T (i0 + 1)).h.length ≤ id → ρ' id = ρ id := fun id h => by rw [hρ']; simp [Nat.not_lt.2 h, Nat.not_lt.2 (Nat.le_trans len1 h)]
  have f1 : cutR ρ' (T (i0 + 1)).h.length = ρ1 := by
    funext id
    rcases Nat.lt_or_ge id (T (i0 + 1)).h.length with h | h
    · rw [cutR_lt h]
      rcases Nat.lt_or_ge id (T i0).h.length with h' | h'
      · rw [p1 id h']
        cases hy : ρ id with
        | none => exact (non1 id h' (by rw [cutR_lt h']; exact hy)).symm
        | some y => exact (exact' id y (by rw [cutR_lt h']; exact hy)).symm
      · exact p2 id h' h
    · rw [cutR_ge h]; exact (H1.none_ge h).symm
  have f2 : ∀ k, k ≤ i0 → cutR ρ' (T k).h.length = cutR ρ (T k).h.length := fun k hk => by
    funext id
    rcases Nat.lt_or_ge id (T k).h.length with h | h
    · rw [cutR_lt h, cutR_lt h]
      exact p1 id (Nat.lt_of_lt_of_le h (lenle k i0 hk (by omega)))
    · rw [cutR_ge h, cutR_ge h]
  have f3 : ∀ id y, ρ id = some y → ρ' id = some y := fun id y hy => by
    rcases Nat.lt_or_ge id (T i0).h.length with h | h
    · rw [p1 id h]; exact hy
    · rcases Nat.lt_or_ge id (T (i0 + 1)).h.length with h' | h'
      · rw [pend0 id h h'] at hy; cases hy
      · rw [p3 id h']; exact hy
  have E : Ext ρ ρ' := fun id g pl hid => ⟨g, pl, f3 id _ hid, Nat.le_refl _, fun _ => rfl⟩
  have bd' : ∀ b, O' b → b < w'.heap.size := fun b hb => H1.bd b (.inr hb)
  refine ⟨ρ', O', hcl, J.adv.trans Aw.x, J.ext0.trans E, fun id h1 h2 => by rw [p1 id (Nat.lt_of_lt_of_le h1 (lenle 0 i0 (by omega) (by omega)))]; exact J.non0 id h1 h2, J.lM, J.Mn, fun k ak h1 h2 h3 => .inl (J.b1 k ak h1 h2 h3), J.b2, J.b3,
    fun k ak h1 h2 h3 hk => hk.elim (J.b4 k ak h1 h2 h3) (fun e => by omega), fun k hk1 hk2 => ?_, fun id hid => ?_, fun k hk1 hk2 id h1 h2 => ?_, mid_slots J t KL hO ha hn hd Aw.x E (by rw [f1]; exact hv), fun g cs hg => (J.glob g cs hg).adv E Aw, fun i hi id g p r hid hr => ?_, by rw [size_put]; exact J.size, def0_put J.def0⟩
  · have HJ := J.heap k hk1 hk2
    have blk : ∀ {id g : Nat} {pl : Option Pl}, cutR ρ (T k).h.length id = some (g, pl) → ∀ p, pl = some p → w'.heap[p.b]? = w.heap[p.b]? := fun {id g pl} hid p hp => by
      subst hp
      obtain ⟨r, _, _, hR⟩ := HJ.row id g _ hid
      exact keep _ (RowRep.lt (show RowRep _ w S O r p from hR))
    rcases Nat.lt_or_ge i0 k with hik | hik
    · obtain ⟨e2, he2⟩ := trace_grow t hu (k - (i0 + 1)) (i0 + 1) (by have := J.Mn; omega) fun j aj q1 q2 q3 => J.b2 j aj (by omega) (by omega) q3
      rw [show i0 + 1 + (k - (i0 + 1)) = k from by omega] at he2
      have split : ∀ {id g : Nat} {pl : Option Pl}, cutR ρ' (T k).h.length id = some (g, pl) → cutR ρ (T k).h.length id = some (g, pl) ∨ ((T i0).h.length ≤ id ∧ ρ1 id = some (g, pl)) := fun {id g pl} hid => by
        obtain ⟨q1, q2⟩ := cutR_some hid
        rcases Nat.lt_or_ge id (T i0).h.length with h | h
        · left; rw [cutR_lt q1, ← p1 id h]; exact q2
        · rcases Nat.lt_or_ge id (T (i0 + 1)).h.length with h' | h'
          · right; exact ⟨h, by rw [← p2 id h h']; exact q2⟩
          · left; rw [cutR_lt q1, ← p3 id h']; exact q2
      have newb : ∀ {id g : Nat} {p : Pl}, (T i0).h.length ≤ id → ρ1 id = some (g, some p) → w.heap.size ≤ p.b := fun {id g p} hid h1 => by
        rcases fresh id g p h1 with h | h
        · have := (cutR_some h).1; omega
        · exact h
      have oldb : ∀ {id g : Nat} {p : Pl}, cutR ρ (T k).h.length id = some (g, some p) → p.b < w.heap.size := fun {id g p} h1 => by
        obtain ⟨r, _, _, hR⟩ := HJ.row id g _ h1
        exact RowRep.lt (show RowRep _ w S O r p from hR)
      refine HJ.step (E.cut _) Aw bd' (fun id g pl hid => ?_) (fun id id' g g' p p' h1 h2 hb => ?_)
      · rcases split hid with h | ⟨h, h'⟩
        · exact .inl ⟨h, rfl, blk h⟩
        · obtain ⟨r, q1, q2, q3⟩ := H1.row id g pl h'
          refine .inr ⟨r, by rw [he2, List.getElem?_append_left (H1.lt h')]; exact q1, q2, ?_⟩
          cases pl with
          | none => exact q3
          | some p => exact RowRep.adv (show RowRep ρ1 w' S O' r p from q3) (by rw [← f1]; exact ext_cut (lenle _ _ (by omega) (by have := J.Mn; omega))) (.refl w' O') rfl
      · rcases split h1 with h1 | ⟨l1, h1⟩ <;> rcases split h2 with h2 | ⟨l2, h2⟩
        · exact HJ.inj id id' g g' p p' h1 h2 hb
        · have := oldb h1; have := newb l2 h2; omega
        · have := oldb h2; have := newb l1 h1; omega
        · exact H1.inj id id' g g' p p' h1 h2 hb
    · rw [f2 k hik]
      exact HJ.step (.refl _) Aw bd' (fun id g pl hid => .inl ⟨hid, rfl, blk hid⟩) HJ.inj
  · rw [p3 id (Nat.le_trans (lenle (i0 + 1) M hM J.Mn) hid)]; exact J.dom id hid
  · have hne : k ≠ i0 := fun e => hk2 (.inr e)
    have hnd : ¬ D k := fun h => hk2 (.inl h)
    rcases Nat.lt_or_ge k i0 with h | h
    · rw [p1 id (Nat.lt_of_lt_of_le h2 (lenle (k + 1) i0 h (by omega)))]; exact J.pend k hk1 hnd id h1 h2
    · rw [p3 id (Nat.le_trans (lenle (i0 + 1) k (by omega) (by omega)) h1)]; exact J.pend k hk1 hnd id h1 h2
  · rcases Nat.lt_or_ge id (T i0).h.length with h | h
    · rw [p1 id h] at hid; exact J.kinv i hi id g p r hid hr
    · rcases Nat.lt_or_ge id (T (i0 + 1)).h.length with h' | h'
      · rw [p2 id h h'] at hid
        obtain ⟨r1, q1, _, q3⟩ := H1.row id g _ hid
        have hlt := (List.getElem?_eq_some_iff.1 hr).1
        have hii : i0 + 1 ≤ i := by
          rcases Nat.lt_or_ge i0 i with h2 | h2
          · exact h2
          · have := lenle i i0 h2 (by omega); omega
        have hk := trace_k KL t (i - (i0 + 1)) (i0 + 1) (by omega) id r1 q1
        rw [show i0 + 1 + (i - (i0 + 1)) = i from by omega, hr] at hk
        obtain ⟨y, hy, e⟩ := hk
        cases hy
        exact (RowRep.k (show RowRep ρ1 w' S O' r1 p from q3)).trans e.symm
      · rw [p3 id h'] at hid; exact J.kinv i hi id g p r hid hr

theorem mid_change (J : Mid D0 G B A qs T N S ρ0 w0 O0 D a w ρ O l M) (t : Trace G raw A T V) (hu : Hush A T qs) (KL : ∀ f as h r, raw f as h = some r → KeepK h r.2) (hO : Ordered B A qs) (ha : A[i0]? = some ao) (hr : ∀ i, B i0 i → D i) (hn : ¬ D i0) (hd : ∀ d, ao.dst = some d → d < N)
    (hc : qc qs i0 ao = .change) : (i0 = M ∧ Heap ρ w S O (T i0).h ∧ cutR ρ (T i0).h.length = ρ) ∧ ∀ {x : Value} {w' : World}, ResW ρ w S O (T i0).h (V i0) (T (i0 + 1)).h x w' → ∃ ρ' O' l' M', Mid D0 G B A qs T N S ρ0 w0 O0 (fun k => D k ∨ k = i0) (a.put ao.dst x) w' ρ' O' l' M' := by
  have hcl := mid_closed J hr
  have hi : i0 < A.length := (List.getElem?_eq_some_iff.1 ha).1
  have hnf : qc qs i0 ao ≠ .free := by rw [hc]; decide
  have hiM : i0 = M := by
    rcases Nat.lt_or_ge i0 l with h | h
    · exact absurd (J.b1 i0 ao h ha hnf) hn
    rcases Nat.lt_or_ge i0 M with h' | h'
    · exact absurd hc (J.b2 i0 ao h h' ha)
    rcases J.b3 with e | ⟨am, h1, h2⟩
    · omega
    by_cases e : i0 = M
    · exact e
    · rcases hO _ hcl M i0 am ao (by omega) h1 ha (clash_cls h2 hnf) (.inr rfl) with h | h
      · exact absurd h (J.b4 M am (Nat.le_refl _) h1 (by rw [h2]; decide))
      · omega
  subst hiM
  have hcut : cutR ρ (T i0).h.length = ρ := cutR_all J.dom
  have HM : Heap ρ w S O (T i0).h := by have := J.heap i0 J.lM (Nat.le_refl _); rwa [hcut] at this
  refine ⟨⟨rfl, HM, hcut⟩, fun {x w'} hres => ?_⟩
  obtain ⟨ρ', O', Aw, E, H1, hv, non1⟩ := hres
  have lenle : ∀ i j, i ≤ j → j ≤ A.length → (T i).h.length ≤ (T j).h.length := fun i j hij hj => by
    have := trace_len KL t (j - i) i (by omega)
    rwa [show i + (j - i) = j from by omega] at this
  obtain ⟨M', m1, m2, m3, m4⟩ := first_change A qs (A.length - (i0 + 1)) (i0 + 1) (by omega)
  have dom1 : ∀ id, (T (i0 + 1)).h.length ≤ id → ρ' id = none := fun id hid => H1.none_ge hid
  have cut1 : ∀ k, i0 + 1 ≤ k → k ≤ A.length → cutR ρ' (T k).h.length = ρ' := fun k hk hk' => cutR_all fun id hid => dom1 id (Nat.le_trans (lenle _ _ hk hk') hid)
  have done : ∀ k ak, k < i0 → A[k]? = some ak → qc qs k ak ≠ .free → D k := fun k ak hk h1 h2 => by
    rcases hO _ hcl k i0 ak ao hk h1 ha (clash_cls' hc h2) (.inr rfl) with h | h
    · exact h
    · omega
  refine ⟨ρ', O', i0 + 1, M', hcl, J.adv.trans Aw, J.ext0.trans E, fun id h1 h2 => non1 id (Nat.lt_of_lt_of_le h1 (lenle 0 i0 (by omega) (by omega))) (J.non0 id h1 h2), m1, m2, fun k ak h1 h2 h3 => ?_, m3, m4, fun k ak h1 h2 h3 hk => ?_, fun k hk1 hk2 => ?_, fun id hid => dom1 id (Nat.le_trans (lenle _ _ m1 m2) hid),
    fun k hk1 hk2 id h1 h2 => ?_, mid_slots J t KL hO ha hn hd Aw E (by rw [cut1 (i0 + 1) (Nat.le_refl _) hi]; exact hv), fun g cs hg => (J.glob g cs hg).advX E Aw, fun i hi' id g p r hid hr => ?_, by rw [size_put]; exact J.size, def0_put J.def0⟩
  · by_cases e : k = i0
    · exact .inr e
    · exact .inl (done k ak (by omega) h2 h3)
  · rcases hk with hk | hk
    · exact J.b4 k ak (by omega) h2 h3 hk
    · omega
  · obtain ⟨e2, he2⟩ := trace_grow t hu (k - (i0 + 1)) (i0 + 1) (by omega) fun j aj q1 q2 q3 => m3 j aj (by omega) (by omega) q3
    rw [show i0 + 1 + (k - (i0 + 1)) = k from by omega] at he2
    rw [cut1 k hk1 (by omega), he2]
    exact H1.more e2
  · have hne : k ≠ i0 := fun e => hk2 (.inr e)
    have hnd : ¬ D k := fun h => hk2 (.inl h)
    rcases Nat.lt_or_ge k i0 with h | h
    · exact non1 id (Nat.lt_of_lt_of_le h2 (lenle (k + 1) i0 h (by omega))) (J.pend k hk1 hnd id h1 h2)
    · exact dom1 id (Nat.le_trans (lenle _ _ (by omega) (by omega)) h1)
  · obtain ⟨r1, q1, _, q3⟩ := H1.row id g _ hid
    have hp := RowRep.k (show RowRep ρ' w' S O' r1 p from q3)
    rcases Nat.lt_or_ge i0 i with h2 | h2
    · have hk := trace_k KL t (i - (i0 + 1)) (i0 + 1) (by omega) id r1 q1
      rw [show i0 + 1 + (i - (i0 + 1)) = i from by omega, hr] at hk
      obtain ⟨y, hy, e⟩ := hk
      cases hy
      exact hp.trans e.symm
    · have hk := trace_k KL t (i0 + 1 - i) i (by omega) id r hr
      rw [show i + (i0 + 1 - i) = i0 + 1 from by omega, q1] at hk
      obtain ⟨y, hy, e⟩ := hk
      cases hy
      exact hp.trans e
/-- A value whose rows lie below a number: the places of the others are nothing to it. -/
theorem rep_cut {n : Nat} {v : AV} {x : Value} (h : RepV ρ w S O v x) (hi : ∀ i ∈ v.ids, i < n) : RepV (cutR ρ n) w S O v x := by
  have idsL_mem : ∀ {cs : List AV} {i : Nat} {c : AV}, cs[i]? = some c → ∀ k ∈ c.ids, k ∈ AV.idsL cs := by
    intro cs
    induction cs with
    | nil => intro i c h; simp at h
    | cons y cs ih =>
      intro i c h k hk
      rw [AV.idsL]
      cases i with
      | zero => simp at h; subst h; exact List.mem_append_left _ hk
      | succ i => exact List.mem_append_right _ (ih (by simpa using h) k hk)
  induction h with
  | s h => exact .s h
  | agg cs vs hl h1 _ ih => exact .agg cs vs hl h1 fun i c v hc hv => ih i c v hc hv fun k hk => hi k (by rw [AV.ids]; exact idsL_mem hc k hk)
  | tup cs vs hl _ ih => exact .tup cs vs hl fun i c v hc hv => ih i c v hc hv fun k hk => hi k (by rw [AV.ids]; exact idsL_mem hc k hk)
  | fn f as bs xs ys h1 h2 _ _ ih1 ih2 =>
    exact .fn f as bs xs ys h1 h2 (fun i c v hc hv => ih1 i c v hc hv fun k hk => hi k (by rw [AV.ids]; exact List.mem_append_left _ (idsL_mem hc k hk)))
      (fun i c v hc hv => ih2 i c v hc hv fun k hk => hi k (by rw [AV.ids]; exact List.mem_append_right _ (idsL_mem hc k hk)))
  | bor0 k full a cap h => exact .bor0 k full a cap h
  | bor k es full b off cap val h1 h2 h3 h4 h5 h6 h7 => exact .bor k es full b off cap val h1 h2 h3 h4 h5 h6 h7
  | dptr cs b off val h1 h2 h3 h4 => exact .dptr cs b off val h1 h2 h3 h4
  | own id g g' pl s l c a cap h1 h2 h3 h4 h5 h6 => exact .own id g g' pl s l c a cap (by rw [cutR_lt (hi id (by simp [AV.ids]))]; exact h1) h2 h3 h4 h5 h6
  | ptr id g g' pl e off a h1 h2 h3 => exact .ptr id g g' pl e off a (by rw [cutR_lt (hi id (by simp [AV.ids]))]; exact h1) h2 h3
  | unk x => exact .unk x

/-- An operation that looks at rows, done where other changes were done first or last. -/
theorem mid_quiet (J : Mid D0 G B A qs T N S ρ0 w0 O0 D a w ρ O l M) (t : Trace G raw A T V) (KL : ∀ f as h r, raw f as h = some r → KeepK h r.2) (hO : Ordered B A qs) (ha : A[i0]? = some ao) (hr : ∀ i, B i0 i → D i) (hn : ¬ D i0) (hd : ∀ d, ao.dst = some d → d < N)
    (hc : qc qs i0 ao = .free) (hh : (T (i0 + 1)).h = (T i0).h) (hids : ∀ i ∈ (V i0).ids, i < (T i0).h.length) {x : Value} {w' : World} (hres : ResN ρ w S O (T M).h (V i0) (T M).h x w') : ∃ O', Mid D0 G B A qs T N S ρ0 w0 O0 (fun k => D k ∨ k = i0) (a.put ao.dst x) w' ρ O' l M := by
  obtain ⟨ρ1, O', Aw, keep, exact', fresh, H1, hv, non1, _⟩ := hres
  have hρ : ρ1 = ρ := by
    funext id
    rcases Nat.lt_or_ge id (T M).h.length with h | h
    · cases hy : ρ id with
      | none => exact non1 id h hy
      | some y => exact exact' id y hy
    · rw [H1.none_ge h, J.dom id h]
  subst hρ
  have bd' : ∀ b, O' b → b < w'.heap.size := fun b hb => H1.bd b (.inr hb)
  refine ⟨O', mid_closed J hr, J.adv.trans Aw.x, J.ext0, J.non0, J.lM, J.Mn, fun k ak h1 h2 h3 => .inl (J.b1 k ak h1 h2 h3), J.b2, J.b3, fun k ak h1 h2 h3 hk => hk.elim (J.b4 k ak h1 h2 h3) (fun e => by subst e; rw [ha] at h2; cases h2; exact h3 hc), fun k hk1 hk2 => ?_, J.dom,
    fun k h1 h2 => J.pend k h1 (fun h => h2 (.inl h)), mid_slots J t KL hO ha hn hd Aw.x (.refl ρ1) (by rw [hh]; exact rep_cut hv hids), fun g cs hg => (J.glob g cs hg).adv (.refl ρ1) Aw, J.kinv, by rw [size_put]; exact J.size, def0_put J.def0⟩
  have HJ := J.heap k hk1 hk2
  exact HJ.step (.refl _) Aw bd' (fun id g pl hid => .inl ⟨hid, rfl, fun p hp => by
    subst hp
    obtain ⟨r, _, _, hR⟩ := HJ.row id g _ hid
    exact keep _ (RowRep.lt (show RowRep _ w S O r p from hR))⟩) HJ.inj
/-- A row of what hangs on no row. -/
theorem RowRep.flat_any {ρ2 : Rho} {r : ARow} {p : Pl} (h : RowRep ρ w S O r p) (hf : r.flat = true) : RowRep ρ2 w S O r p := by
  obtain ⟨h1, h2, h3, h4, arr, ty, lo, hi, q1, q2, q3, q4⟩ := h
  refine ⟨h1, h2, h3, h4, arr, ty, lo, hi, q1, q2, q3, fun e j g c hg hc => ?_⟩
  obtain ⟨x, x1, x2, _, x4⟩ := q4 e j g c hg hc
  exact ⟨x, x1, x2, .s (x4 hf), x4⟩
/-- What an operation that makes a row comes to, whatever rows there are. -/
theorem early_exec {env : AEnv} {h h' : List ARow} {v : AV} {op : AOp} (he : op.early = true) (hx : aexecOp G raw env h op = some (v, h')) :
    ∃ row, h' = h ++ [row] ∧ row.gen = 0 ∧ ∃ mk : Nat → AV, v = mk h.length ∧ (∀ hm, aexecOp G raw env hm op = some (mk hm.length, hm ++ [row])) ∧ ((∃ n, mk = fun i => .own i 0 0 n n) ∨ mk = fun i => .ptr i 0 0 0) := by
  cases op <;> simp only [AOp.early, Bool.false_eq_true] at he
  case mkslice k n z ps =>
    obtain ⟨u, hu, hx⟩ := opt_bind_some.1 hx
    obtain ⟨cs, hcs, e⟩ := opt_map_some.1 hx
    cases e
    exact ⟨_, rfl, rfl, fun i => .own i 0 0 n n, rfl, fun hm => opt_bind_some.2 ⟨u, hu, opt_map_some.2 ⟨cs, hcs, rfl⟩⟩, .inl ⟨n, rfl⟩⟩
  case alloc z =>
    cases hx
    exact ⟨_, rfl, rfl, fun i => .ptr i 0 0 0, rfl, fun hm => rfl, .inr rfl⟩

/-- A row that is made where later changes were done first. -/
theorem mid_early (J : Mid D0 G B A qs T N S ρ0 w0 O0 D a w ρ O l M) (t : Trace G raw A T V) (hu : Hush A T qs) (KL : ∀ f as h r, raw f as h = some r → KeepK h r.2) (hO : Ordered B A qs) (ha : A[i0]? = some ao) (hr : ∀ i, B i0 i → D i) (hn : ¬ D i0) (hd : ∀ d, ao.dst = some d → d < N)
    (hc : qc qs i0 ao = .free) (hiM : i0 < M) {row : ARow} (hrow : (T (i0 + 1)).h = (T i0).h ++ [row]) (hgen : row.gen = 0) (hfl : row.flat = true) (hm : (T M).h[(T i0).h.length]? = some row) {mk : Nat → AV} (hmk : (∃ n, mk = fun i => .own i 0 0 n n) ∨ mk = fun i => .ptr i 0 0 0) (hV : V i0 = mk (T i0).h.length)
    {x : Value} {w' : World} (hres : ResN ρ w S O (T M).h (mk (T M).h.length) ((T M).h ++ [row]) x w') : ∃ ρ' O', Mid D0 G B A qs T N S ρ0 w0 O0 (fun k => D k ∨ k = i0) (a.put ao.dst x) w' ρ' O' l M := by
  have hi : i0 < A.length := (List.getElem?_eq_some_iff.1 ha).1
  obtain ⟨ρ1, O', Aw, keep, exact', fresh, H1, hv, non1, _⟩ := hres
  have lenle : ∀ i j, i ≤ j → j ≤ A.length → (T i).h.length ≤ (T j).h.length := fun i j hij hj => by
    have := trace_len KL t (j - i) i (by omega)
    rwa [show i + (j - i) = j from by omega] at this
  have len1 : (T (i0 + 1)).h.length = (T i0).h.length + 1 := by rw [hrow]; simp
  have lenM : (T i0).h.length + 1 ≤ (T M).h.length := by rw [← len1]; exact lenle _ _ hiM J.Mn
  have pend0 : ρ (T i0).h.length = none := J.pend i0 hi hn _ (Nat.le_refl _) (by omega)
  -- the new row's place
  obtain ⟨pl, hpl⟩ : ∃ pl, ρ1 (T M).h.length = some (0, pl) := by
    have : ∃ g pl, ρ1 (T M).h.length = some (g, pl) := by
      rcases hmk with ⟨n, rfl⟩ | rfl
      · cases hv with
        | s h => cases h
        | own _ _ g' pl _ _ _ _ _ h1 => exact ⟨_, _, h1⟩
      · cases hv with
        | s h => cases h
        | ptr _ _ g' pl _ _ _ h1 => exact ⟨_, _, h1⟩
    obtain ⟨g, pl, hg⟩ := this
    obtain ⟨r, q1, q2, _⟩ := H1.row _ g pl hg
    rw [List.getElem?_append_right (Nat.le_refl _), Nat.sub_self] at q1
    simp at q1
    subst q1
    rw [hgen] at q2
    subst q2
    exact ⟨pl, hg⟩
  obtain ⟨r, q1, q2, hRow⟩ := H1.row _ _ _ hpl
  rw [List.getElem?_append_right (Nat.le_refl _), Nat.sub_self] at q1
  simp at q1
  subst q1
  have hρ : ∀ id, id ≠ (T M).h.length → ρ1 id = ρ id := fun id hid => by
    rcases Nat.lt_or_ge id (T M).h.length with h | h
    · cases hy : ρ id with
      | none => exact non1 id h hy
      | some y => exact exact' id y hy
    · rw [H1.none_ge (by simp; omega), J.dom id h]
  obtain ⟨ρ', hρ'⟩ : ∃ ρ' : Rho, ρ' = fun id => if id = (T i0).h.length then some (0, pl) else ρ id := ⟨_, rfl⟩
  have p1 : ρ' (T i0).h.length = some (0, pl) := by rw [hρ']; simp
  have p2 : ∀ id, id ≠ (T i0).h.length → ρ' id = ρ id := fun id h => by rw [hρ']; simp [h]
  have E : Ext ρ ρ' := fun id g pl' hid => ⟨g, pl', by rw [p2 id (fun e => by rw [e, pend0] at hid; cases hid)]; exact hid, Nat.le_refl _, fun _ => rfl⟩
  have bd' : ∀ b, O' b → b < w'.heap.size := fun b hb => H1.bd b (.inr hb)
  have newb : ∀ p, pl = some p → w.heap.size ≤ p.b := fun p hp => by
    subst hp
    rcases fresh _ _ p hpl with h | h
    · rw [J.dom _ (Nat.le_refl _)] at h; cases h
    · exact h
  have rowAny : ∀ ρ2, RowIs ρ2 w' S O' row pl := fun ρ2 => by
    cases pl with
    | none => exact hRow
    | some p => exact RowRep.flat_any (show RowRep ρ1 w' S O' row p from hRow) hfl
  have hx : RepV (cutR ρ' (T (i0 + 1)).h.length) w' S O' (V i0) x := by
    have hc1 : cutR ρ' (T (i0 + 1)).h.length (T i0).h.length = some (0, pl) := by rw [cutR_lt (by omega)]; exact p1
    rw [hV]
    rcases hmk with ⟨n, rfl⟩ | rfl
    · cases hv with
      | s h => cases h
      | own _ _ g' pl' _ _ _ a0 cap h1 h2 h3 h4 h5 h6 =>
        rw [hpl] at h1
        cases h1
        exact .own _ 0 0 pl 0 n n a0 cap hc1 (Nat.le_refl _) h3 h4 h5 h6
    · cases hv with
      | s h => cases h
      | ptr _ _ g' pl' _ _ a0 h1 h2 h3 =>
        rw [hpl] at h1
        cases h1
        exact .ptr _ 0 0 pl 0 0 a0 hc1 (Nat.le_refl _) h3
  refine ⟨ρ', O', mid_closed J hr, J.adv.trans Aw.x, J.ext0.trans E, fun id h1 h2 => by rw [p2 id (by have := lenle 0 i0 (by omega) (by omega); omega)]; exact J.non0 id h1 h2, J.lM, J.Mn, fun k ak h1 h2 h3 => .inl (J.b1 k ak h1 h2 h3), J.b2, J.b3, fun k ak h1 h2 h3 hk => hk.elim (J.b4 k ak h1 h2 h3) (fun e => by subst e; rw [ha] at h2; cases h2; exact h3 hc),
    fun k hk1 hk2 => ?_, fun id hid => by rw [p2 id (by omega)]; exact J.dom id hid, fun k hk1 hk2 id h1 h2 => ?_, mid_slots J t KL hO ha hn hd Aw.x E hx, fun g cs hg => (J.glob g cs hg).adv E Aw, fun i hi' id g p r hid hr' => ?_, by rw [size_put]; exact J.size, def0_put J.def0⟩
  · have HJ := J.heap k hk1 hk2
    have oldb : ∀ {id g : Nat} {p : Pl}, cutR ρ (T k).h.length id = some (g, some p) → p.b < w.heap.size := fun {id g p} h1 => by
      obtain ⟨r, _, _, hR⟩ := HJ.row id g _ h1
      exact RowRep.lt (show RowRep _ w S O r p from hR)
    have split : ∀ {id g : Nat} {pl' : Option Pl}, cutR ρ' (T k).h.length id = some (g, pl') → cutR ρ (T k).h.length id = some (g, pl') ∨ (id = (T i0).h.length ∧ g = 0 ∧ pl' = pl ∧ id < (T k).h.length) := fun {id g pl'} hid => by
      obtain ⟨u1, u2⟩ := cutR_some hid
      by_cases e : id = (T i0).h.length
      · subst e
        rw [p1] at u2
        cases u2
        exact .inr ⟨rfl, rfl, rfl, u1⟩
      · left; rw [cutR_lt u1, ← p2 id e]; exact u2
    refine HJ.step (E.cut _) Aw bd' (fun id g pl' hid => ?_) (fun id id' g g' p p' h1 h2 hb => ?_)
    · rcases split hid with h | ⟨rfl, rfl, rfl, h⟩
      · exact .inl ⟨h, rfl, fun p hp => by subst hp; obtain ⟨r, _, _, hR⟩ := HJ.row id g _ h; exact keep _ (RowRep.lt (show RowRep _ w S O r p from hR))⟩
      · obtain ⟨e2, he2⟩ := trace_grow t hu (M - k) k (by have := J.Mn; omega) fun j aj q1 q2 q3 => J.b2 j aj (by omega) (by omega) q3
        rw [show k + (M - k) = M from by omega] at he2
        rw [he2, List.getElem?_append_left h] at hm
        exact .inr ⟨row, hm, hgen, rowAny _⟩
    · rcases split h1 with h1 | ⟨e1, _, r1, _⟩ <;> rcases split h2 with h2 | ⟨e2, _, r2, _⟩
      · exact HJ.inj id id' g g' p p' h1 h2 hb
      · have := oldb h1; have := newb p' r2.symm; omega
      · have := oldb h2; have := newb p r1.symm; omega
      · omega
  · have hne : k ≠ i0 := fun e => hk2 (.inr e)
    have hnd : ¬ D k := fun h => hk2 (.inl h)
    rw [p2 id (by
      rcases Nat.lt_or_ge k i0 with h | h
      · have := lenle (k + 1) i0 h (by omega); omega
      · have := lenle (i0 + 1) k (by omega) (by omega); omega)]
    exact J.pend k hk1 hnd id h1 h2
  · by_cases e : id = (T i0).h.length
    · subst e
      rw [p1] at hid
      cases hid
      have hlt := (List.getElem?_eq_some_iff.1 hr').1
      have hii : i0 + 1 ≤ i := by
        rcases Nat.lt_or_ge i0 i with h2 | h2
        · exact h2
        · have := lenle i i0 h2 (by omega); omega
      have hk := trace_k KL t (i - (i0 + 1)) (i0 + 1) (by omega) (T i0).h.length row (by rw [hrow, List.getElem?_append_right (Nat.le_refl _), Nat.sub_self]; rfl)
      rw [show i0 + 1 + (i - (i0 + 1)) = i from by omega, hr'] at hk
      obtain ⟨y, hy, e⟩ := hk
      cases hy
      exact (RowRep.k (show RowRep ρ1 w' S O' row p from hRow)).trans e.symm
    · rw [p2 id e] at hid
      exact J.kinv i hi' id g p r hid hr'
end
end Go.Proofs.Ytfnonledcniojaa
/- Regions in any order that the text allows, whole; code; functions. Conditions: none. -/
namespace Go.Proofs.Ytfnonledcniojaa
open Go Go.RowKit
variable [FrB]
section
variable {D0 : List Deferred × Nat} {P : Program} {G : Nat → Option (List AV)} {raw : ARaw} {ρ0 ρ ρ' : Rho} {w0 w w' : World} {S O0 O O' : Nat → Prop} {a : Act} {ops : Array Oper} {B : Nat → Nat → Prop} {A : List AOper} {T : Nat → ASt} {V : Nat → AV} {N : Nat} {D : Nat → Prop} {l M : Nat} {qs : List Nat}

theorem goes_congr {ao : AOper} {env env' : AEnv} (hs : ∀ s ∈ ao.reads, look env' s = look env s) : goes ao env' = goes ao env := by
  unfold goes
  cases hg : ao.guard with
  | none => rfl
  | some g =>
    obtain ⟨s, wt⟩ := g
    simp only
    rw [hs s (by simp [AOper.reads, hg])]
theorem mid_eq {D' : Nat → Prop} (hD : ∀ k, D k ↔ D' k) (J : Mid D0 G B A qs T N S ρ0 w0 O0 D a w ρ O l M) : Mid D0 G B A qs T N S ρ0 w0 O0 D' a w ρ O l M := by
  have : D = D' := funext fun k => propext (hD k)
  rw [← this]; exact J
def MidE (D0 : List Deferred × Nat) (G : Nat → Option (List AV)) (B : Nat → Nat → Prop) (A : List AOper) (qs : List Nat) (T : Nat → ASt) (N : Nat) (S : Nat → Prop) (ρ0 : Rho) (w0 : World) (O0 : Nat → Prop) (D : Nat → Prop) (a : Act) (w : World) : Prop := ∃ ρ O l M, Mid D0 G B A qs T N S ρ0 w0 O0 D a w ρ O l M

/-- Where a quiet operation is done, it answers as in the order told. -/
def QuietOk (G : Nat → Option (List AV)) (raw : ARaw) (B : Nat → Nat → Prop) (A : List AOper) (qs : List Nat) (T : Nat → ASt) (V : Nat → AV) : Prop := ∀ i0 ao, A[i0]? = some ao → qs.contains i0 = true → ao.op.cls = .new ∧ (goes ao (T i0).env = some true →
  ∀ D M, ClosedB B D → (∀ i, B i0 i → D i) → ¬ D i0 → M ≤ A.length → (M = A.length ∨ ∃ am, A[M]? = some am ∧ qc qs M am = .change ∧ ¬ D M) → (∀ k ak, k < M → A[k]? = some ak → qc qs k ak = .change → D k) →
    (ao.op.early = false → (T (i0 + 1)).h = (T i0).h ∧ (∀ i ∈ (V i0).ids, i < (T i0).h.length) ∧ aexecOp G raw (T i0).env (T M).h ao.op = some (V i0, (T M).h)) ∧
    (ao.op.early = true → ∃ row, (T (i0 + 1)).h[(T i0).h.length]? = some row ∧ row.flat = true ∧ (T M).h[(T i0).h.length]? = some row))
theorem mid_step {i0 : Nat} {ao : AOper} {o : Oper} {next : Act → World → Prop} {Q : Exit → Act → World → Prop} (J : MidE D0 G B A qs T N S ρ0 w0 O0 D a w) (t : Trace G raw A T V) (hu : Hush A T qs) (hQ : QuietOk G raw B A qs T V) (K : CallOk P G raw) (KL : ∀ f as h r, raw f as h = some r → KeepK h r.2) (hO : Ordered B A qs)
    (ha : A[i0]? = some ao) (hchk : chkOper P ops o ao = true) (hr : ∀ i, B i0 i → D i) (hn : ¬ D i0) (hd : ∀ d, o.dst = some d → d < N)
    (hnext : ∀ a' w', MidE D0 G B A qs T N S ρ0 w0 O0 (fun k => D k ∨ k = i0) a' w' → next a' w') :
    if Region.wanted o (yielded ops a.tmps) then o.wp P a w next Q ∨ (o.asks P a w ∧ LetsOut Q) else next (a.put o.dst undef) w := by
  obtain ⟨ρ, O, l, M, J⟩ := J
  obtain ⟨h1, h2, _⟩ := chkOper_parts hchk
  rw [h1] at hd
  have rd := mid_reads J hO ha hr hn
  have R : Rel G (cutR ρ (T i0).h.length) w S O (akeep ao.reads (T i0).env) a := ⟨fun s v hs => (by
    rw [look_akeep] at hs
    split at hs
    · rename_i hm; exact rd s hm v hs
    · cases hs), fun g cs hg => dptr_any (J.glob g cs hg)⟩
  have lk : ∀ s ∈ ao.reads, look (akeep ao.reads (T i0).env) s = look (T i0).env s := fun s hs => by rw [look_akeep, if_pos hs]
  obtain ⟨b, hb, hrun⟩ := t.run i0 ao ha
  rw [← goes_congr lk] at hb
  rw [wanted_of hchk (fun s wt _ v hv => R.env s v hv) hb]
  rcases hrun with ⟨rfl, hx⟩ | ⟨rfl, hV, hh⟩
  · simp only [if_true]
    rw [← exec_congr (env' := akeep ao.reads (T i0).env) (fun s hs => lk s (by simp [AOper.reads, hs]))] at hx
    refine .inl ?_
    by_cases hq : qs.contains i0 = true
    · obtain ⟨c1, c2⟩ := hQ i0 ao ha hq
      have hfree : qc qs i0 ao = .free := by unfold qc; rw [if_pos hq]
      have hcut : cutR ρ (T M).h.length = ρ := cutR_all J.dom
      have HM : Heap ρ w S O (T M).h := by have := J.heap M J.lM (Nat.le_refl _); rwa [hcut] at this
      have RM : Rel G ρ w S O (akeep ao.reads (T i0).env) a := R.adv (fun id g pl hid => ⟨g, pl, (cutR_some hid).2, Nat.le_refl _, fun _ => rfl⟩) (.refl w O)
      obtain ⟨c3, c4⟩ := c2 ((goes_congr lk).symm.trans hb) D M J.closed hr hn J.Mn (by
        rcases J.b3 with e | ⟨am, h1, h2⟩
        · exact .inl e
        · exact .inr ⟨am, h1, h2, J.b4 M am (Nat.le_refl _) h1 (by rw [h2]; decide)⟩) fun k ak h1 h2 h3 => (by
        rcases Nat.lt_or_ge k l with h | h
        · exact J.b1 k ak h h2 (by rw [h3]; decide)
        · exact absurd h3 (J.b2 k ak h h1 h2))
      have lkx : ∀ hm, aexecOp G raw (akeep ao.reads (T i0).env) hm ao.op = aexecOp G raw (T i0).env hm ao.op := fun hm => exec_congr (fun s hs => lk s (by simp [AOper.reads, hs]))
      rw [lkx] at hx
      cases he : ao.op.early with
      | false =>
        obtain ⟨d1, d2, d3⟩ := c3 he
        rw [← lkx] at d3
        refine (exec_new K c1 h2 RM HM d3).upon fun x' w' hxw => hnext _ _ ?_
        obtain ⟨O', J'⟩ := mid_quiet J t KL hO ha hr hn hd hfree d1 d2 hxw
        rw [h1]
        exact ⟨ρ, O', l, M, J'⟩
      | true =>
        obtain ⟨row, d1, d2, d3⟩ := c4 he
        obtain ⟨row', f1, f2, mk, f3, f4, f5⟩ := early_exec he hx
        have : row' = row := by
          rw [f1, List.getElem?_append_right (Nat.le_refl _), Nat.sub_self] at d1
          simpa using d1
        subst this
        have hiM : i0 < M := by
          rcases Nat.lt_or_ge i0 M with h | h
          · exact h
          · exfalso
            have hi := (List.getElem?_eq_some_iff.1 ha).1
            rcases J.b3 with e | ⟨am, g1, g2⟩
            · omega
            · by_cases e : i0 = M
              · subst e; rw [ha] at g1; cases g1; rw [hfree] at g2; cases g2
              · rcases hO _ (mid_closed J hr) M i0 am ao (by omega) g1 ha (clash_early g2 hq he) (.inr rfl) with h' | h'
                · exact J.b4 M am (Nat.le_refl _) g1 (by rw [g2]; decide) h'
                · omega
        have hx2 := f4 (T M).h
        rw [← lkx] at hx2
        refine (exec_new K c1 h2 RM HM hx2).upon fun x' w' hxw => hnext _ _ ?_
        obtain ⟨ρ', O', J'⟩ := mid_early J t hu KL hO ha hr hn hd hfree hiM f1 f2 d2 d3 f5 f3 hxw
        rw [h1]
        exact ⟨ρ', O', l, M, J'⟩
    have hqc : qc qs i0 ao = ao.op.cls := by unfold qc; rw [if_neg hq]
    cases hc : ao.op.cls with
    | free =>
      rw [hc] at hqc
      obtain ⟨⟨x, q1, q2⟩, q3⟩ := exec_free hc h2 R (J.kinv i0 (Nat.le_of_lt (List.getElem?_eq_some_iff.1 ha).1)).cut hx
      have : Yield P ((execOp a.eval o).run P w) (fun x' w' => x' = x ∧ w' = w) := .inl ⟨x, w, .inl q1, rfl, rfl⟩
      refine this.upon fun x' w' hxw => hnext _ _ ?_
      obtain ⟨rfl, rfl⟩ := hxw
      rw [h1]
      exact ⟨ρ, O, l, M, mid_free J t KL hO ha hr hn hd hqc q2 q3⟩
    | new =>
      rw [hc] at hqc
      obtain ⟨⟨m1, m2⟩, m3⟩ := mid_new J t hu KL hO ha hr hn hd hqc
      refine (exec_new K hc h2 R (J.heap i0 m1 (by omega)) hx).upon fun x' w' hxw => hnext _ _ ?_
      obtain ⟨ρ', O', J'⟩ := m3 hxw
      rw [h1]
      exact ⟨ρ', O', l, M, J'⟩
    | change =>
      rw [hc] at hqc
      obtain ⟨⟨m1, m2, m4⟩, m3⟩ := mid_change J t hu KL hO ha hr hn hd hqc
      rw [m4] at R
      refine (exec_any K h2 R m2 hx).upon fun x' w' hxw => hnext _ _ ?_
      obtain ⟨ρ', O', l', M', J'⟩ := m3 hxw
      rw [h1]
      exact ⟨ρ', O', l', M', J'⟩
  · simp only [Bool.false_eq_true, if_false]
    rw [h1]
    refine hnext _ _ ?_
    cases hc : qc qs i0 ao with
    | free => exact ⟨ρ, O, l, M, mid_free J t KL hO ha hr hn hd hc (by rw [hV]; exact rep_undef) hh⟩
    | new =>
      obtain ⟨⟨m1, m2⟩, m3⟩ := mid_new J t hu KL hO ha hr hn hd hc
      obtain ⟨ρ', O', J'⟩ := m3 (x := undef) (w' := w) (by
        rw [hV, hh]
        exact ⟨_, O, .refl w O, fun _ _ => rfl, fun _ _ h => h, fun _ _ _ h => .inl h, J.heap i0 m1 (by omega), rep_undef, fun _ _ h => h, [], by simp⟩)
      exact ⟨ρ', O', l, M, J'⟩
    | change =>
      obtain ⟨⟨m1, m2, m4⟩, m3⟩ := mid_change J t hu KL hO ha hr hn hd hc
      obtain ⟨ρ', O', l', M', J'⟩ := m3 (x := undef) (w' := w) (by
        rw [hV, hh]
        exact ⟨ρ, O, .refl w O, .refl ρ, m2, rep_undef, fun _ _ h => h⟩)
      exact ⟨ρ', O', l', M', J'⟩
/-- All is done. -/
theorem mid_end (J : MidE D0 G B A qs T N S ρ0 w0 O0 D a w) (hall : ∀ k, k < A.length → D k) : ∃ ρ O, AdvX w0 O0 w O ∧ Ext ρ0 ρ ∧ (∀ id, id < (T 0).h.length → ρ0 id = none → ρ id = none) ∧ Heap ρ w S O (T A.length).h ∧ Rel G ρ w S O (T A.length).env a ∧ N ≤ a.tmps.size ∧ a.defers = D0.1 ∧ a.tmps.size = D0.2 := by
  obtain ⟨ρ, O, l, M, J⟩ := J
  have hM : M = A.length := by
    rcases J.b3 with h | ⟨am, h1, h2⟩
    · exact h
    · exact absurd (hall M (List.getElem?_eq_some_iff.1 h1).1) (J.b4 M am (Nat.le_refl _) h1 (by rw [h2]; decide))
  subst hM
  have hcut : cutR ρ (T A.length).h.length = ρ := cutR_all J.dom
  have HM := J.heap A.length J.lM (Nat.le_refl _)
  rw [hcut] at HM
  refine ⟨ρ, O, J.adv, J.ext0, J.non0, HM, ⟨fun s v hs => ?_, J.glob⟩, J.size, J.def0⟩
  obtain ⟨x, h1, h2⟩ := J.slots A.length (Nat.le_refl _) s v hs (fun k ao hk _ _ => hall k hk) fun k ao hk h _ => by have := (List.getElem?_eq_some_iff.1 h).1; omega
  rw [hcut] at h2
  exact ⟨x, h1, h2⟩

/-! ### The region -/
def Done (listed : Array Bool) (k : Nat) : Prop := listed.getD k false = true
theorem done_set {listed : Array Bool} {i : Nat} (hi : i < listed.size) (k : Nat) : Done (listed.setIfInBounds i true) k ↔ (Done listed k ∨ k = i) := by
  unfold Done
  simp only [Array.getD_eq_getD_getElem?, Array.getElem?_setIfInBounds]
  by_cases e : i = k
  · subst e; simp [hi]
  · have e' : ¬ k = i := fun h => e h.symm
    simp [e, e']
theorem count_set {listed : Array Bool} {i : Nat} (h : listed.getD i true = false) : (listed.setIfInBounds i true).toList.count false + 1 = listed.toList.count false ∧ i < listed.size := by
  have hi : i < listed.size := by
    rcases Nat.lt_or_ge i listed.size with h' | h'
    · exact h'
    · simp [Array.getElem?_eq_none h'] at h
  have hv : listed[i] = false := by simpa [hi] using h
  refine ⟨?_, hi⟩
  rw [Array.toList_setIfInBounds, List.count_set (by simpa using hi)]
  have hm : false ∈ listed.toList := by rw [List.mem_iff_getElem]; exact ⟨i, by simpa using hi, by simpa using hv⟩
  have hp := List.count_pos_iff.2 hm
  have e : listed.toList[i]'(by simpa using hi) = false := by simpa using hv
  rw [e]
  simp only [beq_self_eq_true, if_true]
  have e2 : (true == false) = false := rfl
  rw [e2]
  simp only [Bool.false_eq_true, if_false]
  omega
theorem wpAny_mid {Q : Exit → Act → World → Prop} {pm : Nat → Nat} (t : Trace G raw A T V) (hu : Hush A T qs) (hB : ∀ j i, B j i → i < A.length ∧ ∃ o, ops[pm j]? = some o ∧ ∃ e ∈ o.after, Region.binds .any e = true ∧ e.on = pm i) (hQ : QuietOk G raw B A qs T V) (K : CallOk P G raw) (KL : ∀ f as h r, raw f as h = some r → KeepK h r.2) (hO : Ordered B A qs) (hsz : ops.size = A.length)
    (hinj : ∀ i j, i < A.length → j < A.length → pm i = pm j → i = j) (hsur : ∀ m, m < ops.size → ∃ k, k < A.length ∧ pm k = m) (hpl : ∀ k, k < A.length → pm k < ops.size) (hlt : ∀ j o, ops[j]? = some o → ∀ e ∈ o.after, Region.binds .any e = true → e.on < j)
    (hall : ∀ (k : Nat) o ao, k < A.length → ops[pm k]? = some o → A[k]? = some ao → chkOper P ops o ao = true ∧ ∀ d, o.dst = some d → d < N)
    (hend : ∀ a' w' D, MidE D0 G B A qs T N S ρ0 w0 O0 D a' w' → (∀ k, k < A.length → D k) → Q .normal a' w') :
    ∀ (fuel : Nat) (listed : Array Bool) (a : Act) (w : World), listed.size = ops.size → listed.toList.count false ≤ fuel → MidE D0 G B A qs T N S ρ0 w0 O0 (fun k => k < A.length ∧ Done listed (pm k)) a w → wpAny P .any ops Q fuel listed a w := by
  have ready_all : ∀ (listed : Array Bool), listed.size = ops.size → Region.ready .any ops listed = [] → ∀ k, k < ops.size → Done listed k := by
    intro listed hl hrd k
    induction k using Nat.strongRecOn with
    | _ k ih =>
      intro hk
      by_cases hd : Done listed k
      · exact hd
      · exfalso
        have hks : k < ops.size := hk
        have hmem : k ∈ Region.ready .any ops listed := mem_ready.2 ⟨by
          unfold Done at hd
          simp only [Array.getD_eq_getD_getElem?] at hd ⊢
          have : listed[k]? = some listed[k] := by simp [hl, hks]
          rw [this] at hd ⊢
          simpa using hd, ops[k], by simp [hks], fun e he hb => ih e.on (hlt k _ (by simp [hks]) e he hb) (by have := hlt k _ (by simp [hks]) e he hb; omega)⟩
        rw [hrd] at hmem
        cases hmem
  intro fuel
  induction fuel with
  | zero =>
    intro listed a w hl hcnt J
    have h0 : listed.toList.count false = 0 := by omega
    have hall' : ∀ k, k < ops.size → Done listed k := fun k hk => by
      have hks : k < listed.size := by omega
      unfold Done
      rw [List.count_eq_zero] at h0
      have hx : listed[k] ≠ false := fun e => h0 (by rw [List.mem_iff_getElem]; exact ⟨k, by simpa using hks, by simpa using e⟩)
      simpa [hks] using hx
    refine ⟨?_, hend a w _ J fun k hk => ⟨hk, hall' _ (hpl k hk)⟩⟩
    apply List.eq_nil_iff_forall_not_mem.2
    intro i hi
    obtain ⟨h1, o, ho, _⟩ := mem_ready.1 hi
    have his : i < ops.size := (Array.getElem?_eq_some_iff.1 ho).1
    have := hall' i (by omega)
    unfold Done at this
    have e : listed[i]? = some listed[i] := by simp [hl, his]
    simp only [Array.getD_eq_getD_getElem?, e, Option.getD_some] at this h1
    rw [h1] at this; cases this
  | succ fuel ih =>
    intro listed a w hl hcnt J
    refine ⟨fun hrd => hend a w _ J fun k hk => ⟨hk, ready_all listed hl hrd _ (hpl k hk)⟩, fun i hi => ?_⟩
    obtain ⟨h1, o, ho, hafter⟩ := mem_ready.1 hi
    have his : i < ops.size := (Array.getElem?_eq_some_iff.1 ho).1
    obtain ⟨k, hk, rfl⟩ := hsur i his
    obtain ⟨ao, hao⟩ : ∃ ao, A[k]? = some ao := ⟨_, List.getElem?_eq_getElem hk⟩
    obtain ⟨c1, c2⟩ := count_set h1
    obtain ⟨q1, q2⟩ := hall k o ao hk ho hao
    unfold wpOp
    rw [ho]
    refine mid_step J t hu hQ K KL hO hao q1 (fun i hb => ?_) (fun hd => ?_) q2 fun a' w' J' => ih _ a' w' (by simpa using hl) (by omega) ?_
    · obtain ⟨hi, o', ho', e, he, hbd, hon⟩ := hB k i hb
      rw [ho] at ho'
      cases ho'
      exact ⟨hi, by rw [← hon]; exact hafter e he hbd⟩
    · have hd := hd.2
      unfold Done at hd
      have e : listed[pm k]? = some listed[pm k] := by simp [hl, his]
      simp only [Array.getD_eq_getD_getElem?, e, Option.getD_some] at hd h1
      rw [h1] at hd; cases hd
    · obtain ⟨ρ, O, l, M, J'⟩ := J'
      exact ⟨ρ, O, l, M, mid_eq (fun i => by
        rw [done_set c2]
        constructor
        · rintro (⟨hi, hd⟩ | rfl)
          · exact ⟨hi, .inl hd⟩
          · exact ⟨hk, .inr rfl⟩
        · rintro ⟨hi, hd | he⟩
          · exact .inl ⟨hi, hd⟩
          · exact .inr (hinj _ _ hi hk he)) J'⟩
/-- What waits for what, in the order told. -/
def Waits (ops : Array Oper) (n : Nat) (pm : Nat → Nat) (j i : Nat) : Prop := i < n ∧ ∃ o, ops[pm j]? = some o ∧ ∃ e ∈ o.after, Region.binds .any e = true ∧ e.on = pm i
structure Perm (ops : Array Oper) (n : Nat) (pm : Nat → Nat) : Prop where
  size : ops.size = n
  inj : ∀ i j, i < n → j < n → pm i = pm j → i = j
  sur : ∀ m, m < ops.size → ∃ k, k < n ∧ pm k = m
  lt : ∀ k, k < n → pm k < ops.size
theorem Perm.closed {pm : Nat → Nat} {n : Nat} (p : Perm ops n pm) (hlt : ∀ j o, ops[j]? = some o → ∀ e ∈ o.after, Region.binds .any e = true → e.on < j) {D : Nat → Prop} (h : ClosedB (Waits ops n pm) D) : Closed ops (fun m => ∃ k, k < n ∧ pm k = m ∧ D k) := by
  rintro j o ho ⟨k, hk, rfl, hd⟩ e he hb
  have := hlt _ o ho e he hb
  obtain ⟨i, hi, hpi⟩ := p.sur e.on (by have := p.lt k hk; omega)
  exact ⟨i, hi, hpi, h k i hd ⟨hi, o, ho, e, he, hb, hpi.symm⟩⟩
/-- What comes ahead of an operation that waits for done ones alone is done. -/
theorem Perm.before {pm : Nat → Nat} {n : Nat} (p : Perm ops n pm) (hlt : ∀ j o, ops[j]? = some o → ∀ e ∈ o.after, Region.binds .any e = true → e.on < j) {D : Nat → Prop} (h : ClosedB (Waits ops n pm) D) {j i : Nat} (hj : j < n) (hr : ∀ i, Waits ops n pm j i → D i)
    (hb : ((befores ops.toList []).getD (pm j) 0).testBit (pm i) = true) (hi : i < n) : D i := by
  have hjs := p.lt j hj
  have ho : ops[pm j]? = some ops[pm j] := by simp [hjs]
  obtain ⟨k, hk, e, hd⟩ := closed_before (p.closed hlt h) hlt (pm j) (pm i) _ ho (fun e he hbd => by
    have := hlt _ _ ho e he hbd
    obtain ⟨i, hi, hpi⟩ := p.sur e.on (by omega)
    exact ⟨i, hi, hpi, hr i ⟨hi, _, ho, e, he, hbd, hpi.symm⟩⟩) hb
  rw [p.inj _ _ hi hk e.symm]; exact hd
theorem ordered_of {aops' : List AOper} {pm : Nat → Nat} {qs : List (Nat × List Nat)} (hc : chkOrder ops aops' pm qs = true) (p : Perm ops aops'.length pm) : Ordered (Waits ops aops'.length pm) aops' (qs.map (·.1)) := by
  obtain ⟨h1, _, h2⟩ := chkOrder_parts hc
  intro D hD i j x y hij hx hy hcl hj
  have hjs : j < aops'.length := (List.getElem?_eq_some_iff.1 hy).1
  exact p.before h2 hD hjs (fun i hw => hD j i hj hw) (h1 i j x y hij hx hy hcl) (by omega)
theorem map_contains {qs : List (Nat × List Nat)} {i : Nat} (h : (qs.map (·.1)).contains i = true) : ∃ q ∈ qs, q.1 = i := by
  rw [List.contains_iff_mem, List.mem_map] at h
  exact h
theorem elim_true {α : Type} {x : Option α} {f : α → Bool} (h : x.elim false f = true) : ∃ y, x = some y ∧ f y = true := by
  cases x with
  | none => cases h
  | some y => exact ⟨y, rfl, h⟩
/-- What was asked of the quiet operations. -/
theorem quiet_ok {aops' : List AOper} {pm : Nat → Nat} {qs : List (Nat × List Nat)} {Ts : List ASt} {st : ASt} {V : Nat → AV} (hc : chkOrder ops aops' pm qs = true) (p : Perm ops aops'.length pm) (hl : Ts.length = aops'.length + 1) (t : Trace G raw aops' (fun k => Ts.getD k st) V) (hq : aquiets G raw aops' qs Ts = true) :
    Hush aops' (fun k => Ts.getD k st) (qs.map (·.1)) ∧ QuietOk G raw (Waits ops aops'.length pm) aops' (qs.map (·.1)) (fun k => Ts.getD k st) V := by
  obtain ⟨_, hcov, hlt⟩ := chkOrder_parts hc
  have g : ∀ k s, Ts[k]? = some s → Ts.getD k st = s := fun k s h => by simp [List.getD_eq_getElem?_getD, h]
  simp only [aquiets, List.all_eq_true] at hq
  have one : ∀ q ∈ qs, ∀ M ∈ q.2, ∀ ao, aops'[q.1]? = some ao → goes ao (Ts.getD q.1 st).env = some true →
      (ao.op.early = false → (Ts.getD (q.1 + 1) st).h = (Ts.getD q.1 st).h ∧ (∀ i ∈ (V q.1).ids, i < (Ts.getD q.1 st).h.length) ∧ aexecOp G raw (Ts.getD q.1 st).env (Ts.getD M st).h ao.op = some (V q.1, (Ts.getD M st).h)) ∧
      (ao.op.early = true → ∃ row, (Ts.getD (q.1 + 1) st).h[(Ts.getD q.1 st).h.length]? = some row ∧ row.flat = true ∧ (Ts.getD M st).h[(Ts.getD q.1 st).h.length]? = some row) := by
    intro q hqm M hM ao ha hg
    have h := hq q hqm M hM
    unfold aquietOne at h
    obtain ⟨o, h0, h⟩ := elim_true h
    rw [ha] at h0
    cases h0
    obtain ⟨s, h1, h⟩ := elim_true h
    obtain ⟨s', h2, h⟩ := elim_true h
    obtain ⟨m, h3, h⟩ := elim_true h
    have he := t.env q.1 ao ha
    simp only [g _ _ h1, g _ _ h2] at he
    rw [g _ _ h1] at hg
    rw [g _ _ h1, g _ _ h2, g _ _ h3]
    unfold aquietAt at h
    rw [hg] at h
    simp only [Option.elim_some, if_true] at h
    refine ⟨fun hea => ?_, fun hea => ?_⟩
    · rw [if_neg (by simp [hea]), Bool.and_eq_true, decide_eq_true_eq] at h
      obtain ⟨h4, h⟩ := h
      obtain ⟨d, h6, h⟩ := elim_true h
      obtain ⟨r, h7, h⟩ := elim_true h
      simp only [Bool.and_eq_true, decide_eq_true_eq, List.all_eq_true] at h
      obtain ⟨⟨h8, h9⟩, h10⟩ := h
      rw [he, h6] at h8
      simp only [aput, look, if_true, Option.some.injEq] at h8
      exact ⟨h4, fun i hi => by simpa using h10 i (by rw [← h8]; exact hi), by rw [h7, h8, ← h9]⟩
    · rw [if_pos hea] at h
      obtain ⟨r, h4, h⟩ := elim_true h
      rw [Bool.and_eq_true, decide_eq_true_eq] at h
      exact ⟨r, h4, h.1, h.2⟩
  have cov : ∀ q ∈ qs, ∃ ao, aops'[q.1]? = some ao ∧ ao.op.cls = .new ∧ ∀ M, M ≤ aops'.length → M ∈ q.2 ∨ (∃ y, aops'[M]? = some y ∧ (qc (qs.map (·.1)) M y ≠ .change ∨ ((befores ops.toList []).getD (pm q.1) 0).testBit (pm M) = true)) ∨ ∃ c, c < M ∧ ∃ y, aops'[c]? = some y ∧ qc (qs.map (·.1)) c y = .change ∧ ((befores ops.toList []).getD (pm c) 0).testBit (pm q.1) = true := by
    intro q hqm
    have h := hcov q hqm
    unfold chkCover at h
    rw [Bool.and_eq_true, Bool.and_eq_true] at h
    obtain ⟨ao, h1, h2⟩ := elim_true h.1.1
    refine ⟨ao, h1, by simpa using h2, fun M hM => ?_⟩
    have := List.all_eq_true.1 h.2 M (by simp; omega)
    simp only [Bool.or_eq_true] at this
    rcases this with (h3 | h3) | h3
    · exact .inl (by simpa using h3)
    · obtain ⟨y, h4, h5⟩ := elim_true h3
      refine .inr (.inl ⟨y, h4, ?_⟩)
      simp only [Bool.or_eq_true, decide_eq_true_eq] at h5
      exact h5
    · obtain ⟨c, h4, h5⟩ := List.any_eq_true.1 h3
      obtain ⟨y, h6, h7⟩ := elim_true h5
      simp only [Bool.and_eq_true, decide_eq_true_eq] at h7
      exact .inr (.inr ⟨c, by simpa using h4, y, h6, h7⟩)
  refine ⟨fun k ao ha hk => ?_, fun i0 ao ha hk => ?_⟩
  · obtain ⟨q, hqm, rfl⟩ := map_contains hk
    obtain ⟨ao', h1, h2, _⟩ := cov q hqm
    rw [ha] at h1
    cases h1
    obtain ⟨b, _, hb | hb⟩ := t.run q.1 ao ha
    · exact new_h h2 hb.2
    · exact ⟨[], by rw [hb.2.2]; simp⟩
  · obtain ⟨q, hqm, rfl⟩ := map_contains hk
    obtain ⟨ao', h1, h2, h3⟩ := cov q hqm
    rw [ha] at h1
    cases h1
    have hql := (List.getElem?_eq_some_iff.1 ha).1
    refine ⟨h2, fun hg D M hcl hr hn hMl hst hch => ?_⟩
    rcases h3 M hMl with h | ⟨y, h4, h5⟩ | ⟨c, h4, y, h5, h6, h7⟩
    · exact one q hqm M h ao ha hg
    · exfalso
      rcases hst with e | ⟨am, e1, e2, e3⟩
      · subst e; rw [List.getElem?_eq_none (Nat.le_refl _)] at h4; cases h4
      · rw [e1] at h4; cases h4
        rcases h5 with h5 | h5
        · exact h5 e2
        · exact e3 (p.before hlt hcl hql hr h5 (List.getElem?_eq_some_iff.1 e1).1)
    · exfalso
      exact hn (p.before hlt hcl (List.getElem?_eq_some_iff.1 h5).1 (fun i hw => hcl c i (hch c y h4 h5 h6) hw) h7 hql)
/-- A region in any order, its states known. -/
theorem region_states0 {aops' : List AOper} {pm : Nat → Nat} {qs : List (Nat × List Nat)} {st st' : ASt} {T : Nat → ASt} {V : Nat → AV} {base : Nat} {Q : Exit → Act → World → Prop} (hm : P.follows .mixedOrders = true) (K : CallOk P G raw) (KL : ∀ f as h r, raw f as h = some r → KeepK h r.2) (p : Perm ops aops'.length pm)
    (hall : ∀ (k : Nat) o ao, k < aops'.length → ops[pm k]? = some o → aops'[k]? = some ao → chkOper P ops o ao = true ∧ ∀ d, o.dst = some d → d < N) (hord : chkOrder ops aops' pm qs = true)
    (t : Trace G raw aops' T V) (t0 : T 0 = st) (t1 : T aops'.length = st') (hu : Hush aops' T (qs.map (·.1))) (hQ : QuietOk G raw (Waits ops aops'.length pm) aops' (qs.map (·.1)) T V)
    (k : GoodS D0 G ρ0 w0 S O0 base N st a w) (hn : ∀ a' w', GoodS D0 G ρ0 w0 S O0 base N st' a' w' → Q .normal a' w') : wpAny P .any ops Q ops.size (Array.replicate ops.size false) a w.drew := by
  obtain ⟨ρ, O, k⟩ := k
  subst t0
  have k1 : Good D0 G ρ w S O (T 0).h.length N (T 0).env (T 0).h a w.drew ρ O :=
    ⟨(AdvW.drew w O).x, fun id _ g pl h => ⟨g, pl, h, Nat.le_refl _, fun _ => rfl⟩, fun id _ h => h, k.heap.drew, k.rel.adv (.refl ρ) (AdvW.drew w O).x, k.size, k.def0, Nat.le_refl _⟩
  obtain ⟨M, J⟩ := mid_start (B := Waits ops aops'.length pm) (qs := qs.map (·.1)) k1 t hu KL
  refine wpAny_mid t hu (fun j i h => h) hQ K KL (ordered_of hord p) p.size p.inj p.sur p.lt (chkOrder_parts hord).2.2 hall (fun a' w' D J' hD => ?_) ops.size _ a _ (by simp) (by simp) ⟨ρ, O, 0, M, mid_eq (fun k => ?_) J⟩
  · obtain ⟨ρ2, O2, A1, E1, N1, H1, R1, s1, d1⟩ := mid_end J' hD
    rw [t1] at H1 R1
    refine hn _ _ ⟨ρ2, O2, k.adv.trans ((AdvW.drew w O).x.trans A1), fun id hid g pl h0 => ?_, fun id hid h0 => N1 id (Nat.lt_of_lt_of_le hid k.bas) (k.non id hid h0), H1, R1, s1, d1, ?_⟩
    · obtain ⟨g1, p1, e1, l1, q1⟩ := k.ext id hid g pl h0
      obtain ⟨g2, p2, e2, l2, q2⟩ := E1 id g1 p1 e1
      exact ⟨g2, p2, e2, Nat.le_trans l1 l2, fun e => by
        have a1 : g = g1 := by omega
        exact (q1 a1).trans (q2 (by omega))⟩
    · have := trace_len KL t aops'.length 0 (by omega)
      rw [Nat.zero_add, t1] at this
      exact Nat.le_trans k.bas this
  · unfold Done
    simp only [false_iff]
    rintro ⟨_, hh⟩
    by_cases hk : pm k < ops.size
    · simp [hk] at hh
    · simp [hk] at hh
theorem region_states {id : Nat} {aops' : List AOper} {pm : Nat → Nat} {qs : List (Nat × List Nat)} {st st' : ASt} {T : Nat → ASt} {V : Nat → AV} {base : Nat} {Q : Exit → Act → World → Prop} (hm : P.follows .mixedOrders = true) (K : CallOk P G raw) (KL : ∀ f as h r, raw f as h = some r → KeepK h r.2) (p : Perm ops aops'.length pm)
    (hall : ∀ (k : Nat) o ao, k < aops'.length → ops[pm k]? = some o → aops'[k]? = some ao → chkOper P ops o ao = true ∧ ∀ d, o.dst = some d → d < N) (hord : chkOrder ops aops' pm qs = true)
    (t : Trace G raw aops' T V) (t0 : T 0 = st) (t1 : T aops'.length = st') (hu : Hush aops' T (qs.map (·.1))) (hQ : QuietOk G raw (Waits ops aops'.length pm) aops' (qs.map (·.1)) T V)
    (k : GoodS D0 G ρ0 w0 S O0 base N st a w) (hn : ∀ a' w', GoodS D0 G ρ0 w0 S O0 base N st' a' w' → Kept (setsO ops) a a' → Q .normal a' w') : (Code.region id ops true).wp P Q a w :=
  wp_region_any hm (wpAny_kept (setsO_mem ops) _ _ _ _ (Kept.refl _ _) (region_states0 (Q := keptQ (setsO ops) a Q) hm K KL p hall hord t t0 t1 hu hQ k fun a' w' g hk => hn a' w' g hk))
/-- A region in any order. -/
theorem region_any {id : Nat} {aops' : List AOper} {st st' : ASt} {base : Nat} {Q : Exit → Act → World → Prop} (hm : P.follows .mixedOrders = true) (K : CallOk P G raw) (KL : ∀ f as h r, raw f as h = some r → KeepK h r.2) (hc : chkRegion P ops aops' N = true) (hord : chkOrder ops aops' (fun k => k) [] = true) (hs : aops G raw aops' st = some st')
    (k : GoodS D0 G ρ0 w0 S O0 base N st a w) (hn : ∀ a' w', GoodS D0 G ρ0 w0 S O0 base N st' a' w' → Kept (setsO ops) a a' → Q .normal a' w') : (Code.region id ops true).wp P Q a w := by
  simp only [chkRegion, Bool.and_eq_true, beq_iff_eq, List.all_eq_true] at hc
  obtain ⟨hsz, hall⟩ := hc
  obtain ⟨T, V, t, t0, t1⟩ := trace_exists hs
  refine region_states hm K KL ⟨hsz, fun i j _ _ h => h, fun m hm => ⟨m, by omega, rfl⟩, fun k hk => by rw [hsz]; exact hk⟩ (fun i o ao _ ho hao => ?_) hord t t0 t1 (fun k ao _ h => by simp at h) (fun k ao _ h => by simp at h) k hn
  have hm : (o, ao) ∈ ops.toList.zip aops' := by
    rw [List.mem_iff_getElem?]
    refine ⟨i, ?_⟩
    rw [List.getElem?_zip_eq_some]
    exact ⟨by simpa using ho, hao⟩
  have hp := hall _ hm
  simp only [Bool.and_eq_true] at hp
  refine ⟨hp.1, fun d hd => ?_⟩
  have := hp.2
  rw [hd] at this
  simpa using this
/-- A region in any order, some operations quiet. -/
theorem region_quiet {id : Nat} {aops' : List AOper} {pm : List Nat} {qs : List (Nat × List Nat)} {st st' : ASt} {base : Nat} {Q : Exit → Act → World → Prop} (hm : P.follows .mixedOrders = true) (K : CallOk P G raw) (KL : ∀ f as h r, raw f as h = some r → KeepK h r.2) (hc : chkRegionQ P ops aops' pm N = true) (hord : chkOrder ops aops' (pm.getD · 0) qs = true) (hs : aopsQ G raw aops' qs st = some st')
    (k : GoodS D0 G ρ0 w0 S O0 base N st a w) (hn : ∀ a' w', GoodS D0 G ρ0 w0 S O0 base N st' a' w' → Kept (setsO ops) a a' → Q .normal a' w') : (Code.region id ops true).wp P Q a w := by
  obtain ⟨Ts, h1, hs⟩ := opt_bind_some.1 hs
  split at hs
  case isFalse => cases hs
  rename_i hq
  obtain ⟨V, t, h2, h3⟩ := trace_of_states h1
  simp only [chkRegionQ, Bool.and_eq_true, beq_iff_eq, List.all_eq_true, decide_eq_true_eq] at hc
  obtain ⟨⟨⟨⟨⟨hsz, hpl⟩, hnd⟩, hsur⟩, hlt⟩, hall⟩ := hc
  have gd : ∀ k (hk : k < aops'.length), pm.getD k 0 = pm[k]'(by omega) := fun k hk => by
    rw [List.getD_eq_getElem?_getD, List.getElem?_eq_getElem (by omega)]; rfl
  have p : Perm ops aops'.length (pm.getD · 0) := by
    refine ⟨hsz, fun i j hi hj h => ?_, fun m hm => ?_, fun k hk => ?_⟩
    · simp only [gd i hi, gd j hj] at h
      have ne := List.pairwise_iff_getElem.1 hnd
      rcases Nat.lt_trichotomy i j with hij | hij | hij
      · exact absurd h (ne i j (by omega) (by omega) hij)
      · exact hij
      · exact absurd h.symm (ne j i (by omega) (by omega) hij)
    · have := hsur m (by simpa using hm)
      rw [List.contains_iff_mem] at this
      obtain ⟨k, hk, e⟩ := List.mem_iff_getElem.1 this
      exact ⟨k, by omega, by simp only [gd k (by omega)]; exact e⟩
    · simp only [gd k hk]
      exact hlt _ (List.getElem_mem _)
  obtain ⟨hu, hQ⟩ := quiet_ok hord p h2 t hq
  refine region_states hm K KL p (fun i o ao hi ho hao => ?_) hord t h3 ?_ hu hQ k hn
  · have hm : (pm[i]'(by omega), ao) ∈ pm.zip aops' := by
      rw [List.mem_iff_getElem?]
      refine ⟨i, ?_⟩
      rw [List.getElem?_zip_eq_some]
      exact ⟨List.getElem?_eq_getElem (by omega), hao⟩
    have hp := hall _ hm
    obtain ⟨o', ho', hp⟩ := elim_true hp
    simp only [gd i hi] at ho
    rw [ho] at ho'
    cases ho'
    simp only [Bool.and_eq_true] at hp
    refine ⟨hp.1, fun d hd => ?_⟩
    have := hp.2
    rw [hd] at this
    simpa using this
  · rw [List.getLast?_eq_getElem?, h2] at hs
    simp only [Nat.add_sub_cancel] at hs
    show Ts.getD aops'.length st = st'
    rw [List.getD_eq_getElem?_getD, hs]; rfl
end
end Go.Proofs.Ytfnonledcniojaa
/- The small machine's code and functions stand for the program's. Conditions: none. -/
namespace Go.Proofs.Ytfnonledcniojaa
open Go Go.RowKit
variable [FrB]
section
variable {D0 : List Deferred × Nat} {P : Program} {G : Nat → Option (List AV)} {F : Nat → Option AEnt} {ρ0 ρ : Rho} {w0 w : World} {S O0 O : Nat → Prop} {a : Act} {N base : Nat}

/-! ### Lengths -/
theorem aops_k {raw : ARaw} (KL : ∀ f as h r, raw f as h = some r → KeepK h r.2) : ∀ {os : List AOper} {st st' : ASt}, aops G raw os st = some st' → KeepK st.h st'.h
  | [], st, st', hs => by cases hs; exact .refl _
  | o :: os, st, st', hs => by
    obtain ⟨st1, h1, hs⟩ := opt_bind_some.1 hs
    refine KeepK.trans ?_ (aops_k KL hs)
    rw [astep_goes] at h1
    obtain ⟨b, _, h1⟩ := opt_bind_some.1 h1
    cases b with
    | true =>
      simp only [if_true] at h1
      obtain ⟨r, hr, e⟩ := opt_map_some.1 h1
      subst e
      exact exec_k KL hr
    | false =>
      simp only [Bool.false_eq_true, if_false] at h1
      cases h1
      exact .refl _
/-- The first rows stay rows of their kind. -/
def KeepB (base : Nat) (h h' : List ARow) : Prop := KeepK (h.take base) (h'.take base)
theorem KeepK.toB {h h' : List ARow} (p : KeepK h h') : KeepB base h h' := fun id x hx => by
  rw [List.getElem?_take] at hx
  split at hx
  · rename_i hi
    obtain ⟨y, hy, e⟩ := p id x hx
    exact ⟨y, by rw [List.getElem?_take, if_pos hi]; exact hy, e⟩
  · cases hx
theorem agc_k {live : List Nat} {st st' : ASt} (hg : agc base live st = some st') : KeepB base st.h st'.h := by
  unfold agc at hg
  simp only at hg
  generalize areach st.h base 64 (AV.idsL ((akeep live st.env).map (·.2)) ++ (st.h.take base).flatMap ARow.ids) [] = order at hg
  split at hg
  case isFalse => cases hg
  cases hg
  intro id x hx
  rw [List.getElem?_take] at hx
  split at hx
  · rename_i hi
    refine ⟨x.ren st.h base base order, ?_, ?_⟩
    · rw [List.getElem?_take, if_pos hi, List.getElem?_append_left (by have := (List.getElem?_eq_some_iff.1 hx).1; simp; omega), List.getElem?_map, List.getElem?_take, if_pos hi, hx]
      rfl
    · unfold ARow.ren; split <;> rfl
  · cases hx
/-- What an entry that is told outright leaves of the rows. -/
def ExtK (F : Nat → Option AEnt) : Prop := ∀ f E, F f = some (.ext E) → ∀ args h r, E args h = some r → KeepK h r.2
theorem aexec_k (hK : ExtK F) : ∀ (n : Nat), (∀ base c st r, aexec G F n base c st = some r → KeepB base st.h r.2.h) ∧ ∀ f as h r, arunFn (aexec G F n) F f as h = some r → KeepK h r.2 := by
  have fn_of : ∀ n, (∀ base c st r, aexec G F n base c st = some r → KeepB base st.h r.2.h) → ∀ f as h r, arunFn (aexec G F n) F f as h = some r → KeepK h r.2 := by
    intro n ih f as h r hr
    obtain ⟨ent, hf, hr⟩ := opt_bind_some.1 hr
    cases ent with
    | ext E => exact hK f E hf as h r hr
    | fn fn =>
      obtain ⟨r1, h1, hr⟩ := opt_bind_some.1 hr
      have := ih _ _ _ _ h1
      have hk : KeepK h r1.2.h := fun id x hx => by
        have hlt := (List.getElem?_eq_some_iff.1 hx).1
        obtain ⟨y, hy, e⟩ := this id x (by simp only [List.take_length]; exact hx)
        rw [List.getElem?_take, if_pos hlt] at hy
        exact ⟨y, hy, e⟩
      split at hr
      · cases hr
      · obtain ⟨v, _, e⟩ := opt_map_some.1 hr
        subst e
        exact hk
  intro n
  induction n with
  | zero =>
    have h0 : ∀ base c st r, aexec G F 0 base c st = some r → KeepB base st.h r.2.h := fun base c st r h => (nomatch h)
    exact ⟨h0, fn_of 0 h0⟩
  | succ n ih =>
    have h1 : ∀ base c st r, aexec G F (n + 1) base c st = some r → KeepB base st.h r.2.h := by
      intro base c st r hr
      cases c with
      | skip => cases hr; exact KeepK.refl _
      | exit id => cases hr; exact KeepK.refl _
      | ret => cases hr; exact KeepK.refl _
      | dead => cases hr
      | region ops d live =>
        obtain ⟨st', h1, e⟩ := opt_map_some.1 hr
        subst e
        exact (aops_k (G := G) (st' := st') ih.2 h1).toB
      | regionQ ops pm qs live =>
        obtain ⟨st', h1, e⟩ := opt_map_some.1 hr
        subst e
        obtain ⟨Ts, q1, h1⟩ := opt_bind_some.1 h1
        split at h1
        case isFalse => cases h1
        obtain ⟨V, t, q2, q3⟩ := trace_of_states q1
        have := trace_k ih.2 t ops.length 0 (by omega)
        rw [List.getLast?_eq_getElem?, q2] at h1
        simp only [Nat.add_sub_cancel] at h1
        simp only [Nat.zero_add, q3] at this
        rw [List.getD_eq_getElem?_getD, h1] at this
        exact this.toB
      | seq x y =>
        obtain ⟨r1, h1, hr⟩ := opt_bind_some.1 hr
        have := ih.1 _ _ _ _ h1
        split at hr
        · exact KeepK.trans this (ih.1 _ _ _ _ hr)
        · cases hr; exact this
      | cond c x y =>
        obtain ⟨v, _, hr⟩ := opt_bind_some.1 hr
        split at hr
        · exact ih.1 _ _ _ _ hr
        · cases hr
      | block id b =>
        obtain ⟨r1, h1, e⟩ := opt_map_some.1 hr
        subst e
        exact ih.1 _ _ _ r1 h1
      | loop live b =>
        obtain ⟨st1, h0, hr⟩ := opt_bind_some.1 hr
        obtain ⟨r1, h1, hr⟩ := opt_bind_some.1 hr
        have := KeepK.trans (agc_k h0) (ih.1 _ _ _ _ h1)
        split at hr
        · exact KeepK.trans this (ih.1 _ _ _ _ hr)
        · cases hr; exact this
    exact ⟨h1, fn_of (n + 1) h1⟩

/-! ### Results -/
theorem loadVar_ok {t : TypeId} {agg : Bool} {m : Nat} {v0 v : AV} {z : Value} {h : List ARow} (H : Heap ρ w S O h) (hr : RepV ρ w S O v0 z) (hag : isAggB P t = some agg) (hs : sizeIs P t m = true) (h1 : aload h agg m v0 = some v) :
    ∃ u, (do loadVar t (← asAddr z) : Sem Value).run P w = .ok u w ∧ RepV ρ w S O v u := by
  have fin : ∀ ad, (∃ u, (Instr.loadAt t (.pointer (some ad))).run P w = .ok u w ∧ RepV ρ w S O v u) → ∃ u, (do loadVar t (← asAddr (.pointer (some ad))) : Sem Value).run P w = .ok u w ∧ RepV ρ w S O v u := fun ad ⟨u, h1, h2⟩ =>
    ⟨u, by simpa [Instr.loadAt, Instr.sureAddr, asAddr] using h1, h2⟩
  cases v0 with
  | ptr id g e off =>
    obtain ⟨r, hrow, h1⟩ := opt_bind_some.1 h1
    split at h1
    case isFalse => cases h1
    rename_i hgen
    obtain ⟨grp, hg, hcut⟩ := opt_bind_some.1 h1
    obtain ⟨g', pl, ad, rfl, hρ, hle, hpl⟩ := rv_ptr hr
    obtain ⟨hg', his⟩ := H.at hρ hrow
    obtain ⟨p, rfl, rfl⟩ := hpl (by omega)
    obtain ⟨arr, ty, lo, hi, hb, hsz, _, hcell⟩ := RowRep.block his
    have hlen := RowRep.len his grp (List.mem_of_getElem? hg)
    refine fin _ (load_run (cs := grp) (b := p.b) (o := p.base + e * p.k) (off := off) (val := fun j => arr.getD (p.base + e * p.k + j) undef) hag hs (fun j hj => ?_) (fun j c hj => ?_) hcut)
    · obtain ⟨x, h1, h2, _⟩ := hcell e j grp _ hg (List.getElem?_eq_getElem hj)
      simp only [Array.getD_eq_getD_getElem?, h1, Option.getD_some]
      exact ⟨by rw [cell_of_row w p.b _ arr ty _ hb]; exact h1, h2⟩
    · obtain ⟨x, h1, _, h3, _⟩ := hcell e j grp c hg hj
      simp only [Array.getD_eq_getD_getElem?, h1, Option.getD_some]
      exact h3
  | dptr cs =>
    obtain ⟨b, off, val, rfl, _, _, h5, h6⟩ := rv_dptr hr
    exact fin _ (load_run (ρ := ρ) (S := S) (O := O) (cs := cs) (b := b) (o := off) (off := 0) (val := val) hag hs h5 (fun j c hj => (h6 j c hj).v) h1)
  | _ => cases h1
/-- One result. -/
def resV (tmps : Array Value) : ResultVar → Sem Value
  | .tmp t => pure (tmps.getD t undef)
  | .cell c t => do loadVar t (← asAddr (tmps.getD c undef))
theorem results_eq (fn : Func) (tmps : Array Value) : results fn tmps = (do let vs ← fn.results.mapM (resV tmps); pure (if h : vs.size = 1 then vs[0] else .tuple vs)) := by
  rfl
theorem res_list {env : AEnv} {h : List ARow} (H : Heap ρ w S O h) (R : Rel G ρ w S O env a) : ∀ {rs : List ResultVar} {as : List ARes} {vs : List AV}, chkRes P rs as = true → as.mapM (ares env h) = some vs →
    ∃ xs : List Value, (rs.mapM (resV a.tmps)).run P w = .ok xs w ∧ RepL (RepV ρ w S O) vs xs
  | [], [], vs, _, hm => by simp at hm; subst hm; exact ⟨[], rfl, .nil⟩
  | .tmp t :: rs, .slot n :: as, vs, hc, hm => by
    simp only [chkRes, Bool.and_eq_true, beq_iff_eq] at hc
    obtain ⟨rfl, hc⟩ := hc
    rw [List.mapM_cons] at hm
    obtain ⟨v, hv, hm⟩ := opt_bind_some.1 hm
    obtain ⟨vs', hvs, hm⟩ := opt_bind_some.1 hm
    cases hm
    obtain ⟨xs, h1, h2⟩ := res_list H R hc hvs
    obtain ⟨x, hx, hr⟩ := R.env _ _ hv
    refine ⟨x :: xs, ?_, .cons hr h2⟩
    rw [List.mapM_cons, Sem.run_bind]
    have : (resV a.tmps (.tmp t)).run P w = .ok x w := by simp [resV, hx]
    rw [this]
    simp [h1]
  | .cell t ty :: rs, .cell n agg m :: as, vs, hc, hm => by
    simp only [chkRes, Bool.and_eq_true, beq_iff_eq] at hc
    obtain ⟨⟨⟨rfl, hag⟩, hs⟩, hc⟩ := hc
    rw [List.mapM_cons] at hm
    obtain ⟨v, hv, hm⟩ := opt_bind_some.1 hm
    obtain ⟨vs', hvs, hm⟩ := opt_bind_some.1 hm
    cases hm
    obtain ⟨xs, h1, h2⟩ := res_list H R hc hvs
    obtain ⟨vp, hp, hl⟩ := opt_bind_some.1 hv
    obtain ⟨x, hx, hr⟩ := R.env _ _ hp
    obtain ⟨u, hu, hru⟩ := loadVar_ok H hr hag hs hl
    refine ⟨u :: xs, ?_, .cons hru h2⟩
    rw [List.mapM_cons, Sem.run_bind]
    have : (resV a.tmps (.cell t ty)).run P w = .ok u w := by
      simp only [resV, Array.getD_eq_getD_getElem?, hx, Option.getD_some]
      exact hu
    rw [this]
    simp [h1]
  | [], _ :: _, _, hc, _ => by cases hc
  | .tmp _ :: _, [], _, hc, _ => by cases hc
  | .cell _ _ :: _, [], _, hc, _ => by cases hc
  | .tmp _ :: _, .cell .. :: _, _, hc, _ => by cases hc
  | .cell _ _ :: _, .slot _ :: _, _, hc, _ => by cases hc
theorem results_ok {fn : Func} {res : List ARes} {st : ASt} {v : AV} (H : Heap ρ w S O st.h) (R : Rel G ρ w S O st.env a) (hc : chkRes P fn.results.toList res = true) (hv : aresults res st = some v) : ∃ x, (results fn a.tmps).run P w = .ok x w ∧ RepV ρ w S O v x := by
  obtain ⟨vs, hvs, e⟩ := opt_map_some.1 hv
  obtain ⟨xs, h1, h2⟩ := res_list H R hc hvs
  have hrun : (results fn a.tmps).run P w = .ok (if h : xs.toArray.size = 1 then xs.toArray[0] else .tuple xs.toArray) w := by
    rw [results_eq, ← Array.toArray_toList (xs := fn.results), List.mapM_toArray, Sem.run_bind]
    have : (List.toArray <$> (fn.results.toList.mapM (resV a.tmps))).run P w = .ok xs.toArray w := by
      rw [map_eq_pure_bind, Sem.run_bind, h1]; rfl
    rw [this]; rfl
  rw [hrun]
  refine ⟨_, rfl, ?_⟩
  cases vs with
  | nil =>
    have : xs = [] := List.eq_nil_of_length_eq_zero h2.1.symm
    subst this
    subst e
    exact .tup [] [] rfl h2.2
  | cons v1 vs =>
    cases xs with
    | nil => have := h2.1; simp at this
    | cons x1 xs =>
      cases vs with
      | nil =>
        have : xs = [] := by have := h2.1; simp at this; exact this
        subst this
        subst e
        exact h2.2 0 v1 x1 rfl rfl
      | cons v2 vs =>
        cases xs with
        | nil => have := h2.1; simp at this
        | cons x2 xs =>
          subst e
          have : ¬ (x1 :: x2 :: xs).toArray.size = 1 := by simp
          rw [dif_neg this]
          exact .tup _ _ h2.1 h2.2

/-! ### Code -/
def exitOf : AEx → Exit
  | .normal => .normal
  | .exit id => .exit id
  | .ret => .ret
/-- The entries of the table are checked. -/
def EntOk (P : Program) (G : Nat → Option (List AV)) (F : Nat → Option AEnt) : Prop := ∀ f ent, F f = some ent → match ent with
  | .fn fn => chkFn P f fn = true
  | .ext E => ∀ args h v h', E args h = some (v, h') → KeepK h h' ∧ (∃ fn, P.funcs[f]? = some fn ∧ fn.name ≠ "runtime.NumGoroutine" ∧ fn.body.isSome = true) ∧
      ∀ (ρ : Rho) (w : World) (S O : Nat → Prop) (xs : List Value), Heap ρ w S O h → (∀ g cs, G g = some cs → RepV ρ w S O (.dptr cs) (.pointer (some ⟨g, 0, none⟩))) → RepL (RepV ρ w S O) args xs →
        Calls P f xs.toArray w fun e w' => ∃ x, e = .returned x ∧ ResW ρ w S O h v h' x w'
theorem EntOk.k (hE : EntOk P G F) : ExtK F := fun f E hf args h r hr => (hE f _ hf args h r.1 r.2 hr).1
theorem look_enter (args : List AV) (s : Nat) : look (aenter args) s = args[s]? := by
  have main : ∀ (args : List AV) (k : Nat), look ((args.zipIdx k).map fun p => (p.2, p.1)) s = if k ≤ s then args[s - k]? else none := by
    intro args
    induction args with
    | nil => intro k; simp [look]
    | cons v args ih =>
      intro k
      rw [List.zipIdx_cons, List.map_cons]
      simp only [look]
      rw [ih (k + 1)]
      by_cases e : k = s
      · subst e; simp
      · rw [if_neg e]
        by_cases h1 : k + 1 ≤ s
        · rw [if_pos h1, if_pos (by omega), show s - k = (s - (k + 1)) + 1 from by omega, List.getElem?_cons_succ]
        · rw [if_neg h1, if_neg (by omega)]
  have := main args 0
  simpa [aenter] using this
theorem GoodS.keep {st : ASt} (k : GoodS D0 G ρ0 w0 S O0 base N st a w) (live : List Nat) : GoodS D0 G ρ0 w0 S O0 base N ⟨akeep live st.env, st.h⟩ a w := by
  obtain ⟨ρ, O, k⟩ := k
  exact ⟨ρ, O, k.adv, k.ext, k.non, k.heap, k.rel.keep live, k.size, k.def0, k.bas⟩
theorem GoodS.agc {live : List Nat} {st st' : ASt} (k : GoodS D0 G ρ0 w0 S O0 base N st a w) (hg : agc base live st = some st') : GoodS D0 G ρ0 w0 S O0 base N st' a w := by
  obtain ⟨ρ, O, k⟩ := k
  obtain ⟨ρ2, h1, h2, h3, h4⟩ := agc_ok k.heap k.rel k.bas hg
  exact ⟨ρ2, O, k.adv, fun id hid g pl h0 => by rw [h3 id hid]; exact k.ext id hid g pl h0, fun id hid h0 => by rw [h3 id hid]; exact k.non id hid h0, h1, h2, k.size, k.def0, h4⟩

def CodeOk (P : Program) (G : Nat → Option (List AV)) (F : Nat → Option AEnt) (n : Nat) : Prop :=
  ∀ (N base : Nat) (c : Code) (ac : ACode) (st : ASt) (r : AEx × ASt), aexec G F n base ac st = some r → chkCode P N c ac = true → ∀ (D0 : List Deferred × Nat) (ρ0 : Rho) (w0 : World) (S O0 : Nat → Prop) (Q : Exit → Act → World → Prop) (a : Act) (w : World),
    GoodS D0 G ρ0 w0 S O0 base N st a w → (∀ a' w', GoodS D0 G ρ0 w0 S O0 base N r.2 a' w' → Kept (setsC c) a a' → Q (exitOf r.1) a' w') → c.wp P Q a w
def LoopOk (P : Program) (G : Nat → Option (List AV)) (F : Nat → Option AEnt) (n : Nat) : Prop :=
  ∀ (N base : Nat) (live : List Nat) (c : Code) (ac : ACode) (st : ASt) (r : AEx × ASt), aexec G F n base (.loop live ac) st = some r → chkCode P N c ac = true → ∀ (D0 : List Deferred × Nat) (ρ0 : Rho) (w0 : World) (S O0 : Nat → Prop) (Q : Exit → Act → World → Prop) (a : Act) (w : World),
    GoodS D0 G ρ0 w0 S O0 base N st a w → (∀ a' w', GoodS D0 G ρ0 w0 S O0 base N r.2 a' w' → Kept (setsC c) a a' → Q (exitOf r.1) a' w') → Code.rounds P c Q n a w

theorem call_of_code (hE : EntOk P G F) (n : Nat) (hC : CodeOk P G F n) : CallOk P G (arunFn (aexec G F n) F) := by
  intro f args h v h' hr
  obtain ⟨ent, hf, hr⟩ := opt_bind_some.1 hr
  have hent := hE f ent hf
  cases ent with
  | ext E => exact (hent args h v h' hr).2
  | fn fn =>
    obtain ⟨r, hrun, hr⟩ := opt_bind_some.1 hr
    have hent : chkFn P f fn = true := hent
    unfold chkFn at hent
    split at hent
    case h_2 => cases hent
    rename_i pf hpf
    simp only [Bool.and_eq_true] at hent
    obtain ⟨⟨hnm, hbody⟩, hres⟩ := hent
    split at hbody
    case h_2 => cases hbody
    rename_i c hpc
    have hne : ∀ id, r.1 ≠ .exit id := fun id e => by rw [e] at hr; cases hr
    obtain ⟨v1, hv1, e⟩ : ∃ v1, aresults fn.res r.2 = some v1 ∧ (v1, r.2.h) = (v, h') := by
      split at hr
      · rename_i id e; exact absurd e (hne id)
      · exact opt_map_some.1 hr
    simp only [Prod.mk.injEq] at e
    obtain ⟨rfl, rfl⟩ := e
    refine ⟨⟨pf, hpf, by simpa using hnm, by rw [hpc]; rfl⟩, fun ρ w S O xs H hG hargs => ?_⟩
    refine calls_of_wp hpf hpc (hC pf.ntmps h.length c fn.body ⟨aenter args, h⟩ r hrun hbody ([], _) ρ w S O _ _ _ ⟨ρ, O, .refl w O, fun id _ g pl h => ⟨g, pl, h, Nat.le_refl _, fun _ => rfl⟩, fun id _ h => h, H, ⟨fun s u hs => ?_, hG⟩, ?_, ⟨rfl, rfl⟩, Nat.le_refl _⟩ fun a' w' k _ => ?_)
    · rw [look_enter] at hs
      have hlt : s < xs.length := by have := (List.getElem?_eq_some_iff.1 hs).1; rw [← hargs.1]; exact this
      exact ⟨xs[s], by rw [Array.getElem?_append_left (by simpa using hlt)]; simp [hlt], hargs.2 s u _ hs (List.getElem?_eq_getElem hlt)⟩
    · simp; omega
    · obtain ⟨ρ', O', k⟩ := k
      obtain ⟨x, hx, hrx⟩ := results_ok k.heap k.rel hres hv1
      have fin : bodyPost P pf (fun e w' => ∃ x, e = .returned x ∧ ResW ρ w S O h v1 r.2.h x w') .ret a' w' := by
        refine ⟨k.def0.1, x, hx, x, rfl, ρ', O', k.adv, fun id g pl h0 => ?_, k.heap, hrx, k.non⟩
        exact k.ext id (H.lt h0) g pl h0
      cases e : r.1 with
      | normal => exact fin
      | ret => exact fin
      | exit id => exact absurd e (hne id)

theorem code_okK (hm : P.follows .mixedOrders = true) (hE : EntOk P G F) : ∀ n, CodeOk P G F n ∧ LoopOk P G F n := by
  intro n
  induction n with
  | zero => exact ⟨fun N base c ac st r h => (nomatch h), fun N base live c ac st r h => (nomatch h)⟩
  | succ n ih =>
    obtain ⟨ih, ihL⟩ := ih
    have loop : LoopOk P G F (n + 1) := by
      intro N base live c ac st r hr hc D0 ρ0 w0 S O0 Q a w k hQ
      obtain ⟨st1, h0, hr⟩ := opt_bind_some.1 hr
      obtain ⟨r1, h1, hr⟩ := opt_bind_some.1 hr
      rw [rounds_succ]
      refine ih N base c ac st1 r1 h1 hc D0 ρ0 w0 S O0 _ a w (k.agc h0) fun a' w' k' hk => ?_
      cases e : r1.1 with
      | normal =>
        rw [e] at hr
        exact ihL N base live c ac r1.2 r hr hc D0 ρ0 w0 S O0 Q a' w' k' fun a2 w2 k2 hk2 => hQ a2 w2 k2 (hk.trans hk2)
      | exit id =>
        rw [e] at hr
        cases hr
        have := hQ a' w' k' hk
        rw [e] at this
        exact this
      | ret =>
        rw [e] at hr
        cases hr
        have := hQ a' w' k' hk
        rw [e] at this
        exact this
    refine ⟨?_, loop⟩
    intro N base c ac st r hr hc D0 ρ0 w0 S O0 Q a w k hQ
    have K := call_of_code hE n ih
    have KL := (aexec_k (G := G) (F := F) hE.k n).2
    cases ac with
    | dead => cases hr
    | skip =>
      cases c <;> simp only [chkCode, Bool.false_eq_true] at hc
      cases hr
      exact wp_skip (hQ a w k (Kept.refl _ _))
    | exit id =>
      cases c <;> simp only [chkCode, Bool.false_eq_true] at hc
      cases hr
      simp only [beq_iff_eq] at hc
      subst hc
      exact wp_exit (hQ a w k (Kept.refl _ _))
    | ret =>
      cases c <;> simp only [chkCode, Bool.false_eq_true] at hc
      cases hr
      exact wp_ret (hQ a w k (Kept.refl _ _))
    | region ao d live =>
      cases c <;> simp only [chkCode, Bool.false_eq_true] at hc
      rename_i id ops d'
      simp only [Bool.and_eq_true, beq_iff_eq] at hc
      obtain ⟨⟨rfl, hc1⟩, hc2⟩ := hc
      obtain ⟨st', h1, e⟩ := opt_map_some.1 hr
      subst e
      cases d' with
      | false => exact region_seq K KL hc1 h1 k fun a' w' k' hk => hQ a' w' (k'.keep live) hk
      | true => exact region_any hm K KL hc1 (by simpa using hc2) h1 k fun a' w' k' hk => hQ a' w' (k'.keep live) hk
    | regionQ ao pm qs live =>
      cases c <;> simp only [chkCode, Bool.false_eq_true] at hc
      rename_i id ops d'
      simp only [Bool.and_eq_true] at hc
      obtain ⟨⟨rfl, hc1⟩, hc2⟩ := hc
      obtain ⟨st', h1, e⟩ := opt_map_some.1 hr
      subst e
      exact region_quiet hm K KL hc1 hc2 h1 k fun a' w' k' hk => hQ a' w' (k'.keep live) hk
    | seq x y =>
      cases c <;> simp only [chkCode, Bool.false_eq_true] at hc
      rename_i cx cy
      simp only [Bool.and_eq_true] at hc
      obtain ⟨r1, h1, hr⟩ := opt_bind_some.1 hr
      refine wp_seq (ih N base cx x st r1 h1 hc.1 D0 ρ0 w0 S O0 _ a w k fun a' w' k' hk1 => ?_)
      have hk := hk1.mono (M := setsC (.seq cx cy)) fun s hs => List.mem_append_left _ hs
      cases e : r1.1 with
      | normal =>
        rw [e] at hr
        exact ih N base cy y r1.2 r hr hc.2 D0 ρ0 w0 S O0 Q a' w' k' fun a2 w2 k2 hk2 => hQ a2 w2 k2 (hk.trans (hk2.mono fun s hs => List.mem_append_right _ hs))
      | exit id =>
        rw [e] at hr
        cases hr
        have := hQ a' w' k' hk
        rw [e] at this
        exact this
      | ret =>
        rw [e] at hr
        cases hr
        have := hQ a' w' k' hk
        rw [e] at this
        exact this
    | cond ax x y =>
      cases c <;> simp only [chkCode, Bool.false_eq_true] at hc
      rename_i cx x' y'
      simp only [Bool.and_eq_true] at hc
      obtain ⟨v, hv, hr⟩ := opt_bind_some.1 hr
      split at hr
      case h_2 => cases hr
      rename_i t
      obtain ⟨ρ, O, k0⟩ := k
      have hb := rv_bool (ev_rep hc.1.1 k0.rel hv)
      refine wp_cond hb ?_
      cases t with
      | true => exact ih N base x' x st r hr hc.1.2 D0 ρ0 w0 S O0 Q a w ⟨ρ, O, k0⟩ fun a2 w2 k2 hk2 => hQ a2 w2 k2 (hk2.mono fun s hs => List.mem_append_left _ hs)
      | false => exact ih N base y' y st r hr hc.2 D0 ρ0 w0 S O0 Q a w ⟨ρ, O, k0⟩ fun a2 w2 k2 hk2 => hQ a2 w2 k2 (hk2.mono fun s hs => List.mem_append_right _ hs)
    | block id b =>
      cases c <;> simp only [chkCode, Bool.false_eq_true] at hc
      rename_i id' b'
      simp only [Bool.and_eq_true, beq_iff_eq] at hc
      obtain ⟨rfl, hc⟩ := hc
      obtain ⟨r1, h1, e⟩ := opt_map_some.1 hr
      subst e
      refine wp_block (ih N base b' b st r1 h1 hc D0 ρ0 w0 S O0 _ a w k fun a' w' k' hk => ?_)
      have := hQ a' w' k' hk
      cases e : r1.1 with
      | normal => rw [e] at this; simpa [exitOf, Exit.inBlock] using this
      | ret => rw [e] at this; simpa [exitOf, Exit.inBlock] using this
      | exit i =>
        rw [e] at this
        by_cases hi : i = id'
        · subst hi; simpa [exitOf, Exit.inBlock] using this
        · simpa [exitOf, Exit.inBlock, hi] using this
    | loop live b =>
      cases c <;> simp only [chkCode, Bool.false_eq_true] at hc
      rename_i b'
      exact wp_loop_rounds (n + 1) (loop N base live b' b st r hr hc D0 ρ0 w0 S O0 Q a w k hQ)
def CodeOk0 (P : Program) (G : Nat → Option (List AV)) (F : Nat → Option AEnt) (n : Nat) : Prop :=
  ∀ (N base : Nat) (c : Code) (ac : ACode) (st : ASt) (r : AEx × ASt), aexec G F n base ac st = some r → chkCode P N c ac = true → ∀ (D0 : List Deferred × Nat) (ρ0 : Rho) (w0 : World) (S O0 : Nat → Prop) (Q : Exit → Act → World → Prop) (a : Act) (w : World),
    GoodS D0 G ρ0 w0 S O0 base N st a w → (∀ a' w', GoodS D0 G ρ0 w0 S O0 base N r.2 a' w' → Q (exitOf r.1) a' w') → c.wp P Q a w
theorem code_ok (hm : P.follows .mixedOrders = true) (hE : EntOk P G F) (n : Nat) : CodeOk0 P G F n ∧ True :=
  ⟨fun N base c ac st r hr hc D0 ρ0 w0 S O0 Q a w k hQ => (code_okK hm hE n).1 N base c ac st r hr hc D0 ρ0 w0 S O0 Q a w k fun a' w' k' _ => hQ a' w' k', trivial⟩
/-- The small machine's calls stand for the program's. -/
theorem aR_ok (hm : P.follows .mixedOrders = true) (hE : EntOk P G F) : CallOk P G (aR G F) := by
  intro f args h v h' hr
  obtain ⟨n, hn⟩ := aR_fin G F hr
  exact call_of_code hE n (code_okK hm hE n).1 f args h v h' (hn n (Nat.le_refl _))
end
end Go.Proofs.Ytfnonledcniojaa
/- How arguments whose types are made of numbers, bools, strings, slices, structs and arrays stand for the small machine's values. Conditions: as each statement says. -/
namespace Go.Proofs.Ytfnonledcniojaa
open Go Go.RowKit
/-- No block is asked to bear no frozen cell. -/
instance bs0 : FrB := ⟨fun _ => False⟩

inductive Ty where
  | int (k : IntKind)
  | bool
  | str
  | sl (e : List Ty)

mutual
/-- Is it a value of the type? -/
def HasTy : Ty → AV → Prop
  | .int k, v => ∃ n, v = .int k n ∧ k.min ≤ n ∧ n ≤ k.max
  | .bool, v => ∃ b, v = .bool b
  | .str, v => ∃ s : ByteArray, v = .str s ∧ s.size ≤ 9223372036854775807
  | .sl e, v => ∃ (es : List (List AV)) (f : Bool), v = .data false e.length es f ∧ es.length ≤ 9223372036854775807 ∧ ∀ g ∈ es, HasTys e g
def HasTys : List Ty → List AV → Prop
  | [], [] => True
  | t :: ts, v :: vs => HasTy t v ∧ HasTys ts vs
  | _, _ => False
end

theorem HasTys.len : ∀ {ts : List Ty} {vs : List AV}, HasTys ts vs → vs.length = ts.length
  | [], [], _ => rfl
  | t :: ts, v :: vs, h => by
    simp only [HasTys] at h
    simp [HasTys.len h.2]
  | [], _ :: _, h => by simp [HasTys] at h
  | _ :: _, [], h => by simp [HasTys] at h
theorem HasTys.append : ∀ {ts us : List Ty} {vs xs : List AV}, HasTys ts vs → HasTys us xs → HasTys (ts ++ us) (vs ++ xs)
  | [], _, [], _, _, h => by simpa using h
  | t :: ts, us, v :: vs, xs, h, h2 => by
    simp only [HasTys, List.cons_append] at h ⊢
    exact ⟨h.1, HasTys.append h.2 h2⟩
  | [], _, _ :: _, _, h, _ => by simp [HasTys] at h
  | _ :: _, _, [], _, h, _ => by simp [HasTys] at h

/-- The cells' types of a type. -/
def flatTFs (P : Program) (go : TypeId → Option (List Ty)) : List Field → Nat → Option (List Ty)
  | [], _ => some []
  | f :: r, off => match go f.type with
    | some ks => if f.offset = off ∧ ks.length = P.cellsOf f.type then (flatTFs P go r (off + ks.length)).map (ks ++ ·) else none
    | none => none
def flatTy (P : Program) : Nat → TypeId → Option (List Ty)
  | 0, _ => none
  | d + 1, t => match P.underlying t with
    | some .bool => some [.bool]
    | some (.int k) => some [.int k]
    | some .string => some [.str]
    | some (.slice e) => match flatTy P d e with
      | some ks => if ks.length = P.cellsOf e ∧ 0 < ks.length then some [.sl ks] else none
      | none => none
    | some (.array n e) => match flatTy P d e with
      | some ks => if ks.length = P.cellsOf e ∧ P.cellsOf t = n * ks.length then some (List.replicate n ks).flatten else none
      | none => none
    | some (.struct fs) => match flatTFs P (flatTy P d) fs.toList 0 with
      | some ks => if ks.length = P.cellsOf t then some ks else none
      | none => none
    | _ => none

/-- Cells that values stand for. -/
def RepC (w : World) (as : List AV) (cs : List Value) : Prop :=
  as.length = cs.length ∧ (∀ v ∈ cs, v.oneCell' = true) ∧ ∀ (i : Nat) c v, as[i]? = some c → cs[i]? = some v → RepS w (fun _ => False) c v
def TyC (w : World) (ts : List Ty) (cs : List Value) : Prop := ∃ as, HasTys ts as ∧ RepC w as cs

theorem RepC.append {w : World} {as bs : List AV} {cs ds : List Value} (h : RepC w as cs) (k : RepC w bs ds) : RepC w (as ++ bs) (cs ++ ds) := by
  obtain ⟨h1, h2, h3⟩ := h
  obtain ⟨k1, k2, k3⟩ := k
  refine ⟨by simp [h1, k1], fun v hv => (List.mem_append.1 hv).elim (h2 v) (k2 v), fun i c v hc hv => ?_⟩
  by_cases hi : i < as.length
  · rw [List.getElem?_append_left hi] at hc
    rw [List.getElem?_append_left (by omega)] at hv
    exact h3 i c v hc hv
  · rw [List.getElem?_append_right (by omega)] at hc
    rw [List.getElem?_append_right (by omega), ← h1] at hv
    exact k3 _ c v hc hv
theorem TyC.append {w : World} {ts us : List Ty} {cs ds : List Value} (h : TyC w ts cs) (k : TyC w us ds) : TyC w (ts ++ us) (cs ++ ds) := by
  obtain ⟨as, h1, h2⟩ := h
  obtain ⟨bs, k1, k2⟩ := k
  exact ⟨as ++ bs, h1.append k1, h2.append k2⟩
theorem TyC.nil {w : World} : TyC w [] [] := ⟨[], by simp [HasTys], rfl, fun _ h => by simp at h, fun i c v h => by simp at h⟩
theorem TyC.one {w : World} {t : Ty} {a : AV} {v : Value} (h : HasTy t a) (ho : v.oneCell' = true) (hr : RepS w (fun _ => False) a v) : TyC w [t] [v] :=
  ⟨[a], by simp [HasTys, h], rfl, fun x hx => by simp at hx; subst hx; exact ho, fun i c x hc hx => by
    cases i with
    | zero => simp at hc hx; subst hc hx; exact hr
    | succ i => simp at hc⟩

theorem tyC_rep {w : World} {n : Nat} {ks : List Ty} : ∀ {cs : List Value}, cs.length = n * ks.length → (∀ i, i < n → TyC w ks ((cs.drop (i * ks.length)).take ks.length)) → TyC w (List.replicate n ks).flatten cs := by
  induction n with
  | zero => intro cs hl _; simp at hl; subst hl; simpa using TyC.nil
  | succ n ih =>
    intro cs hl h
    rw [List.replicate_succ, List.flatten_cons]
    have hl' : cs.length = ks.length + n * ks.length := by rw [hl, Nat.succ_mul]; omega
    have h0 := h 0 (by omega)
    simp only [Nat.zero_mul, List.drop_zero] at h0
    have h1 := ih (cs := cs.drop ks.length) (by simp; omega) (fun i hi => by
      have := h (i + 1) (by omega)
      rw [List.drop_drop]
      rwa [show ks.length + i * ks.length = (i + 1) * ks.length by rw [Nat.succ_mul]; omega])
    have := h0.append h1
    rwa [List.take_append_drop] at this

section
variable {H : Type} {enc : TypeId × Value → H} {P : Program} {w : World} {base : Nat} {spare : Nat → Bool} {held : Bool}

theorem tyC_fs {fuel : Nat} {go : TypeId → Option (List Ty)} {all : List Value}
    (hgo : ∀ (t : TypeId) (ks : List Ty) (cs : List Value) (x : DataW H × List MemPlace), go t = some ks → DataW.trod enc P w base spare held fuel t cs = some x → TyC w ks cs) :
    ∀ (fs : List Field) (off : Nat) (ks : List Ty), flatTFs P go fs off = some ks → (∀ f ∈ fs, ∃ x, DataW.trod enc P w base spare held fuel f.type ((all.drop f.offset).take (P.cellsOf f.type)) = some x) →
      off + ks.length = all.length → TyC w ks (all.drop off)
  | [], off, ks, h, _, hl => by
    simp only [flatTFs, Option.some.injEq] at h; subst h
    rw [List.drop_eq_nil_of_le (by simp at hl; omega)]
    exact TyC.nil
  | f :: r, off, ks, h, ht, hl => by
    unfold flatTFs at h
    cases hg : go f.type with
    | none => rw [hg] at h; cases h
    | some k1 =>
      rw [hg] at h
      simp only at h
      split at h
      · rename_i hc
        obtain ⟨ho, hk⟩ := hc
        cases hr : flatTFs P go r (off + k1.length) with
        | none => rw [hr] at h; cases h
        | some k2 =>
          rw [hr] at h
          simp only [Option.map_some, Option.some.injEq] at h
          subst h
          simp only [List.length_append] at hl
          obtain ⟨x, hx⟩ := ht f (by simp)
          have i1 := hgo _ _ _ _ hg hx
          rw [ho, ← hk] at i1
          have i2 := tyC_fs hgo r (off + k1.length) k2 hr (fun f' hf' => ht f' (by simp [hf'])) (by omega)
          have := i1.append i2
          rw [← List.drop_drop] at this
          rwa [List.take_append_drop] at this
      · cases h

theorem mapM_cells' {f : Nat → Option Value} : ∀ {n : Nat} {cs : List Value}, (List.range n).mapM f = some cs → cs.length = n ∧ ∀ j, j < n → f j = cs[j]? := by
  intro n cs h
  have hl := mapM_some_length h
  refine ⟨by simpa using hl, fun j hj => ?_⟩
  exact mapM_some_get h j j (List.getElem?_range hj)
theorem cells_mid' {b off n : Nat} {sp : Option Nat} {a : Addr} {cs : List Value} (ha : a = ⟨b, off, sp⟩) (h : w.cells? base a n = some cs) : cs.length = n ∧ (0 < n → sp = none) ∧ ∀ j, j < n → w.cell? ⟨b, off + j, none⟩ = cs[j]? := by
  unfold World.cells? at h
  split at h
  · obtain ⟨hl, hj⟩ := mapM_cells' h
    subst ha
    have h0 : 0 < n → sp = none := fun h0 => by
      have := hj 0 h0
      rw [List.getElem?_eq_getElem (by omega)] at this
      have h1 : w.cell? ⟨b, off, sp⟩ = some cs[0] := by simpa [Addr.add] using this
      have := World.cell?_spot h1
      simpa using this
    refine ⟨hl, h0, fun j hjn => ?_⟩
    obtain rfl := h0 (by omega)
    have := hj j hjn
    rw [← this]
    congr 1
    unfold Addr.add
    split <;> simp_all
  · cases h

theorem tyC_slice {e : TypeId} {ks : List Ty} {n0 c0 m : Nat} {a : Addr} {elems : List (DataW H × List MemPlace)} (hc : ks.length = P.cellsOf e) (hpos : 0 < ks.length) (hl : n0 ≤ c0) (hm : c0 ≤ maxLen) (hlen : elems.length = n0)
    (hel : ∀ i, i < n0 → (w.cells? base (a.add (i * P.cellsOf e)) (P.cellsOf e)).bind (DataW.trod enc P w base spare held m e) = elems[i]?)
    (hgo : ∀ (cs : List Value) (x : DataW H × List MemPlace), DataW.trod enc P w base spare held m e cs = some x → TyC w ks cs) :
    ∃ av, HasTy (.sl ks) av ∧ RepS w (fun _ => False) av (.slice (some a) n0 c0) := by
  have hm' : n0 ≤ 9223372036854775807 := by unfold maxLen at hm; omega
  rcases Nat.eq_zero_or_pos n0 with h0 | h0
  · subst h0
    refine ⟨.data false ks.length [] false, ⟨[], false, rfl, by simp, fun g hg => by simp at hg⟩, .data0 _ _ _ _ (fun h => by cases h)⟩
  · obtain ⟨b, off, sp⟩ := a
    have each : ∀ i, i < n0 → ∃ as cs, HasTys ks as ∧ RepC w as cs ∧ cs.length = ks.length ∧ sp = none ∧ b < w.heap.size ∧ ∀ j, j < ks.length → w.cell? ⟨b, off + (i * ks.length + j), none⟩ = cs[j]? := by
      intro i hi
      have h1 := hel i hi
      rw [List.getElem?_eq_getElem (by omega), ← hc] at h1
      have h00 := hel 0 (by omega)
      rw [List.getElem?_eq_getElem (by omega), ← hc] at h00
      cases hq : w.cells? base (Addr.add ⟨b, off, sp⟩ (i * ks.length)) ks.length with
      | none => rw [hq] at h1; simp at h1
      | some cs =>
        rw [hq] at h1
        simp only [Option.bind_some] at h1
        cases hq0 : w.cells? base (Addr.add ⟨b, off, sp⟩ (0 * ks.length)) ks.length with
        | none => rw [hq0] at h00; simp at h00
        | some cs0 =>
          have s0 := (cells_mid' (b := b) (off := off) (sp := sp) (by simp [Addr.add]) hq0).2.1 hpos
          subst s0
          have ha : (Addr.add ⟨b, off, none⟩ (i * ks.length)) = ⟨b, off + i * ks.length, none⟩ := by unfold Addr.add; split <;> simp_all
          obtain ⟨hl2, _, hc2⟩ := cells_mid' ha hq
          obtain ⟨as, t1, t2⟩ := hgo _ _ h1
          refine ⟨as, cs, t1, t2, hl2, rfl, ?_, fun j hj => by rw [← hc2 j hj, Nat.add_assoc]⟩
          have hcell := hc2 0 hpos
          rw [List.getElem?_eq_getElem (by omega)] at hcell
          unfold World.cell? at hcell
          by_cases hb : b < w.heap.size
          · exact hb
          · rw [Array.getElem?_eq_none (by simpa using hb)] at hcell
            simp at hcell
    obtain ⟨_, _, _, _, _, hsp, hbd, _⟩ := each 0 h0
    subst hsp
    have hes : ∃ es : List (List AV), es.length = n0 ∧ ∀ i, i < n0 → ∃ as cs, es[i]? = some as ∧ HasTys ks as ∧ RepC w as cs ∧ cs.length = ks.length ∧ ∀ j, j < ks.length → w.cell? ⟨b, off + (i * ks.length + j), none⟩ = cs[j]? := by
      refine ⟨(List.range n0).map fun i => if h : i < n0 then Classical.choose (each i h) else [], by simp, fun i hi => ?_⟩
      obtain ⟨cs, h1, h2, h3, _, _, h4⟩ := Classical.choose_spec (each i hi)
      exact ⟨_, cs, by rw [List.getElem?_map, List.getElem?_range hi]; simp [hi], h1, h2, h3, h4⟩
    obtain ⟨es, hesl, hes⟩ := hes
    refine ⟨.data false ks.length es (decide (c0 = n0)), ⟨es, _, rfl, by omega, fun g hg => ?_⟩, ?_⟩
    · obtain ⟨i, hi, rfl⟩ := List.mem_iff_getElem.1 hg
      obtain ⟨as, cs, h1, h2, _⟩ := hes i (by omega)
      rw [List.getElem?_eq_getElem hi] at h1
      cases h1
      exact h2
    · have : RepS w (fun _ => False) (.data false ks.length es (decide (c0 = n0))) (.slice (some ⟨b, off, none⟩) es.length c0) := by
        refine .data ks.length es _ b off c0 (fun e j => (w.cell? ⟨b, off + (e * ks.length + j), none⟩).getD undef) (by omega) (fun h => by simp at h; omega) (fun g hg => ?_) (fun h => h) hbd (fun e0 j he hj => ?_) (fun e0 j g c hg hcj => ?_) False.elim
        · obtain ⟨i, hi, rfl⟩ := List.mem_iff_getElem.1 hg
          obtain ⟨as, cs, h1, h2, _⟩ := hes i (by omega)
          rw [List.getElem?_eq_getElem hi] at h1
          cases h1
          exact h2.len
        · obtain ⟨as, cs, h1, h2, h3, h4, h5⟩ := hes e0 (by omega)
          have h6 := h5 j hj
          rw [List.getElem?_eq_getElem (by omega)] at h6
          simp only [h6, Option.getD_some, true_and]
          exact h3.2.1 _ (List.getElem_mem _)
        · obtain ⟨hi, _⟩ := List.getElem?_eq_some_iff.1 hg
          obtain ⟨as, cs, h1, h2, h3, h4, h5⟩ := hes e0 (by omega)
          rw [hg] at h1
          cases h1
          have hj : j < ks.length := by rw [← h2.len]; exact (List.getElem?_eq_some_iff.1 hcj).1
          have h6 := h5 j hj
          rw [List.getElem?_eq_getElem (by omega)] at h6
          simp only [h6, Option.getD_some]
          exact h3.2.2 j _ _ hcj (List.getElem?_eq_getElem (by omega))
      rwa [hesl] at this

theorem read_ty : ∀ (d : Nat) {t : TypeId} {ts : List Ty}, flatTy P d t = some ts → ∀ {fuel : Nat} {cs : List Value} {x : DataW H × List MemPlace}, DataW.trod enc P w base spare held fuel t cs = some x → TyC w ts cs
  | 0, _, _, h, _, _, _, _ => by simp [flatTy] at h
  | d + 1, t, ks, h, fuel, cs, x, hx => by
    unfold flatTy at h
    split at h
    · rename_i hu
      simp only [Option.some.injEq] at h; subst h
      obtain ⟨b, rfl, _⟩ := DataW.trod_bool hu hx
      exact TyC.one (a := .bool b) ⟨b, rfl⟩ rfl (.bool b)
    · rename_i k hu
      simp only [Option.some.injEq] at h; subst h
      obtain ⟨n, rfl, _, hw⟩ := DataW.trod_int hu hx
      simp only [Lit.wf, Bool.and_eq_true, decide_eq_true_eq] at hw
      exact TyC.one (a := .int k n) ⟨n, rfl, hw.1, hw.2⟩ rfl (.int k n)
    · rename_i hu
      simp only [Option.some.injEq] at h; subst h
      obtain ⟨s, rfl, _, hw⟩ := DataW.trod_string hu hx
      exact TyC.one (a := .str s) ⟨s, rfl, by unfold maxLen at hw; omega⟩ rfl (.str s)
    · rename_i e hu
      cases hr : flatTy P d e with
      | none => rw [hr] at h; cases h
      | some k1 =>
        rw [hr] at h
        simp only at h
        split at h
        · rename_i hc
          simp only [Option.some.injEq] at h; subst h
          rcases DataW.trod_slice hu hx with ⟨rfl, _⟩ | ⟨a, len, cap, elems, rest, n, _, rfl, _, hb, hl, hm, hlen, hel, _, _⟩
          · exact TyC.one (a := .data false k1.length [] true) ⟨[], true, rfl, by simp, fun g hg => by simp at hg⟩ rfl (.data0 _ _ _ _ (fun _ => rfl))
          · obtain ⟨av, h1, h2⟩ := tyC_slice hc.1 hc.2 hl hm hlen hel (fun cs x hx => read_ty d hr hx)
            exact TyC.one h1 rfl h2
        · cases h
    · rename_i n e hu
      cases hr : flatTy P d e with
      | none => rw [hr] at h; cases h
      | some k1 =>
        rw [hr] at h
        simp only at h
        split at h
        · rename_i hc
          simp only [Option.some.injEq] at h; subst h
          obtain ⟨xs, m, rfl, _, hl, hxl, hel⟩ := DataW.trod_array hu hx
          refine tyC_rep (by rw [hl, hc.2]) (fun i hi => ?_)
          have := hel i hi
          rw [List.getElem?_eq_getElem (by omega), ← hc.1] at this
          exact read_ty d hr this
        · cases h
    · rename_i fs hu
      cases hr : flatTFs P (flatTy P d) fs.toList 0 with
      | none => rw [hr] at h; cases h
      | some k1 =>
        rw [hr] at h
        simp only at h
        split at h
        · rename_i hc
          simp only [Option.some.injEq] at h; subst h
          obtain ⟨xs, m, rfl, _, hl, hxl, hel⟩ := DataW.trod_struct hu hx
          have := tyC_fs (enc := enc) (w := w) (base := base) (spare := spare) (held := held) (fuel := m) (go := flatTy P d) (all := cs) (fun t ks cs x h1 h2 => read_ty d h1 h2) fs.toList 0 k1 hr (fun f hf => by
            obtain ⟨i, hi, hfi⟩ := List.mem_iff_getElem.1 hf
            have h3 := hel i f (by simp at hi; rw [Array.getElem?_eq_getElem hi]; simpa using hfi)
            rw [List.getElem?_eq_getElem (by simp at hi; omega)] at h3
            exact ⟨_, h3⟩) (by omega)
          simpa using this
        · cases h
    · cases h

/-- An argument that is a struct or an array. -/
theorem arg_agg {d b0 : Nat} {t : TypeId} {ts : List Ty} {v : Value} {r : Reach} {dd : DataW H} {ps : List MemPlace} (hf : flatTy P d t = some ts) (ht : (∃ fs, P.underlying t = some (.struct fs)) ∨ ∃ n e, P.underlying t = some (.array n e))
    (hval : Value.okWide P w r b0 t v) (h : DataW.Trod enc P w base spare held t v dd ps) : ∃ as, HasTys ts as ∧ RepV (fun _ => none) w (fun _ => False) (fun _ => False) (.agg as) v := by
  have hv : ∃ cs, v = .agg cs := by
    rcases ht with ⟨fs, ht⟩ | ⟨n, e, ht⟩ <;> simp only [Value.okWide, ht] at hval <;> exact ⟨_, hval.choose_spec.1⟩
  obtain ⟨cs, rfl⟩ := hv
  obtain ⟨fuel, hx⟩ := h
  obtain ⟨as, h1, h2, h3, h4⟩ := read_ty d hf hx
  simp only [Value.cells] at h2 h3 h4
  refine ⟨as, h1, .s ?_⟩
  have := RepS.agg (w := w) (X := fun _ => False) as cs.toList h2 h3 h4
  simpa using this
/-- An argument of one cell. -/
theorem arg_one {d : Nat} {t : TypeId} {ty : Ty} {v : Value} {dd : DataW H} {ps : List MemPlace} (hf : flatTy P d t = some [ty]) (hv : v.cells = #[v])
    (h : DataW.Trod enc P w base spare held t v dd ps) : ∃ a, HasTy ty a ∧ RepV (fun _ => none) w (fun _ => False) (fun _ => False) a v := by
  obtain ⟨fuel, hx⟩ := h
  rw [hv] at hx
  obtain ⟨as, h1, h2, h3, h4⟩ := read_ty d hf hx
  cases as with
  | nil => simp at h2
  | cons a as =>
    cases as with
    | cons b as => simp at h2
    | nil =>
      simp only [HasTys, and_true] at h1
      refine ⟨a, h1, .s ?_⟩
      have := h4 0 a v rfl rfl
      simpa using this
end
end Go.Proofs.Ytfnonledcniojaa
/- A loop's head in code that runs on its caller's rows and makes none. Conditions: none. -/
namespace Go.Proofs.Ytfnonledcniojaa
open Go
theorem areach_low (h : List ARow) (low : Nat) : ∀ (n : Nat) (ws : List Nat), (∀ i ∈ ws, i < low) → areach h low n ws [] = []
  | 0, _, _ => rfl
  | n + 1, [], _ => by simp [areach]
  | n + 1, i :: ws, hw => by
    have hi : i < low := hw i (by simp)
    rw [areach, if_pos (.inl hi)]
    exact areach_low h low n ws fun j hj => hw j (by simp [hj])
mutual
theorem ren_low (h : List ARow) (low off : Nat) (order : List Nat) : ∀ (v : AV), (∀ i ∈ v.ids, i < low) → v.ren h low off order = v
  | .own id g s l c, hv => by rw [AV.ren, if_pos (hv id (by simp [AV.ids]))]
  | .ptr id g e o, hv => by rw [AV.ren, if_pos (hv id (by simp [AV.ids]))]
  | .agg cs, hv => by rw [AV.ren, renL_low h low off order cs (by simpa [AV.ids] using hv)]
  | .tup cs, hv => by rw [AV.ren, renL_low h low off order cs (by simpa [AV.ids] using hv)]
  | .fn f a b, hv => by
    simp only [AV.ids, List.mem_append] at hv
    rw [AV.ren, renL_low h low off order a (fun i hi => hv i (.inl hi)), renL_low h low off order b (fun i hi => hv i (.inr hi))]
  | .int _ _, _ => by simp [AV.ren]
  | .bool _, _ => by simp [AV.ren]
  | .str _, _ => by simp [AV.ren]
  | .data _ _ _ _, _ => by simp [AV.ren]
  | .dptr _, _ => by simp [AV.ren]
  | .nilfn, _ => by simp [AV.ren]
  | .nilptr, _ => by simp [AV.ren]
  | .unk, _ => by simp [AV.ren]
theorem renL_low (h : List ARow) (low off : Nat) (order : List Nat) : ∀ (vs : List AV), (∀ i ∈ AV.idsL vs, i < low) → AV.renL h low off order vs = vs
  | [], _ => by simp [AV.renL]
  | v :: vs, hv => by
    simp only [AV.idsL, List.mem_append] at hv
    rw [AV.renL, ren_low h low off order v (fun i hi => hv i (.inl hi)), renL_low h low off order vs (fun i hi => hv i (.inr hi))]
end
theorem mem_idsL {i : Nat} : ∀ {vs : List AV}, i ∈ AV.idsL vs ↔ ∃ v ∈ vs, i ∈ v.ids
  | [] => by simp [AV.idsL]
  | v :: vs => by simp [AV.idsL, mem_idsL (vs := vs)]
/-- No row names a row that is not there. -/
def ClosedH (h : List ARow) : Prop := ∀ r ∈ h, ∀ i ∈ r.ids, i < h.length
theorem row_ren_low {h : List ARow} {low off : Nat} {order : List Nat} {r : ARow} (hr : ∀ i ∈ r.ids, i < low) : r.ren h low off order = r := by
  unfold ARow.ren
  split
  · rfl
  · rename_i hf
    have hids : r.ids = r.es.flatMap AV.idsL := by simp [ARow.ids, hf]
    rw [hids] at hr
    have : r.es.map (AV.renL h low off order) = r.es := by
      conv => rhs; rw [← List.map_id r.es]
      apply List.map_congr_left
      intro g hg
      exact renL_low h low off order g fun i hi => hr i (List.mem_flatMap.2 ⟨g, hg, hi⟩)
    rw [this]
theorem agc_drop {h e : List ARow} {live : List Nat} {env : AEnv} (hC : ClosedH h) (hE : ∀ p ∈ akeep live env, ∀ i ∈ p.2.ids, i < h.length) : agc h.length live ⟨env, h ++ e⟩ = some ⟨akeep live env, h⟩ := by
  have ht : (h ++ e).take h.length = h := List.take_left' rfl
  have ho : areach (h ++ e) h.length 64 (AV.idsL ((akeep live env).map (·.2)) ++ ((h ++ e).take h.length).flatMap ARow.ids) [] = [] := by
    refine areach_low _ _ 64 _ fun i hi => ?_
    rcases List.mem_append.1 hi with hi | hi
    · obtain ⟨v, hv, hi⟩ := mem_idsL.1 hi
      obtain ⟨p, hp, rfl⟩ := List.mem_map.1 hv
      exact hE p hp i hi
    · obtain ⟨r, hr, hi⟩ := List.mem_flatMap.1 hi
      rw [ht] at hr
      exact hC r hr i hi
  unfold agc
  simp only [ho]
  have e1 : (akeep live env).map (fun p => (p.1, p.2.ren (h ++ e) h.length h.length [])) = akeep live env := by
    conv => rhs; rw [← List.map_id (akeep live env)]
    apply List.map_congr_left
    intro p hp
    rw [ren_low _ _ _ _ p.2 (hE p hp)]
    rfl
  have e2 : ((h ++ e).take h.length).map (ARow.ren (h ++ e) h.length h.length []) = h := by
    rw [ht]
    conv => rhs; rw [← List.map_id h]
    apply List.map_congr_left
    intro r hr
    exact row_ren_low (hC r hr)
  rw [e1, e2]
  simp [orderOk, arows]
theorem ClosedH.set {h : List ARow} {id : Nat} {r : ARow} (hC : ClosedH h) (hr : r.flat = true) : ClosedH (h.set id r) := fun r' hr' i hi => by
  rw [List.length_set]
  rcases List.mem_or_eq_of_mem_set hr' with h1 | h1
  · exact hC r' h1 i hi
  · subst h1; simp [ARow.ids, hr] at hi
/-- A call that comes to its answer within so many steps. -/
theorem aP_fuel {G : Nat → Option (List AV)} {F : Nat → Option AEnt} (n : Nat) {f : Nat} {args : List AV} {v : AV} (h : ((arunFn (aexec G F n) F f args []).bind fun r => afreeze r.2 r.1) = some v) : aP G F f args = some v := by
  obtain ⟨r, h1, h2⟩ := opt_bind_some.1 h
  exact opt_bind_some.2 ⟨r, arunFn_mono F (aexec_aE G F n) _ _ _ _ h1, h2⟩
section
variable (G : Nat → Option (List AV)) (raw : ARaw) (env : AEnv) (h : List ARow)
/-- A slice's elements become zero. -/
def aclear (h : List ARow) (zero : List AV) : AV → Option (AV × List ARow)
  | .own id gen s l _ => (h[id]?).bind fun r => if r.gen = gen ∧ r.k = zero.length ∧ s + l ≤ r.es.length then
      some (.tup [], h.set id ⟨r.k, r.gen, r.flat && AV.stableL zero, r.es.take s ++ List.replicate l zero ++ r.es.drop (s + l)⟩) else none
  | _ => none
theorem op_clear (zero : List AV) (x : AOpd) : aexecOp G raw env h (.clear zero x) = (aeval G env x).bind (aclear h zero) := by
  simp only [aexecOp, aop]
  congr 1
end
end Go.Proofs.Ytfnonledcniojaa
/- The small machine's equations in the form that a quick rewriter takes: one equation for each case, none with a premise. Conditions: none. -/
namespace Go.Proofs.Ytfnonledcniojaa
open Go

theorem y_body (b : ACode) (r : List ARes) : (AFn.mk b r).body = b := rfl
theorem y_res (b : ACode) (r : List ARes) : (AFn.mk b r).res = r := rfl
theorem y_env (e : AEnv) (h : List ARow) : (ASt.mk e h).env = e := rfl
theorem y_h (e : AEnv) (h : List ARow) : (ASt.mk e h).h = h := rfl
theorem y_fst {α β : Type} (a : α) (b : β) : (a, b).1 = a := rfl
theorem y_snd {α β : Type} (a : α) (b : β) : (a, b).2 = b := rfl
theorem y_k (k g : Nat) (f : Bool) (es : List (List AV)) : (ARow.mk k g f es).k = k := rfl
theorem y_gen (k g : Nat) (f : Bool) (es : List (List AV)) : (ARow.mk k g f es).gen = g := rfl
theorem y_flat (k g : Nat) (f : Bool) (es : List (List AV)) : (ARow.mk k g f es).flat = f := rfl
theorem y_es (k g : Nat) (f : Bool) (es : List (List AV)) : (ARow.mk k g f es).es = es := rfl
theorem y_put (k g : Nat) (f : Bool) (es : List (List AV)) (e : Nat) (x : List AV) (st : Bool) : (ARow.mk k g f es).put e x st = ⟨k, g, f && st, es.set e x⟩ := rfl
theorem y_ft : (false = true) = False := by simp
theorem y_bt (b : Bool) : (b == true) = b := by cases b <;> rfl
theorem y_bf (b : Bool) : (b == false) = !b := by cases b <;> rfl
theorem y_nt (b : Bool) : (b != true) = !b := by cases b <;> rfl
theorem y_nf (b : Bool) : (b != false) = b := by cases b <;> rfl
theorem y_toNat (n : Nat) : Int.toNat (OfNat.ofNat n : Int) = (OfNat.ofNat n : Nat) := rfl

section
variable (G : Nat → Option (List AV)) (F : Nat → Option AEnt) (raw : ARaw)
/-- What is done behind a part that ended normally. -/
noncomputable def athen (base : Nat) (b : ACode) (r : AEx × ASt) : Option (AEx × ASt) := match r.1 with
  | .normal => aE G F base b r.2
  | _ => some r
theorem y_seq (base : Nat) (a b : ACode) (st : ASt) : aE G F base (.seq a b) st = (aE G F base a st).bind (athen G F base b) := aE_seq G F base a b st
theorem y_then (base : Nat) (b : ACode) (st : ASt) : athen G F base b (.normal, st) = aE G F base b st := rfl
theorem y_then_ret (base : Nat) (b : ACode) (st : ASt) : athen G F base b (.ret, st) = some (.ret, st) := rfl
theorem y_then_exit (base id : Nat) (b : ACode) (st : ASt) : athen G F base b (.exit id, st) = some (.exit id, st) := rfl
/-- A block's end. -/
def aleave (id : Nat) (r : AEx × ASt) : AEx × ASt := (if r.1 = .exit id then .normal else r.1, r.2)
theorem y_block (base id : Nat) (b : ACode) (st : ASt) : aE G F base (.block id b) st = (aE G F base b st).map (aleave id) := aE_block G F base id b st
theorem y_leave (id : Nat) (st : ASt) : aleave id (.normal, st) = (.normal, st) := rfl
theorem y_leave_ret (id : Nat) (st : ASt) : aleave id (.ret, st) = (.ret, st) := rfl
theorem y_leave_exit (id i : Nat) (st : ASt) : aleave id (.exit i, st) = if i = id then (.normal, st) else (.exit i, st) := by
  unfold aleave
  by_cases h : i = id
  · subst h; simp
  · simp [h]
theorem y_cond (base : Nat) (c : AOpd) (a b : ACode) (st : ASt) : aE G F base (.cond c a b) st = ((aeval G st.env c).bind abool).bind fun t => if t = true then aE G F base a st else aE G F base b st := by
  rw [aE_cond]
  cases aeval G st.env c with
  | none => rfl
  | some v =>
    cases v with
    | bool t => cases t <;> rfl
    | _ => rfl
/-- What follows a loop's body. -/
noncomputable def aagain (base : Nat) (live : List Nat) (b : ACode) (r : AEx × ASt) : Option (AEx × ASt) := match r.1 with
  | .normal => aE G F base (.loop live b) r.2
  | _ => some r
theorem y_loop (base : Nat) (live : List Nat) (b : ACode) (st : ASt) : aE G F base (.loop live b) st = (agc base live st).bind fun st => (aE G F base b st).bind (aagain G F base live b) := aE_loop G F base live b st
theorem y_again (base : Nat) (live : List Nat) (b : ACode) (st : ASt) : aagain G F base live b (.normal, st) = aE G F base (.loop live b) st := rfl
theorem y_again_ret (base : Nat) (live : List Nat) (b : ACode) (st : ASt) : aagain G F base live b (.ret, st) = some (.ret, st) := rfl
theorem y_again_exit (base id : Nat) (live : List Nat) (b : ACode) (st : ASt) : aagain G F base live b (.exit id, st) = some (.exit id, st) := rfl
def aend (live : List Nat) (st : ASt) : AEx × ASt := (.normal, ⟨akeep live st.env, st.h⟩)
theorem y_region (base : Nat) (ops : List AOper) (d : Bool) (live : List Nat) (env : AEnv) (h : List ARow) : aE G F base (.region ops d live) ⟨env, h⟩ = (aops G (aR G F) ops ⟨env, h⟩).map (aend live) := aE_region G F base ops d live _
theorem y_end (live : List Nat) (env : AEnv) (h : List ARow) : aend live ⟨env, h⟩ = (.normal, ⟨akeep live env, h⟩) := rfl
/-- A function's end. -/
def afinish (res : List ARes) (r : AEx × ASt) : Option (AV × List ARow) := match r.1 with
  | .exit _ => none
  | _ => (aresults res r.2).map (·, r.2.h)
theorem y_fn {f : Nat} {fn : AFn} (hf : F f = some (.fn fn)) (args : List AV) (h : List ARow) : aR G F f args h = (aE G F h.length fn.body ⟨aenter args, h⟩).bind (afinish fn.res) := aR_fn G F hf args h
theorem y_fin_ret (res : List ARes) (st : ASt) : afinish res (.ret, st) = (aresults res st).map (·, st.h) := rfl
end

section
variable (h : List ARow)
theorem y_patch (off : Nat) (cs g : List AV) : patch off cs g = g.take off ++ cs ++ g.drop (off + cs.length) := rfl
theorem y_store_agg (m id gen e off : Nat) (cs : List AV) : astore h true m (.ptr id gen e off) (.agg cs) = (h[id]?).bind fun r => if r.gen = gen then (r.es[e]?).bind fun g => if cs.length = m ∧ off + m ≤ g.length then some (h.set id (r.put e (patch off cs g) (AV.stableL cs))) else none else none := rfl
theorem y_store_data (m id gen e off : Nat) (b : Bool) (k : Nat) (es : List (List AV)) (f : Bool) : astore h false m (.ptr id gen e off) (.data b k es f) = (h[id]?).bind fun r => if r.gen = gen then (r.es[e]?).bind fun g => if off < g.length then some (h.set id (r.put e (g.set off (.data b k es f)) (!b))) else none else none := rfl
theorem y_kb (a b : Bool) : eqLeaf .kb (.bool a) (.bool b) = some (a == b) := rfl
theorem y_ks (a b : ByteArray) : eqLeaf .ks (.str a) (.str b) = some (a == b) := rfl
theorem y_eq_one (s : Sh) (a b : AV) : aeq false [s] a b = eqLeaf s a b := rfl
theorem y_nil_data (b : Bool) (k : Nat) (e : List AV) (es : List (List AV)) (f : Bool) : aisnil .ks (.data b k (e :: es) f) = some false := rfl

/-- Where there is room behind a slice. -/
def aappIn (h : List ARow) (k id gen s l c : Nat) (r : ARow) (ys : List (List AV) × Bool) : Option (AV × List ARow) := if r.gen = gen ∧ r.k = k ∧ s + (l + ys.1.length) ≤ r.es.length then
        some (.own id gen s (l + ys.1.length) c, h.set id ⟨k, gen, r.flat && ys.2, r.es.take (s + l) ++ ys.1 ++ r.es.drop (s + l + ys.1.length)⟩) else none
def aappNew (h : List ARow) (k bytes id gen s l : Nat) (r : ARow) (ys : List (List AV) × Bool) : Option (AV × List ARow) := if r.gen = gen ∧ r.k = k ∧ s + l ≤ r.es.length ∧ aboundsOk (l + ys.1.length) bytes = true then
        some (.own id (gen + 1) 0 (l + ys.1.length) (l + ys.1.length), h.set id ⟨k, gen + 1, r.flat && ys.2, (r.es.drop s).take l ++ ys.1⟩) else none
theorem y_app_own (k bytes id gen s l c : Nat) (y : AV) : aappend h k bytes (.own id gen s l c) y = (agroups h k y).bind fun ys => (h[id]?).bind fun r => if l < c ∧ l + ys.1.length ≤ c then aappIn h k id gen s l c r ys else aappNew h k bytes id gen s l r ys := rfl
theorem y_app_new (k bytes id gen s l kk g : Nat) (f : Bool) (es ys : List (List AV)) (fl : Bool) : aappNew h k bytes id gen s l ⟨kk, g, f, es⟩ (ys, fl) = if g = gen ∧ kk = k ∧ s + l ≤ es.length ∧ aboundsOk (l + ys.length) bytes = true then
        some (.own id (gen + 1) 0 (l + ys.length) (l + ys.length), h.set id ⟨k, gen + 1, f && fl, (es.drop s).take l ++ ys⟩) else none := rfl
theorem y_bounds (n bytes : Nat) : aboundsOk n bytes = decide (n * bytes ≤ 140737488355328) := rfl
theorem y_appD (k bytes k' : Nat) (es : List (List AV)) (y : AV) : aappendD h k bytes (.data false k' es true) y = (agroups h k y).bind fun ys => if (es.isEmpty || k' == k) = true ∧ ys.2 = true ∧ aboundsOk (es.length + ys.1.length) bytes = true then some (.data false k (es ++ ys.1) false) else none := rfl
theorem y_bound_none (b : Nat) : abound b none = some b := rfl
theorem y_bound_some (b : Nat) (k : IntKind) (i : Int) : abound b (some (.int k i)) = if 0 ≤ i then some i.toNat else none := rfl
theorem y_sl_own (k id gen s l c : Nat) (lo hi mx : Option AV) : aslice h k (.own id gen s l c) lo hi mx = (abound 0 lo).bind fun a => (abound l hi).bind fun b => (abound c mx).bind fun m =>
      (h[id]?).bind fun r => if r.gen = gen ∧ r.k = k then if a ≤ b ∧ b ≤ m ∧ m ≤ c then some (.own id gen (s + a) (b - a) (m - a)) else none else none := rfl
theorem y_sl_data (k : Nat) (bor : Bool) (k' : Nat) (es : List (List AV)) (full : Bool) (lo hi : Option AV) : aslice h k (.data bor k' es full) lo hi none = (abound 0 lo).bind fun a => (abound es.length hi).bind fun b =>
      if k' = k then if a ≤ b ∧ b ≤ es.length then some (.data bor k ((es.take b).drop a) (full && decide (b = es.length))) else none else none := by
  simp only [aslice, abound, Option.bind_some, Nat.le_refl, and_true]
theorem y_sl_data3 (k : Nat) (bor : Bool) (k' : Nat) (es : List (List AV)) (full : Bool) (lo hi : Option AV) (mx : AV) : aslice h k (.data bor k' es full) lo hi (some mx) = (abound 0 lo).bind fun a => (abound es.length hi).bind fun b => (abound es.length (some mx)).bind fun m =>
      if k' = k then if a ≤ b ∧ b ≤ m ∧ m ≤ es.length then some (.data bor k ((es.take b).drop a) (decide (m = b))) else none else none := rfl
theorem y_fill_nil (k : Nat) (es : List (List AV)) : afill k es [] = some es := rfl
theorem y_fill_cons (k : Nat) (es : List (List AV)) (i : Nat) (v : AV) (ps : List (Nat × AV)) : afill k es ((i, v) :: ps) = v.cells.bind fun cs => if cs.length = k ∧ i < es.length then afill k (es.set i cs) ps else none := rfl
theorem y_stLL_nil : stableLL [] = true := rfl
theorem y_stLL_cons (e : List AV) (es : List (List AV)) : stableLL (e :: es) = (AV.stableL e && stableLL es) := rfl
theorem y_stL_nil : AV.stableL [] = true := by rw [AV.stableL]
theorem y_stL_cons (v : AV) (vs : List AV) : AV.stableL (v :: vs) = (v.stable && AV.stableL vs) := by rw [AV.stableL]
theorem y_st_int (k : IntKind) (n : Int) : (AV.int k n).stable = true := by rw [AV.stable]
theorem y_st_data (b : Bool) (k : Nat) (es : List (List AV)) (f : Bool) : (AV.data b k es f).stable = !b := by rw [AV.stable]
theorem y_ids_own (a b c d e : Nat) : (AV.own a b c d e).ids = [a] := by rw [AV.ids]
theorem y_ids_int (k : IntKind) (n : Int) : (AV.int k n).ids = [] := by simp [AV.ids]
theorem y_ids_data (b : Bool) (k : Nat) (es : List (List AV)) (f : Bool) : (AV.data b k es f).ids = [] := by simp [AV.ids]
theorem y_idsL_nil : AV.idsL [] = [] := by rw [AV.idsL]
theorem y_idsL_cons (v : AV) (vs : List AV) : AV.idsL (v :: vs) = v.ids ++ AV.idsL vs := by rw [AV.idsL]

section
variable (low off : Nat) (order : List Nat)
theorem y_ren_own (id g s l c : Nat) : (AV.own id g s l c).ren h low off order = if id < low then .own id g s l c else (h[id]?).elim .unk fun r => (order.idxOf? id).elim .unk fun j => if r.gen = g then .own (off + j) 0 s l c else .unk := by
  rw [AV.ren]
  cases h[id]? <;> cases order.idxOf? id <;> rfl
theorem y_ren_int (k : IntKind) (n : Int) : (AV.int k n).ren h low off order = .int k n := by simp [AV.ren]
theorem y_ren_data (b : Bool) (k : Nat) (es : List (List AV)) (f : Bool) : (AV.data b k es f).ren h low off order = .data b k es f := by simp [AV.ren]
theorem y_renL_nil : AV.renL h low off order [] = [] := by rw [AV.renL]
theorem y_renL_cons (v : AV) (vs : List AV) : AV.renL h low off order (v :: vs) = v.ren h low off order :: AV.renL h low off order vs := by rw [AV.renL]
theorem y_row_flat (k g : Nat) (es : List (List AV)) : (ARow.mk k g true es).ren h low off order = ⟨k, g, true, es⟩ := rfl
theorem y_row_not (k g : Nat) (es : List (List AV)) : (ARow.mk k g false es).ren h low off order = ⟨k, g, false, es.map (AV.renL h low off order)⟩ := rfl
theorem y_rids_flat (k g : Nat) (es : List (List AV)) : (ARow.mk k g true es).ids = [] := rfl
theorem y_rids_not (k g : Nat) (es : List (List AV)) : (ARow.mk k g false es).ids = es.flatMap AV.idsL := rfl
theorem y_reach_nil (low n : Nat) (acc : List Nat) : areach h low (n + 1) [] acc = acc := by simp [areach]
theorem y_reach_cons (low n i : Nat) (ws acc : List Nat) : areach h low (n + 1) (i :: ws) acc = if i < low then areach h low n ws acc else if acc.contains i = true then areach h low n ws acc else (h[i]?).elim (areach h low n ws acc) fun r => areach h low n (ws ++ r.ids) (acc ++ [i]) := by
  rw [areach]
  by_cases h1 : i < low
  · simp [h1]
  · by_cases h2 : acc.contains i = true
    · simp only [h1, h2, or_true, if_true, if_false]
    · simp only [h1, h2, or_false, if_false]
      cases h[i]? <;> rfl
def nodupB : List Nat → Bool
  | [] => true
  | i :: is => !is.contains i && nodupB is
theorem nodupB_eq : ∀ l : List Nat, decide l.Nodup = nodupB l
  | [] => by simp [nodupB]
  | i :: is => by
    rw [nodupB, ← nodupB_eq is]
    by_cases h1 : i ∈ is <;> by_cases h2 : is.Nodup <;> simp [h1, h2]
def orderB (h : List ARow) (low : Nat) : List Nat → Bool
  | [] => true
  | i :: is => decide (low ≤ i) && decide (i < h.length) && orderB h low is
theorem orderB_eq (low : Nat) : ∀ l : List Nat, (l.all fun i => decide (low ≤ i) && decide (i < h.length)) = orderB h low l
  | [] => rfl
  | i :: is => by rw [orderB, ← orderB_eq low is]; rfl
theorem y_orderOk (low : Nat) (order : List Nat) : orderOk h low order = (nodupB order && orderB h low order) := by
  unfold orderOk
  rw [orderB_eq, nodupB_eq]
theorem y_nodup_nil : nodupB [] = true := rfl
theorem y_nodup_cons (i : Nat) (is : List Nat) : nodupB (i :: is) = (!is.contains i && nodupB is) := rfl
theorem y_ord_nil (low : Nat) : orderB h low [] = true := rfl
theorem y_ord_cons (low i : Nat) (is : List Nat) : orderB h low (i :: is) = (decide (low ≤ i) && decide (i < h.length) && orderB h low is) := rfl
/-- The rows that are kept, one by one. -/
def arowsG (h : List ARow) (low off : Nat) (order : List Nat) : List Nat → List ARow
  | [] => []
  | i :: is => (h[i]?).elim (arowsG h low off order is) fun r => { r.ren h low off order with gen := 0 } :: arowsG h low off order is
theorem arowsG_eq : ∀ (l : List Nat), (l.filterMap fun i => (h[i]?).map fun r => { r.ren h low off order with gen := 0 }) = arowsG h low off order l
  | [] => rfl
  | i :: is => by
    rw [arowsG, ← arowsG_eq is]
    cases e : h[i]? <;> simp [e]
theorem y_rows : arows h low off order = arowsG h low off order order := arowsG_eq h low off order order
theorem y_rows_g0 : arowsG h low off order [] = [] := rfl
theorem y_rows_g1 (i : Nat) (is : List Nat) : arowsG h low off order (i :: is) = (h[i]?).elim (arowsG h low off order is) fun r => ⟨(r.ren h low off order).k, 0, (r.ren h low off order).flat, (r.ren h low off order).es⟩ :: arowsG h low off order is := rfl
end
/-- A loop's head, told step by step. -/
def agcOrd (base : Nat) (env : AEnv) (h : List ARow) (order : List Nat) : Option ASt :=
  if orderOk h base order = true then some ⟨env.map fun p => (p.1, p.2.ren h base base order), (h.take base).map (ARow.ren h base base order) ++ arows h base base order⟩ else none
def agcEnv (base : Nat) (h : List ARow) (env : AEnv) : Option ASt := agcOrd base env h (areach h base 64 (AV.idsL (env.map (·.2)) ++ (h.take base).flatMap ARow.ids) [])
theorem y_gc (base : Nat) (live : List Nat) (env : AEnv) (h : List ARow) : agc base live ⟨env, h⟩ = agcEnv base h (akeep live env) := rfl
theorem y_gcEnv (base : Nat) (h : List ARow) (env : AEnv) : agcEnv base h env = agcOrd base env h (areach h base 64 (AV.idsL (env.map (·.2)) ++ (h.take base).flatMap ARow.ids) []) := rfl
theorem y_gcOrd (base : Nat) (env : AEnv) (h : List ARow) (order : List Nat) : agcOrd base env h order = if orderOk h base order = true then some ⟨env.map fun p => (p.1, p.2.ren h base base order), (h.take base).map (ARow.ren h base base order) ++ arows h base base order⟩ else none := rfl

theorem y_view_own (id g s l c : Nat) : aview h (.own id g s l c) = (h[id]?).bind fun r => if r.gen = g ∧ r.flat = true ∧ s + l ≤ r.es.length then some (.data true r.k ((r.es.drop s).take l) false) else none := by rw [aview]
theorem y_view_agg (cs : List AV) : aview h (.agg cs) = (aviewL h cs).map .agg := by rw [aview]
theorem y_view_int (k : IntKind) (n : Int) : aview h (.int k n) = some (.int k n) := by simp [aview]
theorem y_view_data (b : Bool) (k : Nat) (es : List (List AV)) (f : Bool) : aview h (.data b k es f) = some (.data b k es f) := by simp [aview]
theorem y_viewL_nil : aviewL h [] = some [] := by rw [aviewL]
theorem y_viewL_cons (v : AV) (vs : List AV) : aviewL h (v :: vs) = (aview h v).bind fun x => (aviewL h vs).map (x :: ·) := by rw [aviewL]

theorem y_frz_own (id g s l c : Nat) : afreeze h (.own id g s l c) = (h[id]?).bind fun r => if r.gen = g ∧ r.flat = true ∧ s + l ≤ r.es.length then some (.data false r.k ((r.es.drop s).take l) false) else none := by rw [afreeze]
theorem y_frz_data (k : Nat) (es : List (List AV)) (f : Bool) : afreeze h (.data false k es f) = some (.data false k es false) := by rw [afreeze]
theorem y_frz_agg (cs : List AV) : afreeze h (.agg cs) = (afreezeL h cs).map .agg := by rw [afreeze]
theorem y_frz_tup (cs : List AV) : afreeze h (.tup cs) = (afreezeL h cs).map .tup := by rw [afreeze]
theorem y_frz_int (k : IntKind) (n : Int) : afreeze h (.int k n) = some (.int k n) := by rw [afreeze]
theorem y_frz_bool (b : Bool) : afreeze h (.bool b) = some (.bool b) := by rw [afreeze]
theorem y_frz_fn (f : Fn) (a b : List AV) : afreeze h (.fn f a b) = if (AV.stableL a && AV.stableL b) = true then some (.fn f a b) else none := by rw [afreeze]
theorem y_frzL_nil : afreezeL h [] = some [] := by rw [afreezeL]
theorem y_frzL_cons (v : AV) (vs : List AV) : afreezeL h (v :: vs) = (afreeze h v).bind fun x => (afreezeL h vs).map (x :: ·) := by rw [afreezeL]

theorem y_cl_own (a b c d e : Nat) : (AV.own a b c d e).clean = true := by simp [AV.clean]
theorem y_cl_nilfn : AV.nilfn.clean = true := by simp [AV.clean]
theorem y_cl_nilptr : AV.nilptr.clean = true := by simp [AV.clean]
theorem y_clL_nil : AV.cleanL [] = true := by rw [AV.cleanL]
theorem y_clL_cons (v : AV) (vs : List AV) : AV.cleanL (v :: vs) = (v.clean && AV.cleanL vs) := by rw [AV.cleanL]
def acleanRow : Option ARow → Bool
  | some r => r.flat || r.es.all AV.cleanL
  | none => false
theorem y_clrow (k g : Nat) (f : Bool) (es : List (List AV)) : acleanRow (some ⟨k, g, f, es⟩) = (f || es.all AV.cleanL) := rfl
/-- An answer that becomes the caller's, told step by step. -/
def aadoptOrd (h h' : List ARow) (r : AV) (order : List Nat) : Option (AV × List ARow) :=
  if (orderOk h' 0 order && r.clean && order.all (fun i => acleanRow h'[i]?)) = true then some (r.ren h' 0 h.length order, h ++ arows h' 0 h.length order) else none
theorem y_adopt (h h' : List ARow) (r : AV) : aadopt h h' r = aadoptOrd h h' r (areach h' 0 64 r.ids []) := rfl
theorem y_adoptOrd (h h' : List ARow) (r : AV) (order : List Nat) : aadoptOrd h h' r order = if (orderOk h' 0 order && r.clean && order.all (fun i => acleanRow h'[i]?)) = true then some (r.ren h' 0 h.length order, h ++ arows h' 0 h.length order) else none := rfl
theorem y_clear (zero : List AV) (id gen s l c : Nat) : aclear h zero (.own id gen s l c) = (h[id]?).bind fun r => if r.gen = gen ∧ r.k = zero.length ∧ s + l ≤ r.es.length then
      some (.tup [], h.set id ⟨r.k, r.gen, r.flat && AV.stableL zero, r.es.take s ++ List.replicate l zero ++ r.es.drop (s + l)⟩) else none := rfl
end
section
variable (G : Nat → Option (List AV)) (raw : ARaw) (env : AEnv) (h : List ARow)
theorem y_nostr_data (b : Bool) (k : Nat) (es : List (List AV)) (f : Bool) : anostr (.data b k es f) = some (.data b k es f) := rfl
end
section
variable (G : Nat → Option (List AV)) (raw : ARaw) (env : AEnv) (h : List ARow) (n : Nat)
theorem y_loadd (agg : Bool) (m : Nat) (cs : List AV) : aloadd agg m (.dptr cs) = acut agg m 0 cs := rfl
theorem y_dv_agg (cs : List AV) : dv h (n + 1) (.agg cs) = (dvL (dv h n) cs).map fun p => (.agg p.1, p.2) := rfl
end
theorem tobL_nil (b : Bool) : tobL b [] = [] := rfl
theorem tobL_cons (b : Bool) (v : AV) (g : List AV) : tobL b (v :: g) = v.tob b :: tobL b g := rfl
theorem dptrB_eq (b : Bool) (g : List AV) : dptrB b g = .dptr (tobL b g) := rfl
theorem tob_data (b : Bool) (k : Nat) (es : List (List AV)) (f : Bool) : AV.tob b (.data false k es f) = .data b k es f := by cases b <;> rfl
theorem tob_int (b : Bool) (k : IntKind) (n : Int) : AV.tob b (.int k n) = .int k n := rfl
def plainL (g : List AV) : Bool := g.all AV.plain
theorem plainLL_cons (g : List AV) (es : List (List AV)) : plainLL (g :: es) = (plainL g && plainLL es) := rfl
end Go.Proofs.Ytfnonledcniojaa
/- Entries that are told outright. Conditions: none. -/
namespace Go.Proofs.Ytfnonledcniojaa
open Go
/-- slices.Clone, bytes.Clone. -/
def extClone (k : Nat) : List AV → List ARow → Option (AV × List ARow)
  | [.data b k' es _], [] => if k' = k ∧ es.length ≤ 1000000 ∧ (!b || plainLL es) = true then some (.own 0 1 0 es.length es.length, [⟨k, 1, true, es⟩]) else none
  | _, _ => none
/-- A piece: member, number, bytes; whether the text's slice is told full. -/
abbrev Pc := Int × Int × List Int × Bool
def byt (l : List Int) : List (List AV) := l.map fun x => [.int .u8 x]
theorem plain_byt (l : List Int) : plainLL (byt l) = true := by simp [plainLL, byt, AV.plain]
def pcell (x : Pc) : List AV := [.int .i64 x.1, .int .i64 x.2.1, .data false 1 (byt x.2.2.1) x.2.2.2]
def pcs (q : List Pc) : List (List AV) := q.map pcell
def pieceB (m a : Int) (n : Nat) : Bool := decide (1 ≤ m) && decide (m ≤ 8) && decide (1 ≤ a) && decide (a ≤ 1073741824) && decide ((1 : Int) ≤ n) && decide ((n : Int) ≤ 16)
/-- Are pieces a queue, n bytes being ahead of them? -/
def mayQ : Int → List Pc → Bool
  | _, [] => true
  | n, x :: q => pieceB x.1 x.2.1 x.2.2.1.length && decide (n + x.2.2.1.length ≤ 64) && mayQ (n + x.2.2.1.length) q
def sizeQ (q : List Pc) : Nat := (q.map fun x => x.2.2.1.length).sum
def bytOf (t : List (List AV)) : Option (List Int) := t.mapM fun g => match g with | [.int .u8 x] => some x | _ => none
def pcOf : List AV → Option Pc
  | [.int .i64 m, .int .i64 a, .data false 1 t f] => (bytOf t).map fun l => (m, a, l, f)
  | _ => none
/-- merge.Size. -/
def extSize : List AV → List ARow → Option (AV × List ARow)
  | [.data _ 3 es _], h => (es.mapM pcOf).bind fun q => if q.length ≤ 1000000 ∧ (∀ x ∈ q, x.2.2.1.length ≤ 1000000) ∧ sizeQ q ≤ 1000000 then some (.int .i64 (if mayQ 0 q = true then sizeQ q else 0), h) else none
  | _, _ => none
/-- A table of one function. -/
def oneF (n : Nat) (a : AFn) : Nat → Option AEnt := fun f => if f = n then some (.fn a) else none
end Go.Proofs.Ytfnonledcniojaa
/- Lists of numbers as the small machine's cells. Conditions: none. -/
namespace Go.Proofs.Ytfnonledcniojaa
open Go
theorem wrap_nat {n : Nat} (h : n < 9223372036854775807) : IntKind.i64.wrap ((n : Int) + 1) = ((n + 1 : Nat) : Int) := by
  rw [wrap_in _ (by omega) (by omega)]; rfl
end Go.Proofs.Ytfnonledcniojaa
/- Short names of the equations. Conditions: none. -/
namespace Go.Proofs.Ytfnonledcniojaa
open Go
abbrev Qa := @aE_exit
abbrev Qb := @aE_ret
abbrev Qc := @aE_skip
abbrev Qd := @aops_nil
abbrev Qe := @aops_cons
abbrev Qf := @aops_guard
abbrev Qg := @guard_bool
abbrev Qi := @ev_slot
abbrev Qj := @ev_const
abbrev Qm := @evs_nil
abbrev Qn := @evs_cons
abbrev Qo := @op_call
abbrev Qp := @fnOf_mk
abbrev Qq := @op_callv
abbrev Qr := @op_mov
abbrev Qs := @op_mknil
abbrev Qt := @abool_mk
abbrev Qu := @op_pick
abbrev Qv := @op_alloc
abbrev Qw := @op_box
abbrev Qz := @aparts2_nil
abbrev Q0 := @aparts2_cons
abbrev Q2 := @op_mkslice
abbrev Q3 := @op_mkdata
abbrev Q4 := @op_load
abbrev Q5 := @op_store
abbrev Xa := @op_bin
abbrev Xb := @op_eq
abbrev Xc := @op_isnil
abbrev Xd := @op_not
abbrev Xi := @op_bstr
abbrev Xj := @op_mkfn
abbrev Xl := @aopt_none
abbrev Xm := @aopt_some
abbrev Xn := @op_sl
abbrev Xp := @op_faddr
abbrev Xs := @op_idx
abbrev Xw := @atupOf_mk
abbrev Xx := @op_extract
abbrev Xy := @op_len
abbrev X0 := @op_append
abbrev X1 := @op_appendD
abbrev X5 := @bin_add
abbrev X6 := @bin_sub
abbrev X8 := @bin_eql
abbrev X9 := @bin_neq
abbrev Ya := @bin_lss
abbrev Yb := @bin_leq
abbrev Yc := @bin_gtr
abbrev Yd := @bin_geq
abbrev Yg := @len_own
abbrev Yh := @len_data
abbrev Yj := @cells_agg
abbrev Yk := @cells_int
abbrev Yr := @load_ptr
abbrev Ys := @load_dptr
abbrev Yt := @cut_leaf
abbrev Yu := @cut_agg
abbrev Yv := @faddr_ptr
abbrev Yw := @faddr_dptr
abbrev Yx := @idx_own
abbrev Yy := @idx_data
abbrev Y1 := @enter_eq
abbrev Y2 := @groups_own
abbrev Y3 := @groups_data
abbrev Y5 := @res_one
abbrev Y6 := @res_two
abbrev Y7 := @res_slot
abbrev Y9 := @look_cons
abbrev Za := @akeep_nil
abbrev Zb := @akeep_cons
abbrev Zc := @aput_some
abbrev Zd := @aput_none
abbrev Ze := @elim_some
abbrev Zf := @elim_none
abbrev Zg := @bind_some'
abbrev Zh := @map_some'
abbrev Zi := @List.zipIdx_cons
abbrev Zj := @List.zipIdx_nil
abbrev Zk := @List.map_cons
abbrev Zl := @List.map_nil
abbrev Zm := @List.length_nil
abbrev Zn := @List.length_cons
abbrev Zo := @acall_frz
abbrev Zp := @acall_adp
abbrev Zq := @acall_inl
abbrev Zr := @y_body
abbrev Zs := @y_res
abbrev Zt := @y_env
abbrev Zu := @y_h
abbrev Zv := @y_fst
abbrev Zw := @y_snd
abbrev Zx := @y_k
abbrev Zy := @y_gen
abbrev Zz := @y_flat
abbrev Z0 := @y_es
abbrev Z1 := @y_put
abbrev Z3 := @y_ft
abbrev Ja := @y_bt
abbrev Jb := @y_bf
abbrev Jg := @y_nt
abbrev Jh := @y_nf
abbrev Jj := @y_seq
abbrev Jk := @y_then
abbrev Jl := @y_then_ret
abbrev Jm := @y_then_exit
abbrev Jn := @y_block
abbrev Jo := @y_leave
abbrev Jp := @y_leave_ret
abbrev Jq := @y_leave_exit
abbrev Jr := @y_cond
abbrev Js := @y_again
abbrev Jt := @y_again_ret
abbrev Ju := @y_again_exit
abbrev Jv := @y_region
abbrev Jx := @y_fin_ret
abbrev J1 := @y_patch
abbrev J2 := @y_store_agg
abbrev J6 := @y_store_data
abbrev Ki := @y_kb
abbrev Kj := @y_ks
abbrev Kn := @y_eq_one
abbrev Ku := @y_nil_data
abbrev Kv := @y_app_own
abbrev Kx := @y_bounds
abbrev Ky := @y_appD
abbrev K0 := @y_bound_none
abbrev K1 := @y_bound_some
abbrev K2 := @y_sl_own
abbrev K3 := @y_sl_data
abbrev K4 := @y_sl_data3
abbrev Ua := @y_fill_nil
abbrev Ub := @y_fill_cons
abbrev Uc := @y_stLL_nil
abbrev Ud := @y_stLL_cons
abbrev Ue := @y_stL_nil
abbrev Uf := @y_stL_cons
abbrev Ug := @y_st_int
abbrev Ul := @y_st_data
abbrev Us := @y_ids_own
abbrev Ux := @y_ids_int
abbrev U0 := @y_ids_data
abbrev U4 := @y_idsL_nil
abbrev U5 := @y_idsL_cons
abbrev U6 := @y_ren_own
abbrev Vb := @y_ren_int
abbrev Ve := @y_ren_data
abbrev Vi := @y_renL_nil
abbrev Vj := @y_renL_cons
abbrev Vk := @y_row_flat
abbrev Vl := @y_row_not
abbrev Vm := @y_rids_flat
abbrev Vn := @y_rids_not
abbrev Vo := @y_reach_nil
abbrev Vp := @y_reach_cons
abbrev Vq := @y_orderOk
abbrev Vr := @y_nodup_nil
abbrev Vs := @y_nodup_cons
abbrev Vt := @y_ord_nil
abbrev Vu := @y_ord_cons
abbrev Vv := @y_rows
abbrev Vw := @y_rows_g0
abbrev Vx := @y_rows_g1
abbrev Vy := @y_gc
abbrev Vz := @y_gcEnv
abbrev V0 := @y_gcOrd
abbrev V1 := @y_view_own
abbrev V3 := @y_view_agg
abbrev V6 := @y_view_int
abbrev V9 := @y_view_data
abbrev Wd := @y_viewL_nil
abbrev We := @y_viewL_cons
abbrev Wf := @y_frz_own
abbrev Wg := @y_frz_data
abbrev Wi := @y_frz_tup
abbrev Wj := @y_frz_int
abbrev Wk := @y_frz_bool
abbrev Wp := @y_frzL_nil
abbrev Wq := @y_frzL_cons
abbrev Wz := @y_cl_own
abbrev W1 := @y_cl_nilfn
abbrev W2 := @y_cl_nilptr
abbrev W3 := @y_clL_nil
abbrev W4 := @y_clL_cons
abbrev W5 := @y_clrow
abbrev W6 := @y_adopt
abbrev W7 := @y_adoptOrd
abbrev W8 := @y_clear
abbrev Hf := @y_nostr_data
abbrev Hh := @List.getElem?_cons_zero
abbrev Hi := @List.getElem?_cons_succ
abbrev Hk := @List.set_cons_zero
abbrev Hl := @List.set_cons_succ
abbrev Hn := @List.length_set
abbrev Ho := @List.take_succ_cons
abbrev Hp := @List.take_zero
abbrev Hq := @List.take_nil
abbrev Hr := @List.drop_succ_cons
abbrev Hs := @List.drop_zero
abbrev Ht := @List.drop_nil
abbrev Hu := @List.cons_append
abbrev Hv := @List.nil_append
abbrev Hw := @List.append_nil
abbrev Hx := @List.length_append
abbrev Hy := @List.all_cons
abbrev Hz := @List.all_nil
abbrev H0 := @List.flatMap_cons
abbrev H1 := @List.flatMap_nil
abbrev H2 := @List.replicate_zero
abbrev H3 := @List.replicate_succ
abbrev H5 := @List.contains_nil
abbrev H6 := @List.idxOf?_cons
abbrev H8 := @Nat.zero_add
abbrev H9 := @Nat.add_zero
abbrev Na := @Nat.sub_zero
abbrev Nc := @Nat.mul_one
abbrev Ne := @Nat.zero_mul
abbrev Nf := @Nat.zero_le
abbrev Ng := @Nat.le_refl
abbrev Nh := @Nat.lt_irrefl
abbrev Ni := @Int.toNat_natCast
abbrev Nk := @Int.natCast_nonneg
abbrev Nl := @decide_true
abbrev Nm := @decide_false
abbrev Nn := @decide_eq_true_eq
abbrev No := @Bool.and_true
abbrev Np := @Bool.true_and
abbrev Nq := @Bool.and_false
abbrev Nr := @Bool.false_and
abbrev Ns := @Bool.or_true
abbrev Nt := @Bool.true_or
abbrev Nw := @Bool.not_true
abbrev Nx := @Bool.not_false
abbrev Nz := @and_true
abbrev N0 := @true_and
abbrev N1 := @and_false
abbrev N2 := @false_and
abbrev Bb := @op_clear
abbrev Be := @y_end
abbrev Bg := @y_app_new
abbrev Bh := @Int.cast_ofNat_Int
abbrev Bi := @y_toNat
abbrev Bn := @y_loadd
abbrev Bq := @y_dv_agg
abbrev Ma := @tobL_nil
abbrev Mb := @tobL_cons
abbrev Md := @dptrB_eq
abbrev Me := @tob_data
abbrev Mf := @tob_int
abbrev Mk := @plain_byt
abbrev Mn := @plainLL_cons
end Go.Proofs.Ytfnonledcniojaa
/- From the small machine's answer to the row's: what a law's call comes to, and arguments' shapes. Conditions: as each statement says. -/
namespace Go.Proofs.Ytfnonledcniojaa
open Go Go.RowKit
theorem frz_bool {h : List ARow} {v : AV} {b : Bool} (hf : afreeze h v = some (.bool b)) : v = .bool b := by
  cases v with
  | bool c => simpa [afreeze] using hf
  | own id g s l c =>
    rw [y_frz_own] at hf
    obtain ⟨r, _, hf⟩ := opt_bind_some.1 hf
    split at hf <;> simp at hf
  | data bo k es f => cases bo <;> simp [afreeze] at hf
  | agg cs => rw [y_frz_agg] at hf; obtain ⟨x, _, hf⟩ := opt_map_some.1 hf; cases hf
  | tup cs => rw [y_frz_tup] at hf; obtain ⟨x, _, hf⟩ := opt_map_some.1 hf; cases hf
  | fn f a b => rw [y_frz_fn] at hf; split at hf <;> simp at hf
  | _ => simp [afreeze] at hf
theorem repL_nil {R : AV → Value → Prop} : RepL R [] [] := ⟨rfl, fun i c v h => by simp at h⟩
theorem repL_cons {R : AV → Value → Prop} {a : AV} {as : List AV} {x : Value} {xs : List Value} (h : R a x) (k : RepL R as xs) : RepL R (a :: as) (x :: xs) := by
  refine ⟨by simp [k.1], fun i c v hc hv => ?_⟩
  cases i with
  | zero => simp at hc hv; subst hc hv; exact h
  | succ i => exact k.2 i c v (by simpa using hc) (by simpa using hv)
/-- A kind's range. -/
def InK (k : IntKind) (n : Int) : Prop := k.min ≤ n ∧ n ≤ k.max
theorem inK_i64 {n : Int} : InK .i64 n ↔ -9223372036854775808 ≤ n ∧ n ≤ 9223372036854775807 := by
  simp [InK, IntKind.min, IntKind.max, IntKind.signed, IntKind.bits]
theorem ty_int {k : IntKind} {a : AV} (h : HasTy (.int k) a) : ∃ n, a = .int k n ∧ InK k n := by
  simp only [HasTy] at h
  exact h
theorem list_of {α : Type} {Q : α → Prop} {f : α → List AV} : ∀ (es : List (List AV)), (∀ g ∈ es, ∃ x, g = f x ∧ Q x) → ∃ l : List α, es = l.map f ∧ ∀ x ∈ l, Q x
  | [], _ => ⟨[], rfl, by simp⟩
  | g :: es, h => by
    obtain ⟨x, rfl, hx⟩ := h g (by simp)
    obtain ⟨l, rfl, hl⟩ := list_of es (fun g hg => h g (by simp [hg]))
    exact ⟨x :: l, rfl, fun y hy => by
      rcases List.mem_cons.1 hy with rfl | hy
      · exact hx
      · exact hl y hy⟩
theorem tys_nil {g : List AV} (h : HasTys [] g) : g = [] := by cases g <;> simp [HasTys] at h ⊢
theorem tys_cons {t : Ty} {ts : List Ty} {g : List AV} (h : HasTys (t :: ts) g) : ∃ a as, g = a :: as ∧ HasTy t a ∧ HasTys ts as := by
  cases g with
  | nil => simp [HasTys] at h
  | cons a g => simp only [HasTys] at h; exact ⟨a, g, rfl, h.1, h.2⟩
end Go.Proofs.Ytfnonledcniojaa
