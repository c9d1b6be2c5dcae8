/- The small machine's runs without a bound on rounds: equations. Conditions: none. -/
import Derived.Test.YtfnonledcniojaaAmB
namespace Go.Proofs.Ytfnonledcniojaa
open Go

theorem opt_bind_some {α β : Type} {x : Option α} {f : α → Option β} {r : β} : x.bind f = some r ↔ ∃ a, x = some a ∧ f a = some r := by cases x <;> simp
theorem opt_map_some {α β : Type} {x : Option α} {f : α → β} {r : β} : x.map f = some r ↔ ∃ a, x = some a ∧ f a = r := by cases x <;> simp

section
variable (G : Nat → Option (List AV)) (F : Nat → Option AEnt)

abbrev ARun := Nat → ACode → ASt → Option (AEx × ASt)
def ARun.le (a b : ARun) : Prop := ∀ n c st r, a n c st = some r → b n c st = some r
def ARaw.le (a b : ARaw) : Prop := ∀ f as h r, a f as h = some r → b f as h = some r

theorem arunFn_mono {a b : ARun} (h : a.le b) : ARaw.le (arunFn a F) (arunFn b F) := by
  intro f as hp r hr
  unfold arunFn at *
  obtain ⟨e, he, hr⟩ := opt_bind_some.1 hr
  refine opt_bind_some.2 ⟨e, he, ?_⟩
  cases e with
  | ext E => exact hr
  | fn fn =>
    obtain ⟨x, hx, hr⟩ := opt_bind_some.1 hr
    exact opt_bind_some.2 ⟨x, h _ _ _ _ hx, hr⟩

theorem acall_mono {a b : ARaw} (h : a.le b) {md : AMd} {f : Nat} {as : List AV} {hp : List ARow} {r : AV × List ARow} (hr : acall a md f as hp = some r) : acall b md f as hp = some r := by
  cases md with
  | inl => exact h _ _ _ _ hr
  | frz =>
    obtain ⟨x, hx, hr⟩ := opt_bind_some.1 hr
    obtain ⟨y, hy, hr⟩ := opt_bind_some.1 hr
    exact opt_bind_some.2 ⟨x, hx, opt_bind_some.2 ⟨y, h _ _ _ _ hy, hr⟩⟩
  | adp =>
    obtain ⟨x, hx, hr⟩ := opt_bind_some.1 hr
    obtain ⟨y, hy, hr⟩ := opt_bind_some.1 hr
    exact opt_bind_some.2 ⟨x, hx, opt_bind_some.2 ⟨y, h _ _ _ _ hy, hr⟩⟩

theorem aexecOp_mono {a b : ARaw} (h : a.le b) {env : AEnv} {hp : List ARow} {o : AOp} {r : AV × List ARow} (hr : aexecOp G a env hp o = some r) : aexecOp G b env hp o = some r := by
  cases o with
  | call md f args =>
    obtain ⟨x, hx, hr⟩ := opt_bind_some.1 hr
    exact opt_bind_some.2 ⟨x, hx, acall_mono h hr⟩
  | callv x args =>
    obtain ⟨v, hv, hr⟩ := opt_bind_some.1 hr
    refine opt_bind_some.2 ⟨v, hv, ?_⟩
    split at hr
    · obtain ⟨y, hy, hr⟩ := opt_bind_some.1 hr
      exact opt_bind_some.2 ⟨y, hy, h _ _ _ _ hr⟩
    · cases hr
  | _ => exact hr

theorem astep_mono {a b : ARaw} (h : a.le b) {o : AOper} {st st' : ASt} (hr : astep G a o st = some st') : astep G b o st = some st' := by
  unfold astep at *
  split at hr
  · obtain ⟨x, hx, hr⟩ := opt_map_some.1 hr
    exact opt_map_some.2 ⟨x, aexecOp_mono G h hx, hr⟩
  · obtain ⟨v, hv, hr⟩ := opt_bind_some.1 hr
    refine opt_bind_some.2 ⟨v, hv, ?_⟩
    split at hr
    · split at hr
      · rename_i hb
        rw [if_pos hb]
        obtain ⟨x, hx, hr⟩ := opt_map_some.1 hr
        exact opt_map_some.2 ⟨x, aexecOp_mono G h hx, hr⟩
      · rename_i hb
        rw [if_neg hb]; exact hr
    · exact hr
    · cases hr

theorem aops_mono {a b : ARaw} (h : a.le b) : ∀ {os : List AOper} {st st' : ASt}, aops G a os st = some st' → aops G b os st = some st'
  | [], _, _, hr => hr
  | _ :: _, _, _, hr => by
    obtain ⟨x, hx, hr⟩ := opt_bind_some.1 hr
    exact opt_bind_some.2 ⟨x, astep_mono G h hx, aops_mono h hr⟩

theorem aexec_le : ∀ n m, n ≤ m → ARun.le (aexec G F n) (aexec G F m) := by
  intro n
  induction n with
  | zero => intro m _ base c st r hr; cases hr
  | succ n ih =>
    intro m hm base c st r hr
    obtain ⟨m, rfl⟩ : ∃ k, m = k + 1 := ⟨m - 1, by omega⟩
    have ih := ih m (by omega)
    cases c with
    | skip => exact hr
    | exit id => exact hr
    | ret => exact hr
    | dead => cases hr
    | region ops d live =>
      obtain ⟨x, hx, hr⟩ := opt_map_some.1 hr
      exact opt_map_some.2 ⟨x, aops_mono G (arunFn_mono F ih) hx, hr⟩
    | seq a b =>
      obtain ⟨x, hx, hr⟩ := opt_bind_some.1 hr
      refine opt_bind_some.2 ⟨x, ih _ _ _ _ hx, ?_⟩
      split at hr
      · exact ih _ _ _ _ hr
      · exact hr
    | cond c a b =>
      obtain ⟨x, hx, hr⟩ := opt_bind_some.1 hr
      refine opt_bind_some.2 ⟨x, hx, ?_⟩
      split at hr
      · exact ih _ _ _ _ hr
      · cases hr
    | block id b =>
      obtain ⟨x, hx, hr⟩ := opt_map_some.1 hr
      exact opt_map_some.2 ⟨x, ih _ _ _ _ hx, hr⟩
    | loop live b =>
      obtain ⟨x, hx, hr⟩ := opt_bind_some.1 hr
      obtain ⟨y, hy, hr⟩ := opt_bind_some.1 hr
      refine opt_bind_some.2 ⟨x, hx, opt_bind_some.2 ⟨y, ih _ _ _ _ hy, ?_⟩⟩
      split at hr
      · exact ih _ _ _ _ hr
      · exact hr

open Classical in
/-- What a piece of code comes to, if it comes to anything. -/
noncomputable def aE : ARun := fun base c st => if h : ∃ r n, aexec G F n base c st = some r then some (Classical.choose h) else none
/-- What a call comes to. -/
noncomputable def aR : ARaw := arunFn (aE G F) F

theorem aE_some {base : Nat} {c : ACode} {st : ASt} {r : AEx × ASt} : aE G F base c st = some r ↔ ∃ n, aexec G F n base c st = some r := by
  unfold aE
  constructor
  · intro h
    split at h
    · rename_i hx
      obtain ⟨n, hn⟩ := Classical.choose_spec hx
      rw [Option.some.inj h] at hn
      exact ⟨n, hn⟩
    · cases h
  · rintro ⟨n, hn⟩
    have hx : ∃ r n, aexec G F n base c st = some r := ⟨r, n, hn⟩
    rw [dif_pos hx]
    obtain ⟨m, hm⟩ := Classical.choose_spec hx
    have h1 := aexec_le G F n (n + m) (by omega) _ _ _ _ hn
    have h2 := aexec_le G F m (n + m) (by omega) _ _ _ _ hm
    exact congrArg some (Option.some.inj (h2.symm.trans h1))
theorem aexec_aE (n : Nat) : ARun.le (aexec G F n) (aE G F) := fun _ _ _ _ h => (aE_some G F).2 ⟨n, h⟩

theorem aR_fin {f : Nat} {as : List AV} {h : List ARow} {r : AV × List ARow} (hr : aR G F f as h = some r) : ∃ n, ∀ m, n ≤ m → arunFn (aexec G F m) F f as h = some r := by
  unfold aR arunFn at hr
  obtain ⟨e, he, hr⟩ := opt_bind_some.1 hr
  cases e with
  | ext E => exact ⟨0, fun m _ => opt_bind_some.2 ⟨_, he, hr⟩⟩
  | fn fn =>
    obtain ⟨x, hx, hr⟩ := opt_bind_some.1 hr
    obtain ⟨n, hn⟩ := (aE_some G F).1 hx
    exact ⟨n, fun m hm => opt_bind_some.2 ⟨_, he, opt_bind_some.2 ⟨x, aexec_le G F n m hm _ _ _ _ hn, hr⟩⟩⟩

/-- The runs at a bound come up to those without. -/
def Fin (a : Nat → ARaw) (b : ARaw) : Prop := ∀ f as h r, b f as h = some r → ∃ n, ∀ m, n ≤ m → a m f as h = some r
theorem acall_fin {a : Nat → ARaw} {b : ARaw} (h : Fin a b) {md : AMd} {f : Nat} {as : List AV} {hp : List ARow} {r : AV × List ARow} (hr : acall b md f as hp = some r) :
    ∃ n, ∀ m, n ≤ m → acall (a m) md f as hp = some r := by
  cases md with
  | inl => exact h _ _ _ _ hr
  | frz =>
    obtain ⟨x, hx, hr⟩ := opt_bind_some.1 hr
    obtain ⟨y, hy, hr⟩ := opt_bind_some.1 hr
    obtain ⟨n, hn⟩ := h _ _ _ _ hy
    exact ⟨n, fun m hm => opt_bind_some.2 ⟨x, hx, opt_bind_some.2 ⟨y, hn m hm, hr⟩⟩⟩
  | adp =>
    obtain ⟨x, hx, hr⟩ := opt_bind_some.1 hr
    obtain ⟨y, hy, hr⟩ := opt_bind_some.1 hr
    obtain ⟨n, hn⟩ := h _ _ _ _ hy
    exact ⟨n, fun m hm => opt_bind_some.2 ⟨x, hx, opt_bind_some.2 ⟨y, hn m hm, hr⟩⟩⟩
theorem aexecOp_fin {a : Nat → ARaw} {b : ARaw} (h : Fin a b) {env : AEnv} {hp : List ARow} {o : AOp} {r : AV × List ARow} (hr : aexecOp G b env hp o = some r) :
    ∃ n, ∀ m, n ≤ m → aexecOp G (a m) env hp o = some r := by
  cases o with
  | call md f args =>
    obtain ⟨x, hx, hr⟩ := opt_bind_some.1 hr
    obtain ⟨n, hn⟩ := acall_fin h hr
    exact ⟨n, fun m hm => opt_bind_some.2 ⟨x, hx, hn m hm⟩⟩
  | callv x args =>
    obtain ⟨v, hv, hr⟩ := opt_bind_some.1 hr
    split at hr
    · obtain ⟨y, hy, hr⟩ := opt_bind_some.1 hr
      obtain ⟨n, hn⟩ := h _ _ _ _ hr
      exact ⟨n, fun m hm => opt_bind_some.2 ⟨_, hv, opt_bind_some.2 ⟨y, hy, hn m hm⟩⟩⟩
    · cases hr
  | _ => exact ⟨0, fun _ _ => hr⟩
theorem astep_fin {a : Nat → ARaw} {b : ARaw} (h : Fin a b) {o : AOper} {st st' : ASt} (hr : astep G b o st = some st') : ∃ n, ∀ m, n ≤ m → astep G (a m) o st = some st' := by
  unfold astep at *
  split at hr
  · obtain ⟨x, hx, hr⟩ := opt_map_some.1 hr
    obtain ⟨n, hn⟩ := aexecOp_fin G h hx
    exact ⟨n, fun m hm => opt_map_some.2 ⟨x, hn m hm, hr⟩⟩
  · obtain ⟨v, hv, hr⟩ := opt_bind_some.1 hr
    split at hr
    · split at hr
      · rename_i hb
        obtain ⟨x, hx, hr⟩ := opt_map_some.1 hr
        obtain ⟨n, hn⟩ := aexecOp_fin G h hx
        exact ⟨n, fun m hm => opt_bind_some.2 ⟨_, hv, by simp only [if_pos hb]; exact opt_map_some.2 ⟨x, hn m hm, hr⟩⟩⟩
      · rename_i hb
        exact ⟨0, fun m hm => opt_bind_some.2 ⟨_, hv, by simp only [if_neg hb]; exact hr⟩⟩
    · exact ⟨0, fun m hm => opt_bind_some.2 ⟨_, hv, hr⟩⟩
    · cases hr
theorem aops_fin {a : Nat → ARaw} {b : ARaw} (h : Fin a b) : ∀ {os : List AOper} {st st' : ASt}, aops G b os st = some st' → ∃ n, ∀ m, n ≤ m → aops G (a m) os st = some st'
  | [], _, _, hr => ⟨0, fun _ _ => hr⟩
  | _ :: _, _, _, hr => by
    obtain ⟨x, hx, hr⟩ := opt_bind_some.1 hr
    obtain ⟨n, hn⟩ := astep_fin G h hx
    obtain ⟨k, hk⟩ := aops_fin h hr
    exact ⟨n + k, fun m hm => opt_bind_some.2 ⟨x, hn m (by omega), hk m (by omega)⟩⟩

theorem opt_ext {α : Type} {x y : Option α} (h : ∀ r, x = some r ↔ y = some r) : x = y := by
  cases x with
  | none => cases y with
    | none => rfl
    | some b => exact (h b).2 rfl
  | some a => exact ((h a).1 rfl).symm

theorem aE_skip (base : Nat) (st : ASt) : aE G F base .skip st = some (.normal, st) := (aE_some G F).2 ⟨1, rfl⟩
theorem aE_exit (base id : Nat) (st : ASt) : aE G F base (.exit id) st = some (.exit id, st) := (aE_some G F).2 ⟨1, rfl⟩
theorem aE_ret (base : Nat) (st : ASt) : aE G F base .ret st = some (.ret, st) := (aE_some G F).2 ⟨1, rfl⟩
theorem aE_region (base : Nat) (ops : List AOper) (d : Bool) (live : List Nat) (st : ASt) :
    aE G F base (.region ops d live) st = (aops G (aR G F) ops st).map fun st' => (.normal, ⟨akeep live st'.env, st'.h⟩) := by
  refine opt_ext fun r => ⟨fun h => ?_, fun h => ?_⟩
  · obtain ⟨n, hn⟩ := (aE_some G F).1 h
    cases n with
    | zero => cases hn
    | succ n =>
      obtain ⟨x, hx, hr⟩ := opt_map_some.1 hn
      exact opt_map_some.2 ⟨x, aops_mono G (arunFn_mono F (aexec_aE G F n)) hx, hr⟩
  · obtain ⟨x, hx, hr⟩ := opt_map_some.1 h
    obtain ⟨n, hn⟩ := aops_fin G (a := fun m => arunFn (aexec G F m) F) (fun _ _ _ _ h => aR_fin G F h) hx
    exact (aE_some G F).2 ⟨n + 1, opt_map_some.2 ⟨x, hn n (Nat.le_refl _), hr⟩⟩
theorem aE_seq (base : Nat) (a b : ACode) (st : ASt) :
    aE G F base (.seq a b) st = (aE G F base a st).bind fun r => match r.1 with | .normal => aE G F base b r.2 | _ => some r := by
  refine opt_ext fun r => ⟨fun h => ?_, fun h => ?_⟩
  · obtain ⟨n, hn⟩ := (aE_some G F).1 h
    cases n with
    | zero => cases hn
    | succ n =>
      obtain ⟨x, hx, hr⟩ := opt_bind_some.1 hn
      refine opt_bind_some.2 ⟨x, aexec_aE G F n _ _ _ _ hx, ?_⟩
      obtain ⟨e, st1⟩ := x
      cases e with
      | normal => exact aexec_aE G F n _ _ _ _ hr
      | _ => exact hr
  · obtain ⟨x, hx, hr⟩ := opt_bind_some.1 h
    obtain ⟨n, hn⟩ := (aE_some G F).1 hx
    split at hr
    · rename_i he
      obtain ⟨k, hk⟩ := (aE_some G F).1 hr
      refine (aE_some G F).2 ⟨n + k + 1, opt_bind_some.2 ⟨x, aexec_le G F n (n + k) (by omega) _ _ _ _ hn, ?_⟩⟩
      simp only [he]
      exact aexec_le G F k (n + k) (by omega) _ _ _ _ hk
    · rename_i he
      refine (aE_some G F).2 ⟨n + 1, opt_bind_some.2 ⟨x, hn, ?_⟩⟩
      split
      · rename_i h2; exact absurd h2 (by simpa using he)
      · exact hr
theorem aE_cond (base : Nat) (c : AOpd) (a b : ACode) (st : ASt) :
    aE G F base (.cond c a b) st = (aeval G st.env c).bind fun v => match v with | .bool t => aE G F base (if t then a else b) st | _ => none := by
  refine opt_ext fun r => ⟨fun h => ?_, fun h => ?_⟩
  · obtain ⟨n, hn⟩ := (aE_some G F).1 h
    cases n with
    | zero => cases hn
    | succ n =>
      obtain ⟨x, hx, hr⟩ := opt_bind_some.1 hn
      refine opt_bind_some.2 ⟨x, hx, ?_⟩
      split at hr
      · exact aexec_aE G F n _ _ _ _ hr
      · cases hr
  · obtain ⟨x, hx, hr⟩ := opt_bind_some.1 h
    split at hr
    · obtain ⟨n, hn⟩ := (aE_some G F).1 hr
      exact (aE_some G F).2 ⟨n + 1, opt_bind_some.2 ⟨_, hx, hn⟩⟩
    · cases hr
theorem aE_block (base id : Nat) (b : ACode) (st : ASt) :
    aE G F base (.block id b) st = (aE G F base b st).map fun r => (if r.1 = .exit id then .normal else r.1, r.2) := by
  refine opt_ext fun r => ⟨fun h => ?_, fun h => ?_⟩
  · obtain ⟨n, hn⟩ := (aE_some G F).1 h
    cases n with
    | zero => cases hn
    | succ n =>
      obtain ⟨x, hx, hr⟩ := opt_map_some.1 hn
      exact opt_map_some.2 ⟨x, aexec_aE G F n _ _ _ _ hx, hr⟩
  · obtain ⟨x, hx, hr⟩ := opt_map_some.1 h
    obtain ⟨n, hn⟩ := (aE_some G F).1 hx
    exact (aE_some G F).2 ⟨n + 1, opt_map_some.2 ⟨x, hn, hr⟩⟩
theorem aE_loop (base : Nat) (live : List Nat) (b : ACode) (st : ASt) :
    aE G F base (.loop live b) st = (agc base live st).bind fun st => (aE G F base b st).bind fun r => match r.1 with | .normal => aE G F base (.loop live b) r.2 | _ => some r := by
  refine opt_ext fun r => ⟨fun h => ?_, fun h => ?_⟩
  · obtain ⟨n, hn⟩ := (aE_some G F).1 h
    cases n with
    | zero => cases hn
    | succ n =>
      obtain ⟨x, hx, hr⟩ := opt_bind_some.1 hn
      obtain ⟨y, hy, hr⟩ := opt_bind_some.1 hr
      refine opt_bind_some.2 ⟨x, hx, opt_bind_some.2 ⟨y, aexec_aE G F n _ _ _ _ hy, ?_⟩⟩
      obtain ⟨e, st1⟩ := y
      cases e with
      | normal => exact aexec_aE G F n _ _ _ _ hr
      | _ => exact hr
  · obtain ⟨x, hx, hr⟩ := opt_bind_some.1 h
    obtain ⟨y, hy, hr⟩ := opt_bind_some.1 hr
    obtain ⟨n, hn⟩ := (aE_some G F).1 hy
    split at hr
    · rename_i he
      obtain ⟨k, hk⟩ := (aE_some G F).1 hr
      refine (aE_some G F).2 ⟨n + k + 1, opt_bind_some.2 ⟨x, hx, opt_bind_some.2 ⟨y, aexec_le G F n (n + k) (by omega) _ _ _ _ hn, ?_⟩⟩⟩
      simp only [he]
      exact aexec_le G F k (n + k) (by omega) _ _ _ _ hk
    · rename_i he
      refine (aE_some G F).2 ⟨n + 1, opt_bind_some.2 ⟨x, hx, opt_bind_some.2 ⟨y, hn, ?_⟩⟩⟩
      split
      · rename_i h2; exact absurd h2 (by simpa using he)
      · exact hr

theorem aR_fn {f : Nat} {fn : AFn} (hf : F f = some (.fn fn)) (args : List AV) (h : List ARow) :
    aR G F f args h = (aE G F h.length fn.body ⟨aenter args, h⟩).bind fun r => match r.1 with | .exit _ => none | _ => (aresults fn.res r.2).map (·, r.2.h) := by
  unfold aR arunFn
  rw [hf]; rfl
/-- A call whose arguments are only read and whose answer is only read. -/
noncomputable def aP (f : Nat) (args : List AV) : Option AV := (aR G F f args []).bind fun r => afreeze r.2 r.1
/-- A call whose arguments are only read; its answer is the caller's own. -/
noncomputable def aA (f : Nat) (args : List AV) : Option (AV × List ARow) := (aR G F f args []).bind fun r => aadopt [] r.2 r.1
theorem acall_frz (f : Nat) (args : List AV) (h : List ARow) : acall (aR G F) .frz f args h = (aviewL h args).bind fun as => (aP G F f as).map (·, h) := by
  unfold acall aP
  cases aviewL h args <;> simp [Option.map_bind, Function.comp_def]
theorem acall_adp (f : Nat) (args : List AV) (h : List ARow) : acall (aR G F) .adp f args h = (aviewL h args).bind fun as => (aR G F f as []).bind fun r => aadopt h r.2 r.1 := rfl
theorem acall_inl (f : Nat) (args : List AV) (h : List ARow) : acall (aR G F) .inl f args h = aR G F f args h := rfl
end
end Go.Proofs.Ytfnonledcniojaa
