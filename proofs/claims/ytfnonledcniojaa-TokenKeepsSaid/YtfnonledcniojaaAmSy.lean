/- The small machine's equations in the form that a quick rewriter takes: one equation for each case, none with a premise. Conditions: none. -/
import Derived.Test.YtfnonledcniojaaAmD
import Derived.Test.YtfnonledcniojaaAmIn
namespace Go.Proofs.Ytfnonledcniojaa
open Go

theorem y_body (b : ACode) (r : List ARes) : (AFn.mk b r).body = b := rfl
theorem y_res (b : ACode) (r : List ARes) : (AFn.mk b r).res = r := rfl
theorem y_env (e : AEnv) (h : List ARow) : (ASt.mk e h).env = e := rfl
theorem y_h (e : AEnv) (h : List ARow) : (ASt.mk e h).h = h := rfl
theorem y_fst {α β : Type} (a : α) (b : β) : (a, b).1 = a := rfl
theorem y_snd {α β : Type} (a : α) (b : β) : (a, b).2 = b := rfl
theorem y_k (k g : Nat) (f : Bool) (es : List (List AV)) : (ARow.mk k g f es).k = k := rfl
theorem y_gen (k g : Nat) (f : Bool) (es : List (List AV)) : (ARow.mk k g f es).gen = g := rfl
theorem y_flat (k g : Nat) (f : Bool) (es : List (List AV)) : (ARow.mk k g f es).flat = f := rfl
theorem y_es (k g : Nat) (f : Bool) (es : List (List AV)) : (ARow.mk k g f es).es = es := rfl
theorem y_put (k g : Nat) (f : Bool) (es : List (List AV)) (e : Nat) (x : List AV) (st : Bool) : (ARow.mk k g f es).put e x st = ⟨k, g, f && st, es.set e x⟩ := rfl
theorem y_tt : (true = true) = True := by simp
theorem y_ft : (false = true) = False := by simp
theorem y_tf : (true = false) = False := by simp
theorem y_ff : (false = false) = True := by simp
theorem y_btt : (true == true) = true := rfl
theorem y_bft : (false == true) = false := rfl
theorem y_btf : (true == false) = false := rfl
theorem y_bff : (false == false) = true := rfl
theorem y_bt (b : Bool) : (b == true) = b := by cases b <;> rfl
theorem y_bf (b : Bool) : (b == false) = !b := by cases b <;> rfl
theorem y_ntt : (true != true) = false := rfl
theorem y_nft : (false != true) = true := rfl
theorem y_ntf : (true != false) = true := rfl
theorem y_nff : (false != false) = false := rfl
theorem y_nt (b : Bool) : (b != true) = !b := by cases b <;> rfl
theorem y_nf (b : Bool) : (b != false) = b := by cases b <;> rfl
theorem y_kk : (IntKind.i64 = IntKind.i64) = True := by simp
theorem y_toNat (n : Nat) : Int.toNat (OfNat.ofNat n : Int) = (OfNat.ofNat n : Nat) := rfl

section
variable (G : Nat → Option (List AV)) (F : Nat → Option AEnt) (raw : ARaw)
/-- What is done behind a part that ended normally. -/
noncomputable def athen (base : Nat) (b : ACode) (r : AEx × ASt) : Option (AEx × ASt) := match r.1 with
  | .normal => aE G F base b r.2
  | _ => some r
theorem y_seq (base : Nat) (a b : ACode) (st : ASt) : aE G F base (.seq a b) st = (aE G F base a st).bind (athen G F base b) := aE_seq G F base a b st
theorem y_then (base : Nat) (b : ACode) (st : ASt) : athen G F base b (.normal, st) = aE G F base b st := rfl
theorem y_then_ret (base : Nat) (b : ACode) (st : ASt) : athen G F base b (.ret, st) = some (.ret, st) := rfl
theorem y_then_exit (base id : Nat) (b : ACode) (st : ASt) : athen G F base b (.exit id, st) = some (.exit id, st) := rfl
/-- A block's end. -/
def aleave (id : Nat) (r : AEx × ASt) : AEx × ASt := (if r.1 = .exit id then .normal else r.1, r.2)
theorem y_block (base id : Nat) (b : ACode) (st : ASt) : aE G F base (.block id b) st = (aE G F base b st).map (aleave id) := aE_block G F base id b st
theorem y_leave (id : Nat) (st : ASt) : aleave id (.normal, st) = (.normal, st) := rfl
theorem y_leave_ret (id : Nat) (st : ASt) : aleave id (.ret, st) = (.ret, st) := rfl
theorem y_leave_exit (id i : Nat) (st : ASt) : aleave id (.exit i, st) = if i = id then (.normal, st) else (.exit i, st) := by
  unfold aleave
  by_cases h : i = id
  · subst h; simp
  · simp [h]
theorem y_cond (base : Nat) (c : AOpd) (a b : ACode) (st : ASt) : aE G F base (.cond c a b) st = ((aeval G st.env c).bind abool).bind fun t => if t = true then aE G F base a st else aE G F base b st := by
  rw [aE_cond]
  cases aeval G st.env c with
  | none => rfl
  | some v =>
    cases v with
    | bool t => cases t <;> rfl
    | _ => rfl
/-- What follows a loop's body. -/
noncomputable def aagain (base : Nat) (live : List Nat) (b : ACode) (r : AEx × ASt) : Option (AEx × ASt) := match r.1 with
  | .normal => aE G F base (.loop live b) r.2
  | _ => some r
theorem y_loop (base : Nat) (live : List Nat) (b : ACode) (st : ASt) : aE G F base (.loop live b) st = (agc base live st).bind fun st => (aE G F base b st).bind (aagain G F base live b) := aE_loop G F base live b st
theorem y_again (base : Nat) (live : List Nat) (b : ACode) (st : ASt) : aagain G F base live b (.normal, st) = aE G F base (.loop live b) st := rfl
theorem y_again_ret (base : Nat) (live : List Nat) (b : ACode) (st : ASt) : aagain G F base live b (.ret, st) = some (.ret, st) := rfl
theorem y_again_exit (base id : Nat) (live : List Nat) (b : ACode) (st : ASt) : aagain G F base live b (.exit id, st) = some (.exit id, st) := rfl
def aend (live : List Nat) (st : ASt) : AEx × ASt := (.normal, ⟨akeep live st.env, st.h⟩)
theorem y_region (base : Nat) (ops : List AOper) (d : Bool) (live : List Nat) (env : AEnv) (h : List ARow) : aE G F base (.region ops d live) ⟨env, h⟩ = (aops G (aR G F) ops ⟨env, h⟩).map (aend live) := aE_region G F base ops d live _
theorem y_end (live : List Nat) (env : AEnv) (h : List ARow) : aend live ⟨env, h⟩ = (.normal, ⟨akeep live env, h⟩) := rfl
/-- A function's end. -/
def afinish (res : List ARes) (r : AEx × ASt) : Option (AV × List ARow) := match r.1 with
  | .exit _ => none
  | _ => (aresults res r.2).map (·, r.2.h)
theorem y_fn {f : Nat} {fn : AFn} (hf : F f = some (.fn fn)) (args : List AV) (h : List ARow) : aR G F f args h = (aE G F h.length fn.body ⟨aenter args, h⟩).bind (afinish fn.res) := aR_fn G F hf args h
theorem y_fin (res : List ARes) (st : ASt) : afinish res (.normal, st) = (aresults res st).map (·, st.h) := rfl
theorem y_fin_ret (res : List ARes) (st : ASt) : afinish res (.ret, st) = (aresults res st).map (·, st.h) := rfl
end

section
variable (h : List ARow)
theorem y_cells_dptr (cs : List AV) : (AV.dptr cs).cells = some [.dptr cs] := rfl
theorem y_cells_nilfn : AV.nilfn.cells = some [.nilfn] := rfl
theorem y_cells_nilptr : AV.nilptr.cells = some [.nilptr] := rfl
theorem y_patch (off : Nat) (cs g : List AV) : patch off cs g = g.take off ++ cs ++ g.drop (off + cs.length) := rfl
theorem y_store_agg (m id gen e off : Nat) (cs : List AV) : astore h true m (.ptr id gen e off) (.agg cs) = (h[id]?).bind fun r => if r.gen = gen then (r.es[e]?).bind fun g => if cs.length = m ∧ off + m ≤ g.length then some (h.set id (r.put e (patch off cs g) (AV.stableL cs))) else none else none := rfl
theorem y_store_int (m id gen e off : Nat) (k : IntKind) (n : Int) : astore h false m (.ptr id gen e off) (.int k n) = (h[id]?).bind fun r => if r.gen = gen then (r.es[e]?).bind fun g => if off < g.length then some (h.set id (r.put e (g.set off (.int k n)) true)) else none else none := rfl
theorem y_store_bool (m id gen e off : Nat) (b : Bool) : astore h false m (.ptr id gen e off) (.bool b) = (h[id]?).bind fun r => if r.gen = gen then (r.es[e]?).bind fun g => if off < g.length then some (h.set id (r.put e (g.set off (.bool b)) true)) else none else none := rfl
theorem y_store_str (m id gen e off : Nat) (s : ByteArray) : astore h false m (.ptr id gen e off) (.str s) = (h[id]?).bind fun r => if r.gen = gen then (r.es[e]?).bind fun g => if off < g.length then some (h.set id (r.put e (g.set off (.str s)) true)) else none else none := rfl
theorem y_store_data (m id gen e off : Nat) (b : Bool) (k : Nat) (es : List (List AV)) (f : Bool) : astore h false m (.ptr id gen e off) (.data b k es f) = (h[id]?).bind fun r => if r.gen = gen then (r.es[e]?).bind fun g => if off < g.length then some (h.set id (r.put e (g.set off (.data b k es f)) (!b))) else none else none := rfl
theorem y_store_own (m id gen e off i g s l c : Nat) : astore h false m (.ptr id gen e off) (.own i g s l c) = (h[id]?).bind fun r => if r.gen = gen then (r.es[e]?).bind fun gr => if off < gr.length then some (h.set id (r.put e (gr.set off (.own i g s l c)) false)) else none else none := rfl
theorem y_store_ptr (m id gen e off i g s l : Nat) : astore h false m (.ptr id gen e off) (.ptr i g s l) = (h[id]?).bind fun r => if r.gen = gen then (r.es[e]?).bind fun gr => if off < gr.length then some (h.set id (r.put e (gr.set off (.ptr i g s l)) false)) else none else none := rfl
theorem y_store_fn (m id gen e off : Nat) (f : Fn) (a b : List AV) : astore h false m (.ptr id gen e off) (.fn f a b) = (h[id]?).bind fun r => if r.gen = gen then (r.es[e]?).bind fun gr => if off < gr.length then some (h.set id (r.put e (gr.set off (.fn f a b)) (AV.stableL a && AV.stableL b))) else none else none := rfl
theorem y_store_nilfn (m id gen e off : Nat) : astore h false m (.ptr id gen e off) .nilfn = (h[id]?).bind fun r => if r.gen = gen then (r.es[e]?).bind fun gr => if off < gr.length then some (h.set id (r.put e (gr.set off .nilfn) true)) else none else none := rfl
theorem y_store_nilptr (m id gen e off : Nat) : astore h false m (.ptr id gen e off) .nilptr = (h[id]?).bind fun r => if r.gen = gen then (r.es[e]?).bind fun gr => if off < gr.length then some (h.set id (r.put e (gr.set off .nilptr) true)) else none else none := rfl

theorem y_add_str (a b : ByteArray) : abin .add (.str a) (.str b) = if ((a.size + b.size : Nat) : Int) > IntKind.i64.max then none else some (.str (a ++ b)) := rfl
theorem y_shl (k k' : IntKind) (a b : Int) : abin .shl (.int k a) (.int k' b) = if b < 0 then none else some (.int k (k.wrap (a * 2 ^ min b.toNat k.bits))) := rfl
theorem y_shr (k k' : IntKind) (a b : Int) : abin .shr (.int k a) (.int k' b) = if b < 0 then none else some (.int k (a.fdiv (2 ^ min b.toNat k.bits))) := rfl
theorem y_quo (k : IntKind) (a b : Int) : abin .quo (.int k a) (.int k b) = if b = 0 then none else some (.int k (k.wrap (a.tdiv b))) := by simp [abin, asum]
theorem y_rem (k : IntKind) (a b : Int) : abin .rem (.int k a) (.int k b) = if b = 0 then none else some (.int k (a.tmod b)) := by simp [abin]
theorem y_ki (k : IntKind) (a b : Int) : eqLeaf .ki (.int k a) (.int k b) = some (decide (a = b)) := by
  have e : (a == b) = decide (a = b) := by by_cases h : a = b <;> simp [h]
  simp [eqLeaf, e]
theorem y_kb (a b : Bool) : eqLeaf .kb (.bool a) (.bool b) = some (a == b) := rfl
theorem y_ks (a b : ByteArray) : eqLeaf .ks (.str a) (.str b) = some (a == b) := rfl
theorem y_eqs_nil : eqCells [] [] [] = some true := rfl
theorem y_eqs_cons (s : Sh) (ss : List Sh) (a b : AV) (as bs : List AV) : eqCells (s :: ss) (a :: as) (b :: bs) = (eqLeaf s a b).bind fun x => (eqCells ss as bs).bind fun y => some (x && y) := rfl
theorem y_eq_agg (sh : List Sh) (as bs : List AV) : aeq true sh (.agg as) (.agg bs) = eqCells sh as bs := rfl
theorem y_eq_one (s : Sh) (a b : AV) : aeq false [s] a b = eqLeaf s a b := rfl
theorem y_nil_fn0 : aisnil .kf .nilfn = some true := rfl
theorem y_nil_p0 : aisnil .kp .nilptr = some true := rfl
theorem y_nil_fn (f : Fn) (a b : List AV) : aisnil .kf (.fn f a b) = some false := rfl
theorem y_nil_ptr (a b c d : Nat) : aisnil .kp (.ptr a b c d) = some false := rfl
theorem y_nil_dptr (cs : List AV) : aisnil .kp (.dptr cs) = some false := rfl
theorem y_nil_own (a b c l d : Nat) : aisnil .ks (.own a b c l d) = if 0 < l then some false else none := rfl
theorem y_nil_data (b : Bool) (k : Nat) (e : List AV) (es : List (List AV)) (f : Bool) : aisnil .ks (.data b k (e :: es) f) = some false := rfl

/-- Where there is room behind a slice. -/
def aappIn (h : List ARow) (k id gen s l c : Nat) (r : ARow) (ys : List (List AV) × Bool) : Option (AV × List ARow) := if r.gen = gen ∧ r.k = k ∧ s + (l + ys.1.length) ≤ r.es.length then
        some (.own id gen s (l + ys.1.length) c, h.set id ⟨k, gen, r.flat && ys.2, r.es.take (s + l) ++ ys.1 ++ r.es.drop (s + l + ys.1.length)⟩) else none
def aappNew (h : List ARow) (k bytes id gen s l : Nat) (r : ARow) (ys : List (List AV) × Bool) : Option (AV × List ARow) := if r.gen = gen ∧ r.k = k ∧ s + l ≤ r.es.length ∧ aboundsOk (l + ys.1.length) bytes = true then
        some (.own id (gen + 1) 0 (l + ys.1.length) (l + ys.1.length), h.set id ⟨k, gen + 1, r.flat && ys.2, (r.es.drop s).take l ++ ys.1⟩) else none
theorem y_app_own (k bytes id gen s l c : Nat) (y : AV) : aappend h k bytes (.own id gen s l c) y = (agroups h k y).bind fun ys => (h[id]?).bind fun r => if l < c ∧ l + ys.1.length ≤ c then aappIn h k id gen s l c r ys else aappNew h k bytes id gen s l r ys := rfl
theorem y_app_in (k id gen s l c kk g : Nat) (f : Bool) (es ys : List (List AV)) (fl : Bool) : aappIn h k id gen s l c ⟨kk, g, f, es⟩ (ys, fl) = if g = gen ∧ kk = k ∧ s + (l + ys.length) ≤ es.length then
        some (.own id gen s (l + ys.length) c, h.set id ⟨k, gen, f && fl, es.take (s + l) ++ ys ++ es.drop (s + l + ys.length)⟩) else none := rfl
theorem y_app_new (k bytes id gen s l kk g : Nat) (f : Bool) (es ys : List (List AV)) (fl : Bool) : aappNew h k bytes id gen s l ⟨kk, g, f, es⟩ (ys, fl) = if g = gen ∧ kk = k ∧ s + l ≤ es.length ∧ aboundsOk (l + ys.length) bytes = true then
        some (.own id (gen + 1) 0 (l + ys.length) (l + ys.length), h.set id ⟨k, gen + 1, f && fl, (es.drop s).take l ++ ys⟩) else none := rfl
theorem y_app_nil (k bytes : Nat) (b : Bool) (k' : Nat) (y : AV) : aappend h k bytes (.data b k' [] true) y = (agroups h k y).bind fun ys => if aboundsOk ys.1.length bytes = true then some (.own h.length 0 0 ys.1.length ys.1.length, h ++ [⟨k, 0, ys.2, ys.1⟩]) else none := rfl
theorem y_bounds (n bytes : Nat) : aboundsOk n bytes = decide (n * bytes ≤ 140737488355328) := rfl
theorem y_appD (k bytes k' : Nat) (es : List (List AV)) (y : AV) : aappendD h k bytes (.data false k' es true) y = (agroups h k y).bind fun ys => if (es.isEmpty || k' == k) = true ∧ ys.2 = true ∧ aboundsOk (es.length + ys.1.length) bytes = true then some (.data false k (es ++ ys.1) false) else none := rfl
theorem y_copy (k id gen s l c : Nat) (y : AV) : acopy h k (.own id gen s l c) y = (agroups h k y).bind fun ys => (h[id]?).bind fun r => if r.gen = gen ∧ r.k = k ∧ s + l ≤ r.es.length then
      some (.int .i64 (min ys.1.length l : Nat), h.set id ⟨r.k, r.gen, r.flat && ys.2, r.es.take s ++ ys.1.take (min ys.1.length l) ++ r.es.drop (s + min ys.1.length l)⟩) else none := rfl
theorem y_bound_none (b : Nat) : abound b none = some b := rfl
theorem y_bound_some (b : Nat) (k : IntKind) (i : Int) : abound b (some (.int k i)) = if 0 ≤ i then some i.toNat else none := rfl
theorem y_sl_own (k id gen s l c : Nat) (lo hi mx : Option AV) : aslice h k (.own id gen s l c) lo hi mx = (abound 0 lo).bind fun a => (abound l hi).bind fun b => (abound c mx).bind fun m =>
      (h[id]?).bind fun r => if r.gen = gen ∧ r.k = k then if a ≤ b ∧ b ≤ m ∧ m ≤ c then some (.own id gen (s + a) (b - a) (m - a)) else none else none := rfl
theorem y_sl_data (k : Nat) (bor : Bool) (k' : Nat) (es : List (List AV)) (full : Bool) (lo hi : Option AV) : aslice h k (.data bor k' es full) lo hi none = (abound 0 lo).bind fun a => (abound es.length hi).bind fun b =>
      if k' = k then if a ≤ b ∧ b ≤ es.length then some (.data bor k ((es.take b).drop a) (full && decide (b = es.length))) else none else none := by
  simp only [aslice, abound, Option.bind_some, Nat.le_refl, and_true]
theorem y_sl_data3 (k : Nat) (bor : Bool) (k' : Nat) (es : List (List AV)) (full : Bool) (lo hi : Option AV) (mx : AV) : aslice h k (.data bor k' es full) lo hi (some mx) = (abound 0 lo).bind fun a => (abound es.length hi).bind fun b => (abound es.length (some mx)).bind fun m =>
      if k' = k then if a ≤ b ∧ b ≤ m ∧ m ≤ es.length then some (.data bor k ((es.take b).drop a) (decide (m = b))) else none else none := rfl
theorem y_slstr (s : ByteArray) (lo hi : Option AV) : aslstr (.str s) lo hi = (abound 0 lo).bind fun a => (abound s.size hi).bind fun b => if a ≤ b ∧ b ≤ s.size then some (.str (s.extract a b)) else none := rfl
theorem y_idxv (agg : Bool) (m n : Nat) (cs : List AV) (k : IntKind) (i : Int) : aidxv agg m n (.agg cs) (.int k i) = if 0 ≤ i ∧ i < n then acut agg m (i.toNat * m) cs else none := rfl
theorem y_idxs (s : ByteArray) (k : IntKind) (i : Int) : aidxs (.str s) (.int k i) = if 0 ≤ i then (s.data.toList[i.toNat]?).map fun b => .int .u8 (b.toNat : Int) else none := rfl
theorem y_build_nil (zero : List AV) : abuild zero [] = some zero := rfl
theorem y_build_cons (zero : List AV) (off m : Nat) (v : AV) (ps : List (Nat × Nat × AV)) : abuild zero ((off, m, v) :: ps) = v.cells.bind fun cs => if cs.length = m ∧ off + m ≤ zero.length then abuild (patch off cs zero) ps else none := rfl
theorem y_fill_nil (k : Nat) (es : List (List AV)) : afill k es [] = some es := rfl
theorem y_fill_cons (k : Nat) (es : List (List AV)) (i : Nat) (v : AV) (ps : List (Nat × AV)) : afill k es ((i, v) :: ps) = v.cells.bind fun cs => if cs.length = k ∧ i < es.length then afill k (es.set i cs) ps else none := rfl
theorem y_stLL_nil : stableLL [] = true := rfl
theorem y_stLL_cons (e : List AV) (es : List (List AV)) : stableLL (e :: es) = (AV.stableL e && stableLL es) := rfl
theorem y_stL_nil : AV.stableL [] = true := by rw [AV.stableL]
theorem y_stL_cons (v : AV) (vs : List AV) : AV.stableL (v :: vs) = (v.stable && AV.stableL vs) := by rw [AV.stableL]
theorem y_st_int (k : IntKind) (n : Int) : (AV.int k n).stable = true := by rw [AV.stable]
theorem y_st_bool (b : Bool) : (AV.bool b).stable = true := by rw [AV.stable]
theorem y_st_str (s : ByteArray) : (AV.str s).stable = true := by rw [AV.stable]
theorem y_st_nilfn : AV.nilfn.stable = true := by rw [AV.stable]
theorem y_st_nilptr : AV.nilptr.stable = true := by rw [AV.stable]
theorem y_st_data (b : Bool) (k : Nat) (es : List (List AV)) (f : Bool) : (AV.data b k es f).stable = !b := by rw [AV.stable]
theorem y_st_agg (cs : List AV) : (AV.agg cs).stable = AV.stableL cs := by rw [AV.stable]
theorem y_st_tup (cs : List AV) : (AV.tup cs).stable = AV.stableL cs := by rw [AV.stable]
theorem y_st_fn (f : Fn) (a b : List AV) : (AV.fn f a b).stable = (AV.stableL a && AV.stableL b) := by rw [AV.stable]
theorem y_st_dptr (cs : List AV) : (AV.dptr cs).stable = false := by rw [AV.stable]
theorem y_st_own (a b c d e : Nat) : (AV.own a b c d e).stable = false := by rw [AV.stable]
theorem y_st_ptr (a b c d : Nat) : (AV.ptr a b c d).stable = false := by rw [AV.stable]

theorem y_ids_own (a b c d e : Nat) : (AV.own a b c d e).ids = [a] := by rw [AV.ids]
theorem y_ids_ptr (a b c d : Nat) : (AV.ptr a b c d).ids = [a] := by rw [AV.ids]
theorem y_ids_agg (cs : List AV) : (AV.agg cs).ids = AV.idsL cs := by rw [AV.ids]
theorem y_ids_tup (cs : List AV) : (AV.tup cs).ids = AV.idsL cs := by rw [AV.ids]
theorem y_ids_fn (f : Fn) (a b : List AV) : (AV.fn f a b).ids = AV.idsL a ++ AV.idsL b := by rw [AV.ids]
theorem y_ids_int (k : IntKind) (n : Int) : (AV.int k n).ids = [] := by simp [AV.ids]
theorem y_ids_bool (b : Bool) : (AV.bool b).ids = [] := by simp [AV.ids]
theorem y_ids_str (s : ByteArray) : (AV.str s).ids = [] := by simp [AV.ids]
theorem y_ids_data (b : Bool) (k : Nat) (es : List (List AV)) (f : Bool) : (AV.data b k es f).ids = [] := by simp [AV.ids]
theorem y_ids_dptr (cs : List AV) : (AV.dptr cs).ids = [] := by simp [AV.ids]
theorem y_ids_nilfn : AV.nilfn.ids = [] := by simp [AV.ids]
theorem y_ids_nilptr : AV.nilptr.ids = [] := by simp [AV.ids]
theorem y_idsL_nil : AV.idsL [] = [] := by rw [AV.idsL]
theorem y_idsL_cons (v : AV) (vs : List AV) : AV.idsL (v :: vs) = v.ids ++ AV.idsL vs := by rw [AV.idsL]

section
variable (low off : Nat) (order : List Nat)
theorem y_ren_own (id g s l c : Nat) : (AV.own id g s l c).ren h low off order = if id < low then .own id g s l c else (h[id]?).elim .unk fun r => (order.idxOf? id).elim .unk fun j => if r.gen = g then .own (off + j) 0 s l c else .unk := by
  rw [AV.ren]
  cases h[id]? <;> cases order.idxOf? id <;> rfl
theorem y_ren_ptr (id g e o : Nat) : (AV.ptr id g e o).ren h low off order = if id < low then .ptr id g e o else (h[id]?).elim .unk fun r => (order.idxOf? id).elim .unk fun j => if r.gen = g then .ptr (off + j) 0 e o else .unk := by
  rw [AV.ren]
  cases h[id]? <;> cases order.idxOf? id <;> rfl
theorem y_ren_agg (cs : List AV) : (AV.agg cs).ren h low off order = .agg (AV.renL h low off order cs) := by rw [AV.ren]
theorem y_ren_tup (cs : List AV) : (AV.tup cs).ren h low off order = .tup (AV.renL h low off order cs) := by rw [AV.ren]
theorem y_ren_fn (f : Fn) (a b : List AV) : (AV.fn f a b).ren h low off order = .fn f (AV.renL h low off order a) (AV.renL h low off order b) := by rw [AV.ren]
theorem y_ren_int (k : IntKind) (n : Int) : (AV.int k n).ren h low off order = .int k n := by simp [AV.ren]
theorem y_ren_bool (b : Bool) : (AV.bool b).ren h low off order = .bool b := by simp [AV.ren]
theorem y_ren_str (s : ByteArray) : (AV.str s).ren h low off order = .str s := by simp [AV.ren]
theorem y_ren_data (b : Bool) (k : Nat) (es : List (List AV)) (f : Bool) : (AV.data b k es f).ren h low off order = .data b k es f := by simp [AV.ren]
theorem y_ren_dptr (cs : List AV) : (AV.dptr cs).ren h low off order = .dptr cs := by simp [AV.ren]
theorem y_ren_nilfn : AV.nilfn.ren h low off order = .nilfn := by simp [AV.ren]
theorem y_ren_nilptr : AV.nilptr.ren h low off order = .nilptr := by simp [AV.ren]
theorem y_renL_nil : AV.renL h low off order [] = [] := by rw [AV.renL]
theorem y_renL_cons (v : AV) (vs : List AV) : AV.renL h low off order (v :: vs) = v.ren h low off order :: AV.renL h low off order vs := by rw [AV.renL]
theorem y_row_flat (k g : Nat) (es : List (List AV)) : (ARow.mk k g true es).ren h low off order = ⟨k, g, true, es⟩ := rfl
theorem y_row_not (k g : Nat) (es : List (List AV)) : (ARow.mk k g false es).ren h low off order = ⟨k, g, false, es.map (AV.renL h low off order)⟩ := rfl
theorem y_rids_flat (k g : Nat) (es : List (List AV)) : (ARow.mk k g true es).ids = [] := rfl
theorem y_rids_not (k g : Nat) (es : List (List AV)) : (ARow.mk k g false es).ids = es.flatMap AV.idsL := rfl
theorem y_reach_nil (low n : Nat) (acc : List Nat) : areach h low (n + 1) [] acc = acc := by simp [areach]
theorem y_reach_cons (low n i : Nat) (ws acc : List Nat) : areach h low (n + 1) (i :: ws) acc = if i < low then areach h low n ws acc else if acc.contains i = true then areach h low n ws acc else (h[i]?).elim (areach h low n ws acc) fun r => areach h low n (ws ++ r.ids) (acc ++ [i]) := by
  rw [areach]
  by_cases h1 : i < low
  · simp [h1]
  · by_cases h2 : acc.contains i = true
    · simp only [h1, h2, or_true, if_true, if_false]
    · simp only [h1, h2, or_false, if_false]
      cases h[i]? <;> rfl
def nodupB : List Nat → Bool
  | [] => true
  | i :: is => !is.contains i && nodupB is
theorem nodupB_eq : ∀ l : List Nat, decide l.Nodup = nodupB l
  | [] => by simp [nodupB]
  | i :: is => by
    rw [nodupB, ← nodupB_eq is]
    by_cases h1 : i ∈ is <;> by_cases h2 : is.Nodup <;> simp [h1, h2]
def orderB (h : List ARow) (low : Nat) : List Nat → Bool
  | [] => true
  | i :: is => decide (low ≤ i) && decide (i < h.length) && orderB h low is
theorem orderB_eq (low : Nat) : ∀ l : List Nat, (l.all fun i => decide (low ≤ i) && decide (i < h.length)) = orderB h low l
  | [] => rfl
  | i :: is => by rw [orderB, ← orderB_eq low is]; rfl
theorem y_orderOk (low : Nat) (order : List Nat) : orderOk h low order = (nodupB order && orderB h low order) := by
  unfold orderOk
  rw [orderB_eq, nodupB_eq]
theorem y_nodup_nil : nodupB [] = true := rfl
theorem y_nodup_cons (i : Nat) (is : List Nat) : nodupB (i :: is) = (!is.contains i && nodupB is) := rfl
theorem y_ord_nil (low : Nat) : orderB h low [] = true := rfl
theorem y_ord_cons (low i : Nat) (is : List Nat) : orderB h low (i :: is) = (decide (low ≤ i) && decide (i < h.length) && orderB h low is) := rfl
/-- The rows that are kept, one by one. -/
def arowsG (h : List ARow) (low off : Nat) (order : List Nat) : List Nat → List ARow
  | [] => []
  | i :: is => (h[i]?).elim (arowsG h low off order is) fun r => { r.ren h low off order with gen := 0 } :: arowsG h low off order is
theorem arowsG_eq : ∀ (l : List Nat), (l.filterMap fun i => (h[i]?).map fun r => { r.ren h low off order with gen := 0 }) = arowsG h low off order l
  | [] => rfl
  | i :: is => by
    rw [arowsG, ← arowsG_eq is]
    cases e : h[i]? <;> simp [e]
theorem y_rows : arows h low off order = arowsG h low off order order := arowsG_eq h low off order order
theorem y_rows_g0 : arowsG h low off order [] = [] := rfl
theorem y_rows_g1 (i : Nat) (is : List Nat) : arowsG h low off order (i :: is) = (h[i]?).elim (arowsG h low off order is) fun r => ⟨(r.ren h low off order).k, 0, (r.ren h low off order).flat, (r.ren h low off order).es⟩ :: arowsG h low off order is := rfl
end
/-- A loop's head, told step by step. -/
def agcOrd (base : Nat) (env : AEnv) (h : List ARow) (order : List Nat) : Option ASt :=
  if orderOk h base order = true then some ⟨env.map fun p => (p.1, p.2.ren h base base order), (h.take base).map (ARow.ren h base base order) ++ arows h base base order⟩ else none
def agcEnv (base : Nat) (h : List ARow) (env : AEnv) : Option ASt := agcOrd base env h (areach h base 64 (AV.idsL (env.map (·.2)) ++ (h.take base).flatMap ARow.ids) [])
theorem y_gc (base : Nat) (live : List Nat) (env : AEnv) (h : List ARow) : agc base live ⟨env, h⟩ = agcEnv base h (akeep live env) := rfl
theorem y_gcEnv (base : Nat) (h : List ARow) (env : AEnv) : agcEnv base h env = agcOrd base env h (areach h base 64 (AV.idsL (env.map (·.2)) ++ (h.take base).flatMap ARow.ids) []) := rfl
theorem y_gcOrd (base : Nat) (env : AEnv) (h : List ARow) (order : List Nat) : agcOrd base env h order = if orderOk h base order = true then some ⟨env.map fun p => (p.1, p.2.ren h base base order), (h.take base).map (ARow.ren h base base order) ++ arows h base base order⟩ else none := rfl

theorem y_view_own (id g s l c : Nat) : aview h (.own id g s l c) = (h[id]?).bind fun r => if r.gen = g ∧ r.flat = true ∧ s + l ≤ r.es.length then some (.data true r.k ((r.es.drop s).take l) false) else none := by rw [aview]
theorem y_view_ptr (id g e o : Nat) : aview h (.ptr id g e o) = (h[id]?).bind fun r => if r.gen = g ∧ r.flat = true then (r.es[e]?).map fun c => .dptr (c.drop o) else none := by rw [aview]
theorem y_view_agg (cs : List AV) : aview h (.agg cs) = (aviewL h cs).map .agg := by rw [aview]
theorem y_view_tup (cs : List AV) : aview h (.tup cs) = (aviewL h cs).map .tup := by rw [aview]
theorem y_view_fn (f : Fn) (a b : List AV) : aview h (.fn f a b) = if (AV.stableL a && AV.stableL b) = true then some (.fn f a b) else none := by rw [aview]
theorem y_view_int (k : IntKind) (n : Int) : aview h (.int k n) = some (.int k n) := by simp [aview]
theorem y_view_bool (b : Bool) : aview h (.bool b) = some (.bool b) := by simp [aview]
theorem y_view_str (s : ByteArray) : aview h (.str s) = some (.str s) := by simp [aview]
theorem y_view_data (b : Bool) (k : Nat) (es : List (List AV)) (f : Bool) : aview h (.data b k es f) = some (.data b k es f) := by simp [aview]
theorem y_view_dptr (cs : List AV) : aview h (.dptr cs) = some (.dptr cs) := by simp [aview]
theorem y_view_nilfn : aview h .nilfn = some .nilfn := by simp [aview]
theorem y_view_nilptr : aview h .nilptr = some .nilptr := by simp [aview]
theorem y_viewL_nil : aviewL h [] = some [] := by rw [aviewL]
theorem y_viewL_cons (v : AV) (vs : List AV) : aviewL h (v :: vs) = (aview h v).bind fun x => (aviewL h vs).map (x :: ·) := by rw [aviewL]

theorem y_frz_own (id g s l c : Nat) : afreeze h (.own id g s l c) = (h[id]?).bind fun r => if r.gen = g ∧ r.flat = true ∧ s + l ≤ r.es.length then some (.data false r.k ((r.es.drop s).take l) false) else none := by rw [afreeze]
theorem y_frz_data (k : Nat) (es : List (List AV)) (f : Bool) : afreeze h (.data false k es f) = some (.data false k es false) := by rw [afreeze]
theorem y_frz_agg (cs : List AV) : afreeze h (.agg cs) = (afreezeL h cs).map .agg := by rw [afreeze]
theorem y_frz_tup (cs : List AV) : afreeze h (.tup cs) = (afreezeL h cs).map .tup := by rw [afreeze]
theorem y_frz_int (k : IntKind) (n : Int) : afreeze h (.int k n) = some (.int k n) := by rw [afreeze]
theorem y_frz_bool (b : Bool) : afreeze h (.bool b) = some (.bool b) := by rw [afreeze]
theorem y_frz_str (s : ByteArray) : afreeze h (.str s) = some (.str s) := by rw [afreeze]
theorem y_frz_nilfn : afreeze h .nilfn = some .nilfn := by rw [afreeze]
theorem y_frz_nilptr : afreeze h .nilptr = some .nilptr := by rw [afreeze]
theorem y_frz_fn (f : Fn) (a b : List AV) : afreeze h (.fn f a b) = if (AV.stableL a && AV.stableL b) = true then some (.fn f a b) else none := by rw [afreeze]
theorem y_frzL_nil : afreezeL h [] = some [] := by rw [afreezeL]
theorem y_frzL_cons (v : AV) (vs : List AV) : afreezeL h (v :: vs) = (afreeze h v).bind fun x => (afreezeL h vs).map (x :: ·) := by rw [afreezeL]

theorem y_cl_data (b : Bool) (k : Nat) (es : List (List AV)) (f : Bool) : (AV.data b k es f).clean = !b := by rw [AV.clean]
theorem y_cl_dptr (cs : List AV) : (AV.dptr cs).clean = false := by rw [AV.clean]
theorem y_cl_agg (cs : List AV) : (AV.agg cs).clean = AV.cleanL cs := by rw [AV.clean]
theorem y_cl_tup (cs : List AV) : (AV.tup cs).clean = AV.cleanL cs := by rw [AV.clean]
theorem y_cl_fn (f : Fn) (a b : List AV) : (AV.fn f a b).clean = (AV.cleanL a && AV.cleanL b) := by rw [AV.clean]
theorem y_cl_int (k : IntKind) (n : Int) : (AV.int k n).clean = true := by simp [AV.clean]
theorem y_cl_bool (b : Bool) : (AV.bool b).clean = true := by simp [AV.clean]
theorem y_cl_str (s : ByteArray) : (AV.str s).clean = true := by simp [AV.clean]
theorem y_cl_own (a b c d e : Nat) : (AV.own a b c d e).clean = true := by simp [AV.clean]
theorem y_cl_ptr (a b c d : Nat) : (AV.ptr a b c d).clean = true := by simp [AV.clean]
theorem y_cl_nilfn : AV.nilfn.clean = true := by simp [AV.clean]
theorem y_cl_nilptr : AV.nilptr.clean = true := by simp [AV.clean]
theorem y_clL_nil : AV.cleanL [] = true := by rw [AV.cleanL]
theorem y_clL_cons (v : AV) (vs : List AV) : AV.cleanL (v :: vs) = (v.clean && AV.cleanL vs) := by rw [AV.cleanL]
def acleanRow : Option ARow → Bool
  | some r => r.flat || r.es.all AV.cleanL
  | none => false
theorem y_clrow (k g : Nat) (f : Bool) (es : List (List AV)) : acleanRow (some ⟨k, g, f, es⟩) = (f || es.all AV.cleanL) := rfl
/-- An answer that becomes the caller's, told step by step. -/
def aadoptOrd (h h' : List ARow) (r : AV) (order : List Nat) : Option (AV × List ARow) :=
  if (orderOk h' 0 order && r.clean && order.all (fun i => acleanRow h'[i]?)) = true then some (r.ren h' 0 h.length order, h ++ arows h' 0 h.length order) else none
theorem y_adopt (h h' : List ARow) (r : AV) : aadopt h h' r = aadoptOrd h h' r (areach h' 0 64 r.ids []) := rfl
theorem y_adoptOrd (h h' : List ARow) (r : AV) (order : List Nat) : aadoptOrd h h' r order = if (orderOk h' 0 order && r.clean && order.all (fun i => acleanRow h'[i]?)) = true then some (r.ren h' 0 h.length order, h ++ arows h' 0 h.length order) else none := rfl
theorem y_clear (zero : List AV) (id gen s l c : Nat) : aclear h zero (.own id gen s l c) = (h[id]?).bind fun r => if r.gen = gen ∧ r.k = zero.length ∧ s + l ≤ r.es.length then
      some (.tup [], h.set id ⟨r.k, r.gen, r.flat && AV.stableL zero, r.es.take s ++ List.replicate l zero ++ r.es.drop (s + l)⟩) else none := rfl
end
section
variable (G : Nat → Option (List AV)) (raw : ARaw) (env : AEnv) (h : List ARow)
def amark (h : List ARow) : AV → Option (AV × List ARow)
  | .own id g s l c => (h[id]?).bind fun r => if r.gen = g ∧ 0 < l then some (.own id g s l c, h) else none
  | _ => none
theorem y_op_mark (x : AOpd) : aexecOp G raw env h (.mark x) = (aeval G env x).bind (amark h) := by
  simp only [aexecOp, aop]
  cases aeval G env x with
  | none => rfl
  | some v => cases v <;> rfl
theorem y_mark (id g s l c : Nat) : amark h (.own id g s l c) = (h[id]?).bind fun r => if r.gen = g ∧ 0 < l then some (.own id g s l c, h) else none := rfl
def astrOf : AV → Option ByteArray
  | .str s => some s
  | _ => none
theorem y_str_mk (s : ByteArray) : astrOf (.str s) = some s := rfl
theorem y_op_strb (x : AOpd) : aexecOp G raw env h (.strb x) = ((aeval G env x).bind astrOf).map fun s => (.own h.length 0 0 s.size s.size, h ++ [⟨1, 0, true, bytesAV s⟩]) := by
  simp only [aexecOp, aop]
  cases aeval G env x with
  | none => rfl
  | some v => cases v <;> rfl
theorem y_op_cvs (x : AOpd) : aexecOp G raw env h (.cvs x) = ((aeval G env x).bind astrOf).map fun s => (.str s, h) := by
  simp only [aexecOp, aop]
  cases aeval G env x with
  | none => rfl
  | some v => cases v <;> rfl
theorem y_nostr_own (a b c d e : Nat) : anostr (.own a b c d e) = some (.own a b c d e) := rfl
theorem y_nostr_data (b : Bool) (k : Nat) (es : List (List AV)) (f : Bool) : anostr (.data b k es f) = some (.data b k es f) := rfl
theorem y_res_three (r s t : ARes) (st : ASt) : aresults [r, s, t] st = (ares st.env st.h r).bind fun x => (ares st.env st.h s).bind fun y => (ares st.env st.h t).bind fun z => some (.tup [x, y, z]) := by
  simp only [aresults, List.mapM_cons, List.mapM_nil]
  cases ares st.env st.h r with
  | none => rfl
  | some x =>
    cases ares st.env st.h s with
    | none => rfl
    | some y => cases ares st.env st.h t <;> rfl
end
end Go.Proofs.Ytfnonledcniojaa
