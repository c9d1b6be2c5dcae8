/- The small machine's equations, one step at a time, for walks. Conditions: none. -/
import Derived.Test.YtfnonledcniojaaAmC
namespace Go.Proofs.Ytfnonledcniojaa
open Go

theorem obind_congr {α β : Type} {x y : Option α} (f : α → Option β) (h : x = y) : x.bind f = y.bind f := by rw [h]
theorem omap_congr {α β : Type} {x y : Option α} (f : α → β) (h : x = y) : x.map f = y.map f := by rw [h]
theorem look_cons (k : Nat) (v : AV) (r : AEnv) (n : Nat) : look ((k, v) :: r) n = if k = n then some v else look r n := rfl
theorem akeep_nil (env : AEnv) : akeep [] env = [] := rfl
theorem akeep_cons (s : Nat) (ss : List Nat) (env : AEnv) : akeep (s :: ss) env = (look env s).elim (akeep ss env) fun v => (s, v) :: akeep ss env := by
  unfold akeep
  cases h : look env s <;> simp [h]
theorem aput_some (env : AEnv) (d : Nat) (v : AV) : aput env (some d) v = (d, v) :: env := rfl
theorem aput_none (env : AEnv) (v : AV) : aput env none v = env := rfl
theorem elim_some {α β : Type} (a : α) (b : β) (f : α → β) : (some a).elim b f = f a := rfl
theorem elim_none {α β : Type} (b : β) (f : α → β) : (none : Option α).elim b f = b := rfl
theorem bind_some' {α β : Type} (a : α) (f : α → Option β) : (some a).bind f = f a := rfl
theorem map_some' {α β : Type} (a : α) (f : α → β) : (some a).map f = some (f a) := rfl

section
variable (G : Nat → Option (List AV)) (raw : ARaw) (env : AEnv) (h : List ARow)
theorem aops_nil (st : ASt) : aops G raw [] st = some st := rfl
theorem aops_cons (d : Option Nat) (op : AOp) (os : List AOper) : aops G raw (⟨d, none, op⟩ :: os) ⟨env, h⟩ = (aexecOp G raw env h op).bind fun r => aops G raw os ⟨aput env d r.1, r.2⟩ := by
  rw [aops]
  simp only [astep]
  cases aexecOp G raw env h op <;> rfl
/-- Is a guarded operation carried out? -/
def aguard (b : Bool) : AV → Option Bool
  | .bool c => some (c == b)
  | .tup [] => some false
  | _ => none
theorem aops_guard (d : Option Nat) (s : Nat) (b : Bool) (op : AOp) (os : List AOper) : aops G raw (⟨d, some (s, b), op⟩ :: os) ⟨env, h⟩ =
    ((look env s).bind (aguard b)).bind fun c => if c = true then (aexecOp G raw env h op).bind fun r => aops G raw os ⟨aput env d r.1, r.2⟩ else aops G raw os ⟨aput env d (.tup []), h⟩ := by
  rw [aops]
  simp only [astep]
  cases look env s with
  | none => rfl
  | some v =>
    cases v with
    | bool c =>
      simp only [bind_some', aguard]
      by_cases hc : c = b
      · subst hc
        cases aexecOp G raw env h op <;> simp
      · simp [hc]
    | tup vs => cases vs <;> rfl
    | _ => rfl
theorem guard_bool (b c : Bool) : aguard b (.bool c) = some (c == b) := rfl
theorem guard_undef (b : Bool) : aguard b (.tup []) = some false := rfl
theorem ev_slot (n : Nat) : aeval G env (.slot n) = look env n := rfl
theorem ev_const (v : AV) : aeval G env (.const v) = some v := rfl
theorem ev_glob (g : Nat) : aeval G env (.glob g) = (G g).map .dptr := rfl
theorem ev_func (f : Nat) : aeval G env (.func f) = some (.fn (.func f) [] []) := rfl
theorem evs_nil : ([] : List AOpd).mapM (aeval G env) = some [] := rfl
theorem evs_cons (x : AOpd) (xs : List AOpd) : (x :: xs).mapM (aeval G env) = (aeval G env x).bind fun v => (xs.mapM (aeval G env)).bind fun vs => some (v :: vs) := by
  simp [List.mapM_cons]
/-- Operands one by one. -/
def aeval1 (x : AOpd) (k : AV → Option (AV × List ARow)) : Option (AV × List ARow) := (aeval G env x).bind k

theorem op_call (md : AMd) (f : Nat) (args : List AOpd) : aexecOp G raw env h (.call md f args) = (args.mapM (aeval G env)).bind fun as => acall raw md f as h := rfl
/-- What is called by a value. -/
def afnOf : AV → Option (Nat × List AV × List AV)
  | .fn (.func f) a b => some (f, a, b)
  | _ => none
theorem fnOf_mk (f : Nat) (a b : List AV) : afnOf (.fn (.func f) a b) = some (f, a, b) := rfl
theorem op_callv (x : AOpd) (args : List AOpd) : aexecOp G raw env h (.callv x args) = ((aeval G env x).bind afnOf).bind fun p => (args.mapM (aeval G env)).bind fun as => raw p.1 (p.2.1 ++ as ++ p.2.2) h := by
  simp only [aexecOp]
  cases aeval G env x with
  | none => rfl
  | some v =>
    cases v with
    | fn f a b => cases f <;> rfl
    | _ => rfl
theorem op_mov (x : AOpd) : aexecOp G raw env h (.mov x) = (aeval G env x).map (·, h) := rfl
theorem op_mknil (k : Nat) : aexecOp G raw env h (.mknil k) = some (.own h.length 0 0 0 0, h ++ [⟨k, 0, true, []⟩]) := rfl
def abool : AV → Option Bool
  | .bool b => some b
  | _ => none
theorem abool_mk (b : Bool) : abool (.bool b) = some b := rfl
theorem op_pick (c a b : AOpd) : aexecOp G raw env h (.pick c a b) = ((aeval G env c).bind abool).bind fun c => (aeval G env (if c then a else b)).map (·, h) := by
  simp only [aexecOp, aop]
  cases aeval G env c with
  | none => rfl
  | some v => cases v <;> rfl
theorem op_alloc (zero : List AV) : aexecOp G raw env h (.alloc zero) = some (.ptr h.length 0 0 0, h ++ [⟨zero.length, 0, AV.stableL zero, [zero]⟩]) := rfl
theorem op_box (m : Nat) (x : AOpd) : aexecOp G raw env h (.box m x) = (aeval G env x).bind fun v => v.cells.bind fun cs => if cs.length = m then some (.ptr h.length 0 0 0, h ++ [⟨m, 0, AV.stableL cs, [cs]⟩]) else none := rfl
def aparts : List (Nat × Nat × AOpd) → Option (List (Nat × Nat × AV))
  | [] => some []
  | (i, m, x) :: ps => (aeval G env x).bind fun v => (aparts ps).bind fun vs => some ((i, m, v) :: vs)
theorem aparts_eq (ps : List (Nat × Nat × AOpd)) : (ps.mapM fun (p : Nat × Nat × AOpd) => (aeval G env p.2.2).map fun v => (p.1, p.2.1, v)) = aparts G env ps := by
  induction ps with
  | nil => rfl
  | cons p ps ih =>
    rw [List.mapM_cons, ih]
    obtain ⟨i, m, x⟩ := p
    show _ = (aeval G env x).bind fun v => (aparts G env ps).bind fun vs => some ((i, m, v) :: vs)
    cases aeval G env x with
    | none => rfl
    | some v => cases aparts G env ps <;> rfl
theorem aparts_nil : aparts G env [] = some [] := rfl
theorem aparts_cons (i m : Nat) (x : AOpd) (ps : List (Nat × Nat × AOpd)) : aparts G env ((i, m, x) :: ps) = (aeval G env x).bind fun v => (aparts G env ps).bind fun vs => some ((i, m, v) :: vs) := rfl
def aparts2 : List (Nat × AOpd) → Option (List (Nat × AV))
  | [] => some []
  | (i, x) :: ps => (aeval G env x).bind fun v => (aparts2 ps).bind fun vs => some ((i, v) :: vs)
theorem aparts2_eq (ps : List (Nat × AOpd)) : (ps.mapM fun (p : Nat × AOpd) => (aeval G env p.2).map fun v => (p.1, v)) = aparts2 G env ps := by
  induction ps with
  | nil => rfl
  | cons p ps ih =>
    rw [List.mapM_cons, ih]
    obtain ⟨i, x⟩ := p
    show _ = (aeval G env x).bind fun v => (aparts2 G env ps).bind fun vs => some ((i, v) :: vs)
    cases aeval G env x with
    | none => rfl
    | some v => cases aparts2 G env ps <;> rfl
theorem aparts2_nil : aparts2 G env [] = some [] := rfl
theorem aparts2_cons (i : Nat) (x : AOpd) (ps : List (Nat × AOpd)) : aparts2 G env ((i, x) :: ps) = (aeval G env x).bind fun v => (aparts2 G env ps).bind fun vs => some ((i, v) :: vs) := rfl
theorem op_build (zero : List AV) (ps : List (Nat × Nat × AOpd)) : aexecOp G raw env h (.build zero ps) = (aparts G env ps).bind fun ps => (abuild zero ps).map fun cs => (.agg cs, h) := by
  rw [← aparts_eq]; rfl
theorem op_mkslice (k n : Nat) (zero : List AV) (ps : List (Nat × AOpd)) : aexecOp G raw env h (.mkslice k n zero ps) =
    (aparts2 G env ps).bind fun ps => (afill k (List.replicate n zero) ps).map fun es => (.own h.length 0 0 n n, h ++ [⟨k, 0, stableLL es, es⟩]) := by
  rw [← aparts2_eq]; rfl
theorem op_mkdata (k n : Nat) (zero : List AV) (ps : List (Nat × AOpd)) : aexecOp G raw env h (.mkdata k n zero ps) =
    (aparts2 G env ps).bind fun ps => (afill k (List.replicate n zero) ps).bind fun es => if stableLL es then some (.data false k es true, h) else none := by
  rw [← aparts2_eq]; rfl
theorem op_load (agg : Bool) (m : Nat) (x : AOpd) : aexecOp G raw env h (.load agg m x) = (aeval G env x).bind fun p => (aload h agg m p).map (·, h) := rfl
theorem op_store (agg : Bool) (m : Nat) (p x : AOpd) : aexecOp G raw env h (.store agg m p x) = (aeval G env p).bind fun p => (aeval G env x).bind fun v => (astore h agg m p v).map (.tup [], ·) := rfl
def anil : AV → Option AV
  | .ptr id gen e off => some (.ptr id gen e off)
  | .dptr cs => some (.dptr cs)
  | .fn (.func f) a b => some (.fn (.func f) a b)
  | _ => none
theorem anil_ptr (id gen e off : Nat) : anil (.ptr id gen e off) = some (.ptr id gen e off) := rfl
theorem anil_dptr (cs : List AV) : anil (.dptr cs) = some (.dptr cs) := rfl
theorem anil_fn (f : Nat) (a b : List AV) : anil (.fn (.func f) a b) = some (.fn (.func f) a b) := rfl
theorem op_nilchk (x : AOpd) : aexecOp G raw env h (.nilchk x) = ((aeval G env x).bind anil).map (·, h) := by
  simp only [aexecOp, aop]
  cases aeval G env x with
  | none => rfl
  | some v =>
    cases v with
    | fn f a b => cases f <;> rfl
    | _ => rfl
theorem op_bin (op : BinOp) (x y : AOpd) : aexecOp G raw env h (.bin op x y) = (aeval G env x).bind fun x => (aeval G env y).bind fun y => (abin op x y).map (·, h) := rfl
theorem op_eq (agg : Bool) (sh : List Sh) (neg : Bool) (x y : AOpd) : aexecOp G raw env h (.eq agg sh neg x y) = (aeval G env x).bind fun x => (aeval G env y).bind fun y => (aeq agg sh x y).map fun b => (.bool (b != neg), h) := rfl
theorem op_isnil (k : NilK) (neg : Bool) (x : AOpd) : aexecOp G raw env h (.isnil k neg x) = (aeval G env x).bind fun x => (aisnil k x).map fun b => (.bool (b != neg), h) := rfl
theorem op_not (x : AOpd) : aexecOp G raw env h (.not x) = ((aeval G env x).bind abool).map fun b => (.bool (!b), h) := by
  simp only [aexecOp, aop]
  cases aeval G env x with
  | none => rfl
  | some v => cases v <;> rfl
def aint : AV → Option (IntKind × Int)
  | .int k n => some (k, n)
  | _ => none
theorem aint_mk (k : IntKind) (n : Int) : aint (.int k n) = some (k, n) := rfl
theorem op_neg (x : AOpd) : aexecOp G raw env h (.neg x) = ((aeval G env x).bind aint).map fun p => (asum p.1 (0 - p.2), h) := by
  simp only [aexecOp, aop]
  cases aeval G env x with
  | none => rfl
  | some v => cases v <;> rfl
theorem op_conv (k : IntKind) (x : AOpd) : aexecOp G raw env h (.conv k x) = ((aeval G env x).bind aint).map fun p => (asum k p.2, h) := by
  simp only [aexecOp, aop]
  cases aeval G env x with
  | none => rfl
  | some v => cases v <;> rfl
theorem op_rstr (x : AOpd) : aexecOp G raw env h (.rstr x) = ((aeval G env x).bind aint).map fun p => (.str (Utf8.encode p.2), h) := by
  simp only [aexecOp, aop]
  cases aeval G env x with
  | none => rfl
  | some v => cases v <;> rfl
theorem op_bstr (x : AOpd) : aexecOp G raw env h (.bstr x) = ((aeval G env x).bind anostr).bind fun v => (agroups h 1 v).bind fun es => (asBytes es.1).map fun bs => (.str ⟨bs.toArray⟩, h) := rfl
theorem op_mkfn (f : Fn) (first caps : List AOpd) : aexecOp G raw env h (.mkfn f first caps) = (first.mapM (aeval G env)).bind fun a => (caps.mapM (aeval G env)).map fun b => (.fn f a b, h) := rfl
theorem op_mkrow (k bytes : Nat) (zero : List AV) (l c : AOpd) : aexecOp G raw env h (.mkrow k bytes zero l c) = ((aeval G env l).bind aint).bind fun l => ((aeval G env c).bind aint).bind fun c =>
    if l.1 = .i64 ∧ c.1 = .i64 ∧ 0 ≤ l.2 ∧ c.2 = l.2 ∧ aboundsOk l.2.toNat bytes = true ∧ zero.length = k then
      some (.own h.length 0 0 l.2.toNat l.2.toNat, h ++ [⟨k, 0, AV.stableL zero, List.replicate l.2.toNat zero⟩]) else none := by
  simp only [aexecOp, aop]
  cases aeval G env l with
  | none => rfl
  | some v =>
    cases aeval G env c with
    | none => cases v <;> rfl
    | some u =>
      cases v with
      | int kl l =>
        cases u with
        | int kc c => cases kl <;> cases kc <;> simp [aint]
        | _ => cases kl <;> simp [aint]
      | _ => simp [aint]
theorem aopt_none : aopt G env none = some none := rfl
theorem aopt_some (o : AOpd) : aopt G env (some o) = (aeval G env o).bind fun v => some (some v) := rfl
theorem op_sl (k : Nat) (x : AOpd) (lo hi mx : Option AOpd) : aexecOp G raw env h (.sl k x lo hi mx) = (aeval G env x).bind fun x => (aopt G env lo).bind fun lo => (aopt G env hi).bind fun hi => (aopt G env mx).bind fun mx =>
    (aslice h k x lo hi mx).map (·, h) := by
  rfl
theorem op_slstr (x : AOpd) (lo hi : Option AOpd) : aexecOp G raw env h (.slstr x lo hi) = (aeval G env x).bind fun x => (aopt G env lo).bind fun lo => (aopt G env hi).bind fun hi => (aslstr x lo hi).map (·, h) := by
  rfl
theorem op_faddr (off : Nat) (x : AOpd) : aexecOp G raw env h (.faddr off x) = (aeval G env x).bind fun p => (afaddr off p).map (·, h) := rfl
def aaggOf : AV → Option (List AV)
  | .agg cs => some cs
  | _ => none
theorem aaggOf_mk (cs : List AV) : aaggOf (.agg cs) = some cs := rfl
theorem op_field (agg : Bool) (m off : Nat) (x : AOpd) : aexecOp G raw env h (.field agg m off x) = ((aeval G env x).bind aaggOf).bind fun cs => (acut agg m off cs).map (·, h) := by
  simp only [aexecOp, aop]
  cases aeval G env x with
  | none => rfl
  | some v => cases v <;> rfl
theorem op_idx (k : Nat) (x i : AOpd) : aexecOp G raw env h (.idx k x i) = (aeval G env x).bind fun x => (aeval G env i).bind fun i => (aidx h k x i).map (·, h) := rfl
theorem op_idxarr (k n : Nat) (x i : AOpd) : aexecOp G raw env h (.idxarr k n x i) = (aeval G env x).bind fun x => (aeval G env i).bind fun i => (aidxarr k n x i).map (·, h) := rfl
theorem op_idxv (agg : Bool) (m n : Nat) (x i : AOpd) : aexecOp G raw env h (.idxv agg m n x i) = (aeval G env x).bind fun x => (aeval G env i).bind fun i => (aidxv agg m n x i).map (·, h) := rfl
theorem op_idxs (x i : AOpd) : aexecOp G raw env h (.idxs x i) = (aeval G env x).bind fun x => (aeval G env i).bind fun i => (aidxs x i).map (·, h) := rfl
def atupOf : AV → Option (List AV)
  | .tup cs => some cs
  | _ => none
theorem atupOf_mk (cs : List AV) : atupOf (.tup cs) = some cs := rfl
theorem op_extract (i : Nat) (x : AOpd) : aexecOp G raw env h (.extract i x) = ((aeval G env x).bind atupOf).bind fun vs => (vs[i]?).map (·, h) := by
  simp only [aexecOp, aop]
  cases aeval G env x with
  | none => rfl
  | some v => cases v <;> rfl
theorem op_len (b : Bool) (x : AOpd) : aexecOp G raw env h (.len b x) = (aeval G env x).bind fun x => (alen b x).map (·, h) := rfl
theorem op_lenarr (n : Nat) : aexecOp G raw env h (.lenarr n) = some (.int .i64 n, h) := rfl
theorem op_mark (x : AOpd) : aexecOp G raw env h (.mark x) = (aeval G env x).bind fun
    | .own id g s l c => (h[id]?).bind fun r => if r.gen = g ∧ 0 < l then some (.own id g s l c, h) else none
    | _ => none := rfl
theorem op_append (k bytes : Nat) (x y : AOpd) : aexecOp G raw env h (.append k bytes x y) = (aeval G env x).bind fun x => (aeval G env y).bind fun y => aappend h k bytes x y := rfl
theorem op_appendD (k bytes : Nat) (x y : AOpd) : aexecOp G raw env h (.appendD k bytes x y) = (aeval G env x).bind fun x => (aeval G env y).bind fun y => (aappendD h k bytes x y).map (·, h) := rfl
theorem op_copy (k : Nat) (x y : AOpd) : aexecOp G raw env h (.copy k x y) = (aeval G env x).bind fun x => (aeval G env y).bind fun y => acopy h k x y := rfl
theorem op_max (x y : AOpd) : aexecOp G raw env h (.max x y) = (aeval G env x).bind fun x => (aeval G env y).bind fun y => (aints (fun b a => decide (b > a)) x y).map (·, h) := rfl
theorem op_min (x y : AOpd) : aexecOp G raw env h (.min x y) = (aeval G env x).bind fun x => (aeval G env y).bind fun y => (aints (fun b a => decide (b < a)) x y).map (·, h) := rfl
end

theorem bin_add (k : IntKind) (a b : Int) : abin .add (.int k a) (.int k b) = some (.int k (k.wrap (a + b))) := by simp [abin, asum]
theorem bin_sub (k : IntKind) (a b : Int) : abin .sub (.int k a) (.int k b) = some (.int k (k.wrap (a - b))) := by simp [abin, asum]
theorem bin_mul (k : IntKind) (a b : Int) : abin .mul (.int k a) (.int k b) = some (.int k (k.wrap (a * b))) := by simp [abin, asum]
theorem bin_eql (k : IntKind) (a b : Int) : abin .eql (.int k a) (.int k b) = some (.bool (decide (a = b))) := by
  have e : (a == b) = decide (a = b) := by by_cases h : a = b <;> simp [h]
  simp [abin, e]
theorem bin_neq (k : IntKind) (a b : Int) : abin .neq (.int k a) (.int k b) = some (.bool (!decide (a = b))) := by
  have e : (a == b) = decide (a = b) := by by_cases h : a = b <;> simp [h]
  simp [abin, bne, e]
theorem bin_lss (k : IntKind) (a b : Int) : abin .lss (.int k a) (.int k b) = some (.bool (decide (a < b))) := by simp [abin]
theorem bin_leq (k : IntKind) (a b : Int) : abin .leq (.int k a) (.int k b) = some (.bool (decide (a ≤ b))) := by simp [abin]
theorem bin_gtr (k : IntKind) (a b : Int) : abin .gtr (.int k a) (.int k b) = some (.bool (decide (b < a))) := by simp [abin]
theorem bin_geq (k : IntKind) (a b : Int) : abin .geq (.int k a) (.int k b) = some (.bool (decide (b ≤ a))) := by simp [abin]
theorem min_int (k : IntKind) (a b : Int) : aints (fun b a => decide (b < a)) (.int k a) (.int k b) = some (.int k (min a b)) := by
  simp only [aints, if_true, Option.some.injEq, AV.int.injEq, true_and]
  by_cases h : b < a
  · rw [if_pos (by simpa using h)]; omega
  · rw [if_neg (by simpa using h)]; omega
theorem max_int (k : IntKind) (a b : Int) : aints (fun b a => decide (b > a)) (.int k a) (.int k b) = some (.int k (max a b)) := by
  simp only [aints, if_true, Option.some.injEq, AV.int.injEq, true_and]
  by_cases h : b > a
  · rw [if_pos (by simpa using h)]; omega
  · rw [if_neg (by simpa using h)]; omega
theorem len_own (id g s l c : Nat) : alen false (.own id g s l c) = some (.int .i64 l) := rfl
theorem len_data (b : Bool) (k : Nat) (es : List (List AV)) (f : Bool) : alen false (.data b k es f) = some (.int .i64 es.length) := rfl
theorem len_str (s : ByteArray) : alen true (.str s) = some (.int .i64 s.size) := rfl
theorem cells_agg (cs : List AV) : (AV.agg cs).cells = some cs := rfl
theorem cells_int (k : IntKind) (n : Int) : (AV.int k n).cells = some [.int k n] := rfl
theorem cells_bool (b : Bool) : (AV.bool b).cells = some [.bool b] := rfl
theorem cells_str (s : ByteArray) : (AV.str s).cells = some [.str s] := rfl
theorem cells_data (b : Bool) (k : Nat) (es : List (List AV)) (f : Bool) : (AV.data b k es f).cells = some [.data b k es f] := rfl
theorem cells_own (id g s l c : Nat) : (AV.own id g s l c).cells = some [.own id g s l c] := rfl
theorem cells_ptr (id g s l : Nat) : (AV.ptr id g s l).cells = some [.ptr id g s l] := rfl
theorem cells_fn (f : Fn) (a b : List AV) : (AV.fn f a b).cells = some [.fn f a b] := rfl
theorem load_ptr (h : List ARow) (agg : Bool) (m id gen e off : Nat) : aload h agg m (.ptr id gen e off) = (h[id]?).bind fun r => if r.gen = gen then (r.es[e]?).bind (acut agg m off) else none := rfl
theorem load_dptr (h : List ARow) (agg : Bool) (m : Nat) (cs : List AV) : aload h agg m (.dptr cs) = acut agg m 0 cs := rfl
theorem cut_leaf (m off : Nat) (g : List AV) : acut false m off g = g[off]? := rfl
theorem cut_agg (m off : Nat) (g : List AV) : acut true m off g = if off + m ≤ g.length then some (.agg ((g.drop off).take m)) else none := rfl
theorem faddr_ptr (off id gen e o : Nat) : afaddr off (.ptr id gen e o) = some (.ptr id gen e (o + off)) := rfl
theorem faddr_dptr (off : Nat) (cs : List AV) : afaddr off (.dptr cs) = some (.dptr (cs.drop off)) := rfl
theorem idx_own (h : List ARow) (kk id gen s l c : Nat) (k : IntKind) (i : Int) : aidx h kk (.own id gen s l c) (.int k i) = (h[id]?).bind fun r => if r.gen = gen ∧ r.k = kk then if 0 ≤ i ∧ i < l then some (.ptr id gen (s + i.toNat) 0) else none else none := rfl
theorem idx_data (h : List ARow) (kk : Nat) (b : Bool) (k : Nat) (es : List (List AV)) (f : Bool) (k' : IntKind) (i : Int) : aidx h kk (.data b k es f) (.int k' i) = if k = kk then if 0 ≤ i then (es[i.toNat]?).map .dptr else none else none := rfl
theorem idxarr_ptr (k n id gen e off : Nat) (k' : IntKind) (i : Int) : aidxarr k n (.ptr id gen e off) (.int k' i) = if 0 ≤ i ∧ i < n then some (.ptr id gen e (off + i.toNat * k)) else none := rfl
theorem idxarr_dptr (k n : Nat) (cs : List AV) (k' : IntKind) (i : Int) : aidxarr k n (.dptr cs) (.int k' i) = if 0 ≤ i ∧ i < n then some (.dptr (cs.drop (i.toNat * k))) else none := rfl
theorem enter_eq (args : List AV) : aenter args = (args.zipIdx.map fun p => (p.2, p.1)) := rfl
theorem groups_own (h : List ARow) (k id gen s l c : Nat) : agroups h k (.own id gen s l c) = (h[id]?).bind fun r => if r.gen = gen ∧ r.k = k ∧ s + l ≤ r.es.length then some ((r.es.drop s).take l, r.flat) else none := rfl
theorem groups_data (h : List ARow) (kk : Nat) (b : Bool) (k : Nat) (es : List (List AV)) (f : Bool) : agroups h kk (.data b k es f) = if k = kk then some (es, true) else none := rfl
theorem res_nil (st : ASt) : aresults [] st = some (.tup []) := rfl
theorem res_one (r : ARes) (st : ASt) : aresults [r] st = ares st.env st.h r := by
  simp only [aresults, List.mapM_cons, List.mapM_nil]
  cases ares st.env st.h r <;> rfl
theorem res_two (r s : ARes) (st : ASt) : aresults [r, s] st = (ares st.env st.h r).bind fun x => (ares st.env st.h s).bind fun y => some (.tup [x, y]) := by
  simp only [aresults, List.mapM_cons, List.mapM_nil]
  cases ares st.env st.h r with
  | none => rfl
  | some x => cases ares st.env st.h s <;> rfl
theorem res_slot (env : AEnv) (h : List ARow) (n : Nat) : ares env h (.slot n) = look env n := rfl
theorem res_cell (env : AEnv) (h : List ARow) (n : Nat) (agg : Bool) (m : Nat) : ares env h (.cell n agg m) = (look env n).bind (aload h agg m) := rfl
theorem wrap_in (n : Int) (h1 : -9223372036854775808 ≤ n) (h2 : n ≤ 9223372036854775807) : IntKind.i64.wrap n = n := Go.IntWalk.i64_in n ⟨h1, h2⟩
end Go.Proofs.Ytfnonledcniojaa
