/- The small machine's runs: calls, code, and what a function comes to. Conditions: none. -/
import Derived.Test.YtfnonledcniojaaAmA
namespace Go.Proofs.Ytfnonledcniojaa
open Go

mutual
def AV.ids : AV → List Nat
  | .own id _ _ _ _ | .ptr id _ _ _ => [id]
  | .agg cs | .tup cs => AV.idsL cs
  | .fn _ a b => AV.idsL a ++ AV.idsL b
  | _ => []
def AV.idsL : List AV → List Nat
  | [] => []
  | v :: vs => v.ids ++ AV.idsL vs
end

mutual
/-- Rows are numbered anew: those below 'low' stay; 'order' tells the others. -/
def AV.ren (h : List ARow) (low off : Nat) (order : List Nat) : AV → AV
  | .own id g s l c => if id < low then .own id g s l c else match h[id]?, order.idxOf? id with
    | some r, some j => if r.gen = g then .own (off + j) 0 s l c else .unk
    | _, _ => .unk
  | .ptr id g e o => if id < low then .ptr id g e o else match h[id]?, order.idxOf? id with
    | some r, some j => if r.gen = g then .ptr (off + j) 0 e o else .unk
    | _, _ => .unk
  | .agg cs => .agg (AV.renL h low off order cs)
  | .tup cs => .tup (AV.renL h low off order cs)
  | .fn f a b => .fn f (AV.renL h low off order a) (AV.renL h low off order b)
  | v => v
def AV.renL (h : List ARow) (low off : Nat) (order : List Nat) : List AV → List AV
  | [] => []
  | v :: vs => v.ren h low off order :: AV.renL h low off order vs
end
def ARow.ren (h : List ARow) (low off : Nat) (order : List Nat) (r : ARow) : ARow :=
  if r.flat then r else { r with es := r.es.map (AV.renL h low off order) }
def ARow.ids (r : ARow) : List Nat := if r.flat then [] else r.es.flatMap AV.idsL

def areach (h : List ARow) (low : Nat) : Nat → List Nat → List Nat → List Nat
  | 0, _, acc => acc
  | _ + 1, [], acc => acc
  | n + 1, i :: ws, acc => if i < low ∨ acc.contains i = true then areach h low n ws acc else
    match h[i]? with
    | some r => areach h low n (ws ++ r.ids) (acc ++ [i])
    | none => areach h low n ws acc

def akeep (live : List Nat) (env : AEnv) : AEnv := live.filterMap fun s => (look env s).map (s, ·)
def orderOk (h : List ARow) (low : Nat) (order : List Nat) : Bool := decide order.Nodup && order.all fun i => decide (low ≤ i) && decide (i < h.length)
def arows (h : List ARow) (low off : Nat) (order : List Nat) : List ARow := order.filterMap fun i => (h[i]?).map fun r => { r.ren h low off order with gen := 0 }

/-- At a loop's head: what nobody names any more is gone. -/
def agc (base : Nat) (live : List Nat) (st : ASt) : Option ASt :=
  let env := akeep live st.env
  let order := areach st.h base 64 (AV.idsL (env.map (·.2)) ++ (st.h.take base).flatMap ARow.ids) []
  if orderOk st.h base order then
    some ⟨env.map fun p => (p.1, p.2.ren st.h base base order), (st.h.take base).map (ARow.ren st.h base base order) ++ arows st.h base base order⟩
  else none

mutual
def aview (h : List ARow) : AV → Option AV
  | .own id g s l _ => (h[id]?).bind fun r => if r.gen = g ∧ r.flat = true ∧ s + l ≤ r.es.length then some (.data true r.k ((r.es.drop s).take l) false) else none
  | .ptr id g e o => (h[id]?).bind fun r => if r.gen = g ∧ r.flat = true then (r.es[e]?).map fun c => .dptr (c.drop o) else none
  | .agg cs => (aviewL h cs).map .agg
  | .tup cs => (aviewL h cs).map .tup
  | .fn f a b => if AV.stableL a && AV.stableL b then some (.fn f a b) else none
  | .unk => none
  | v => some v
def aviewL (h : List ARow) : List AV → Option (List AV)
  | [] => some []
  | v :: vs => (aview h v).bind fun x => (aviewL h vs).map (x :: ·)
end

mutual
def afreeze (h : List ARow) : AV → Option AV
  | .own id g s l _ => (h[id]?).bind fun r => if r.gen = g ∧ r.flat = true ∧ s + l ≤ r.es.length then some (.data false r.k ((r.es.drop s).take l) false) else none
  | .data false k es _ => some (.data false k es false)
  | .agg cs => (afreezeL h cs).map .agg
  | .tup cs => (afreezeL h cs).map .tup
  | .int k n => some (.int k n)
  | .bool b => some (.bool b)
  | .str s => some (.str s)
  | .nilfn => some .nilfn
  | .nilptr => some .nilptr
  | .fn f a b => if AV.stableL a && AV.stableL b then some (.fn f a b) else none
  | _ => none
def afreezeL (h : List ARow) : List AV → Option (List AV)
  | [] => some []
  | v :: vs => (afreeze h v).bind fun x => (afreezeL h vs).map (x :: ·)
end

mutual
/-- Nothing that was lent for a call. -/
def AV.clean : AV → Bool
  | .data bor _ _ _ => !bor
  | .dptr _ => false
  | .agg cs | .tup cs => AV.cleanL cs
  | .fn _ a b => AV.cleanL a && AV.cleanL b
  | _ => true
def AV.cleanL : List AV → Bool
  | [] => true
  | v :: vs => v.clean && AV.cleanL vs
end

def aadopt (h h' : List ARow) (r : AV) : Option (AV × List ARow) :=
  let order := areach h' 0 64 r.ids []
  if orderOk h' 0 order && r.clean && order.all (fun i => match h'[i]? with | some r => r.flat || r.es.all AV.cleanL | none => false) then
    some (r.ren h' 0 h.length order, h ++ arows h' 0 h.length order)
  else none

abbrev ARaw := Nat → List AV → List ARow → Option (AV × List ARow)

def acall (raw : ARaw) (md : AMd) (f : Nat) (args : List AV) (h : List ARow) : Option (AV × List ARow) :=
  match md with
  | .frz => (aviewL h args).bind fun as => (raw f as []).bind fun r => (afreeze r.2 r.1).map (·, h)
  | .adp => (aviewL h args).bind fun as => (raw f as []).bind fun r => aadopt h r.2 r.1
  | .inl => raw f args h

def aput (env : AEnv) : Option Nat → AV → AEnv
  | some d, v => (d, v) :: env
  | none, _ => env

section run
variable (G : Nat → Option (List AV))

def aexecOp (raw : ARaw) (env : AEnv) (h : List ARow) : AOp → Option (AV × List ARow)
  | .call md f args => (args.mapM (aeval G env)).bind fun as => acall raw md f as h
  | .callv x args => (aeval G env x).bind fun
    | .fn (.func f) a b => (args.mapM (aeval G env)).bind fun as => raw f (a ++ as ++ b) h
    | _ => none
  | op => aop G env h op

def astep (raw : ARaw) (o : AOper) (st : ASt) : Option ASt :=
  match o.guard with
  | none => (aexecOp G raw st.env st.h o.op).map fun r => ⟨aput st.env o.dst r.1, r.2⟩
  | some (s, want) => (look st.env s).bind fun
    | .bool b => if b = want then (aexecOp G raw st.env st.h o.op).map fun r => ⟨aput st.env o.dst r.1, r.2⟩ else some ⟨aput st.env o.dst (.tup []), st.h⟩
    | .tup [] => some ⟨aput st.env o.dst (.tup []), st.h⟩
    | _ => none

def aops (raw : ARaw) : List AOper → ASt → Option ASt
  | [], st => some st
  | o :: os, st => (astep G raw o st).bind (aops raw os)

def ares (env : AEnv) (h : List ARow) : ARes → Option AV
  | .slot n => look env n
  | .cell n agg m => (look env n).bind (aload h agg m)
def aresults (res : List ARes) (st : ASt) : Option AV :=
  (res.mapM (ares st.env st.h)).map fun
    | [v] => v
    | vs => .tup vs

def aenter (args : List AV) : AEnv := args.zipIdx.map fun p => (p.2, p.1)

inductive AEnt where
  | fn (f : AFn)
  | ext (F : List AV → List ARow → Option (AV × List ARow))

/-- A function's run, given how its body is run. -/
def arunFn (run : Nat → ACode → ASt → Option (AEx × ASt)) (F : Nat → Option AEnt) : ARaw := fun f args h =>
  (F f).bind fun
  | .ext E => E args h
  | .fn fn => (run h.length fn.body ⟨aenter args, h⟩).bind fun r => match r.1 with
    | .exit _ => none
    | _ => (aresults fn.res r.2).map (·, r.2.h)

variable (F : Nat → Option AEnt)

def aexec : Nat → Nat → ACode → ASt → Option (AEx × ASt)
  | 0, _, _, _ => none
  | n + 1, base, c, st =>
    match c with
    | .skip => some (.normal, st)
    | .region ops _ live => (aops G (arunFn (aexec n) F) ops st).map fun st' => (.normal, ⟨akeep live st'.env, st'.h⟩)
    | .seq a b => (aexec n base a st).bind fun r => match r.1 with
      | .normal => aexec n base b r.2
      | _ => some r
    | .cond c a b => (aeval G st.env c).bind fun
      | .bool t => aexec n base (if t then a else b) st
      | _ => none
    | .block id b => (aexec n base b st).map fun r => (if r.1 = .exit id then .normal else r.1, r.2)
    | .loop live b => (agc base live st).bind fun st => (aexec n base b st).bind fun r => match r.1 with
      | .normal => aexec n base (.loop live b) r.2
      | _ => some r
    | .exit id => some (.exit id, st)
    | .ret => some (.ret, st)
    | .dead => none
end run
end Go.Proofs.Ytfnonledcniojaa
