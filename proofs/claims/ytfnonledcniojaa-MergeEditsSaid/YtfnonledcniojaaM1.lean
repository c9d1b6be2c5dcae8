/- The small machine, part 1 of 3: its values, operations and runs, and that they stand for the program's. Conditions: none. -/
import Derived.WalkKit
import Derived.Orders
import Derived.Deep.MidRow
import Derived.Below
import Derived.Laws.AppendOwn
import Derived.Laws.StructEq
import Derived.Laws.BytesString
import Derived.Laws.Slices
set_option linter.unusedVariables false
set_option linter.unusedSimpArgs false
set_option linter.unusedSectionVars false
/- A small machine over values that hang on no addresses: its values, its rows, its operations. Conditions: none. -/
namespace Go.Proofs.Ytfnonledcniojaa
open Go

/-- The machine's values. 'data': a slice that is only read (bor: for the time of a call); 'own': a slice of a row of the call's own; 'dptr', 'ptr': addresses. -/
inductive AV where
  | int (k : IntKind) (n : Int)
  | bool (b : Bool)
  | str (s : ByteArray)
  | agg (cs : List AV)
  | tup (cs : List AV)
  | data (bor : Bool) (k : Nat) (es : List (List AV)) (full : Bool)
  | dptr (cs : List AV)
  | own (id gen start len cap : Nat)
  | ptr (id gen e off : Nat)
  | fn (f : Fn) (first caps : List AV)
  | nilfn
  | nilptr
  | unk
  deriving Inhabited

structure ARow where
  k : Nat
  gen : Nat
  flat : Bool
  es : List (List AV)

mutual
/-- May it outlive the call? -/
def AV.stable : AV → Bool
  | .int _ _ | .bool _ | .str _ | .nilfn | .nilptr => true
  | .data bor _ _ _ => !bor
  | .agg cs | .tup cs => AV.stableL cs
  | .fn _ a b => AV.stableL a && AV.stableL b
  | .dptr _ | .own .. | .ptr .. | .unk => false
def AV.stableL : List AV → Bool
  | [] => true
  | v :: vs => v.stable && AV.stableL vs
end

abbrev AEnv := List (Nat × AV)
def look : AEnv → Nat → Option AV
  | [], _ => none
  | (k, v) :: r, n => if k = n then some v else look r n

inductive AOpd where
  | slot (n : Nat)
  | const (v : AV)
  | glob (g : Nat)
  | func (f : Nat)

/-- The kinds of cells that '==' takes. -/
inductive Sh where
  | kb | ki | ks
  deriving DecidableEq

inductive NilK where
  | kf | kp | ks
  deriving DecidableEq

inductive AMd where
  | frz | adp | inl | iso | pk

inductive AOp where
  | mov (x : AOpd)
  | mknil (k : Nat)
  | pick (c a b : AOpd)
  | alloc (zero : List AV)
  | box (m : Nat) (x : AOpd)
  | build (zero : List AV) (parts : List (Nat × Nat × AOpd))
  | mkslice (k n : Nat) (zero : List AV) (parts : List (Nat × AOpd))
  | mkdata (k n : Nat) (zero : List AV) (parts : List (Nat × AOpd))
  | load (agg : Bool) (m : Nat) (x : AOpd)
  | store (agg : Bool) (m : Nat) (p x : AOpd)
  | nilchk (x : AOpd)
  | bin (op : BinOp) (x y : AOpd)
  | eq (agg : Bool) (sh : List Sh) (neg : Bool) (x y : AOpd)
  | isnil (k : NilK) (neg : Bool) (x : AOpd)
  | not (x : AOpd)
  | neg (x : AOpd)
  | conv (k : IntKind) (x : AOpd)
  | rstr (x : AOpd)
  | bstr (x : AOpd)
  | strb (x : AOpd)
  | mark (x : AOpd)
  | melt (x : AOpd)
  | idxd (k : Nat) (x i : AOpd)
  | loadd (agg : Bool) (m : Nat) (x : AOpd)
  | cvs (x : AOpd)
  | mkfn (f : Fn) (first caps : List AOpd)
  | mkrow (k bytes : Nat) (zero : List AV) (l c : AOpd)
  | sl (k : Nat) (x : AOpd) (lo hi mx : Option AOpd)
  | slstr (x : AOpd) (lo hi : Option AOpd)
  | faddr (off : Nat) (x : AOpd)
  | field (agg : Bool) (m off : Nat) (x : AOpd)
  | idx (k : Nat) (x i : AOpd)
  | idxarr (k n : Nat) (x i : AOpd)
  | idxv (agg : Bool) (m n : Nat) (x i : AOpd)
  | idxs (x i : AOpd)
  | extract (i : Nat) (x : AOpd)
  | len (isStr : Bool) (x : AOpd)
  | lenarr (n : Nat)
  | append (k bytes : Nat) (x y : AOpd)
  | appendD (k bytes : Nat) (x y : AOpd)
  | copy (k : Nat) (x y : AOpd)
  | clear (zero : List AV) (x : AOpd)
  | max (x y : AOpd)
  | min (x y : AOpd)
  | call (md : AMd) (f : Nat) (args : List AOpd)
  | callv (x : AOpd) (args : List AOpd)

/-- Makes a row of what it is handed alone. -/
def AOp.early : AOp → Bool
  | .mkslice .. | .alloc _ => true
  | _ => false
structure AOper where
  dst : Option Nat
  guard : Option (Nat × Bool)
  op : AOp

inductive ACode where
  | skip
  | region (ops : List AOper) (draw : Bool) (live : List Nat)
  | regionQ (ops : List AOper) (pm : List Nat) (qs : List (Nat × List Nat)) (live : List Nat)
  | seq (a b : ACode)
  | cond (c : AOpd) (thn els : ACode)
  | block (id : Nat) (body : ACode)
  | loop (live : List Nat) (body : ACode)
  | exit (id : Nat)
  | ret
  | dead

inductive ARes where
  | slot (n : Nat)
  | cell (n : Nat) (agg : Bool) (m : Nat)

structure AFn where
  body : ACode
  res : List ARes

structure ASt where
  env : AEnv
  h : List ARow

inductive AEx where
  | normal
  | exit (id : Nat)
  | ret
  deriving DecidableEq

section ops
variable (G : Nat → Option (List AV))

def aeval (env : AEnv) : AOpd → Option AV
  | .slot n => look env n
  | .const v => some v
  | .glob g => (G g).map .dptr
  | .func f => some (.fn (.func f) [] [])

def acut (agg : Bool) (m off : Nat) (g : List AV) : Option AV :=
  if agg then (if off + m ≤ g.length then some (.agg ((g.drop off).take m)) else none) else g[off]?

def AV.cells : AV → Option (List AV)
  | .agg cs => some cs
  | .tup _ | .unk => none
  | v => some [v]

def aload (h : List ARow) (agg : Bool) (m : Nat) : AV → Option AV
  | .ptr id gen e off => (h[id]?).bind fun r => if r.gen = gen then (r.es[e]?).bind (acut agg m off) else none
  | .dptr cs => acut agg m 0 cs
  | _ => none

def patch (off : Nat) (cs g : List AV) : List AV := g.take off ++ cs ++ g.drop (off + cs.length)

def ARow.put (r : ARow) (e : Nat) (g : List AV) (st : Bool) : ARow := { r with es := r.es.set e g, flat := r.flat && st }

def astore (h : List ARow) (agg : Bool) (m : Nat) (p v : AV) : Option (List ARow) :=
  match p with
  | .ptr id gen e off => (h[id]?).bind fun r => if r.gen = gen then (r.es[e]?).bind fun g =>
      if agg then
        match v with
        | .agg cs => if cs.length = m ∧ off + m ≤ g.length then some (h.set id (r.put e (patch off cs g) (AV.stableL cs))) else none
        | _ => none
      else
        match v with
        | .agg _ | .tup _ | .unk => none
        | v => if off < g.length then some (h.set id (r.put e (g.set off v) v.stable)) else none
    else none
  | _ => none

def asum (k : IntKind) (n : Int) : AV := .int k (k.wrap n)

def abin : BinOp → AV → AV → Option AV
  | .add, .str a, .str b => if ((a.size + b.size : Nat) : Int) > IntKind.i64.max then none else some (.str (a ++ b))
  | .shl, .int k a, .int _ b => if b < 0 then none else some (.int k (k.wrap (a * 2 ^ min b.toNat k.bits)))
  | .shr, .int k a, .int _ b => if b < 0 then none else some (.int k (a.fdiv (2 ^ min b.toNat k.bits)))
  | op, .int k a, .int k' b =>
    if k = k' then
      match op with
      | .add => some (asum k (a + b))
      | .sub => some (asum k (a - b))
      | .mul => some (asum k (a * b))
      | .quo => if b = 0 then none else some (asum k (a.tdiv b))
      | .rem => if b = 0 then none else some (.int k (a.tmod b))
      | .and => some (asum k ((BitVec.ofInt k.bits a &&& BitVec.ofInt k.bits b).toNat))
      | .or => some (asum k ((BitVec.ofInt k.bits a ||| BitVec.ofInt k.bits b).toNat))
      | .andNot => some (asum k ((BitVec.ofInt k.bits a &&& ~~~(BitVec.ofInt k.bits b)).toNat))
      | .eql => some (.bool (a == b))
      | .neq => some (.bool (a != b))
      | .lss => some (.bool (decide (a < b)))
      | .leq => some (.bool (decide (a ≤ b)))
      | .gtr => some (.bool (decide (a > b)))
      | .geq => some (.bool (decide (a ≥ b)))
      | _ => none
    else none
  | _, _, _ => none

def eqLeaf : Sh → AV → AV → Option Bool
  | .ki, .int k a, .int k' b => if k = k' then some (a == b) else none
  | .kb, .bool a, .bool b => some (a == b)
  | .ks, .str a, .str b => some (a == b)
  | _, _, _ => none
def eqCells : List Sh → List AV → List AV → Option Bool
  | [], [], [] => some true
  | s :: ss, a :: as, b :: bs => (eqLeaf s a b).bind fun x => (eqCells ss as bs).bind fun y => some (x && y)
  | _, _, _ => none
def aeq : Bool → List Sh → AV → AV → Option Bool
  | true, sh, .agg as, .agg bs => eqCells sh as bs
  | false, [s], a, b => eqLeaf s a b
  | _, _, _, _ => none
def aisnil : NilK → AV → Option Bool
  | .kf, .nilfn => some true
  | .kp, .nilptr => some true
  | .kf, .fn .. => some false
  | .kp, .ptr .. => some false
  | .kp, .dptr _ => some false
  | .ks, .own _ _ _ l _ => if 0 < l then some false else none
  | .ks, .data _ _ es _ => match es with
    | [] => none
    | _ :: _ => some false
  | _, _ => none

def bytesAV (s : ByteArray) : List (List AV) := s.data.toList.map fun b => [.int .u8 (b.toNat : Int)]
/-- A cell of a list that was lent. -/
def AV.tob (b : Bool) (v : AV) : AV := match v with
  | .data c k es f => .data (b || c) k es f
  | .int k n => .int k n
  | .bool x => .bool x
  | .str s => .str s
  | .nilfn => .nilfn
  | .nilptr => .nilptr
  | v => if b then .unk else v
def tobL (b : Bool) (g : List AV) : List AV := g.map (AV.tob b)
def dptrB (b : Bool) (g : List AV) : AV := .dptr (tobL b g)
/-- Cells that name no memory. -/
def AV.plain : AV → Bool
  | .int _ _ | .bool _ | .str _ | .nilfn | .nilptr => true
  | _ => false
def plainLL (es : List (List AV)) : Bool := es.all fun g => g.all AV.plain
/-- The elements that a slice holds. -/
def agroups (h : List ARow) (k : Nat) : AV → Option (List (List AV) × Bool)
  | .own id gen s l _ => (h[id]?).bind fun r => if r.gen = gen ∧ r.k = k ∧ s + l ≤ r.es.length then some ((r.es.drop s).take l, r.flat) else none
  | .data bor k' es _ => if k' = k then (if (!bor || plainLL es) = true then some (es, true) else none) else none
  | _ => none

def asBytes : List (List AV) → Option (List UInt8)
  | [] => some []
  | [.int .u8 n] :: es => (asBytes es).map (UInt8.ofNat n.toNat :: ·)
  | _ => none
def aboundsOk (n bytes : Nat) : Bool := decide (n * bytes ≤ 140737488355328)

def aappend (h : List ARow) (k bytes : Nat) (x y : AV) : Option (AV × List ARow) :=
  (agroups h k y).bind fun ys =>
  match x with
  | .own id gen s l c => (h[id]?).bind fun r =>
      if l < c ∧ l + ys.1.length ≤ c then (if r.gen = gen ∧ r.k = k ∧ s + (l + ys.1.length) ≤ r.es.length then
        some (.own id gen s (l + ys.1.length) c, h.set id ⟨k, gen, r.flat && ys.2, r.es.take (s + l) ++ ys.1 ++ r.es.drop (s + l + ys.1.length)⟩) else none)
      else if r.gen = gen ∧ r.k = k ∧ s + l ≤ r.es.length ∧ aboundsOk (l + ys.1.length) bytes = true then
        some (.own id (gen + 1) 0 (l + ys.1.length) (l + ys.1.length), h.set id ⟨k, gen + 1, r.flat && ys.2, (r.es.drop s).take l ++ ys.1⟩) else none
  | .data bo k' es true =>
    match es with
    | [] => if aboundsOk ys.1.length bytes = true then some (.own h.length 0 0 ys.1.length ys.1.length, h ++ [⟨k, 0, ys.2, ys.1⟩]) else none
    | e :: es => match ys.1 with
      | [] => some (x, h)
      | _ => if k' = k ∧ aboundsOk (es.length + 1 + ys.1.length) bytes = true ∧ (!bo || plainLL (e :: es)) = true then some (.own h.length 0 0 (es.length + 1 + ys.1.length) (es.length + 1 + ys.1.length), h ++ [⟨k, 0, ys.2, e :: es ++ ys.1⟩]) else none
  | _ => none

/-- An append whose answer is only read. -/
def aappendD (h : List ARow) (k bytes : Nat) (x y : AV) : Option AV :=
  (agroups h k y).bind fun ys =>
  match x with
  | .data false k' es true => if (es.isEmpty || k' == k) = true ∧ ys.2 = true ∧ aboundsOk (es.length + ys.1.length) bytes = true then some (.data false k (es ++ ys.1) false) else none
  | _ => none

def acopy (h : List ARow) (k : Nat) (x y : AV) : Option (AV × List ARow) :=
  (agroups h k y).bind fun ys =>
  match x with
  | .own id gen s l _ => (h[id]?).bind fun r => if r.gen = gen ∧ r.k = k ∧ s + l ≤ r.es.length then
      some (.int .i64 (min ys.1.length l : Nat), h.set id ⟨r.k, r.gen, r.flat && ys.2, r.es.take s ++ ys.1.take (min ys.1.length l) ++ r.es.drop (s + min ys.1.length l)⟩) else none
  | _ => none

def abound (b : Nat) : Option AV → Option Nat
  | none => some b
  | some (.int _ i) => if 0 ≤ i then some i.toNat else none
  | _ => none

def aslice (h : List ARow) (k : Nat) (x : AV) (lo hi mx : Option AV) : Option AV :=
  match x with
  | .own id gen s l c => (abound 0 lo).bind fun a => (abound l hi).bind fun b => (abound c mx).bind fun m =>
      (h[id]?).bind fun r => if r.gen = gen ∧ r.k = k then if a ≤ b ∧ b ≤ m ∧ m ≤ c then some (.own id gen (s + a) (b - a) (m - a)) else none else none
  | .data bor k' es full => (abound 0 lo).bind fun a => (abound es.length hi).bind fun b => (abound es.length mx).bind fun m =>
      if k' = k then if a ≤ b ∧ b ≤ m ∧ m ≤ es.length then some (.data bor k ((es.take b).drop a) (match mx with | some _ => decide (m = b) | none => full && decide (b = es.length))) else none else none
  | _ => none

def aslstr (x : AV) (lo hi : Option AV) : Option AV :=
  match x with
  | .str s => (abound 0 lo).bind fun a => (abound s.size hi).bind fun b => if a ≤ b ∧ b ≤ s.size then some (.str (s.extract a b)) else none
  | _ => none

def aidx (h : List ARow) (k : Nat) : AV → AV → Option AV
  | .own id gen s l _, .int _ i => (h[id]?).bind fun r => if r.gen = gen ∧ r.k = k then if 0 ≤ i ∧ i < l then some (.ptr id gen (s + i.toNat) 0) else none else none
  | .data b k' es _, .int _ i => if k' = k then if 0 ≤ i then (es[i.toNat]?).map (dptrB b) else none else none
  | _, _ => none

def aidxarr (k n : Nat) : AV → AV → Option AV
  | .ptr id gen e off, .int _ i => if 0 ≤ i ∧ i < n then some (.ptr id gen e (off + i.toNat * k)) else none
  | .dptr cs, .int _ i => if 0 ≤ i ∧ i < n then some (.dptr (cs.drop (i.toNat * k))) else none
  | _, _ => none

def aidxv (agg : Bool) (m n : Nat) : AV → AV → Option AV
  | .agg cs, .int _ i => if 0 ≤ i ∧ i < n then acut agg m (i.toNat * m) cs else none
  | _, _ => none

def aidxs : AV → AV → Option AV
  | .str s, .int _ i => if 0 ≤ i then (s.data.toList[i.toNat]?).map fun b => .int .u8 (b.toNat : Int) else none
  | _, _ => none

def afaddr (off : Nat) : AV → Option AV
  | .ptr id gen e o => some (.ptr id gen e (o + off))
  | .dptr cs => some (.dptr (cs.drop off))
  | _ => none

def abuild (zero : List AV) : List (Nat × Nat × AV) → Option (List AV)
  | [] => some zero
  | (off, m, v) :: ps => v.cells.bind fun cs => if cs.length = m ∧ off + m ≤ zero.length then abuild (patch off cs zero) ps else none
def afill (k : Nat) (es : List (List AV)) : List (Nat × AV) → Option (List (List AV))
  | [] => some es
  | (i, v) :: ps => v.cells.bind fun cs => if cs.length = k ∧ i < es.length then afill k (es.set i cs) ps else none

def stableLL (es : List (List AV)) : Bool := es.all AV.stableL

def alen : Bool → AV → Option AV
  | false, .own _ _ _ l _ => some (.int .i64 l)
  | false, .data _ _ es _ => some (.int .i64 es.length)
  | true, .str s => some (.int .i64 s.size)
  | _, _ => none

def aints (f : Int → Int → Bool) : AV → AV → Option AV
  | .int k a, .int k' b => if k = k' then some (.int k (if f b a then b else a)) else none
  | _, _ => none

def anostr : AV → Option AV
  | .str _ => none
  | v => some v
/-- An operand that may be left out. -/
def aopt (env : AEnv) : Option AOpd → Option (Option AV)
  | none => some none
  | some o => (aeval G env o).bind fun v => some (some v)
/-- What a slice of the call's own holds, told outright; and the rows that hold it. -/
def dvL (f : AV → Option (AV × List Nat)) : List AV → Option (List AV × List Nat)
  | [] => some ([], [])
  | v :: vs => (f v).bind fun p => (dvL f vs).bind fun q => some (p.1 :: q.1, p.2 ++ q.2)
def dvLL (f : AV → Option (AV × List Nat)) : List (List AV) → Option (List (List AV) × List Nat)
  | [] => some ([], [])
  | g :: gs => (dvL f g).bind fun p => (dvLL f gs).bind fun q => some (p.1 :: q.1, p.2 ++ q.2)
def dv (h : List ARow) : Nat → AV → Option (AV × List Nat)
  | 0, _ => none
  | n + 1, .own id g s l _ => (h[id]?).bind fun r => if r.gen = g ∧ s + l ≤ r.es.length then
      (if r.flat = true then some (.data false r.k ((r.es.drop s).take l) false, [id]) else (dvLL (dv h n) ((r.es.drop s).take l)).map fun p => (.data false r.k p.1 false, id :: p.2)) else none
  | n + 1, .agg cs => (dvL (dv h n) cs).map fun p => (.agg p.1, p.2)
  | _ + 1, v => if v.stable = true then some (v, []) else none
/-- Rows that nobody may use any more. -/
def retire : List Nat → List ARow → List ARow
  | [], h => h
  | i :: is, h => (h[i]?).elim (retire is h) fun r => retire is (h.set i ⟨r.k, r.gen + 1, true, []⟩)
/-- A value of the call's own becomes one that is only read. -/
def amelt (h : List ARow) (v : AV) : Option (AV × List ARow) := (dv h 8 v).map fun p => (p.1, retire p.2 h)
def aidxd (k : Nat) : AV → AV → Option AV
  | .data b k' es _, .int _ i => if k' = k then if 0 ≤ i then (es[i.toNat]?).map (dptrB b) else none else none
  | _, _ => none
def aloadd (agg : Bool) (m : Nat) : AV → Option AV
  | .dptr cs => acut agg m 0 cs
  | _ => none
/-- The operations but for the calls. -/
def aop (env : AEnv) (h : List ARow) : AOp → Option (AV × List ARow)
  | .mov x => (aeval G env x).map (·, h)
  | .mknil k => some (.own h.length 0 0 0 0, h ++ [⟨k, 0, true, []⟩])
  | .pick c a b => (aeval G env c).bind fun
    | .bool c => (aeval G env (if c then a else b)).map (·, h)
    | _ => none
  | .alloc zero => some (.ptr h.length 0 0 0, h ++ [⟨zero.length, 0, AV.stableL zero, [zero]⟩])
  | .box m x => (aeval G env x).bind fun v => v.cells.bind fun cs => if cs.length = m then some (.ptr h.length 0 0 0, h ++ [⟨m, 0, AV.stableL cs, [cs]⟩]) else none
  | .build zero parts => (parts.mapM fun (p : Nat × Nat × AOpd) => (aeval G env p.2.2).map fun v => (p.1, p.2.1, v)).bind fun ps => (abuild zero ps).map fun cs => (.agg cs, h)
  | .mkslice k n zero parts => (parts.mapM fun (p : Nat × AOpd) => (aeval G env p.2).map fun v => (p.1, v)).bind fun ps =>
      (afill k (List.replicate n zero) ps).map fun es => (.own h.length 0 0 n n, h ++ [⟨k, 0, stableLL es, es⟩])
  | .mkdata k n zero parts => (parts.mapM fun (p : Nat × AOpd) => (aeval G env p.2).map fun v => (p.1, v)).bind fun ps =>
      (afill k (List.replicate n zero) ps).bind fun es => if stableLL es then some (.data false k es true, h) else none
  | .load agg m x => (aeval G env x).bind fun p => (aload h agg m p).map (·, h)
  | .store agg m p x => (aeval G env p).bind fun p => (aeval G env x).bind fun v => (astore h agg m p v).map (.tup [], ·)
  | .nilchk x => (aeval G env x).bind fun
    | .ptr id gen e off => some (.ptr id gen e off, h)
    | .dptr cs => some (.dptr cs, h)
    | .fn (.func f) a b => some (.fn (.func f) a b, h)
    | _ => none
  | .bin op x y => (aeval G env x).bind fun x => (aeval G env y).bind fun y => (abin op x y).map (·, h)
  | .eq agg sh neg x y => (aeval G env x).bind fun x => (aeval G env y).bind fun y => (aeq agg sh x y).map fun b => (.bool (b != neg), h)
  | .isnil k neg x => (aeval G env x).bind fun x => (aisnil k x).map fun b => (.bool (b != neg), h)
  | .not x => (aeval G env x).bind fun
    | .bool b => some (.bool (!b), h)
    | _ => none
  | .neg x => (aeval G env x).bind fun
    | .int k n => some (asum k (0 - n), h)
    | _ => none
  | .conv k x => (aeval G env x).bind fun
    | .int _ n => some (asum k n, h)
    | _ => none
  | .rstr x => (aeval G env x).bind fun
    | .int _ n => some (.str (Utf8.encode n), h)
    | _ => none
  | .bstr x => ((aeval G env x).bind anostr).bind fun v => (agroups h 1 v).bind fun es =>
      (asBytes es.1).map fun bs => (.str ⟨bs.toArray⟩, h)
  | .strb x => (aeval G env x).bind fun
    | .str s => some (.own h.length 0 0 s.size s.size, h ++ [⟨1, 0, true, bytesAV s⟩])
    | _ => none
  | .melt x => (aeval G env x).bind (amelt h)
  | .idxd k x i => (aeval G env x).bind fun x => (aeval G env i).bind fun i => (aidxd k x i).map (·, h)
  | .loadd agg m x => (aeval G env x).bind fun p => (aloadd agg m p).map (·, h)
  | .mark x => (aeval G env x).bind fun
    | .own id g s l c => (h[id]?).bind fun r => if r.gen = g ∧ 0 < l ∧ r.k = 1 then some (.own id g s l c, h) else none
    | _ => none
  | .cvs x => (aeval G env x).bind fun
    | .str s => some (.str s, h)
    | _ => none
  | .mkfn f first caps => (first.mapM (aeval G env)).bind fun a => (caps.mapM (aeval G env)).map fun b => (.fn f a b, h)
  | .mkrow k bytes zero l c => (aeval G env l).bind fun l => (aeval G env c).bind fun c =>
      match l, c with
      | .int .i64 l, .int .i64 c => if 0 ≤ l ∧ c = l ∧ aboundsOk l.toNat bytes = true ∧ zero.length = k then
          some (.own h.length 0 0 l.toNat l.toNat, h ++ [⟨k, 0, AV.stableL zero, List.replicate l.toNat zero⟩]) else none
      | _, _ => none
  | .sl k x lo hi mx => (aeval G env x).bind fun x => (aopt G env lo).bind fun lo =>
      (aopt G env hi).bind fun hi => (aopt G env mx).bind fun mx => (aslice h k x lo hi mx).map (·, h)
  | .slstr x lo hi => (aeval G env x).bind fun x => (aopt G env lo).bind fun lo =>
      (aopt G env hi).bind fun hi => (aslstr x lo hi).map (·, h)
  | .faddr off x => (aeval G env x).bind fun p => (afaddr off p).map (·, h)
  | .field agg m off x => (aeval G env x).bind fun
    | .agg cs => (acut agg m off cs).map (·, h)
    | _ => none
  | .idx k x i => (aeval G env x).bind fun x => (aeval G env i).bind fun i => (aidx h k x i).map (·, h)
  | .idxarr k n x i => (aeval G env x).bind fun x => (aeval G env i).bind fun i => (aidxarr k n x i).map (·, h)
  | .idxv agg m n x i => (aeval G env x).bind fun x => (aeval G env i).bind fun i => (aidxv agg m n x i).map (·, h)
  | .idxs x i => (aeval G env x).bind fun x => (aeval G env i).bind fun i => (aidxs x i).map (·, h)
  | .extract i x => (aeval G env x).bind fun
    | .tup vs => (vs[i]?).map (·, h)
    | _ => none
  | .len b x => (aeval G env x).bind fun x => (alen b x).map (·, h)
  | .lenarr n => some (.int .i64 n, h)
  | .append k bytes x y => (aeval G env x).bind fun x => (aeval G env y).bind fun y => aappend h k bytes x y
  | .appendD k bytes x y => (aeval G env x).bind fun x => (aeval G env y).bind fun y => (aappendD h k bytes x y).map (·, h)
  | .copy k x y => (aeval G env x).bind fun x => (aeval G env y).bind fun y => acopy h k x y
  | .clear zero x => (aeval G env x).bind fun
    | .own id gen s l _ => (h[id]?).bind fun r => if r.gen = gen ∧ r.k = zero.length ∧ s + l ≤ r.es.length then
        some (.tup [], h.set id ⟨r.k, r.gen, r.flat && AV.stableL zero, r.es.take s ++ List.replicate l zero ++ r.es.drop (s + l)⟩) else none
    | _ => none
  | .max x y => (aeval G env x).bind fun x => (aeval G env y).bind fun y => (aints (fun b a => decide (b > a)) x y).map (·, h)
  | .min x y => (aeval G env x).bind fun x => (aeval G env y).bind fun y => (aints (fun b a => decide (b < a)) x y).map (·, h)
  | .call .. | .callv .. => none
end ops
end Go.Proofs.Ytfnonledcniojaa
/- The small machine's runs: calls, code, and what a function comes to. Conditions: none. -/
namespace Go.Proofs.Ytfnonledcniojaa
open Go

mutual
def AV.ids : AV → List Nat
  | .own id _ _ _ _ | .ptr id _ _ _ => [id]
  | .agg cs | .tup cs => AV.idsL cs
  | .fn _ a b => AV.idsL a ++ AV.idsL b
  | _ => []
def AV.idsL : List AV → List Nat
  | [] => []
  | v :: vs => v.ids ++ AV.idsL vs
end

mutual
/-- Rows are numbered anew: those below 'low' stay; 'order' tells the others. -/
def AV.ren (h : List ARow) (low off : Nat) (order : List Nat) : AV → AV
  | .own id g s l c => if id < low then .own id g s l c else match h[id]?, order.idxOf? id with
    | some r, some j => if r.gen = g then .own (off + j) 0 s l c else .unk
    | _, _ => .unk
  | .ptr id g e o => if id < low then .ptr id g e o else match h[id]?, order.idxOf? id with
    | some r, some j => if r.gen = g then .ptr (off + j) 0 e o else .unk
    | _, _ => .unk
  | .agg cs => .agg (AV.renL h low off order cs)
  | .tup cs => .tup (AV.renL h low off order cs)
  | .fn f a b => .fn f (AV.renL h low off order a) (AV.renL h low off order b)
  | v => v
def AV.renL (h : List ARow) (low off : Nat) (order : List Nat) : List AV → List AV
  | [] => []
  | v :: vs => v.ren h low off order :: AV.renL h low off order vs
end
def ARow.ren (h : List ARow) (low off : Nat) (order : List Nat) (r : ARow) : ARow :=
  if r.flat then r else { r with es := r.es.map (AV.renL h low off order) }
def ARow.ids (r : ARow) : List Nat := if r.flat then [] else r.es.flatMap AV.idsL

def areach (h : List ARow) (low : Nat) : Nat → List Nat → List Nat → List Nat
  | 0, _, acc => acc
  | _ + 1, [], acc => acc
  | n + 1, i :: ws, acc => if i < low ∨ acc.contains i = true then areach h low n ws acc else
    match h[i]? with
    | some r => areach h low n (ws ++ r.ids) (acc ++ [i])
    | none => areach h low n ws acc

def akeep (live : List Nat) (env : AEnv) : AEnv := live.filterMap fun s => (look env s).map (s, ·)
def orderOk (h : List ARow) (low : Nat) (order : List Nat) : Bool := decide order.Nodup && order.all fun i => decide (low ≤ i) && decide (i < h.length)
def arows (h : List ARow) (low off : Nat) (order : List Nat) : List ARow := order.filterMap fun i => (h[i]?).map fun r => { r.ren h low off order with gen := 0 }

/-- At a loop's head: what nobody names any more is gone. -/
def agc (base : Nat) (live : List Nat) (st : ASt) : Option ASt :=
  let env := akeep live st.env
  let order := areach st.h base 64 (AV.idsL (env.map (·.2)) ++ (st.h.take base).flatMap ARow.ids) []
  if orderOk st.h base order then
    some ⟨env.map fun p => (p.1, p.2.ren st.h base base order), (st.h.take base).map (ARow.ren st.h base base order) ++ arows st.h base base order⟩
  else none

mutual
def aview (h : List ARow) : AV → Option AV
  | .own id g s l _ => (h[id]?).bind fun r => if r.gen = g ∧ r.flat = true ∧ s + l ≤ r.es.length then some (.data true r.k ((r.es.drop s).take l) false) else none
  | .ptr id g e o => (h[id]?).bind fun r => if r.gen = g ∧ r.flat = true then (r.es[e]?).map fun c => .dptr (c.drop o) else none
  | .agg cs => (aviewL h cs).map .agg
  | .tup cs => (aviewL h cs).map .tup
  | .fn f a b => if AV.stableL a && AV.stableL b then some (.fn f a b) else none
  | .unk => none
  | v => some v
def aviewL (h : List ARow) : List AV → Option (List AV)
  | [] => some []
  | v :: vs => (aview h v).bind fun x => (aviewL h vs).map (x :: ·)
end

mutual
def afreeze (h : List ARow) : AV → Option AV
  | .own id g s l _ => (h[id]?).bind fun r => if r.gen = g ∧ r.flat = true ∧ s + l ≤ r.es.length then some (.data false r.k ((r.es.drop s).take l) false) else none
  | .data false k es _ => some (.data false k es false)
  | .agg cs => (afreezeL h cs).map .agg
  | .tup cs => (afreezeL h cs).map .tup
  | .int k n => some (.int k n)
  | .bool b => some (.bool b)
  | .str s => some (.str s)
  | .nilfn => some .nilfn
  | .nilptr => some .nilptr
  | .fn f a b => if AV.stableL a && AV.stableL b then some (.fn f a b) else none
  | _ => none
def afreezeL (h : List ARow) : List AV → Option (List AV)
  | [] => some []
  | v :: vs => (afreeze h v).bind fun x => (afreezeL h vs).map (x :: ·)
end

mutual
/-- Nothing that was lent for a call. -/
def AV.clean : AV → Bool
  | .data bor _ _ _ => !bor
  | .dptr _ => false
  | .agg cs | .tup cs => AV.cleanL cs
  | .fn _ a b => AV.cleanL a && AV.cleanL b
  | _ => true
def AV.cleanL : List AV → Bool
  | [] => true
  | v :: vs => v.clean && AV.cleanL vs
end

def aadopt (h h' : List ARow) (r : AV) : Option (AV × List ARow) :=
  let order := areach h' 0 64 r.ids []
  if orderOk h' 0 order && r.clean && order.all (fun i => match h'[i]? with | some r => r.flat || r.es.all AV.cleanL | none => false) then
    some (r.ren h' 0 h.length order, h ++ arows h' 0 h.length order)
  else none

mutual
/-- The same value? -/
def AV.same : AV → AV → Bool
  | .int k n, .int k' n' => decide (k = k') && decide (n = n')
  | .bool a, .bool b => decide (a = b)
  | .str a, .str b => decide (a.data.toList = b.data.toList)
  | .agg as, .agg bs => AV.sameL as bs
  | .tup as, .tup bs => AV.sameL as bs
  | .data b k es f, .data b' k' es' f' => decide (b = b') && decide (k = k') && decide (f = f') && AV.sameLL es es'
  | .dptr as, .dptr bs => AV.sameL as bs
  | .own a b c d e, .own a' b' c' d' e' => decide (a = a') && decide (b = b') && decide (c = c') && decide (d = d') && decide (e = e')
  | .ptr a b c d, .ptr a' b' c' d' => decide (a = a') && decide (b = b') && decide (c = c') && decide (d = d')
  | .fn f as bs, .fn f' as' bs' => decide (f = f') && AV.sameL as as' && AV.sameL bs bs'
  | .nilfn, .nilfn => true
  | .nilptr, .nilptr => true
  | .unk, .unk => true
  | _, _ => false
def AV.sameL : List AV → List AV → Bool
  | [], [] => true
  | a :: as, b :: bs => a.same b && AV.sameL as bs
  | _, _ => false
def AV.sameLL : List (List AV) → List (List AV) → Bool
  | [], [] => true
  | a :: as, b :: bs => AV.sameL a b && AV.sameLL as bs
  | _, _ => false
end
mutual
theorem AV.same_iff : ∀ (a b : AV), a.same b = true ↔ a = b
  | .int k n, b => by cases b <;> simp [AV.same]
  | .bool x, b => by cases b <;> simp [AV.same]
  | .str x, b => by
    cases b <;> simp [AV.same]
    rename_i y
    constructor
    · intro h; cases x; cases y; simp at h; rw [h]
    · intro h; rw [h]
  | .agg as, b => by cases b <;> simp [AV.same, AV.sameL_iff as]
  | .tup as, b => by cases b <;> simp [AV.same, AV.sameL_iff as]
  | .data b0 k es f, b => by cases b <;> simp [AV.same, AV.sameLL_iff es]; grind
  | .dptr as, b => by cases b <;> simp [AV.same, AV.sameL_iff as]
  | .own .., b => by cases b <;> simp [AV.same]; grind
  | .ptr .., b => by cases b <;> simp [AV.same]; grind
  | .fn f as bs, b => by cases b <;> simp [AV.same, AV.sameL_iff as, AV.sameL_iff bs]; grind
  | .nilfn, b => by cases b <;> simp [AV.same]
  | .nilptr, b => by cases b <;> simp [AV.same]
  | .unk, b => by cases b <;> simp [AV.same]
theorem AV.sameL_iff : ∀ (a b : List AV), AV.sameL a b = true ↔ a = b
  | [], b => by cases b <;> simp [AV.sameL]
  | x :: a, b => by cases b <;> simp [AV.sameL, AV.same_iff x, AV.sameL_iff a]
theorem AV.sameLL_iff : ∀ (a b : List (List AV)), AV.sameLL a b = true ↔ a = b
  | [], b => by cases b <;> simp [AV.sameLL]
  | x :: a, b => by cases b <;> simp [AV.sameLL, AV.sameL_iff x, AV.sameLL_iff a]
end
instance : DecidableEq AV := fun a b => decidable_of_iff _ (AV.same_iff a b)
instance : DecidableEq ARow := fun a b => decidable_of_iff (a.k = b.k ∧ a.gen = b.gen ∧ a.flat = b.flat ∧ a.es = b.es) (by cases a; cases b; simp)

abbrev ARaw := Nat → List AV → List ARow → Option (AV × List ARow)

/-! ### A call over the rows that its arguments reach, alone -/
mutual
/-- Rows are numbered anew by f; what f leaves out is not known any more. -/
def AV.mapid (f : Nat → Option (Nat × Nat)) : AV → AV
  | .own id g s l c => match f id with
    | some i => .own i.1 (i.2 + g) s l c
    | none => .unk
  | .ptr id g e o => match f id with
    | some i => .ptr i.1 (i.2 + g) e o
    | none => .unk
  | .agg cs => .agg (AV.mapidL f cs)
  | .tup cs => .tup (AV.mapidL f cs)
  | .fn g a b => .fn g (AV.mapidL f a) (AV.mapidL f b)
  | v => v
def AV.mapidL (f : Nat → Option (Nat × Nat)) : List AV → List AV
  | [] => []
  | v :: vs => v.mapid f :: AV.mapidL f vs
end
def ARow.mapid (f : Nat → Option (Nat × Nat)) (r : ARow) : ARow := if r.flat then r else { r with es := r.es.map (AV.mapidL f) }
def ARow.cleanB (r : ARow) : Bool := r.flat || r.es.all AV.cleanL
/-- Where a callee's row lies behind the call; o3: the callee's rows that are still reached. -/
def backId (h : List ARow) (order o3 order2 : List Nat) (id : Nat) : Option (Nat × Nat) := if id < order.length then (if o3.contains id = true then (order[id]?).bind fun i => (h[i]?).map fun r => (i, r.gen) else none) else (order2.idxOf? id).map fun j => (h.length + j, 0)
def backRow (f : Nat → Option (Nat × Nat)) (o3 : List Nat) (rs : List ARow) (t i : Nat) (h : List ARow) : List ARow :=
  match h[i]? with
  | some x => if o3.contains t = true then (match rs[t]? with
      | some r => h.set i { r.mapid f with gen := x.gen + r.gen }
      | none => h)
    else h.set i ⟨x.k, x.gen + 1, true, []⟩
  | none => h
def backRows (f : Nat → Option (Nat × Nat)) (o3 : List Nat) (rs : List ARow) : Nat → List Nat → List ARow → List ARow
  | _, [], h => h
  | t, i :: is, h => backRows f o3 rs (t + 1) is (backRow f o3 rs t i h)
def backOk (h : List ARow) (o3 : List Nat) (rs : List ARow) : Nat → List Nat → Bool
  | _, [] => true
  | t, i :: is => (!o3.contains t || ((rs[t]?).elim false fun r => r.cleanB && ((h[i]?).elim false fun x => decide (r.k = x.k)))) && backOk h o3 rs (t + 1) is
def newRows (f : Nat → Option (Nat × Nat)) (h : List ARow) (order : List Nat) : List ARow := order.filterMap fun i => (h[i]?).map (ARow.mapid f)
def newOk (h : List ARow) (order : List Nat) : Bool := order.all fun i => (h[i]?).elim false ARow.cleanB
def abackO (h : List ARow) (order o3 : List Nat) (v : AV) (h' : List ARow) : Option (AV × List ARow) :=
  let order2 := o3.filter fun i => decide (order.length ≤ i)
  if orderOk h' 0 o3 && v.clean && backOk h o3 h' 0 order && newOk h' order2 then
    some (v.mapid (backId h order o3 order2), backRows (backId h order o3 order2) o3 h' 0 order h ++ newRows (backId h order o3 order2) h' order2)
  else none
def aback (h : List ARow) (args : List AV) (order : List Nat) (v : AV) (h' : List ARow) : Option (AV × List ARow) :=
  abackO h order (areach h' 0 64 (v.ids ++ AV.idsL args) []) v h'
def aisoIn (h : List ARow) (args : List AV) : Option (List AV × List ARow × List Nat) :=
  let order := areach h 0 64 (AV.idsL args) []
  if orderOk h 0 order then some (AV.renL h 0 0 order args, arows h 0 0 order, order) else none
def aiso (raw : ARaw) (f : Nat) (args : List AV) (h : List ARow) : Option (AV × List ARow) :=
  (aisoIn h args).bind fun p => (raw f p.1 p.2.1).bind fun r => aback h p.1 p.2.2 r.1 r.2
def AV.scalar : AV → Bool
  | .int _ _ | .bool _ | .str _ => true
  | _ => false
/-- The arguments are told outright for a call whose answer keeps none of them. -/
def apeek (raw : ARaw) (f : Nat) (args : List AV) (h : List ARow) : Option (AV × List ARow) :=
  (dvL (dv h 8) args).bind fun p => (raw f p.1 []).bind fun r => if r.1.scalar = true then some (r.1, h) else none

def acall (raw : ARaw) (md : AMd) (f : Nat) (args : List AV) (h : List ARow) : Option (AV × List ARow) :=
  match md with
  | .frz => (aviewL h args).bind fun as => (raw f as []).bind fun r => (afreeze r.2 r.1).map (·, h)
  | .adp => (aviewL h args).bind fun as => (raw f as []).bind fun r => aadopt h r.2 r.1
  | .inl => raw f args h
  | .iso => aiso raw f args h
  | .pk => apeek raw f args h

def aput (env : AEnv) : Option Nat → AV → AEnv
  | some d, v => (d, v) :: env
  | none, _ => env

section run
variable (G : Nat → Option (List AV))

def aexecOp (raw : ARaw) (env : AEnv) (h : List ARow) : AOp → Option (AV × List ARow)
  | .call md f args => (args.mapM (aeval G env)).bind fun as => acall raw md f as h
  | .callv x args => (aeval G env x).bind fun
    | .fn (.func f) a b => (args.mapM (aeval G env)).bind fun as => raw f (a ++ as ++ b) h
    | _ => none
  | op => aop G env h op

def astep (raw : ARaw) (o : AOper) (st : ASt) : Option ASt :=
  match o.guard with
  | none => (aexecOp G raw st.env st.h o.op).map fun r => ⟨aput st.env o.dst r.1, r.2⟩
  | some (s, want) => (look st.env s).bind fun
    | .bool b => if b = want then (aexecOp G raw st.env st.h o.op).map fun r => ⟨aput st.env o.dst r.1, r.2⟩ else some ⟨aput st.env o.dst (.tup []), st.h⟩
    | .tup [] => some ⟨aput st.env o.dst (.tup []), st.h⟩
    | _ => none

/-- Is the operation to run? -/
def goes (ao : AOper) (env : AEnv) : Option Bool := match ao.guard with
  | none => some true
  | some (s, want) => (look env s).bind fun
    | .bool b => some (b == want)
    | .tup [] => some false
    | _ => none
/-- A run with the states ahead of each operation. -/
def aopsS (raw : ARaw) : List AOper → List ASt → ASt → Option (List ASt)
  | [], acc, st => some (acc ++ [st])
  | o :: os, acc, st => (astep G raw o st).bind (aopsS raw os (acc ++ [st]))
/-- An operation that looks at rows and changes none, done where other operations were done first: it answers the same. -/
def aquietAt (raw : ARaw) (o : AOper) (s s' : ASt) (hm : List ARow) : Bool :=
  (goes o s.env).elim false fun b => if b = true then
    (if o.op.early = true then (s'.h[s.h.length]?).elim false fun r => r.flat && decide (hm[s.h.length]? = some r)
    else decide (s'.h = s.h) && ((o.dst).elim false fun d => (aexecOp G raw s.env hm o.op).elim false fun r =>
      decide (look s'.env d = some r.1) && decide (r.2 = hm) && r.1.ids.all fun i => decide (i < s.h.length)))
  else true
def aquietOne (raw : ARaw) (A : List AOper) (Ts : List ASt) (x M : Nat) : Bool :=
  (A[x]?).elim false fun o => (Ts[x]?).elim false fun s => (Ts[x + 1]?).elim false fun s' => (Ts[M]?).elim false fun m => aquietAt G raw o s s' m.h
def aquiets (raw : ARaw) (A : List AOper) (qs : List (Nat × List Nat)) (Ts : List ASt) : Bool := qs.all fun q => q.2.all fun M => aquietOne G raw A Ts q.1 M
def aopsQ (raw : ARaw) (A : List AOper) (qs : List (Nat × List Nat)) (st : ASt) : Option ASt :=
  (aopsS G raw A [] st).bind fun Ts => if aquiets G raw A qs Ts = true then Ts.getLast? else none

def aops (raw : ARaw) : List AOper → ASt → Option ASt
  | [], st => some st
  | o :: os, st => (astep G raw o st).bind (aops raw os)

def ares (env : AEnv) (h : List ARow) : ARes → Option AV
  | .slot n => look env n
  | .cell n agg m => (look env n).bind (aload h agg m)
def aresults (res : List ARes) (st : ASt) : Option AV :=
  (res.mapM (ares st.env st.h)).map fun
    | [v] => v
    | vs => .tup vs

def aenter (args : List AV) : AEnv := args.zipIdx.map fun p => (p.2, p.1)

inductive AEnt where
  | fn (f : AFn)
  | ext (F : List AV → List ARow → Option (AV × List ARow))

/-- A function's run, given how its body is run. -/
def arunFn (run : Nat → ACode → ASt → Option (AEx × ASt)) (F : Nat → Option AEnt) : ARaw := fun f args h =>
  (F f).bind fun
  | .ext E => E args h
  | .fn fn => (run h.length fn.body ⟨aenter args, h⟩).bind fun r => match r.1 with
    | .exit _ => none
    | _ => (aresults fn.res r.2).map (·, r.2.h)

variable (F : Nat → Option AEnt)

def aexec : Nat → Nat → ACode → ASt → Option (AEx × ASt)
  | 0, _, _, _ => none
  | n + 1, base, c, st =>
    match c with
    | .skip => some (.normal, st)
    | .region ops _ live => (aops G (arunFn (aexec n) F) ops st).map fun st' => (.normal, ⟨akeep live st'.env, st'.h⟩)
    | .regionQ ops _ qs live => (aopsQ G (arunFn (aexec n) F) ops qs st).map fun st' => (.normal, ⟨akeep live st'.env, st'.h⟩)
    | .seq a b => (aexec n base a st).bind fun r => match r.1 with
      | .normal => aexec n base b r.2
      | _ => some r
    | .cond c a b => (aeval G st.env c).bind fun
      | .bool t => aexec n base (if t then a else b) st
      | _ => none
    | .block id b => (aexec n base b st).map fun r => (if r.1 = .exit id then .normal else r.1, r.2)
    | .loop live b => (agc base live st).bind fun st => (aexec n base b st).bind fun r => match r.1 with
      | .normal => aexec n base (.loop live b) r.2
      | _ => some r
    | .exit id => some (.exit id, st)
    | .ret => some (.ret, st)
    | .dead => none
end run
end Go.Proofs.Ytfnonledcniojaa
/- The small machine's runs without a bound on rounds: equations. Conditions: none. -/
namespace Go.Proofs.Ytfnonledcniojaa
open Go

theorem opt_bind_some {α β : Type} {x : Option α} {f : α → Option β} {r : β} : x.bind f = some r ↔ ∃ a, x = some a ∧ f a = some r := by cases x <;> simp
theorem opt_map_some {α β : Type} {x : Option α} {f : α → β} {r : β} : x.map f = some r ↔ ∃ a, x = some a ∧ f a = r := by cases x <;> simp

section
variable (G : Nat → Option (List AV)) (F : Nat → Option AEnt)

abbrev ARun := Nat → ACode → ASt → Option (AEx × ASt)
def ARun.le (a b : ARun) : Prop := ∀ n c st r, a n c st = some r → b n c st = some r
def ARaw.le (a b : ARaw) : Prop := ∀ f as h r, a f as h = some r → b f as h = some r

theorem arunFn_mono {a b : ARun} (h : a.le b) : ARaw.le (arunFn a F) (arunFn b F) := by
  intro f as hp r hr
  unfold arunFn at *
  obtain ⟨e, he, hr⟩ := opt_bind_some.1 hr
  refine opt_bind_some.2 ⟨e, he, ?_⟩
  cases e with
  | ext E => exact hr
  | fn fn =>
    obtain ⟨x, hx, hr⟩ := opt_bind_some.1 hr
    exact opt_bind_some.2 ⟨x, h _ _ _ _ hx, hr⟩

theorem acall_mono {a b : ARaw} (h : a.le b) {md : AMd} {f : Nat} {as : List AV} {hp : List ARow} {r : AV × List ARow} (hr : acall a md f as hp = some r) : acall b md f as hp = some r := by
  cases md with
  | inl => exact h _ _ _ _ hr
  | frz =>
    obtain ⟨x, hx, hr⟩ := opt_bind_some.1 hr
    obtain ⟨y, hy, hr⟩ := opt_bind_some.1 hr
    exact opt_bind_some.2 ⟨x, hx, opt_bind_some.2 ⟨y, h _ _ _ _ hy, hr⟩⟩
  | adp =>
    obtain ⟨x, hx, hr⟩ := opt_bind_some.1 hr
    obtain ⟨y, hy, hr⟩ := opt_bind_some.1 hr
    exact opt_bind_some.2 ⟨x, hx, opt_bind_some.2 ⟨y, h _ _ _ _ hy, hr⟩⟩
  | iso =>
    obtain ⟨x, hx, hr⟩ := opt_bind_some.1 hr
    obtain ⟨y, hy, hr⟩ := opt_bind_some.1 hr
    exact opt_bind_some.2 ⟨x, hx, opt_bind_some.2 ⟨y, h _ _ _ _ hy, hr⟩⟩
  | pk =>
    obtain ⟨x, hx, hr⟩ := opt_bind_some.1 hr
    obtain ⟨y, hy, hr⟩ := opt_bind_some.1 hr
    exact opt_bind_some.2 ⟨x, hx, opt_bind_some.2 ⟨y, h _ _ _ _ hy, hr⟩⟩

theorem aexecOp_mono {a b : ARaw} (h : a.le b) {env : AEnv} {hp : List ARow} {o : AOp} {r : AV × List ARow} (hr : aexecOp G a env hp o = some r) : aexecOp G b env hp o = some r := by
  cases o with
  | call md f args =>
    obtain ⟨x, hx, hr⟩ := opt_bind_some.1 hr
    exact opt_bind_some.2 ⟨x, hx, acall_mono h hr⟩
  | callv x args =>
    obtain ⟨v, hv, hr⟩ := opt_bind_some.1 hr
    refine opt_bind_some.2 ⟨v, hv, ?_⟩
    split at hr
    · obtain ⟨y, hy, hr⟩ := opt_bind_some.1 hr
      exact opt_bind_some.2 ⟨y, hy, h _ _ _ _ hr⟩
    · cases hr
  | _ => exact hr

theorem astep_mono {a b : ARaw} (h : a.le b) {o : AOper} {st st' : ASt} (hr : astep G a o st = some st') : astep G b o st = some st' := by
  unfold astep at *
  split at hr
  · obtain ⟨x, hx, hr⟩ := opt_map_some.1 hr
    exact opt_map_some.2 ⟨x, aexecOp_mono G h hx, hr⟩
  · obtain ⟨v, hv, hr⟩ := opt_bind_some.1 hr
    refine opt_bind_some.2 ⟨v, hv, ?_⟩
    split at hr
    · split at hr
      · rename_i hb
        rw [if_pos hb]
        obtain ⟨x, hx, hr⟩ := opt_map_some.1 hr
        exact opt_map_some.2 ⟨x, aexecOp_mono G h hx, hr⟩
      · rename_i hb
        rw [if_neg hb]; exact hr
    · exact hr
    · cases hr

theorem aops_mono {a b : ARaw} (h : a.le b) : ∀ {os : List AOper} {st st' : ASt}, aops G a os st = some st' → aops G b os st = some st'
  | [], _, _, hr => hr
  | _ :: _, _, _, hr => by
    obtain ⟨x, hx, hr⟩ := opt_bind_some.1 hr
    exact opt_bind_some.2 ⟨x, astep_mono G h hx, aops_mono h hr⟩

theorem aopsS_mono {a b : ARaw} (h : a.le b) : ∀ {os : List AOper} {acc : List ASt} {st : ASt} {Ts : List ASt}, aopsS G a os acc st = some Ts → aopsS G b os acc st = some Ts
  | [], _, _, _, hr => hr
  | _ :: _, _, _, _, hr => by
    obtain ⟨x, hx, hr⟩ := opt_bind_some.1 hr
    exact opt_bind_some.2 ⟨x, astep_mono G h hx, aopsS_mono h hr⟩
theorem elim_mono {α : Type} {x : Option α} {f g : α → Bool} (h : ∀ y, x = some y → f y = true → g y = true) (hx : x.elim false f = true) : x.elim false g = true := by
  cases x with
  | none => exact hx
  | some y => exact h y rfl hx
theorem aquietAt_mono {a b : ARaw} (h : a.le b) {o : AOper} {s s' : ASt} {hm : List ARow} (hr : aquietAt G a o s s' hm = true) : aquietAt G b o s s' hm = true := by
  unfold aquietAt at *
  refine elim_mono (fun y _ hy => ?_) hr
  split
  · rename_i hb
    rw [if_pos hb] at hy
    split
    · rename_i he; rw [if_pos he] at hy; exact hy
    · rename_i he
      rw [if_neg he] at hy
      rw [Bool.and_eq_true] at hy ⊢
      refine ⟨hy.1, elim_mono (fun d _ hd => ?_) hy.2⟩
      cases e : aexecOp G a s.env hm o.op with
      | none => rw [e] at hd; cases hd
      | some r => rw [aexecOp_mono G h e]; rw [e] at hd; exact hd
  · rfl
theorem aquiets_mono {a b : ARaw} (h : a.le b) {A : List AOper} {qs : List (Nat × List Nat)} {Ts : List ASt} (hr : aquiets G a A qs Ts = true) : aquiets G b A qs Ts = true := by
  unfold aquiets at *
  rw [List.all_eq_true] at *
  intro q hq
  have := hr q hq
  rw [List.all_eq_true] at *
  intro M hM
  have := this M hM
  unfold aquietOne at *
  exact elim_mono (fun _ _ => elim_mono fun _ _ => elim_mono fun _ _ => elim_mono fun _ _ => aquietAt_mono G h) this
theorem aopsQ_mono {a b : ARaw} (h : a.le b) {A : List AOper} {qs : List (Nat × List Nat)} {st st' : ASt} (hr : aopsQ G a A qs st = some st') : aopsQ G b A qs st = some st' := by
  obtain ⟨Ts, h1, hr⟩ := opt_bind_some.1 hr
  refine opt_bind_some.2 ⟨Ts, aopsS_mono G h h1, ?_⟩
  split at hr
  · rename_i hq; rw [if_pos (aquiets_mono G h hq)]; exact hr
  · cases hr
theorem aexec_le : ∀ n m, n ≤ m → ARun.le (aexec G F n) (aexec G F m) := by
  intro n
  induction n with
  | zero => intro m _ base c st r hr; cases hr
  | succ n ih =>
    intro m hm base c st r hr
    obtain ⟨m, rfl⟩ : ∃ k, m = k + 1 := ⟨m - 1, by omega⟩
    have ih := ih m (by omega)
    cases c with
    | skip => exact hr
    | exit id => exact hr
    | ret => exact hr
    | dead => cases hr
    | region ops d live =>
      obtain ⟨x, hx, hr⟩ := opt_map_some.1 hr
      exact opt_map_some.2 ⟨x, aops_mono G (arunFn_mono F ih) hx, hr⟩
    | regionQ ops pm qs live =>
      obtain ⟨x, hx, hr⟩ := opt_map_some.1 hr
      exact opt_map_some.2 ⟨x, aopsQ_mono G (arunFn_mono F ih) hx, hr⟩
    | seq a b =>
      obtain ⟨x, hx, hr⟩ := opt_bind_some.1 hr
      refine opt_bind_some.2 ⟨x, ih _ _ _ _ hx, ?_⟩
      split at hr
      · exact ih _ _ _ _ hr
      · exact hr
    | cond c a b =>
      obtain ⟨x, hx, hr⟩ := opt_bind_some.1 hr
      refine opt_bind_some.2 ⟨x, hx, ?_⟩
      split at hr
      · exact ih _ _ _ _ hr
      · cases hr
    | block id b =>
      obtain ⟨x, hx, hr⟩ := opt_map_some.1 hr
      exact opt_map_some.2 ⟨x, ih _ _ _ _ hx, hr⟩
    | loop live b =>
      obtain ⟨x, hx, hr⟩ := opt_bind_some.1 hr
      obtain ⟨y, hy, hr⟩ := opt_bind_some.1 hr
      refine opt_bind_some.2 ⟨x, hx, opt_bind_some.2 ⟨y, ih _ _ _ _ hy, ?_⟩⟩
      split at hr
      · exact ih _ _ _ _ hr
      · exact hr

open Classical in
/-- What a piece of code comes to, if it comes to anything. -/
noncomputable def aE : ARun := fun base c st => if h : ∃ r n, aexec G F n base c st = some r then some (Classical.choose h) else none
/-- What a call comes to. -/
noncomputable def aR : ARaw := arunFn (aE G F) F

theorem aE_some {base : Nat} {c : ACode} {st : ASt} {r : AEx × ASt} : aE G F base c st = some r ↔ ∃ n, aexec G F n base c st = some r := by
  unfold aE
  constructor
  · intro h
    split at h
    · rename_i hx
      obtain ⟨n, hn⟩ := Classical.choose_spec hx
      rw [Option.some.inj h] at hn
      exact ⟨n, hn⟩
    · cases h
  · rintro ⟨n, hn⟩
    have hx : ∃ r n, aexec G F n base c st = some r := ⟨r, n, hn⟩
    rw [dif_pos hx]
    obtain ⟨m, hm⟩ := Classical.choose_spec hx
    have h1 := aexec_le G F n (n + m) (by omega) _ _ _ _ hn
    have h2 := aexec_le G F m (n + m) (by omega) _ _ _ _ hm
    exact congrArg some (Option.some.inj (h2.symm.trans h1))
theorem aexec_aE (n : Nat) : ARun.le (aexec G F n) (aE G F) := fun _ _ _ _ h => (aE_some G F).2 ⟨n, h⟩

theorem aR_fin {f : Nat} {as : List AV} {h : List ARow} {r : AV × List ARow} (hr : aR G F f as h = some r) : ∃ n, ∀ m, n ≤ m → arunFn (aexec G F m) F f as h = some r := by
  unfold aR arunFn at hr
  obtain ⟨e, he, hr⟩ := opt_bind_some.1 hr
  cases e with
  | ext E => exact ⟨0, fun m _ => opt_bind_some.2 ⟨_, he, hr⟩⟩
  | fn fn =>
    obtain ⟨x, hx, hr⟩ := opt_bind_some.1 hr
    obtain ⟨n, hn⟩ := (aE_some G F).1 hx
    exact ⟨n, fun m hm => opt_bind_some.2 ⟨_, he, opt_bind_some.2 ⟨x, aexec_le G F n m hm _ _ _ _ hn, hr⟩⟩⟩

/-- The runs at a bound come up to those without. -/
def Fin (a : Nat → ARaw) (b : ARaw) : Prop := ∀ f as h r, b f as h = some r → ∃ n, ∀ m, n ≤ m → a m f as h = some r
theorem acall_fin {a : Nat → ARaw} {b : ARaw} (h : Fin a b) {md : AMd} {f : Nat} {as : List AV} {hp : List ARow} {r : AV × List ARow} (hr : acall b md f as hp = some r) :
    ∃ n, ∀ m, n ≤ m → acall (a m) md f as hp = some r := by
  cases md with
  | inl => exact h _ _ _ _ hr
  | frz =>
    obtain ⟨x, hx, hr⟩ := opt_bind_some.1 hr
    obtain ⟨y, hy, hr⟩ := opt_bind_some.1 hr
    obtain ⟨n, hn⟩ := h _ _ _ _ hy
    exact ⟨n, fun m hm => opt_bind_some.2 ⟨x, hx, opt_bind_some.2 ⟨y, hn m hm, hr⟩⟩⟩
  | adp =>
    obtain ⟨x, hx, hr⟩ := opt_bind_some.1 hr
    obtain ⟨y, hy, hr⟩ := opt_bind_some.1 hr
    obtain ⟨n, hn⟩ := h _ _ _ _ hy
    exact ⟨n, fun m hm => opt_bind_some.2 ⟨x, hx, opt_bind_some.2 ⟨y, hn m hm, hr⟩⟩⟩
  | iso =>
    obtain ⟨x, hx, hr⟩ := opt_bind_some.1 hr
    obtain ⟨y, hy, hr⟩ := opt_bind_some.1 hr
    obtain ⟨n, hn⟩ := h _ _ _ _ hy
    exact ⟨n, fun m hm => opt_bind_some.2 ⟨x, hx, opt_bind_some.2 ⟨y, hn m hm, hr⟩⟩⟩
  | pk =>
    obtain ⟨x, hx, hr⟩ := opt_bind_some.1 hr
    obtain ⟨y, hy, hr⟩ := opt_bind_some.1 hr
    obtain ⟨n, hn⟩ := h _ _ _ _ hy
    exact ⟨n, fun m hm => opt_bind_some.2 ⟨x, hx, opt_bind_some.2 ⟨y, hn m hm, hr⟩⟩⟩
theorem aexecOp_fin {a : Nat → ARaw} {b : ARaw} (h : Fin a b) {env : AEnv} {hp : List ARow} {o : AOp} {r : AV × List ARow} (hr : aexecOp G b env hp o = some r) :
    ∃ n, ∀ m, n ≤ m → aexecOp G (a m) env hp o = some r := by
  cases o with
  | call md f args =>
    obtain ⟨x, hx, hr⟩ := opt_bind_some.1 hr
    obtain ⟨n, hn⟩ := acall_fin h hr
    exact ⟨n, fun m hm => opt_bind_some.2 ⟨x, hx, hn m hm⟩⟩
  | callv x args =>
    obtain ⟨v, hv, hr⟩ := opt_bind_some.1 hr
    split at hr
    · obtain ⟨y, hy, hr⟩ := opt_bind_some.1 hr
      obtain ⟨n, hn⟩ := h _ _ _ _ hr
      exact ⟨n, fun m hm => opt_bind_some.2 ⟨_, hv, opt_bind_some.2 ⟨y, hy, hn m hm⟩⟩⟩
    · cases hr
  | _ => exact ⟨0, fun _ _ => hr⟩
theorem astep_fin {a : Nat → ARaw} {b : ARaw} (h : Fin a b) {o : AOper} {st st' : ASt} (hr : astep G b o st = some st') : ∃ n, ∀ m, n ≤ m → astep G (a m) o st = some st' := by
  unfold astep at *
  split at hr
  · obtain ⟨x, hx, hr⟩ := opt_map_some.1 hr
    obtain ⟨n, hn⟩ := aexecOp_fin G h hx
    exact ⟨n, fun m hm => opt_map_some.2 ⟨x, hn m hm, hr⟩⟩
  · obtain ⟨v, hv, hr⟩ := opt_bind_some.1 hr
    split at hr
    · split at hr
      · rename_i hb
        obtain ⟨x, hx, hr⟩ := opt_map_some.1 hr
        obtain ⟨n, hn⟩ := aexecOp_fin G h hx
        exact ⟨n, fun m hm => opt_bind_some.2 ⟨_, hv, by simp only [if_pos hb]; exact opt_map_some.2 ⟨x, hn m hm, hr⟩⟩⟩
      · rename_i hb
        exact ⟨0, fun m hm => opt_bind_some.2 ⟨_, hv, by simp only [if_neg hb]; exact hr⟩⟩
    · exact ⟨0, fun m hm => opt_bind_some.2 ⟨_, hv, hr⟩⟩
    · cases hr
theorem aops_fin {a : Nat → ARaw} {b : ARaw} (h : Fin a b) : ∀ {os : List AOper} {st st' : ASt}, aops G b os st = some st' → ∃ n, ∀ m, n ≤ m → aops G (a m) os st = some st'
  | [], _, _, hr => ⟨0, fun _ _ => hr⟩
  | _ :: _, _, _, hr => by
    obtain ⟨x, hx, hr⟩ := opt_bind_some.1 hr
    obtain ⟨n, hn⟩ := astep_fin G h hx
    obtain ⟨k, hk⟩ := aops_fin h hr
    exact ⟨n + k, fun m hm => opt_bind_some.2 ⟨x, hn m (by omega), hk m (by omega)⟩⟩

theorem opt_ext {α : Type} {x y : Option α} (h : ∀ r, x = some r ↔ y = some r) : x = y := by
  cases x with
  | none => cases y with
    | none => rfl
    | some b => exact (h b).2 rfl
  | some a => exact ((h a).1 rfl).symm

theorem aE_skip (base : Nat) (st : ASt) : aE G F base .skip st = some (.normal, st) := (aE_some G F).2 ⟨1, rfl⟩
theorem aE_exit (base id : Nat) (st : ASt) : aE G F base (.exit id) st = some (.exit id, st) := (aE_some G F).2 ⟨1, rfl⟩
theorem aE_ret (base : Nat) (st : ASt) : aE G F base .ret st = some (.ret, st) := (aE_some G F).2 ⟨1, rfl⟩
theorem aE_region (base : Nat) (ops : List AOper) (d : Bool) (live : List Nat) (st : ASt) :
    aE G F base (.region ops d live) st = (aops G (aR G F) ops st).map fun st' => (.normal, ⟨akeep live st'.env, st'.h⟩) := by
  refine opt_ext fun r => ⟨fun h => ?_, fun h => ?_⟩
  · obtain ⟨n, hn⟩ := (aE_some G F).1 h
    cases n with
    | zero => cases hn
    | succ n =>
      obtain ⟨x, hx, hr⟩ := opt_map_some.1 hn
      exact opt_map_some.2 ⟨x, aops_mono G (arunFn_mono F (aexec_aE G F n)) hx, hr⟩
  · obtain ⟨x, hx, hr⟩ := opt_map_some.1 h
    obtain ⟨n, hn⟩ := aops_fin G (a := fun m => arunFn (aexec G F m) F) (fun _ _ _ _ h => aR_fin G F h) hx
    exact (aE_some G F).2 ⟨n + 1, opt_map_some.2 ⟨x, hn n (Nat.le_refl _), hr⟩⟩
theorem aE_seq (base : Nat) (a b : ACode) (st : ASt) :
    aE G F base (.seq a b) st = (aE G F base a st).bind fun r => match r.1 with | .normal => aE G F base b r.2 | _ => some r := by
  refine opt_ext fun r => ⟨fun h => ?_, fun h => ?_⟩
  · obtain ⟨n, hn⟩ := (aE_some G F).1 h
    cases n with
    | zero => cases hn
    | succ n =>
      obtain ⟨x, hx, hr⟩ := opt_bind_some.1 hn
      refine opt_bind_some.2 ⟨x, aexec_aE G F n _ _ _ _ hx, ?_⟩
      obtain ⟨e, st1⟩ := x
      cases e with
      | normal => exact aexec_aE G F n _ _ _ _ hr
      | _ => exact hr
  · obtain ⟨x, hx, hr⟩ := opt_bind_some.1 h
    obtain ⟨n, hn⟩ := (aE_some G F).1 hx
    split at hr
    · rename_i he
      obtain ⟨k, hk⟩ := (aE_some G F).1 hr
      refine (aE_some G F).2 ⟨n + k + 1, opt_bind_some.2 ⟨x, aexec_le G F n (n + k) (by omega) _ _ _ _ hn, ?_⟩⟩
      simp only [he]
      exact aexec_le G F k (n + k) (by omega) _ _ _ _ hk
    · rename_i he
      refine (aE_some G F).2 ⟨n + 1, opt_bind_some.2 ⟨x, hn, ?_⟩⟩
      split
      · rename_i h2; exact absurd h2 (by simpa using he)
      · exact hr
theorem aE_cond (base : Nat) (c : AOpd) (a b : ACode) (st : ASt) :
    aE G F base (.cond c a b) st = (aeval G st.env c).bind fun v => match v with | .bool t => aE G F base (if t then a else b) st | _ => none := by
  refine opt_ext fun r => ⟨fun h => ?_, fun h => ?_⟩
  · obtain ⟨n, hn⟩ := (aE_some G F).1 h
    cases n with
    | zero => cases hn
    | succ n =>
      obtain ⟨x, hx, hr⟩ := opt_bind_some.1 hn
      refine opt_bind_some.2 ⟨x, hx, ?_⟩
      split at hr
      · exact aexec_aE G F n _ _ _ _ hr
      · cases hr
  · obtain ⟨x, hx, hr⟩ := opt_bind_some.1 h
    split at hr
    · obtain ⟨n, hn⟩ := (aE_some G F).1 hr
      exact (aE_some G F).2 ⟨n + 1, opt_bind_some.2 ⟨_, hx, hn⟩⟩
    · cases hr
theorem aE_block (base id : Nat) (b : ACode) (st : ASt) :
    aE G F base (.block id b) st = (aE G F base b st).map fun r => (if r.1 = .exit id then .normal else r.1, r.2) := by
  refine opt_ext fun r => ⟨fun h => ?_, fun h => ?_⟩
  · obtain ⟨n, hn⟩ := (aE_some G F).1 h
    cases n with
    | zero => cases hn
    | succ n =>
      obtain ⟨x, hx, hr⟩ := opt_map_some.1 hn
      exact opt_map_some.2 ⟨x, aexec_aE G F n _ _ _ _ hx, hr⟩
  · obtain ⟨x, hx, hr⟩ := opt_map_some.1 h
    obtain ⟨n, hn⟩ := (aE_some G F).1 hx
    exact (aE_some G F).2 ⟨n + 1, opt_map_some.2 ⟨x, hn, hr⟩⟩
theorem aE_loop (base : Nat) (live : List Nat) (b : ACode) (st : ASt) :
    aE G F base (.loop live b) st = (agc base live st).bind fun st => (aE G F base b st).bind fun r => match r.1 with | .normal => aE G F base (.loop live b) r.2 | _ => some r := by
  refine opt_ext fun r => ⟨fun h => ?_, fun h => ?_⟩
  · obtain ⟨n, hn⟩ := (aE_some G F).1 h
    cases n with
    | zero => cases hn
    | succ n =>
      obtain ⟨x, hx, hr⟩ := opt_bind_some.1 hn
      obtain ⟨y, hy, hr⟩ := opt_bind_some.1 hr
      refine opt_bind_some.2 ⟨x, hx, opt_bind_some.2 ⟨y, aexec_aE G F n _ _ _ _ hy, ?_⟩⟩
      obtain ⟨e, st1⟩ := y
      cases e with
      | normal => exact aexec_aE G F n _ _ _ _ hr
      | _ => exact hr
  · obtain ⟨x, hx, hr⟩ := opt_bind_some.1 h
    obtain ⟨y, hy, hr⟩ := opt_bind_some.1 hr
    obtain ⟨n, hn⟩ := (aE_some G F).1 hy
    split at hr
    · rename_i he
      obtain ⟨k, hk⟩ := (aE_some G F).1 hr
      refine (aE_some G F).2 ⟨n + k + 1, opt_bind_some.2 ⟨x, hx, opt_bind_some.2 ⟨y, aexec_le G F n (n + k) (by omega) _ _ _ _ hn, ?_⟩⟩⟩
      simp only [he]
      exact aexec_le G F k (n + k) (by omega) _ _ _ _ hk
    · rename_i he
      refine (aE_some G F).2 ⟨n + 1, opt_bind_some.2 ⟨x, hx, opt_bind_some.2 ⟨y, hn, ?_⟩⟩⟩
      split
      · rename_i h2; exact absurd h2 (by simpa using he)
      · exact hr

theorem aR_fn {f : Nat} {fn : AFn} (hf : F f = some (.fn fn)) (args : List AV) (h : List ARow) :
    aR G F f args h = (aE G F h.length fn.body ⟨aenter args, h⟩).bind fun r => match r.1 with | .exit _ => none | _ => (aresults fn.res r.2).map (·, r.2.h) := by
  unfold aR arunFn
  rw [hf]; rfl
/-- A call whose arguments are only read and whose answer is only read. -/
noncomputable def aP (f : Nat) (args : List AV) : Option AV := (aR G F f args []).bind fun r => afreeze r.2 r.1
theorem acall_frz (f : Nat) (args : List AV) (h : List ARow) : acall (aR G F) .frz f args h = (aviewL h args).bind fun as => (aP G F f as).map (·, h) := by
  unfold acall aP
  cases aviewL h args <;> simp [Option.map_bind, Function.comp_def]
theorem acall_adp (f : Nat) (args : List AV) (h : List ARow) : acall (aR G F) .adp f args h = (aviewL h args).bind fun as => (aR G F f as []).bind fun r => aadopt h r.2 r.1 := rfl
theorem acall_inl (f : Nat) (args : List AV) (h : List ARow) : acall (aR G F) .inl f args h = aR G F f args h := rfl
end
end Go.Proofs.Ytfnonledcniojaa
/- The small machine's equations, one step at a time, for walks. Conditions: none. -/
namespace Go.Proofs.Ytfnonledcniojaa
open Go

theorem look_cons (k : Nat) (v : AV) (r : AEnv) (n : Nat) : look ((k, v) :: r) n = if k = n then some v else look r n := rfl
theorem akeep_nil (env : AEnv) : akeep [] env = [] := rfl
theorem akeep_cons (s : Nat) (ss : List Nat) (env : AEnv) : akeep (s :: ss) env = (look env s).elim (akeep ss env) fun v => (s, v) :: akeep ss env := by
  unfold akeep
  cases h : look env s <;> simp [h]
theorem aput_some (env : AEnv) (d : Nat) (v : AV) : aput env (some d) v = (d, v) :: env := rfl
theorem aput_none (env : AEnv) (v : AV) : aput env none v = env := rfl
theorem elim_some {α β : Type} (a : α) (b : β) (f : α → β) : (some a).elim b f = f a := rfl
theorem elim_none {α β : Type} (b : β) (f : α → β) : (none : Option α).elim b f = b := rfl
theorem bind_some' {α β : Type} (a : α) (f : α → Option β) : (some a).bind f = f a := rfl
theorem map_some' {α β : Type} (a : α) (f : α → β) : (some a).map f = some (f a) := rfl

section
variable (G : Nat → Option (List AV)) (raw : ARaw) (env : AEnv) (h : List ARow)
theorem aops_nil (st : ASt) : aops G raw [] st = some st := rfl
theorem aops_cons (d : Option Nat) (op : AOp) (os : List AOper) : aops G raw (⟨d, none, op⟩ :: os) ⟨env, h⟩ = (aexecOp G raw env h op).bind fun r => aops G raw os ⟨aput env d r.1, r.2⟩ := by
  rw [aops]
  simp only [astep]
  cases aexecOp G raw env h op <;> rfl
/-- Is a guarded operation carried out? -/
def aguard (b : Bool) : AV → Option Bool
  | .bool c => some (c == b)
  | .tup [] => some false
  | _ => none
theorem aops_guard (d : Option Nat) (s : Nat) (b : Bool) (op : AOp) (os : List AOper) : aops G raw (⟨d, some (s, b), op⟩ :: os) ⟨env, h⟩ =
    ((look env s).bind (aguard b)).bind fun c => if c = true then (aexecOp G raw env h op).bind fun r => aops G raw os ⟨aput env d r.1, r.2⟩ else aops G raw os ⟨aput env d (.tup []), h⟩ := by
  rw [aops]
  simp only [astep]
  cases look env s with
  | none => rfl
  | some v =>
    cases v with
    | bool c =>
      simp only [bind_some', aguard]
      by_cases hc : c = b
      · subst hc
        cases aexecOp G raw env h op <;> simp
      · simp [hc]
    | tup vs => cases vs <;> rfl
    | _ => rfl
theorem guard_bool (b c : Bool) : aguard b (.bool c) = some (c == b) := rfl
theorem ev_slot (n : Nat) : aeval G env (.slot n) = look env n := rfl
theorem ev_const (v : AV) : aeval G env (.const v) = some v := rfl
theorem evs_nil : ([] : List AOpd).mapM (aeval G env) = some [] := rfl
theorem evs_cons (x : AOpd) (xs : List AOpd) : (x :: xs).mapM (aeval G env) = (aeval G env x).bind fun v => (xs.mapM (aeval G env)).bind fun vs => some (v :: vs) := by
  simp [List.mapM_cons]
theorem op_call (md : AMd) (f : Nat) (args : List AOpd) : aexecOp G raw env h (.call md f args) = (args.mapM (aeval G env)).bind fun as => acall raw md f as h := rfl
/-- What is called by a value. -/
def afnOf : AV → Option (Nat × List AV × List AV)
  | .fn (.func f) a b => some (f, a, b)
  | _ => none
theorem fnOf_mk (f : Nat) (a b : List AV) : afnOf (.fn (.func f) a b) = some (f, a, b) := rfl
theorem op_callv (x : AOpd) (args : List AOpd) : aexecOp G raw env h (.callv x args) = ((aeval G env x).bind afnOf).bind fun p => (args.mapM (aeval G env)).bind fun as => raw p.1 (p.2.1 ++ as ++ p.2.2) h := by
  simp only [aexecOp]
  cases aeval G env x with
  | none => rfl
  | some v =>
    cases v with
    | fn f a b => cases f <;> rfl
    | _ => rfl
theorem op_mov (x : AOpd) : aexecOp G raw env h (.mov x) = (aeval G env x).map (·, h) := rfl
theorem op_mknil (k : Nat) : aexecOp G raw env h (.mknil k) = some (.own h.length 0 0 0 0, h ++ [⟨k, 0, true, []⟩]) := rfl
def abool : AV → Option Bool
  | .bool b => some b
  | _ => none
theorem abool_mk (b : Bool) : abool (.bool b) = some b := rfl
theorem op_pick (c a b : AOpd) : aexecOp G raw env h (.pick c a b) = ((aeval G env c).bind abool).bind fun c => (aeval G env (if c then a else b)).map (·, h) := by
  simp only [aexecOp, aop]
  cases aeval G env c with
  | none => rfl
  | some v => cases v <;> rfl
theorem op_alloc (zero : List AV) : aexecOp G raw env h (.alloc zero) = some (.ptr h.length 0 0 0, h ++ [⟨zero.length, 0, AV.stableL zero, [zero]⟩]) := rfl
theorem op_box (m : Nat) (x : AOpd) : aexecOp G raw env h (.box m x) = (aeval G env x).bind fun v => v.cells.bind fun cs => if cs.length = m then some (.ptr h.length 0 0 0, h ++ [⟨m, 0, AV.stableL cs, [cs]⟩]) else none := rfl
def aparts2 : List (Nat × AOpd) → Option (List (Nat × AV))
  | [] => some []
  | (i, x) :: ps => (aeval G env x).bind fun v => (aparts2 ps).bind fun vs => some ((i, v) :: vs)
theorem aparts2_eq (ps : List (Nat × AOpd)) : (ps.mapM fun (p : Nat × AOpd) => (aeval G env p.2).map fun v => (p.1, v)) = aparts2 G env ps := by
  induction ps with
  | nil => rfl
  | cons p ps ih =>
    rw [List.mapM_cons, ih]
    obtain ⟨i, x⟩ := p
    show _ = (aeval G env x).bind fun v => (aparts2 G env ps).bind fun vs => some ((i, v) :: vs)
    cases aeval G env x with
    | none => rfl
    | some v => cases aparts2 G env ps <;> rfl
theorem aparts2_nil : aparts2 G env [] = some [] := rfl
theorem aparts2_cons (i : Nat) (x : AOpd) (ps : List (Nat × AOpd)) : aparts2 G env ((i, x) :: ps) = (aeval G env x).bind fun v => (aparts2 G env ps).bind fun vs => some ((i, v) :: vs) := rfl
theorem op_mkslice (k n : Nat) (zero : List AV) (ps : List (Nat × AOpd)) : aexecOp G raw env h (.mkslice k n zero ps) =
    (aparts2 G env ps).bind fun ps => (afill k (List.replicate n zero) ps).map fun es => (.own h.length 0 0 n n, h ++ [⟨k, 0, stableLL es, es⟩]) := by
  rw [← aparts2_eq]; rfl
theorem op_mkdata (k n : Nat) (zero : List AV) (ps : List (Nat × AOpd)) : aexecOp G raw env h (.mkdata k n zero ps) =
    (aparts2 G env ps).bind fun ps => (afill k (List.replicate n zero) ps).bind fun es => if stableLL es then some (.data false k es true, h) else none := by
  rw [← aparts2_eq]; rfl
theorem op_load (agg : Bool) (m : Nat) (x : AOpd) : aexecOp G raw env h (.load agg m x) = (aeval G env x).bind fun p => (aload h agg m p).map (·, h) := rfl
theorem op_store (agg : Bool) (m : Nat) (p x : AOpd) : aexecOp G raw env h (.store agg m p x) = (aeval G env p).bind fun p => (aeval G env x).bind fun v => (astore h agg m p v).map (.tup [], ·) := rfl
theorem op_bin (op : BinOp) (x y : AOpd) : aexecOp G raw env h (.bin op x y) = (aeval G env x).bind fun x => (aeval G env y).bind fun y => (abin op x y).map (·, h) := rfl
theorem op_eq (agg : Bool) (sh : List Sh) (neg : Bool) (x y : AOpd) : aexecOp G raw env h (.eq agg sh neg x y) = (aeval G env x).bind fun x => (aeval G env y).bind fun y => (aeq agg sh x y).map fun b => (.bool (b != neg), h) := rfl
theorem op_isnil (k : NilK) (neg : Bool) (x : AOpd) : aexecOp G raw env h (.isnil k neg x) = (aeval G env x).bind fun x => (aisnil k x).map fun b => (.bool (b != neg), h) := rfl
theorem op_not (x : AOpd) : aexecOp G raw env h (.not x) = ((aeval G env x).bind abool).map fun b => (.bool (!b), h) := by
  simp only [aexecOp, aop]
  cases aeval G env x with
  | none => rfl
  | some v => cases v <;> rfl
theorem op_bstr (x : AOpd) : aexecOp G raw env h (.bstr x) = ((aeval G env x).bind anostr).bind fun v => (agroups h 1 v).bind fun es => (asBytes es.1).map fun bs => (.str ⟨bs.toArray⟩, h) := rfl
theorem op_mkfn (f : Fn) (first caps : List AOpd) : aexecOp G raw env h (.mkfn f first caps) = (first.mapM (aeval G env)).bind fun a => (caps.mapM (aeval G env)).map fun b => (.fn f a b, h) := rfl
theorem aopt_none : aopt G env none = some none := rfl
theorem aopt_some (o : AOpd) : aopt G env (some o) = (aeval G env o).bind fun v => some (some v) := rfl
theorem op_sl (k : Nat) (x : AOpd) (lo hi mx : Option AOpd) : aexecOp G raw env h (.sl k x lo hi mx) = (aeval G env x).bind fun x => (aopt G env lo).bind fun lo => (aopt G env hi).bind fun hi => (aopt G env mx).bind fun mx =>
    (aslice h k x lo hi mx).map (·, h) := by
  rfl
theorem op_faddr (off : Nat) (x : AOpd) : aexecOp G raw env h (.faddr off x) = (aeval G env x).bind fun p => (afaddr off p).map (·, h) := rfl
theorem op_idx (k : Nat) (x i : AOpd) : aexecOp G raw env h (.idx k x i) = (aeval G env x).bind fun x => (aeval G env i).bind fun i => (aidx h k x i).map (·, h) := rfl
def atupOf : AV → Option (List AV)
  | .tup cs => some cs
  | _ => none
theorem atupOf_mk (cs : List AV) : atupOf (.tup cs) = some cs := rfl
theorem op_extract (i : Nat) (x : AOpd) : aexecOp G raw env h (.extract i x) = ((aeval G env x).bind atupOf).bind fun vs => (vs[i]?).map (·, h) := by
  simp only [aexecOp, aop]
  cases aeval G env x with
  | none => rfl
  | some v => cases v <;> rfl
theorem op_len (b : Bool) (x : AOpd) : aexecOp G raw env h (.len b x) = (aeval G env x).bind fun x => (alen b x).map (·, h) := rfl
theorem op_append (k bytes : Nat) (x y : AOpd) : aexecOp G raw env h (.append k bytes x y) = (aeval G env x).bind fun x => (aeval G env y).bind fun y => aappend h k bytes x y := rfl
theorem op_appendD (k bytes : Nat) (x y : AOpd) : aexecOp G raw env h (.appendD k bytes x y) = (aeval G env x).bind fun x => (aeval G env y).bind fun y => (aappendD h k bytes x y).map (·, h) := rfl
end

theorem bin_add (k : IntKind) (a b : Int) : abin .add (.int k a) (.int k b) = some (.int k (k.wrap (a + b))) := by simp [abin, asum]
theorem bin_sub (k : IntKind) (a b : Int) : abin .sub (.int k a) (.int k b) = some (.int k (k.wrap (a - b))) := by simp [abin, asum]
theorem bin_eql (k : IntKind) (a b : Int) : abin .eql (.int k a) (.int k b) = some (.bool (decide (a = b))) := by
  have e : (a == b) = decide (a = b) := by by_cases h : a = b <;> simp [h]
  simp [abin, e]
theorem bin_neq (k : IntKind) (a b : Int) : abin .neq (.int k a) (.int k b) = some (.bool (!decide (a = b))) := by
  have e : (a == b) = decide (a = b) := by by_cases h : a = b <;> simp [h]
  simp [abin, bne, e]
theorem bin_lss (k : IntKind) (a b : Int) : abin .lss (.int k a) (.int k b) = some (.bool (decide (a < b))) := by simp [abin]
theorem bin_leq (k : IntKind) (a b : Int) : abin .leq (.int k a) (.int k b) = some (.bool (decide (a ≤ b))) := by simp [abin]
theorem bin_gtr (k : IntKind) (a b : Int) : abin .gtr (.int k a) (.int k b) = some (.bool (decide (b < a))) := by simp [abin]
theorem bin_geq (k : IntKind) (a b : Int) : abin .geq (.int k a) (.int k b) = some (.bool (decide (b ≤ a))) := by simp [abin]
theorem len_own (id g s l c : Nat) : alen false (.own id g s l c) = some (.int .i64 l) := rfl
theorem len_data (b : Bool) (k : Nat) (es : List (List AV)) (f : Bool) : alen false (.data b k es f) = some (.int .i64 es.length) := rfl
theorem cells_agg (cs : List AV) : (AV.agg cs).cells = some cs := rfl
theorem cells_int (k : IntKind) (n : Int) : (AV.int k n).cells = some [.int k n] := rfl
theorem load_ptr (h : List ARow) (agg : Bool) (m id gen e off : Nat) : aload h agg m (.ptr id gen e off) = (h[id]?).bind fun r => if r.gen = gen then (r.es[e]?).bind (acut agg m off) else none := rfl
theorem load_dptr (h : List ARow) (agg : Bool) (m : Nat) (cs : List AV) : aload h agg m (.dptr cs) = acut agg m 0 cs := rfl
theorem cut_leaf (m off : Nat) (g : List AV) : acut false m off g = g[off]? := rfl
theorem cut_agg (m off : Nat) (g : List AV) : acut true m off g = if off + m ≤ g.length then some (.agg ((g.drop off).take m)) else none := rfl
theorem faddr_ptr (off id gen e o : Nat) : afaddr off (.ptr id gen e o) = some (.ptr id gen e (o + off)) := rfl
theorem faddr_dptr (off : Nat) (cs : List AV) : afaddr off (.dptr cs) = some (.dptr (cs.drop off)) := rfl
theorem idx_own (h : List ARow) (kk id gen s l c : Nat) (k : IntKind) (i : Int) : aidx h kk (.own id gen s l c) (.int k i) = (h[id]?).bind fun r => if r.gen = gen ∧ r.k = kk then if 0 ≤ i ∧ i < l then some (.ptr id gen (s + i.toNat) 0) else none else none := rfl
theorem idx_data (h : List ARow) (kk : Nat) (b : Bool) (k : Nat) (es : List (List AV)) (f : Bool) (k' : IntKind) (i : Int) : aidx h kk (.data b k es f) (.int k' i) = if k = kk then if 0 ≤ i then (es[i.toNat]?).map (dptrB b) else none else none := rfl
theorem enter_eq (args : List AV) : aenter args = (args.zipIdx.map fun p => (p.2, p.1)) := rfl
theorem groups_own (h : List ARow) (k id gen s l c : Nat) : agroups h k (.own id gen s l c) = (h[id]?).bind fun r => if r.gen = gen ∧ r.k = k ∧ s + l ≤ r.es.length then some ((r.es.drop s).take l, r.flat) else none := rfl
theorem groups_data (h : List ARow) (kk : Nat) (b : Bool) (k : Nat) (es : List (List AV)) (f : Bool) : agroups h kk (.data b k es f) = if k = kk then (if (!b || plainLL es) = true then some (es, true) else none) else none := rfl
theorem res_one (r : ARes) (st : ASt) : aresults [r] st = ares st.env st.h r := by
  simp only [aresults, List.mapM_cons, List.mapM_nil]
  cases ares st.env st.h r <;> rfl
theorem res_two (r s : ARes) (st : ASt) : aresults [r, s] st = (ares st.env st.h r).bind fun x => (ares st.env st.h s).bind fun y => some (.tup [x, y]) := by
  simp only [aresults, List.mapM_cons, List.mapM_nil]
  cases ares st.env st.h r with
  | none => rfl
  | some x => cases ares st.env st.h s <;> rfl
theorem res_slot (env : AEnv) (h : List ARow) (n : Nat) : ares env h (.slot n) = look env n := rfl
theorem wrap_in (n : Int) (h1 : -9223372036854775808 ≤ n) (h2 : n ≤ 9223372036854775807) : IntKind.i64.wrap n = n := Go.IntWalk.i64_in n ⟨h1, h2⟩
end Go.Proofs.Ytfnonledcniojaa
/- How the small machine's values stand for the program's values in a world. Conditions: none. -/
namespace Go.Proofs.Ytfnonledcniojaa
open Go Go.RowKit

/-- Which blocks are to bear no frozen cell. -/
class FrB where
  fr : Nat → Prop
/-- No cell of the block is frozen. -/
def Thawed (w : World) (b : Nat) : Prop := ∀ arr ty lo hi, w.heap[b]? = some (.cells arr ty (lo, hi)) → ∀ j, j < arr.size → ¬ (lo ≤ j ∧ j < hi)
theorem Thawed.of_block {w w' : World} {b : Nat} (h : Thawed w b) (e : w'.heap[b]? = w.heap[b]?) : Thawed w' b := fun arr ty lo hi hb => h arr ty lo hi (e ▸ hb)
variable [FrB]
/-- What may be kept: it hangs on no row of the call's own, and lies in no block of X. -/
inductive RepS (w : World) (X : Nat → Prop) : AV → Value → Prop
  | int (k : IntKind) (n : Int) : RepS w X (.int k n) (.int k n)
  | bool (b : Bool) : RepS w X (.bool b) (.bool b)
  | str (s : ByteArray) : RepS w X (.str s) (.string s)
  | nilfn : RepS w X .nilfn .nilFunc
  | nilptr : RepS w X .nilptr (.pointer none)
  | agg (cs : List AV) (vs : List Value) : cs.length = vs.length → (∀ v ∈ vs, v.oneCell' = true) → (∀ (i : Nat) c v, cs[i]? = some c → vs[i]? = some v → RepS w X c v) → RepS w X (.agg cs) (.agg vs.toArray)
  | tup (cs : List AV) (vs : List Value) : cs.length = vs.length → (∀ (i : Nat) c v, cs[i]? = some c → vs[i]? = some v → RepS w X c v) → RepS w X (.tup cs) (.tuple vs.toArray)
  | fn (f : Fn) (as bs : List AV) (xs ys : List Value) : as.length = xs.length → bs.length = ys.length → (∀ (i : Nat) c v, as[i]? = some c → xs[i]? = some v → RepS w X c v) →
      (∀ (i : Nat) c v, bs[i]? = some c → ys[i]? = some v → RepS w X c v) → RepS w X (.fn f as bs) (.func f xs.toArray ys.toArray)
  | data0 (k : Nat) (full : Bool) (a : Option Addr) (cap : Nat) : (full = true → cap = 0) → RepS w X (.data false k [] full) (.slice a 0 cap)
  | data (k : Nat) (es : List (List AV)) (full : Bool) (b off cap : Nat) (val : Nat → Nat → Value) : es.length ≤ cap → (full = true → cap = es.length) → (∀ g ∈ es, g.length = k) → ¬ X b → b < w.heap.size →
      (∀ (e j : Nat), e < es.length → j < k → w.cell? ⟨b, off + (e * k + j), none⟩ = some (val e j) ∧ (val e j).oneCell' = true) →
      (∀ (e j : Nat) g c, es[e]? = some g → g[j]? = some c → RepS w X c (val e j)) → (FrB.fr b → Thawed w b) → RepS w X (.data false k es full) (.slice (some ⟨b, off, none⟩) es.length cap)
theorem RepS.mono {w : World} {X : Nat → Prop} {X' : Nat → Prop} {v : AV} {x : Value} (h : RepS w X v x) (hx : ∀ b, X' b → X b) : RepS w X' v x := by
  induction h with
  | int k n => exact .int k n
  | bool b => exact .bool b
  | str s => exact .str s
  | nilfn => exact .nilfn
  | nilptr => exact .nilptr
  | agg cs vs hl h1 _ ih => exact .agg cs vs hl h1 ih
  | tup cs vs hl _ ih => exact .tup cs vs hl ih
  | fn f as bs xs ys h1 h2 _ _ i1 i2 => exact .fn f as bs xs ys h1 h2 i1 i2
  | data0 k full a cap hf => exact .data0 k full a cap hf
  | data k es full b off cap val h1 h2 h3 hX hb hc _ ht ih => exact .data k es full b off cap val h1 h2 h3 (fun h => hX (hx b h)) hb hc ih ht
/-- A cell of what was lent. -/
inductive RepB (w : World) (S O : Nat → Prop) : AV → Value → Prop
  | s {v : AV} {x : Value} : RepS w (fun b => S b ∨ O b) v x → RepB w S O v x
  | bor0 (k : Nat) (full : Bool) (a : Option Addr) (cap : Nat) : (full = true → cap = 0) → RepB w S O (.data true k [] full) (.slice a 0 cap)
  | bor (k : Nat) (es : List (List AV)) (full : Bool) (b off cap : Nat) (val : Nat → Nat → Value) : es.length ≤ cap → (full = true → cap = es.length) → (∀ g ∈ es, g.length = k) → ¬ O b → b < w.heap.size →
      (∀ (e j : Nat), e < es.length → j < k → w.cell? ⟨b, off + (e * k + j), none⟩ = some (val e j) ∧ (val e j).oneCell' = true) →
      (∀ (e j : Nat) g c, es[e]? = some g → g[j]? = some c → RepS w (fun b => False ∨ O b) c (val e j)) → RepB w S O (.data true k es full) (.slice (some ⟨b, off, none⟩) es.length cap)
  | unk (x : Value) : RepB w S O .unk x
theorem RepB.imp {w : World} {S O S2 O2 : Nat → Prop} {v : AV} {x : Value} (h : RepB w S O v x) (hX : ∀ b, S2 b ∨ O2 b → S b ∨ O b) (hO : ∀ b, O2 b → O b) : RepB w S2 O2 v x := by
  cases h with
  | s h => exact .s (h.mono hX)
  | bor0 k full a cap hf => exact .bor0 k full a cap hf
  | bor k es full b off cap val h1 h2 h3 h4 h5 h6 h7 => exact .bor k es full b off cap val h1 h2 h3 (fun h => h4 (hO b h)) h5 h6 fun e j g c hg hc => (h7 e j g c hg hc).mono fun b hb => hb.imp id (hO b)
  | unk x => exact .unk x

/-- Where a row lies: its block, its first cell there, an element's cells, how many elements there is room for. -/
structure Pl where
  b : Nat
  base : Nat
  k : Nat
  lim : Nat
abbrev Rho := Nat → Option (Nat × Option Pl)

inductive RepV (ρ : Rho) (w : World) (S O : Nat → Prop) : AV → Value → Prop
  | s {v : AV} {x : Value} : RepS w (fun b => S b ∨ O b) v x → RepV ρ w S O v x
  | agg (cs : List AV) (vs : List Value) : cs.length = vs.length → (∀ v ∈ vs, v.oneCell' = true) → (∀ (i : Nat) c v, cs[i]? = some c → vs[i]? = some v → RepV ρ w S O c v) → RepV ρ w S O (.agg cs) (.agg vs.toArray)
  | tup (cs : List AV) (vs : List Value) : cs.length = vs.length → (∀ (i : Nat) c v, cs[i]? = some c → vs[i]? = some v → RepV ρ w S O c v) → RepV ρ w S O (.tup cs) (.tuple vs.toArray)
  | fn (f : Fn) (as bs : List AV) (xs ys : List Value) : as.length = xs.length → bs.length = ys.length → (∀ (i : Nat) c v, as[i]? = some c → xs[i]? = some v → RepV ρ w S O c v) →
      (∀ (i : Nat) c v, bs[i]? = some c → ys[i]? = some v → RepV ρ w S O c v) → RepV ρ w S O (.fn f as bs) (.func f xs.toArray ys.toArray)
  | bor0 (k : Nat) (full : Bool) (a : Option Addr) (cap : Nat) : (full = true → cap = 0) → RepV ρ w S O (.data true k [] full) (.slice a 0 cap)
  | bor (k : Nat) (es : List (List AV)) (full : Bool) (b off cap : Nat) (val : Nat → Nat → Value) : es.length ≤ cap → (full = true → cap = es.length) → (∀ g ∈ es, g.length = k) → ¬ O b → b < w.heap.size →
      (∀ (e j : Nat), e < es.length → j < k → w.cell? ⟨b, off + (e * k + j), none⟩ = some (val e j) ∧ (val e j).oneCell' = true) →
      (∀ (e j : Nat) g c, es[e]? = some g → g[j]? = some c → RepS w (fun b => False ∨ O b) c (val e j)) → RepV ρ w S O (.data true k es full) (.slice (some ⟨b, off, none⟩) es.length cap)
  | dptr (cs : List AV) (b off : Nat) (val : Nat → Value) : ¬ O b → b < w.heap.size → (∀ j, j < cs.length → w.cell? ⟨b, off + j, none⟩ = some (val j) ∧ (val j).oneCell' = true) →
      (∀ (j : Nat) c, cs[j]? = some c → RepB w S O c (val j)) → RepV ρ w S O (.dptr cs) (.pointer (some ⟨b, off, none⟩))
  | own (id g g' : Nat) (pl : Option Pl) (s l c : Nat) (a : Option Addr) (cap : Nat) : ρ id = some (g', pl) → g ≤ g' → l ≤ cap → c ≤ cap → (0 < cap → a.isSome = true) →
      (g = g' → cap = 0 ∨ ∃ p, pl = some p ∧ a = some ⟨p.b, p.base + s * p.k, none⟩ ∧ s + cap ≤ p.lim) → RepV ρ w S O (.own id g s l c) (.slice a l cap)
  | ptr (id g g' : Nat) (pl : Option Pl) (e off : Nat) (a : Addr) : ρ id = some (g', pl) → g ≤ g' → (g = g' → ∃ p, pl = some p ∧ a = ⟨p.b, p.base + e * p.k + off, none⟩) → RepV ρ w S O (.ptr id g e off) (.pointer (some a))
  | unk (x : Value) : RepV ρ w S O .unk x

/-- No cell of a block is frozen; a mark behind its last cell may lie there where its elements are bytes or such. -/
def Froz (k lo hi n : Nat) : Prop := lo ≤ hi ∧ (∀ j, j < n → ¬ (lo ≤ j ∧ j < hi)) ∧ (k ≠ 1 → lo = hi)
/-- What a row's cells hold. -/
structure RowRep (ρ : Rho) (w : World) (S O : Nat → Prop) (r : ARow) (p : Pl) : Prop where
  k : p.k = r.k
  lim : r.es.length ≤ p.lim
  own : O p.b
  len : ∀ g ∈ r.es, g.length = r.k
  block : ∃ arr ty lo hi, w.heap[p.b]? = some (.cells arr ty (lo, hi)) ∧ p.base + p.lim * p.k ≤ arr.size ∧ Froz r.k lo hi arr.size ∧
    ∀ (e j : Nat) g c, r.es[e]? = some g → g[j]? = some c → ∃ x, arr[p.base + e * p.k + j]? = some x ∧ x.oneCell' = true ∧ RepV ρ w S O c x ∧ (r.flat = true → RepS w (fun b => S b ∨ O b) c x)

def RowIs (ρ : Rho) (w : World) (S O : Nat → Prop) (r : ARow) : Option Pl → Prop
  | none => r.es = []
  | some p => RowRep ρ w S O r p

/-- The rows that have a place are as told. -/
structure Heap (ρ : Rho) (w : World) (S O : Nat → Prop) (h : List ARow) : Prop where
  row : ∀ (id g : Nat) pl, ρ id = some (g, pl) → ∃ r, h[id]? = some r ∧ r.gen = g ∧ RowIs ρ w S O r pl
  inj : ∀ (id id' g g' : Nat) p p', ρ id = some (g, some p) → ρ id' = some (g', some p') → p.b = p'.b → id = id'
  bd : ∀ b, S b ∨ O b → b < w.heap.size
  dis : ∀ b, O b → ¬ S b

/-- The world goes on: what is not the call's own stays. -/
structure AdvW (w : World) (O : Nat → Prop) (w' : World) (O' : Nat → Prop) : Prop where
  os : w'.os = w.os
  tape : w'.tape = w.tape
  output : w'.output = w.output
  size : w.heap.size ≤ w'.heap.size
  same : ∀ b, b < w.heap.size → ¬ O b → w'.heap[b]? = w.heap[b]?
  grow : ∀ b, O b → O' b
  new : ∀ b, O' b → O b ∨ w.heap.size ≤ b
/-- The world goes on; blocks may stop being the call's own. -/
structure AdvX (w : World) (O : Nat → Prop) (w' : World) (O' : Nat → Prop) : Prop where
  os : w'.os = w.os
  tape : w'.tape = w.tape
  output : w'.output = w.output
  size : w.heap.size ≤ w'.heap.size
  same : ∀ b, b < w.heap.size → ¬ O b → w'.heap[b]? = w.heap[b]?
  new : ∀ b, O' b → O b ∨ w.heap.size ≤ b
theorem AdvW.x {w w' : World} {O O' : Nat → Prop} (a : AdvW w O w' O') : AdvX w O w' O' := ⟨a.os, a.tape, a.output, a.size, a.same, a.new⟩
theorem AdvX.refl (w : World) (O : Nat → Prop) : AdvX w O w O := ⟨rfl, rfl, rfl, Nat.le_refl _, fun _ _ _ => rfl, fun _ h => .inl h⟩
theorem AdvX.trans {w w' w'' : World} {O O' O'' : Nat → Prop} (h : AdvX w O w' O') (k : AdvX w' O' w'' O'') : AdvX w O w'' O'' :=
  ⟨k.os.trans h.os, k.tape.trans h.tape, k.output.trans h.output, Nat.le_trans h.size k.size,
   fun b hb hO => (k.same b (Nat.lt_of_lt_of_le hb h.size) (fun hO' => (h.new b hO').elim hO (fun hs => by omega))).trans (h.same b hb hO),
   fun b hb => (k.new b hb).elim (fun h1 => h.new b h1) (fun h1 => .inr (Nat.le_trans h.size h1))⟩
def Ext (ρ ρ' : Rho) : Prop := ∀ (id g : Nat) pl, ρ id = some (g, pl) → ∃ g' pl', ρ' id = some (g', pl') ∧ g ≤ g' ∧ (g = g' → pl = pl')

theorem AdvW.refl (w : World) (O : Nat → Prop) : AdvW w O w O := ⟨rfl, rfl, rfl, Nat.le_refl _, fun _ _ _ => rfl, fun _ h => h, fun _ h => .inl h⟩
theorem AdvW.trans {w w' w'' : World} {O O' O'' : Nat → Prop} (h : AdvW w O w' O') (k : AdvW w' O' w'' O'') : AdvW w O w'' O'' :=
  ⟨k.os.trans h.os, k.tape.trans h.tape, k.output.trans h.output, Nat.le_trans h.size k.size,
   fun b hb hO => (k.same b (Nat.lt_of_lt_of_le hb h.size) (fun hO' => (h.new b hO').elim hO (fun hs => by omega))).trans (h.same b hb hO),
   fun b hb => k.grow b (h.grow b hb), fun b hb => (k.new b hb).elim (fun h1 => h.new b h1) (fun h1 => .inr (Nat.le_trans h.size h1))⟩
theorem AdvW.drew (w : World) (O : Nat → Prop) : AdvW w O w.drew O := ⟨rfl, rfl, rfl, Nat.le_refl _, fun _ _ _ => rfl, fun _ h => h, fun _ h => .inl h⟩
theorem Ext.refl (ρ : Rho) : Ext ρ ρ := fun _ g pl h => ⟨g, pl, h, Nat.le_refl _, fun _ => rfl⟩
theorem Ext.trans {ρ ρ' ρ'' : Rho} (h : Ext ρ ρ') (k : Ext ρ' ρ'') : Ext ρ ρ'' := fun id g pl h0 => by
  obtain ⟨g1, p1, h1, l1, e1⟩ := h id g pl h0
  obtain ⟨g2, p2, h2, l2, e2⟩ := k id g1 p1 h1
  exact ⟨g2, p2, h2, Nat.le_trans l1 l2, fun e => by
    have a : g = g1 := by omega
    exact (e1 a).trans (e2 (by omega))⟩

theorem RepS.advX {w w' : World} {S O O' : Nat → Prop} {v : AV} {x : Value} (h : RepS w (fun b => S b ∨ O b) v x) (a : AdvX w O w' O') : RepS w' (fun b => S b ∨ O' b) v x := by
  induction h with
  | int k n => exact .int k n
  | bool b => exact .bool b
  | str s => exact .str s
  | nilfn => exact .nilfn
  | nilptr => exact .nilptr
  | agg cs vs hl h1 _ ih => exact .agg cs vs hl h1 ih
  | tup cs vs hl _ ih => exact .tup cs vs hl ih
  | fn f as bs xs ys h1 h2 _ _ i1 i2 => exact .fn f as bs xs ys h1 h2 i1 i2
  | data0 k full a cap hf => exact .data0 k full a cap hf
  | data k es full b off cap val h1 h2 h3 hX hb hc _ ht ih =>
    have hO : ¬ O b := fun h => hX (.inr h)
    refine .data k es full b off cap val h1 h2 h3 (fun h => ?_) (Nat.lt_of_lt_of_le hb a.size) (fun e j he hj => ?_) ih (fun hf => (ht hf).of_block (a.same b hb hO))
    · rcases h with h | h
      · exact hX (.inl h)
      · rcases a.new b h with h | h
        · exact hO h
        · omega
    · rw [World.cell?_of_block (w := w) (a.same b hb hO)]; exact hc e j he hj
theorem RepS.adv {w w' : World} {S O O' : Nat → Prop} {v : AV} {x : Value} (h : RepS w (fun b => S b ∨ O b) v x) (a : AdvW w O w' O') : RepS w' (fun b => S b ∨ O' b) v x := h.advX a.x
theorem RepB.advX {w w' : World} {S O O' : Nat → Prop} {v : AV} {x : Value} (h : RepB w S O v x) (a : AdvX w O w' O') : RepB w' S O' v x := by
  have nO : ∀ b, b < w.heap.size → ¬ O b → ¬ O' b := fun b hb hO h => (a.new b h).elim hO (fun h => by omega)
  cases h with
  | s h => exact .s (h.advX a)
  | bor0 k full ad cap hf => exact .bor0 k full ad cap hf
  | bor k es full b off cap val h1 h2 h3 hO hb hc hr =>
    refine .bor k es full b off cap val h1 h2 h3 (nO b hb hO) (Nat.lt_of_lt_of_le hb a.size) (fun e j he hj => ?_) fun e j g c hg hc => (hr e j g c hg hc).advX a
    rw [World.cell?_of_block (w := w) (a.same b hb hO)]; exact hc e j he hj
  | unk x => exact .unk x
theorem RepB.v {ρ : Rho} {w : World} {S O : Nat → Prop} {v : AV} {x : Value} (h : RepB w S O v x) : RepV ρ w S O v x := by
  cases h with
  | s h => exact .s h
  | bor0 k full a cap hf => exact .bor0 k full a cap hf
  | bor k es full b off cap val h1 h2 h3 h4 h5 h6 h7 => exact .bor k es full b off cap val h1 h2 h3 h4 h5 h6 h7
  | unk x => exact .unk x
theorem RepV.advX {ρ ρ' : Rho} {w w' : World} {S O O' : Nat → Prop} {v : AV} {x : Value} (h : RepV ρ w S O v x) (e : Ext ρ ρ') (a : AdvX w O w' O') : RepV ρ' w' S O' v x := by
  have nO : ∀ b, b < w.heap.size → ¬ O b → ¬ O' b := fun b hb hO h => (a.new b h).elim hO (fun h => by omega)
  induction h with
  | s h => exact .s (h.advX a)
  | agg cs vs hl h1 _ ih => exact .agg cs vs hl h1 ih
  | tup cs vs hl _ ih => exact .tup cs vs hl ih
  | fn f as bs xs ys h1 h2 _ _ i1 i2 => exact .fn f as bs xs ys h1 h2 i1 i2
  | bor0 k full a cap hf => exact .bor0 k full a cap hf
  | bor k es full b off cap val h1 h2 h3 hO hb hc hr =>
    refine .bor k es full b off cap val h1 h2 h3 (nO b hb hO) (Nat.lt_of_lt_of_le hb a.size) (fun e j he hj => ?_) fun e j g c hg hc => (hr e j g c hg hc).advX a
    rw [World.cell?_of_block (w := w) (a.same b hb hO)]; exact hc e j he hj
  | dptr cs b off val hO hb hc hr =>
    refine .dptr cs b off val (nO b hb hO) (Nat.lt_of_lt_of_le hb a.size) (fun j hj => ?_) fun j c hj => (hr j c hj).advX a
    rw [World.cell?_of_block (w := w) (a.same b hb hO)]; exact hc j hj
  | own id g g' pl s l c ad cap h1 h2 h3 hc h4 h5 =>
    obtain ⟨g1, p1, e1, l1, q1⟩ := e id g' pl h1
    exact .own id g g1 p1 s l c ad cap e1 (by omega) h3 hc h4 (fun eq => by
      have a1 : g' = g1 := by omega
      have a2 : g = g' := by omega
      rw [← q1 a1]; exact h5 a2)
  | ptr id g g' pl e0 off ad h1 h2 h3 =>
    obtain ⟨g1, p1, e1, l1, q1⟩ := e id g' pl h1
    exact .ptr id g g1 p1 e0 off ad e1 (by omega) (fun eq => by
      have a1 : g' = g1 := by omega
      have a2 : g = g' := by omega
      rw [← q1 a1]; exact h3 a2)
  | unk x => exact .unk x
theorem RepV.adv {ρ ρ' : Rho} {w w' : World} {S O O' : Nat → Prop} {v : AV} {x : Value} (h : RepV ρ w S O v x) (e : Ext ρ ρ') (a : AdvW w O w' O') : RepV ρ' w' S O' v x := h.advX e a.x
end Go.Proofs.Ytfnonledcniojaa
/- Does an operation of the small machine stand for an operation of the program? A check that is reckoned. Conditions: none. -/
namespace Go.Proofs.Ytfnonledcniojaa
open Go Go.RowKit

def chkConst : Value → AV → Bool
  | .int k n, .int k' n' => k == k' && n == n'
  | .bool b, .bool b' => b == b'
  | .string s, .str t => s.data == t.data
  | .nilFunc, .nilfn => true
  | .pointer none, .nilptr => true
  | .slice none 0 0, .data false _ [] _ => true
  | _, _ => false
def chkConsts : List Value → List AV → Bool
  | [], [] => true
  | v :: vs, c :: cs => chkConst v c && chkConsts vs cs
  | _, _ => false
def chkOpd : Operand → AOpd → Bool
  | .tmp t, .slot n => t == n
  | .const v, .const c => chkConst v c
  | .global g, .glob g' => g == g'
  | .func f, .func f' => f == f'
  | _, _ => false
def chkOpds : List Operand → List AOpd → Bool
  | [], [] => true
  | x :: xs, a :: as => chkOpd x a && chkOpds xs as
  | _, _ => false
def chkOpt : Option Operand → Option AOpd → Bool
  | none, none => true
  | some x, some a => chkOpd x a
  | _, _ => false

section
variable (P : Program)
def sizeIs (t : TypeId) (n : Nat) : Bool := match P.info? t with
  | some i => i.size == n
  | none => false
def zeroIs (t : TypeId) (zs : List AV) : Bool := match P.info? t with
  | some i => (match i.zero with | some z => chkConsts z.cells.toList zs | none => false)
  | none => false
def isAggB (t : TypeId) : Option Bool := match P.underlying t with
  | some (.struct _) | some (.array _ _) => some true
  | some _ => some false
  | none => none
def chkParts (place : Nat → Option (Nat × Nat)) : List (Nat × Operand) → List (Nat × Nat × AOpd) → Bool
  | [], [] => true
  | (i, x) :: ps, (off, m, a) :: as => place i == some (off, m) && chkOpd x a && chkParts place ps as
  | _, _ => false
def chkParts2 : List (Nat × Operand) → List (Nat × AOpd) → Bool
  | [], [] => true
  | (i, x) :: ps, (j, a) :: as => i == j && chkOpd x a && chkParts2 ps as
  | _, _ => false
def shFields (rec : TypeId → Option (List Sh)) (off : Nat) : List Field → Option (List Sh)
  | [] => some []
  | f :: fs => (rec f.type).bind fun sh => if f.offset == off && f.name != "_" && sizeIs P f.type sh.length then (shFields rec (off + sh.length) fs).map (sh ++ ·) else none
/-- Types whose values are the same where all cells are: the cells' kinds. -/
def flatSh : Nat → TypeId → Option (List Sh)
  | 0, _ => none
  | d + 1, t => match P.underlying t with
    | some .bool => if sizeIs P t 1 then some [.kb] else none
    | some (.int _) => if sizeIs P t 1 then some [.ki] else none
    | some .string => if sizeIs P t 1 then some [.ks] else none
    | some (.struct fs) => if P.stoodInHeld t then none else shFields P (flatSh d) 0 fs.toList
    | some (.array n e) => (flatSh d e).bind fun sh => if sizeIs P e sh.length && sizeIs P t (n * sh.length) then some (List.replicate n sh).flatten else none
    | _ => none
def isU8 (t : TypeId) : Bool := match P.underlying t with
  | some (.int .u8) => true
  | _ => false
def isSl : Option TypeDesc → Bool
  | some (.slice _) => true
  | _ => false

def nilSide (k : NilK) (d : Option TypeDesc) (x y : Operand) (a : AOpd) : Bool :=
  match k, d with
  | .kf, some (.func ..) => (match y with | .const .nilFunc => chkOpd x a | _ => false) || (match x with | .const .nilFunc => chkOpd y a | _ => false)
  | .kp, some (.pointer _) => (match y with | .const (.pointer none) => chkOpd x a | _ => false) || (match x with | .const (.pointer none) => chkOpd y a | _ => false)
  | .ks, some (.slice _) => (match y with | .const (.slice none _ _) => chkOpd x a | _ => false) || (match x with | .const (.slice none _ _) => chkOpd y a | _ => false)
  | _, _ => false
def chkOp (o : Op) : AOp → Bool
  | .mov a => match o with
    | .move x | .assign x => chkOpd x a
    | _ => false
  | .mknil _ => match o with
    | .move (.const (.slice none 0 0)) | .assign (.const (.slice none 0 0)) => true
    | _ => false
  | .pick c a b => match o with
    | .pick c' a' b' => chkOpd c' c && chkOpd a' a && chkOpd b' b
    | _ => false
  | .alloc zero => match o with
    | .alloc t => zeroIs P t zero
    | _ => false
  | .box _ a => match o with
    | .box _ x => chkOpd x a
    | _ => false
  | .build zero ps => match o with
    | .build t parts => zeroIs P t zero && (match P.underlying t with
      | some (.struct fs) => fs.all (fun f => (P.info? f.type).isSome) && chkParts (fun i => (fs[i]?).map fun f => (f.offset, P.cellsOf f.type)) parts.toList ps
      | some (.array _ e) => (P.info? e).isSome && chkParts (fun i => some (i * P.cellsOf e, P.cellsOf e)) parts.toList ps
      | _ => false)
    | _ => false
  | .mkslice k n zero ps | .mkdata k n zero ps => match o with
    | .buildSlice t n' parts => n == n' && decide (n * k ≤ 16777216) && (match P.underlying t with
      | some (.slice e) => sizeIs P e k && zeroIs P e zero && zero.length == k && chkParts2 parts.toList ps
      | _ => false)
    | _ => false
  | .load agg m a => match o with
    | .load t x => chkOpd x a && isAggB P t == some agg && sizeIs P t m
    | _ => false
  | .store agg m p a => match o with
    | .store t p' x => chkOpd p' p && chkOpd x a && sizeIs P t m && (agg || m == 1)
    | _ => false
  | .nilchk a => match o with
    | .nilCheck x => chkOpd x a
    | _ => false
  | .bin op a b => match o with
    | .binOp op' _ x y _ => op == op' && chkOpd x a && chkOpd y b
    | _ => false
  | .eq agg sh neg a b => match o with
    | .binOp op t x y _ => (op == if neg then .neq else .eql) && chkOpd x a && chkOpd y b && flatSh P 20 t == some sh && isAggB P t == some agg && !P.eqGuardType P.depth t
    | _ => false
  | .isnil k neg a => match o with
    | .binOp op t x y _ => (op == if neg then .neq else .eql) && nilSide k (P.underlying t) x y a
    | _ => false
  | .not a => match o with
    | .unOp .not _ x => chkOpd x a
    | _ => false
  | .neg a => match o with
    | .unOp .neg _ x => chkOpd x a
    | _ => false
  | .conv k a => match o with
    | .convert s d x => chkOpd x a && (P.underlying s).isSome && (match P.underlying d with | some (.int k') => k == k' | _ => false)
    | _ => false
  | .rstr a => match o with
    | .convert s d x => chkOpd x a && (P.underlying s).isSome && (match P.underlying d with | some .string => true | _ => false)
    | _ => false
  | .cvs a => match o with
    | .convert s d x => chkOpd x a && (P.underlying s).isSome && (match P.underlying d with | some .string => true | _ => false)
    | _ => false
  | .bstr a => match o with
    | .convert s d x => chkOpd x a && (match P.underlying s with | some (.slice e) => isU8 P e | _ => false) && (match P.underlying d with | some .string => true | _ => false)
    | _ => false
  | .strb a => match o with
    | .convert s d x => chkOpd x a && (P.underlying s).isSome && (match P.underlying d with | some (.slice e) => isU8 P e && sizeIs P e 1 | _ => false)
    | _ => false
  | .melt a => match o with
    | .move x | .assign x => chkOpd x a
    | _ => false
  | .idxd k a i => match o with
    | .indexAddr t x j => chkOpd x a && chkOpd j i && (match P.underlying t with
      | some (.slice e) => sizeIs P e k
      | _ => false)
    | _ => false
  | .loadd agg m a => match o with
    | .load t x => chkOpd x a && isAggB P t == some agg && sizeIs P t m
    | _ => false
  | .mark a => match o with
    | .convert s d x => chkOpd x a && s == d && (match P.underlying d with | some (.slice e) => isU8 P e | _ => false)
    | _ => false
  | .mkfn f first caps => match o with
    | .makeFunc f' first' caps' => f == f' && chkOpds first'.toList first && chkOpds caps'.toList caps
    | _ => false
  | .mkrow k bytes zero l c => match o with
    | .makeSlice t l' c' => chkOpd l' l && chkOpd c' c && (match P.underlying t with
      | some (.slice e) => sizeIs P e k && zeroIs P e zero && decide (0 < k) && decide (0 < bytes) && (match P.info? e with | some i => i.bytes == bytes | none => false)
      | _ => false)
    | _ => false
  | .sl k a lo hi mx => match o with
    | .slice t x lo' hi' mx' => chkOpd x a && chkOpt lo' lo && chkOpt hi' hi && chkOpt mx' mx && (!mx.isSome || hi.isSome) && (match P.underlying t with
      | some (.slice e) => sizeIs P e k
      | _ => false)
    | _ => false
  | .slstr a lo hi => match o with
    | .slice t x lo' hi' mx' => chkOpd x a && chkOpt lo' lo && chkOpt hi' hi && mx'.isNone && (match P.underlying t with
      | some .string => true
      | _ => false)
    | _ => false
  | .faddr off a => match o with
    | .fieldAddr s x f => chkOpd x a && (match P.underlying s with
      | some (.struct fs) => (match fs[f]? with | some fd => fd.offset == off && (match P.info? fd.type with | some i => i.size != 0 | none => false) | none => false)
      | _ => false)
    | _ => false
  | .field agg m off a => match o with
    | .field s x f => chkOpd x a && (match P.underlying s with
      | some (.struct fs) => (match fs[f]? with | some fd => fd.offset == off && isAggB P fd.type == some agg && sizeIs P fd.type m | none => false)
      | _ => false)
    | _ => false
  | .idx k a i => match o with
    | .indexAddr t x j => chkOpd x a && chkOpd j i && (match P.underlying t with
      | some (.slice e) => sizeIs P e k
      | _ => false)
    | _ => false
  | .idxarr k n a i => match o with
    | .indexAddr t x j => chkOpd x a && chkOpd j i && (match P.underlying t with
      | some (.array n' e) => n == n' && sizeIs P e k
      | _ => false)
    | _ => false
  | .idxv agg m n a i => match o with
    | .index t x j => chkOpd x a && chkOpd j i && (match P.underlying t with
      | some (.array n' e) => n == n' && sizeIs P e m && isAggB P e == some agg
      | _ => false)
    | _ => false
  | .idxs a i => match o with
    | .index t x j => chkOpd x a && chkOpd j i && (match P.underlying t with
      | some .string => true
      | _ => false)
    | _ => false
  | .extract i a => match o with
    | .extract x j => chkOpd x a && i == j
    | _ => false
  | .len isStr a => match o with
    | .call ⟨.builtin .len, args, ts⟩ => (match args.toList, ts.toList with
      | [x], [t] => chkOpd x a && (match P.underlying t with | some .string => isStr | some (.slice _) => !isStr | _ => false)
      | _, _ => false)
    | _ => false
  | .lenarr n => match o with
    | .call ⟨.builtin .len, args, ts⟩ => (match args.toList, ts.toList with
      | [_], [t] => (match P.underlying t with
        | some (.array n' _) => n == n'
        | some (.pointer a) => (match P.underlying a with | some (.array n' _) => n == n' | _ => false)
        | _ => false)
      | _, _ => false)
    | _ => false
  | .append k bytes a b | .appendD k bytes a b => match o with
    | .call ⟨.builtin .append, args, ts⟩ => (match args.toList, ts.toList with
      | [x, y], [t, u] => chkOpd x a && chkOpd y b && isSl (P.underlying u) && (match P.underlying t with
        | some (.slice e) => (match P.info? e with | some i => i.size == k && i.bytes == bytes && decide (0 < k) && decide (0 < bytes) && (match i.zero with | some z => z.cells.size == k | none => false) | none => false)
        | _ => false)
      | _, _ => false)
    | _ => false
  | .copy k a b => match o with
    | .call ⟨.builtin .copy, args, ts⟩ => (match args.toList, ts.toList with
      | [x, y], t :: _ => chkOpd x a && chkOpd y b && (match P.underlying t with | some (.slice e) => sizeIs P e k | _ => false)
      | _, _ => false)
    | _ => false
  | .clear zero a => match o with
    | .call ⟨.builtin .clear, args, ts⟩ => (match args.toList, ts.toList with
      | [x], [t] => chkOpd x a && (match P.underlying t with | some (.slice e) => zeroIs P e zero | _ => false)
      | _, _ => false)
    | _ => false
  | .max a b => match o with
    | .call ⟨.builtin .max, args, _⟩ => (match args.toList with
      | [x, y] => chkOpd x a && chkOpd y b
      | _ => false)
    | _ => false
  | .min a b => match o with
    | .call ⟨.builtin .min, args, _⟩ => (match args.toList with
      | [x, y] => chkOpd x a && chkOpd y b
      | _ => false)
    | _ => false
  | .call _ f args => match o with
    | .call ⟨.value (.func f'), args', _⟩ => f == f' && chkOpds args'.toList args
    | _ => false
  | .callv a args => match o with
    | .call ⟨.value x, args', _⟩ => chkOpd x a && chkOpds args'.toList args
    | _ => false

/-! ### Orders: which operations may come up in either order -/
/-- Looks at no row; changes no row; may change rows. -/
inductive ACls where
  | free | new | change
  deriving DecidableEq
def AOp.cls : AOp → ACls
  | .mov _ | .pick .. | .build .. | .nilchk _ | .bin .. | .eq .. | .isnil .. | .not _ | .neg _ | .conv .. | .rstr _ | .cvs _ | .mkfn .. | .sl .. | .slstr .. | .faddr .. | .field .. | .idxarr .. | .idxv .. | .idxs .. | .extract .. | .len .. | .lenarr _ | .max .. | .min .. | .idxd .. | .loadd .. => .free
  | .mknil _ | .alloc _ | .box .. | .mkslice .. | .mkdata .. | .load .. | .bstr _ | .strb _ | .mkrow .. | .idx .. | .appendD .. | .call .frz _ _ | .call .adp _ _ => .new
  | .store .. | .append .. | .copy .. | .clear .. | .mark _ | .melt _ | .call .inl _ _ | .call .iso _ _ | .call .pk _ _ | .callv .. => .change
def ACls.clash (a b : ACls) : Bool := (a == .change && b != .free) || (b == .change && a != .free)
def AOpd.slots : AOpd → List Nat
  | .slot n => [n]
  | _ => []
def optSlots : Option AOpd → List Nat
  | some a => a.slots
  | none => []
def AOp.slots : AOp → List Nat
  | .mknil _ | .alloc _ | .lenarr _ => []
  | .mov a | .box _ a | .load _ _ a | .loadd _ _ a | .melt a | .nilchk a | .isnil _ _ a | .not a | .neg a | .conv _ a | .rstr a | .bstr a | .strb a | .mark a | .cvs a | .faddr _ a | .field _ _ _ a | .extract _ a | .len _ a | .clear _ a => a.slots
  | .pick c a b => c.slots ++ a.slots ++ b.slots
  | .build _ ps => ps.flatMap (·.2.2.slots)
  | .mkslice _ _ _ ps | .mkdata _ _ _ ps => ps.flatMap (·.2.slots)
  | .store _ _ a b | .bin _ a b | .eq _ _ _ a b | .mkrow _ _ _ a b | .idx _ a b | .idxd _ a b | .idxarr _ _ a b | .idxv _ _ _ a b | .idxs a b | .append _ _ a b | .appendD _ _ a b | .copy _ a b | .max a b | .min a b => a.slots ++ b.slots
  | .mkfn _ a b => a.flatMap AOpd.slots ++ b.flatMap AOpd.slots
  | .sl _ a lo hi mx => a.slots ++ optSlots lo ++ optSlots hi ++ optSlots mx
  | .slstr a lo hi => a.slots ++ optSlots lo ++ optSlots hi
  | .call _ _ args => args.flatMap AOpd.slots
  | .callv a args => a.slots ++ args.flatMap AOpd.slots
def AOper.reads (o : AOper) : List Nat := (match o.guard with | some (s, _) => [s] | none => []) ++ o.op.slots
/-- An operation's class; one that is told to be quiet counts as free. -/
def qc (qs : List Nat) (k : Nat) (o : AOper) : ACls := if qs.contains k = true then .free else o.op.cls
/-- Two operations that must come up in the order told. -/
def clashQ (qs : List Nat) (i : Nat) (x : AOper) (j : Nat) (y : AOper) : Bool :=
  (if qs.contains i = true then false else if qs.contains j = true then y.op.early && x.op.cls == .change else x.op.cls.clash y.op.cls) ||
  (match x.dst with | some d => y.reads.contains d || y.dst == some d | none => false) ||
  (match y.dst with | some d => x.reads.contains d | none => false)
/-- What must be done ahead of an operation, as bits. -/
def beforeOf (acc : List Nat) (o : Oper) : Nat := (o.after.toList.filter (Region.binds .any)).foldl (fun s e => s ||| (2 ^ e.on ||| acc.getD e.on 0)) 0
def befores : List Oper → List Nat → List Nat
  | [], acc => acc
  | o :: os, acc => befores os (acc ++ [beforeOf acc o])
def chkClash (pm : Nat → Nat) (qs bs : List Nat) : Nat → List AOper → List AOper → Bool
  | _, _, [] => true
  | j, done, y :: ys => (done.zipIdx.all fun p => !clashQ qs p.2 p.1 j y || (bs.getD (pm j) 0).testBit (pm p.2)) && chkClash pm qs bs (j + 1) (done ++ [y]) ys
/-- Wherever a quiet operation may be done, it was asked there. -/
def chkCover (pm : Nat → Nat) (qi bs : List Nat) (aops : List AOper) (q : Nat × List Nat) : Bool :=
  ((aops[q.1]?).elim false fun o => decide (o.op.cls = .new)) && (!q.2.isEmpty) &&
  (List.range (aops.length + 1)).all fun M => q.2.contains M || ((aops[M]?).elim false fun y => decide (qc qi M y ≠ .change) || (bs.getD (pm q.1) 0).testBit (pm M)) ||
    (List.range M).any fun c => (aops[c]?).elim false fun y => decide (qc qi c y = .change) && (bs.getD (pm c) 0).testBit (pm q.1)
def chkOrder (ops : Array Oper) (aops : List AOper) (pm : Nat → Nat) (qs : List (Nat × List Nat)) : Bool :=
  chkClash pm (qs.map (·.1)) (befores ops.toList []) 0 [] aops && (qs.all fun q => chkCover pm (qs.map (·.1)) (befores ops.toList []) aops q) && ops.toList.zipIdx.all fun p => p.1.after.toList.all fun e => !Region.binds .any e || decide (e.on < p.2)

def chkOper (ops : Array Oper) (o : Oper) (a : AOper) : Bool :=
  o.dst == a.dst && chkOp P o.op a.op &&
  (match o.guard, a.guard with
   | none, none => true
   | some (j, w), some (s, w') => w == w' && ((ops[j]?).bind (·.dst)) == some s
   | _, _ => false)
def chkRegion (ops : Array Oper) (aops : List AOper) (n : Nat) : Bool :=
  ops.size == aops.length && ((ops.toList.zip aops).all fun p => chkOper P ops p.1 p.2 && (match p.1.dst with | some d => decide (d < n) | none => true))
/-- The same, the operations told in another order. -/
def chkRegionQ (ops : Array Oper) (aops : List AOper) (pm : List Nat) (n : Nat) : Bool :=
  ops.size == aops.length && pm.length == aops.length && decide pm.Nodup && (List.range ops.size).all (fun m => pm.contains m) && (pm.all fun m => decide (m < ops.size)) &&
  (pm.zip aops).all fun p => (ops[p.1]?).elim false fun o => chkOper P ops o p.2 && (match o.dst with | some d => decide (d < n) | none => true)
def chkCode (n : Nat) : Code → ACode → Bool
  | _, .dead => true
  | .skip, .skip => true
  | .region _ ops draw, .region aops draw' _ => draw == draw' && chkRegion P ops aops n && (!draw || chkOrder ops aops (fun k => k) [])
  | .region _ ops draw, .regionQ aops pm qs _ => draw && chkRegionQ P ops aops pm n && chkOrder ops aops (pm.getD · 0) qs
  | .seq a b, .seq a' b' => chkCode n a a' && chkCode n b b'
  | .cond c a b, .cond c' a' b' => chkOpd c c' && chkCode n a a' && chkCode n b b'
  | .block i a, .block i' a' => i == i' && chkCode n a a'
  | .loop a, .loop _ a' => chkCode n a a'
  | .exit i, .exit i' => i == i'
  | .ret, .ret => true
  | _, _ => false
def chkRes : List ResultVar → List ARes → Bool
  | [], [] => true
  | .tmp t :: rs, .slot n :: as => t == n && chkRes rs as
  | .cell t ty :: rs, .cell n agg m :: as => t == n && isAggB P ty == some agg && sizeIs P ty m && chkRes rs as
  | _, _ => false
def chkFn (f : Nat) (a : AFn) : Bool := match P.funcs[f]? with
  | some fn => fn.name != "runtime.NumGoroutine" && (match fn.body with | some c => chkCode P fn.ntmps c a.body | none => false) && chkRes P fn.results.toList a.res
  | none => false
end
end Go.Proofs.Ytfnonledcniojaa
/- Small lemmas on what the small machine's values stand for. Conditions: none. -/
namespace Go.Proofs.Ytfnonledcniojaa
open Go Go.RowKit
variable [FrB]
section
variable {ρ : Rho} {w : World} {S O : Nat → Prop} {X : Nat → Prop}

theorem rv_int {k : IntKind} {n : Int} {x : Value} (h : RepV ρ w S O (.int k n) x) : x = .int k n := by cases h with | s h => cases h; rfl
theorem rv_bool {b : Bool} {x : Value} (h : RepV ρ w S O (.bool b) x) : x = .bool b := by cases h with | s h => cases h; rfl
theorem rv_str {s : ByteArray} {x : Value} (h : RepV ρ w S O (.str s) x) : x = .string s := by cases h with | s h => cases h; rfl
theorem rv_nilfn {x : Value} (h : RepV ρ w S O .nilfn x) : x = .nilFunc := by cases h with | s h => cases h; rfl
theorem rv_nilptr {x : Value} (h : RepV ρ w S O .nilptr x) : x = .pointer none := by cases h with | s h => cases h; rfl
theorem rv_agg {cs : List AV} {x : Value} (h : RepV ρ w S O (.agg cs) x) : ∃ vs : List Value, x = .agg vs.toArray ∧ cs.length = vs.length ∧ (∀ v ∈ vs, v.oneCell' = true) ∧
    ∀ (i : Nat) c v, cs[i]? = some c → vs[i]? = some v → RepV ρ w S O c v := by
  cases h with
  | s h => cases h with | agg _ vs h1 h2 h3 => exact ⟨vs, rfl, h1, h2, fun i c v hc hv => .s (h3 i c v hc hv)⟩
  | agg _ vs h1 h2 h3 => exact ⟨vs, rfl, h1, h2, h3⟩
theorem rv_tup {cs : List AV} {x : Value} (h : RepV ρ w S O (.tup cs) x) : ∃ vs : List Value, x = .tuple vs.toArray ∧ cs.length = vs.length ∧
    ∀ (i : Nat) c v, cs[i]? = some c → vs[i]? = some v → RepV ρ w S O c v := by
  cases h with
  | s h => cases h with | tup _ vs h1 h3 => exact ⟨vs, rfl, h1, fun i c v hc hv => .s (h3 i c v hc hv)⟩
  | tup _ vs h1 h3 => exact ⟨vs, rfl, h1, h3⟩
theorem rv_fn {f : Fn} {as bs : List AV} {x : Value} (h : RepV ρ w S O (.fn f as bs) x) : ∃ xs ys : List Value, x = .func f xs.toArray ys.toArray ∧ as.length = xs.length ∧ bs.length = ys.length ∧
    (∀ (i : Nat) c v, as[i]? = some c → xs[i]? = some v → RepV ρ w S O c v) ∧ (∀ (i : Nat) c v, bs[i]? = some c → ys[i]? = some v → RepV ρ w S O c v) := by
  cases h with
  | s h => cases h with | fn _ _ _ xs ys h1 h2 h3 h4 => exact ⟨xs, ys, rfl, h1, h2, fun i c v hc hv => .s (h3 i c v hc hv), fun i c v hc hv => .s (h4 i c v hc hv)⟩
  | fn _ _ _ xs ys h1 h2 h3 h4 => exact ⟨xs, ys, rfl, h1, h2, h3, h4⟩
theorem rv_own {id g s l c : Nat} {x : Value} (h : RepV ρ w S O (.own id g s l c) x) : ∃ g' pl a cap, x = .slice a l cap ∧ ρ id = some (g', pl) ∧ g ≤ g' ∧ l ≤ cap ∧ c ≤ cap ∧ (0 < cap → a.isSome = true) ∧
    (g = g' → cap = 0 ∨ ∃ p, pl = some p ∧ a = some ⟨p.b, p.base + s * p.k, none⟩ ∧ s + cap ≤ p.lim) := by
  cases h with
  | s h => cases h
  | own _ _ g' pl _ _ _ a cap h1 h2 h3 hc h4 h5 => exact ⟨g', pl, a, cap, rfl, h1, h2, h3, hc, h4, h5⟩
theorem rv_ptr {id g e off : Nat} {x : Value} (h : RepV ρ w S O (.ptr id g e off) x) : ∃ g' pl a, x = .pointer (some a) ∧ ρ id = some (g', pl) ∧ g ≤ g' ∧ (g = g' → ∃ p, pl = some p ∧ a = ⟨p.b, p.base + e * p.k + off, none⟩) := by
  cases h with
  | s h => cases h
  | ptr _ _ g' pl _ _ a h1 h2 h3 => exact ⟨g', pl, a, rfl, h1, h2, h3⟩
theorem rv_dptr {cs : List AV} {x : Value} (h : RepV ρ w S O (.dptr cs) x) : ∃ (b off : Nat) (val : Nat → Value), x = .pointer (some ⟨b, off, none⟩) ∧ ¬ O b ∧ b < w.heap.size ∧
    (∀ j, j < cs.length → w.cell? ⟨b, off + j, none⟩ = some (val j) ∧ (val j).oneCell' = true) ∧ (∀ (j : Nat) c, cs[j]? = some c → RepB w S O c (val j)) := by
  cases h with
  | s h => cases h
  | dptr _ b off val h1 h2 h3 h4 => exact ⟨b, off, val, rfl, h1, h2, h3, h4⟩
theorem rv_data {bo : Bool} {k : Nat} {es : List (List AV)} {full : Bool} {x : Value} (h : RepV ρ w S O (.data bo k es full) x) : ∃ a cap, x = .slice a es.length cap ∧ es.length ≤ cap ∧ (full = true → cap = es.length) ∧ (∀ g ∈ es, g.length = k) ∧
    (es = [] ∨ ∃ (b off : Nat) (val : Nat → Nat → Value), a = some ⟨b, off, none⟩ ∧ ¬ O b ∧ (bo = false → ¬ S b ∧ (FrB.fr b → Thawed w b)) ∧ b < w.heap.size ∧
      (∀ (e j : Nat), e < es.length → j < k → w.cell? ⟨b, off + (e * k + j), none⟩ = some (val e j) ∧ (val e j).oneCell' = true) ∧
      (∀ (e j : Nat) g c, es[e]? = some g → g[j]? = some c → RepS w (fun b => (bo = false ∧ S b) ∨ O b) c (val e j))) := by
  cases h with
  | s h => cases h with
    | data0 _ _ a cap h => exact ⟨a, cap, rfl, by simp, by simpa using h, by simp, .inl rfl⟩
    | data _ _ _ b off cap val h1 h2 h3 h4 h5 h6 h7 h8 => exact ⟨_, cap, rfl, h1, h2, h3, .inr ⟨b, off, val, rfl, fun h => h4 (.inr h), fun _ => ⟨fun h => h4 (.inl h), h8⟩, h5, h6, fun e j g c hg hc => (h7 e j g c hg hc).mono fun b hb => hb.imp (fun h => h.2) id⟩⟩
  | bor0 _ _ a cap h => exact ⟨a, cap, rfl, by simp, by simpa using h, by simp, .inl rfl⟩
  | bor _ _ _ b off cap val h1 h2 h3 h4 h5 h6 h7 => exact ⟨_, cap, rfl, h1, h2, h3, .inr ⟨b, off, val, rfl, h4, by simp, h5, h6, fun e j g c hg hc => (h7 e j g c hg hc).mono fun b hb => hb.imp (fun h => by cases h.1) id⟩⟩
/-- The other way. -/
theorem rv_mk_data {bo : Bool} {k : Nat} {es : List (List AV)} {full : Bool} {a : Option Addr} {cap : Nat} (h1 : es.length ≤ cap) (h2 : full = true → cap = es.length) (h3 : ∀ g ∈ es, g.length = k)
    (h4 : es = [] ∨ ∃ (b off : Nat) (val : Nat → Nat → Value), a = some ⟨b, off, none⟩ ∧ ¬ O b ∧ (bo = false → ¬ S b ∧ (FrB.fr b → Thawed w b)) ∧ b < w.heap.size ∧
      (∀ (e j : Nat), e < es.length → j < k → w.cell? ⟨b, off + (e * k + j), none⟩ = some (val e j) ∧ (val e j).oneCell' = true) ∧
      (∀ (e j : Nat) g c, es[e]? = some g → g[j]? = some c → RepS w (fun b => (bo = false ∧ S b) ∨ O b) c (val e j))) : RepV ρ w S O (.data bo k es full) (.slice a es.length cap) := by
  rcases h4 with rfl | ⟨b, off, val, rfl, h5, h6, h7, h8, h9⟩
  · cases bo with
    | true => exact .bor0 k full a cap (by simpa using h2)
    | false => exact .s (.data0 k full a cap (by simpa using h2))
  · cases bo with
    | true => exact .bor k es full b off cap val h1 h2 h3 h5 h7 h8 fun e j g c hg hc => (h9 e j g c hg hc).mono fun b hb => hb.imp False.elim id
    | false => exact .s (.data k es full b off cap val h1 h2 h3 (fun h => h.elim (h6 rfl).1 h5) h7 h8 (fun e j g c hg hc => (h9 e j g c hg hc).mono fun b hb => hb.imp (fun h => ⟨rfl, h⟩) id) (h6 rfl).2)

theorem tob_rep {bo : Bool} {v : AV} {x : Value} (h : RepS w (fun b => (bo = false ∧ S b) ∨ O b) v x) : RepB w S O (v.tob bo) x := by
  cases bo with
  | false =>
    have e : v.tob false = v := by cases v <;> simp [AV.tob]
    rw [e]
    exact .s (h.mono fun b hb => hb.imp (fun h => ⟨rfl, h⟩) id)
  | true =>
    cases h with
    | int k n => exact .s (.int _ _)
    | bool b => exact .s (.bool _)
    | str s => exact .s (.str _)
    | nilfn => exact .s .nilfn
    | nilptr => exact .s .nilptr
    | agg => exact .unk _
    | tup => exact .unk _
    | fn => exact .unk _
    | data0 k full a cap hf => exact .bor0 k full a cap hf
    | data k es full b off cap val h1 h2 h3 h4 h5 h6 h7 h8 => exact .bor k es full b off cap val h1 h2 h3 (fun h => h4 (.inr h)) h5 h6 fun e j g c hg hc => (h7 e j g c hg hc).mono fun b hb => hb.imp False.elim id
theorem dptrB_rep {ρ : Rho} {bo : Bool} {g : List AV} {b o : Nat} {val : Nat → Value} (h1 : ¬ O b) (h2 : b < w.heap.size) (h3 : ∀ j, j < g.length → w.cell? ⟨b, o + j, none⟩ = some (val j) ∧ (val j).oneCell' = true)
    (h4 : ∀ (j : Nat) c, g[j]? = some c → RepS w (fun b => (bo = false ∧ S b) ∨ O b) c (val j)) : RepV ρ w S O (dptrB bo g) (.pointer (some ⟨b, o, none⟩)) := by
  refine .dptr _ b o val h1 h2 (fun j hj => h3 j (by simpa [tobL] using hj)) fun j c hj => ?_
  rw [tobL, List.getElem?_map] at hj
  obtain ⟨c0, hc, rfl⟩ := opt_map_some.1 hj
  exact tob_rep (h4 j c0 hc)
theorem plain_rep {X X' : Nat → Prop} {v : AV} {x : Value} (hp : v.plain = true) (h : RepS w X v x) : RepS w X' v x := by
  cases h with
  | int k n => exact .int _ _
  | bool b => exact .bool _
  | str s => exact .str _
  | nilfn => exact .nilfn
  | nilptr => exact .nilptr
  | _ => simp [AV.plain] at hp
theorem stableL_at {cs : List AV} (h : AV.stableL cs = true) : ∀ (i : Nat) c, cs[i]? = some c → c.stable = true := by
  induction cs with
  | nil => intro i c hc; simp at hc
  | cons v vs ih =>
    simp only [AV.stableL, Bool.and_eq_true] at h
    intro i c hc
    cases i with
    | zero => simp at hc; subst hc; exact h.1
    | succ i => exact ih h.2 i c (by simpa using hc)
theorem rv_stable {v : AV} {x : Value} (h : RepV ρ w S O v x) : v.stable = true → RepS w (fun b => S b ∨ O b) v x := by
  induction h with
  | s h => intro _; exact h
  | agg cs vs h1 h2 _ ih => intro hs; exact .agg cs vs h1 h2 fun i c v hc hv => ih i c v hc hv (stableL_at (by simpa [AV.stable] using hs) i c hc)
  | tup cs vs h1 _ ih => intro hs; exact .tup cs vs h1 fun i c v hc hv => ih i c v hc hv (stableL_at (by simpa [AV.stable] using hs) i c hc)
  | fn f as bs xs ys h1 h2 _ _ i1 i2 =>
    intro hs
    simp only [AV.stable, Bool.and_eq_true] at hs
    exact .fn f as bs xs ys h1 h2 (fun i c v hc hv => i1 i c v hc hv (stableL_at hs.1 i c hc)) (fun i c v hc hv => i2 i c v hc hv (stableL_at hs.2 i c hc))
  | bor0 => intro hs; simp [AV.stable] at hs
  | bor => intro hs; simp [AV.stable] at hs
  | dptr => intro hs; simp [AV.stable] at hs
  | own => intro hs; simp [AV.stable] at hs
  | ptr => intro hs; simp [AV.stable] at hs
  | unk => intro hs; simp [AV.stable] at hs

theorem rv_cells {v : AV} {x : Value} {cs : List AV} (h : RepV ρ w S O v x) (hc : v.cells = some cs) : ∃ vs : List Value, x.cells = vs.toArray ∧ cs.length = vs.length ∧ (∀ v ∈ vs, v.oneCell' = true) ∧
    ∀ (i : Nat) c v, cs[i]? = some c → vs[i]? = some v → RepV ρ w S O c v := by
  have one : ∀ {u : AV} {y : Value}, RepV ρ w S O u y → y.oneCell' = true → y.cells = #[y] → ∃ vs : List Value, y.cells = vs.toArray ∧ [u].length = vs.length ∧ (∀ v ∈ vs, v.oneCell' = true) ∧
      ∀ (i : Nat) c v, [u][i]? = some c → vs[i]? = some v → RepV ρ w S O c v := fun {u y} hr h1 h2 => ⟨[y], by rw [h2], rfl, by simpa using h1, fun i c v hc hv => by
    cases i with
    | zero => simp at hc hv; subst hc hv; exact hr
    | succ i => simp at hc⟩
  cases v with
  | agg as =>
    obtain ⟨vs, rfl, h1, h2, h3⟩ := rv_agg h
    cases hc
    exact ⟨vs, rfl, h1, h2, h3⟩
  | tup as => cases hc
  | unk => cases hc
  | int k n => cases hc; obtain rfl := rv_int h; exact one h rfl rfl
  | bool b => cases hc; obtain rfl := rv_bool h; exact one h rfl rfl
  | str s => cases hc; obtain rfl := rv_str h; exact one h rfl rfl
  | nilfn => cases hc; obtain rfl := rv_nilfn h; exact one h rfl rfl
  | nilptr => cases hc; obtain rfl := rv_nilptr h; exact one h rfl rfl
  | data bo k es f => cases hc; obtain ⟨a, cap, rfl, _⟩ := rv_data h; exact one h rfl rfl
  | dptr ds => cases hc; obtain ⟨b, off, val, rfl, _⟩ := rv_dptr h; exact one h rfl rfl
  | own id g s l c => cases hc; obtain ⟨g', pl, a, cap, rfl, _⟩ := rv_own h; exact one h rfl rfl
  | ptr id g e o => cases hc; obtain ⟨g', pl, a, rfl, _⟩ := rv_ptr h; exact one h rfl rfl
  | fn f as bs => cases hc; obtain ⟨xs, ys, rfl, _⟩ := rv_fn h; exact one h rfl rfl

theorem const_rep {v : Value} {c : AV} (h : chkConst v c = true) : RepS w X c v ∧ v.oneCell' = true := by
  unfold chkConst at h
  split at h
  · simp only [Bool.and_eq_true, beq_iff_eq] at h; obtain ⟨rfl, rfl⟩ := h; exact ⟨.int _ _, rfl⟩
  · simp only [beq_iff_eq] at h; subst h; exact ⟨.bool _, rfl⟩
  · rename_i s t
    simp only [beq_iff_eq] at h
    obtain rfl : s = t := by cases s; cases t; simp_all
    exact ⟨.str _, rfl⟩
  · exact ⟨.nilfn, rfl⟩
  · exact ⟨.nilptr, rfl⟩
  · exact ⟨.data0 _ _ none 0 (fun _ => rfl), rfl⟩
  · cases h
theorem consts_rep : ∀ {vs : List Value} {cs : List AV}, chkConsts vs cs = true → cs.length = vs.length ∧ (∀ v ∈ vs, v.oneCell' = true) ∧ ∀ (i : Nat) c v, cs[i]? = some c → vs[i]? = some v → RepS w X c v
  | [], [], _ => ⟨rfl, by simp, fun i c v hc => by simp at hc⟩
  | v :: vs, c :: cs, h => by
    simp only [chkConsts, Bool.and_eq_true] at h
    obtain ⟨h1, h2, h3⟩ := consts_rep h.2
    refine ⟨by simp [h1], ?_, ?_⟩
    · intro u hu
      rcases List.mem_cons.1 hu with rfl | hu
      · exact (const_rep (w := w) (X := X) h.1).2
      · exact h2 u hu
    · intro i c' v' hc hv
      cases i with
      | zero => simp at hc hv; subst hc hv; exact (const_rep h.1).1
      | succ i => exact h3 i c' v' (by simpa using hc) (by simpa using hv)
  | [], _ :: _, h => by cases h
  | _ :: _, [], h => by cases h

/-! ### Heaps -/
variable {h : List ARow}
theorem Heap.lt (H : Heap ρ w S O h) {id g : Nat} {pl : Option Pl} (e : ρ id = some (g, pl)) : id < h.length := by
  obtain ⟨r, hr, _⟩ := H.row id g pl e
  exact (List.getElem?_eq_some_iff.1 hr).1
theorem Heap.none_ge (H : Heap ρ w S O h) {id : Nat} (hi : h.length ≤ id) : ρ id = none := by
  cases e : ρ id with
  | none => rfl
  | some x => have := H.lt (g := x.1) (pl := x.2) e; omega
theorem Heap.at (H : Heap ρ w S O h) {id g : Nat} {pl : Option Pl} (e : ρ id = some (g, pl)) {r : ARow} (hr : h[id]? = some r) : r.gen = g ∧ RowIs ρ w S O r pl := by
  obtain ⟨r', hr', h1, h2⟩ := H.row id g pl e
  obtain rfl := Option.some.inj (hr.symm.trans hr')
  exact ⟨h1, h2⟩
theorem RowRep.adv {ρ' : Rho} {w' : World} {O' : Nat → Prop} {r : ARow} {p : Pl} (R : RowRep ρ w S O r p) (e : Ext ρ ρ') (a : AdvW w O w' O') (hb : w'.heap[p.b]? = w.heap[p.b]?) : RowRep ρ' w' S O' r p := by
  obtain ⟨arr, ty, lo, hi, h1, h2, h3, h4⟩ := R.block
  refine ⟨R.k, R.lim, a.grow _ R.own, R.len, arr, ty, lo, hi, hb.trans h1, h2, h3, fun e0 j g c hg hc => ?_⟩
  obtain ⟨x, h5, h6, h7, h8⟩ := h4 e0 j g c hg hc
  exact ⟨x, h5, h6, h7.adv e a, fun hf => (h8 hf).adv a⟩
theorem RowRep.advX {ρ' : Rho} {w' : World} {O' : Nat → Prop} {r : ARow} {p : Pl} (R : RowRep ρ w S O r p) (e : Ext ρ ρ') (a : AdvX w O w' O') (hO : O' p.b) (hb : w'.heap[p.b]? = w.heap[p.b]?) : RowRep ρ' w' S O' r p := by
  obtain ⟨arr, ty, lo, hi, h1, h2, h3, h4⟩ := R.block
  refine ⟨R.k, R.lim, hO, R.len, arr, ty, lo, hi, hb.trans h1, h2, h3, fun e0 j g c hg hc => ?_⟩
  obtain ⟨x, h5, h6, h7, h8⟩ := h4 e0 j g c hg hc
  exact ⟨x, h5, h6, h7.advX e a, fun hf => (h8 hf).advX a⟩
theorem RowRep.thaw {r : ARow} {p : Pl} (R : RowRep ρ w S O r p) : Thawed w p.b := by
  obtain ⟨arr, ty, lo, hi, h1, _, h3, _⟩ := R.block
  intro arr' ty' lo' hi' hb
  rw [h1] at hb
  cases hb
  exact h3.2.1
theorem RowRep.lt {r : ARow} {p : Pl} (R : RowRep ρ w S O r p) : p.b < w.heap.size := by
  obtain ⟨arr, ty, lo, hi, h1, _⟩ := R.block
  exact (Array.getElem?_eq_some_iff.1 h1).1

/-- A heap behind a step: each row is as it was, or as told. -/
theorem Heap.step {ρ' : Rho} {w' : World} {O' : Nat → Prop} {h' : List ARow} (H : Heap ρ w S O h) (e : Ext ρ ρ') (a : AdvW w O w' O')
    (bd : ∀ b, O' b → b < w'.heap.size)
    (rows : ∀ (id g : Nat) pl, ρ' id = some (g, pl) → (ρ id = some (g, pl) ∧ h'[id]? = h[id]? ∧ ∀ p, pl = some p → w'.heap[p.b]? = w.heap[p.b]?) ∨ ∃ r, h'[id]? = some r ∧ r.gen = g ∧ RowIs ρ' w' S O' r pl)
    (inj : ∀ (id id' g g' : Nat) p p', ρ' id = some (g, some p) → ρ' id' = some (g', some p') → p.b = p'.b → id = id') : Heap ρ' w' S O' h' := by
  refine ⟨fun id g pl hid => ?_, inj, fun b hb => ?_, fun b hb hs => ?_⟩
  · rcases rows id g pl hid with ⟨h1, h2, h3⟩ | h1
    · obtain ⟨r, hr, hg, hR⟩ := H.row id g pl h1
      refine ⟨r, h2.trans hr, hg, ?_⟩
      cases pl with
      | none => exact hR
      | some p => exact RowRep.adv hR e a (h3 p rfl)
    · exact h1
  · rcases hb with hb | hb
    · exact Nat.lt_of_lt_of_le (H.bd b (.inl hb)) a.size
    · exact bd b hb
  · rcases a.new b hb with h1 | h1
    · exact H.dis b h1 hs
    · have := H.bd b (.inl hs); omega

def upd (ρ : Rho) (id : Nat) (x : Nat × Option Pl) : Rho := fun i => if i = id then some x else ρ i
theorem upd_same (ρ : Rho) (id : Nat) (x : Nat × Option Pl) : upd ρ id x id = some x := by simp [upd]
theorem upd_ne (ρ : Rho) {id i : Nat} (x : Nat × Option Pl) (h : i ≠ id) : upd ρ id x i = ρ i := by simp [upd, h]
theorem ext_upd (ρ : Rho) {id : Nat} (x : Nat × Option Pl) (h : ρ id = none) : Ext ρ (upd ρ id x) := fun i g pl hi => ⟨g, pl, by
  rw [upd_ne ρ x (fun e => by rw [e, h] at hi; cases hi)]; exact hi, Nat.le_refl _, fun _ => rfl⟩
theorem upd_mono (ρ : Rho) {id n : Nat} (x : Nat × Option Pl) (hn : n ≤ id) : ∀ i, i < n → ρ i = none → upd ρ id x i = none := fun i hi h => by rw [upd_ne ρ x (by omega)]; exact h

theorem AdvW.alloc (w : World) (O : Nat → Prop) (ob : Obj) : AdvW w O (w.alloc ob) (fun b => O b ∨ b = w.heap.size) :=
  ⟨rfl, rfl, rfl, by simp, fun b hb _ => Below.heap_alloc w ob b hb, fun _ h => .inl h, fun b h => h.imp id (fun h => by omega)⟩
theorem AdvW.alloc' (w : World) (O : Nat → Prop) (ob : Obj) : AdvW w O (w.alloc ob) O :=
  ⟨rfl, rfl, rfl, by simp, fun b hb _ => Below.heap_alloc w ob b hb, fun _ h => h, fun b h => .inl h⟩

/-- A new row in a new block. -/
theorem Heap.alloc (H : Heap ρ w S O h) (arr : Array Value) (ty : TypeId) (r : ARow) (lim : Nat) (hl : r.es.length ≤ lim) (hs : lim * r.k ≤ arr.size) (hlen : ∀ g ∈ r.es, g.length = r.k)
    (hc : ∀ (e j : Nat) g c, r.es[e]? = some g → g[j]? = some c → ∃ x, arr[e * r.k + j]? = some x ∧ x.oneCell' = true ∧ RepV ρ w S O c x ∧ (r.flat = true → RepS w (fun b => S b ∨ O b) c x)) :
    Heap (upd ρ h.length (r.gen, some ⟨w.heap.size, 0, r.k, lim⟩)) (w.alloc (.cells arr ty)) S (fun b => O b ∨ b = w.heap.size) (h ++ [r]) := by
  have he : Ext ρ (upd ρ h.length (r.gen, some ⟨w.heap.size, 0, r.k, lim⟩)) := ext_upd ρ _ (H.none_ge (Nat.le_refl _))
  have ha := AdvW.alloc w O (.cells arr ty)
  refine H.step he ha (fun b hb => ?_) (fun id g pl hid => ?_) (fun id id' g g' p p' h1 h2 hb => ?_)
  · rcases hb with hb | rfl
    · have := H.bd b (.inr hb); simp; omega
    · simp
  · by_cases hi : id = h.length
    · subst hi
      rw [upd_same] at hid
      cases hid
      refine .inr ⟨r, by simp, rfl, rfl, hl, .inr rfl, hlen, arr, ty, 0, 0, heap_alloc_new _ _, by simpa using hs, ⟨Nat.le_refl _, fun j _ => by omega, fun _ => rfl⟩, fun e j g c hg hcc => ?_⟩
      obtain ⟨x, h1, h2, h3, h4⟩ := hc e j g c hg hcc
      exact ⟨x, by simpa using h1, h2, h3.adv he ha, fun hf => (h4 hf).adv ha⟩
    · rw [upd_ne ρ _ hi] at hid
      have hlt := H.lt hid
      refine .inl ⟨hid, by rw [List.getElem?_append_left hlt], fun p hp => ?_⟩
      subst hp
      obtain ⟨r', _, _, hR⟩ := H.row id g _ hid
      exact Below.heap_alloc w _ _ (RowRep.lt hR)
  · by_cases hi : id = h.length
    · by_cases hi' : id' = h.length
      · omega
      · subst hi
        rw [upd_same] at h1
        rw [upd_ne ρ _ hi'] at h2
        cases h1
        obtain ⟨r', _, _, hR⟩ := H.row id' g' _ h2
        have := RowRep.lt hR
        simp at hb; omega
    · rw [upd_ne ρ _ hi] at h1
      by_cases hi' : id' = h.length
      · subst hi'
        rw [upd_same] at h2
        cases h2
        obtain ⟨r', _, _, hR⟩ := H.row id g _ h1
        have := RowRep.lt hR
        simp at hb; omega
      · rw [upd_ne ρ _ hi'] at h2
        exact H.inj id id' g g' p p' h1 h2 hb
/-- A new row without a block. -/
theorem Heap.virtual (H : Heap ρ w S O h) (r : ARow) (hr : r.es = []) : Heap (upd ρ h.length (r.gen, none)) w S O (h ++ [r]) := by
  refine H.step (ext_upd ρ _ (H.none_ge (Nat.le_refl _))) (.refl w O) (fun b hb => H.bd b (.inr hb)) (fun id g pl hid => ?_) (fun id id' g g' p p' h1 h2 hb => ?_)
  · by_cases hi : id = h.length
    · subst hi
      rw [upd_same] at hid
      cases hid
      exact .inr ⟨r, by simp, rfl, hr⟩
    · rw [upd_ne ρ _ hi] at hid
      exact .inl ⟨hid, by rw [List.getElem?_append_left (H.lt hid)], fun _ _ => rfl⟩
  · by_cases hi : id = h.length
    · subst hi; rw [upd_same] at h1; cases h1
    · by_cases hi' : id' = h.length
      · subst hi'; rw [upd_same] at h2; cases h2
      · rw [upd_ne ρ _ hi] at h1; rw [upd_ne ρ _ hi'] at h2; exact H.inj id id' g g' p p' h1 h2 hb
/-- The places know how wide an element is. -/
def KInv (ρ : Rho) (h : List ARow) : Prop := ∀ (id g : Nat) p r, ρ id = some (g, some p) → h[id]? = some r → p.k = r.k
theorem Heap.kinv (H : Heap ρ w S O h) : KInv ρ h := fun id g p r hid hr => by
  obtain ⟨_, hR⟩ := H.at hid hr
  exact RowRep.k (show RowRep ρ w S O r p from hR)
end
end Go.Proofs.Ytfnonledcniojaa
/- Each operation of the small machine stands for the program's operation: those that make no memory. Conditions: none. -/
namespace Go.Proofs.Ytfnonledcniojaa
open Go Go.RowKit
variable [FrB]
section
variable {P : Program} {X : Nat → Prop} {G : Nat → Option (List AV)} {ρ : Rho} {w : World} {S O : Nat → Prop} {env : AEnv} {h : List ARow} {a : Act}

/-- A frame is as the small machine's state tells. -/
structure Rel (G : Nat → Option (List AV)) (ρ : Rho) (w : World) (S O : Nat → Prop) (env : AEnv) (a : Act) : Prop where
  env : ∀ s v, look env s = some v → ∃ x, a.tmps[s]? = some x ∧ RepV ρ w S O v x
  glob : ∀ g cs, G g = some cs → RepV ρ w S O (.dptr cs) (.pointer (some ⟨g, 0, none⟩))

def OpOk (ρ : Rho) (w : World) (S O : Nat → Prop) (h : List ARow) (run : Result Next) (v : AV) (h' : List ARow) : Prop :=
  ∃ x w' ρ' O', (run = .ok (.value x) w' ∨ (run = .ok .skip w' ∧ x = undef)) ∧ AdvX w O w' O' ∧ Ext ρ ρ' ∧ Heap ρ' w' S O' h' ∧ RepV ρ' w' S O' v x ∧ ∀ id, id < h.length → ρ id = none → ρ' id = none

/-- An operation that looks at no row and makes none. -/
def FreeOk (ρ : Rho) (w : World) (S O : Nat → Prop) (h : List ARow) (run : Result Next) (v : AV) (h' : List ARow) : Prop :=
  (∃ x, run = .ok (.value x) w ∧ RepV ρ w S O v x) ∧ h' = h
/-- An operation that changes nothing that is there. -/
def OpN (ρ : Rho) (w : World) (S O : Nat → Prop) (h : List ARow) (run : Result Next) (v : AV) (h' : List ARow) : Prop :=
  ∃ x w' ρ' O', run = .ok (.value x) w' ∧ AdvW w O w' O' ∧ (∀ b, b < w.heap.size → w'.heap[b]? = w.heap[b]?) ∧ (∀ id y, ρ id = some y → ρ' id = some y) ∧
    (∀ (id g : Nat) p, ρ' id = some (g, some p) → ρ id = some (g, some p) ∨ w.heap.size ≤ p.b) ∧ Heap ρ' w' S O' h' ∧ RepV ρ' w' S O' v x ∧ (∀ id, id < h.length → ρ id = none → ρ' id = none) ∧ ∃ e, h' = h ++ e

theorem FreeOk.pure {run : Result Next} {v : AV} {x : Value} (hr : run = .ok (.value x) w) (hv : RepV ρ w S O v x) : FreeOk ρ w S O h run v h := ⟨⟨x, hr, hv⟩, rfl⟩
theorem OpN.pure {run : Result Next} {v : AV} {x : Value} (H : Heap ρ w S O h) (hr : run = .ok (.value x) w) (hv : RepV ρ w S O v x) : OpN ρ w S O h run v h :=
  ⟨x, w, ρ, O, hr, .refl w O, fun _ _ => rfl, fun _ _ h => h, fun _ _ _ h => .inl h, H, hv, fun _ _ h => h, [], by simp⟩
theorem OpOk.pure {run : Result Next} {v : AV} {x : Value} (H : Heap ρ w S O h) (hr : run = .ok (.value x) w) (hv : RepV ρ w S O v x) : OpOk ρ w S O h run v h :=
  ⟨x, w, ρ, O, .inl hr, .refl w O, .refl ρ, H, hv, fun _ _ h => h⟩
theorem FreeOk.toN {run : Result Next} {v : AV} {h' : List ARow} (k : FreeOk ρ w S O h run v h') (H : Heap ρ w S O h) : OpN ρ w S O h run v h' := by
  obtain ⟨⟨x, h1, h2⟩, rfl⟩ := k
  exact .pure H h1 h2
theorem OpN.toOp {run : Result Next} {v : AV} {h' : List ARow} (k : OpN ρ w S O h run v h') : OpOk ρ w S O h run v h' := by
  obtain ⟨x, w', ρ', O', h1, h2, h3, h4, h5, h6, h7, h8, h9⟩ := k
  exact ⟨x, w', ρ', O', .inl h1, h2.x, fun id g pl hi => ⟨g, pl, h4 id _ hi, Nat.le_refl _, fun _ => rfl⟩, h6, h7, h8⟩
theorem upd_exact {id : Nat} {x : Nat × Option Pl} (hn : ρ id = none) : ∀ i y, ρ i = some y → upd ρ id x i = some y := fun i y hi => by
  rw [upd_ne ρ x (fun e => by rw [e, hn] at hi; cases hi)]; exact hi
theorem upd_new {id b g0 : Nat} {pl : Option Pl} (hb : ∀ p, pl = some p → b ≤ p.b) : ∀ (i g : Nat) p, upd ρ id (g0, pl) i = some (g, some p) → ρ i = some (g, some p) ∨ b ≤ p.b := fun i g p hi => by
  by_cases e : i = id
  · subst e
    rw [upd_same] at hi
    cases hi
    exact .inr (hb p rfl)
  · rw [upd_ne ρ _ e] at hi
    exact .inl hi

theorem ev_rep {x : Operand} {ax : AOpd} {v : AV} (hc : chkOpd x ax = true) (R : Rel G ρ w S O env a) (he : aeval G env ax = some v) : RepV ρ w S O v (a.eval x) := by
  unfold chkOpd at hc
  split at hc
  · simp only [beq_iff_eq] at hc
    subst hc
    obtain ⟨x, hx, hr⟩ := R.env _ _ he
    simp only [Act.eval, Array.getD_eq_getD_getElem?, hx]
    exact hr
  · cases he; exact .s (const_rep hc).1
  · simp only [beq_iff_eq] at hc
    subst hc
    obtain ⟨cs, hg, rfl⟩ := opt_map_some.1 he
    exact R.glob _ _ hg
  · simp only [beq_iff_eq] at hc
    subst hc
    cases he
    exact .fn _ [] [] [] [] rfl rfl (fun i c v h => by simp at h) (fun i c v h => by simp at h)
  · cases hc

variable {o : Oper} {v : AV} {h' : List ARow}

theorem ok_mov {x : AOpd} (hop : chkOp P o.op (.mov x) = true) (R : Rel G ρ w S O env a) (he : aop G env h (.mov x) = some (v, h')) : FreeOk ρ w S O h ((execOp a.eval o).run P w) v h' := by
  obtain ⟨v0, h0, e⟩ := opt_map_some.1 he
  cases e
  simp only [chkOp] at hop
  split at hop
  · rename_i y heq; exact .pure (by simp [execOp, heq]) (ev_rep hop R h0)
  · rename_i y heq; exact .pure (by simp [execOp, heq]) (ev_rep hop R h0)
  · cases hop
theorem ok_mknil {k : Nat} (hop : chkOp P o.op (.mknil k) = true) (R : Rel G ρ w S O env a) (H : Heap ρ w S O h) (he : aop G env h (.mknil k) = some (v, h')) : OpN ρ w S O h ((execOp a.eval o).run P w) v h' := by
  simp only [aop, Option.some.injEq, Prod.mk.injEq] at he
  obtain ⟨rfl, rfl⟩ := he
  have go : (execOp a.eval o).run P w = .ok (.value (.slice none 0 0)) w → OpN ρ w S O h ((execOp a.eval o).run P w) (.own h.length 0 0 0 0) (h ++ [⟨k, 0, true, []⟩]) := fun hr =>
    ⟨_, w, upd ρ h.length (0, none), O, hr, .refl w O, fun _ _ => rfl, upd_exact (H.none_ge (Nat.le_refl _)), upd_new (fun p hp => by cases hp), H.virtual ⟨k, 0, true, []⟩ rfl,
      .own _ 0 0 none 0 0 0 none 0 (upd_same ρ _ _) (Nat.le_refl _) (Nat.le_refl _) (Nat.le_refl _) (fun h => by omega) (fun _ => .inl rfl), upd_mono ρ _ (Nat.le_refl _), _, rfl⟩
  simp only [chkOp] at hop
  split at hop
  · rename_i heq; exact go (by simp [execOp, heq, Act.eval])
  · rename_i heq; exact go (by simp [execOp, heq, Act.eval])
  · cases hop
theorem ok_pick {c x y : AOpd} (hop : chkOp P o.op (.pick c x y) = true) (R : Rel G ρ w S O env a) (he : aop G env h (.pick c x y) = some (v, h')) : FreeOk ρ w S O h ((execOp a.eval o).run P w) v h' := by
  obtain ⟨v0, h0, he⟩ := opt_bind_some.1 he
  split at he
  case h_2 => cases he
  rename_i b
  obtain ⟨v1, h1, e⟩ := opt_map_some.1 he
  cases e
  simp only [chkOp] at hop
  split at hop
  · rename_i c' a' b' heq
    simp only [Bool.and_eq_true] at hop
    have hb := rv_bool (ev_rep hop.1.1 R h0)
    cases b with
    | true => exact .pure (x := a.eval a') (by simp [execOp, heq, hb, asBool]) (ev_rep hop.1.2 R (by simpa using h1))
    | false => exact .pure (x := a.eval b') (by simp [execOp, heq, hb, asBool]) (ev_rep hop.2 R (by simpa using h1))
  · cases hop
theorem ok_nilchk {x : AOpd} (hop : chkOp P o.op (.nilchk x) = true) (R : Rel G ρ w S O env a) (he : aop G env h (.nilchk x) = some (v, h')) : FreeOk ρ w S O h ((execOp a.eval o).run P w) v h' := by
  obtain ⟨v0, h0, he⟩ := opt_bind_some.1 he
  simp only [chkOp] at hop
  split at hop
  case h_2 => cases hop
  rename_i y heq
  have hr := ev_rep hop R h0
  split at he
  · cases he
    obtain ⟨g', pl, ad, hx, _⟩ := rv_ptr hr
    exact .pure (x := a.eval y) (by simp [execOp, heq, hx]) hr
  · cases he
    obtain ⟨b, off, val, hx, _⟩ := rv_dptr hr
    exact .pure (x := a.eval y) (by simp [execOp, heq, hx]) hr
  · cases he
    obtain ⟨xs, ys, hx, _⟩ := rv_fn hr
    exact .pure (x := a.eval y) (by simp [execOp, heq, hx]) hr
  · cases he
theorem abin_some {op : BinOp} {x y r : AV} (e : abin op x y = some r) :
    (∃ s t, x = .str s ∧ y = .str t ∧ op = .add ∧ ¬ ((s.size + t.size : Nat) : Int) > IntKind.i64.max ∧ r = .str (s ++ t)) ∨ ∃ k m k' n, x = .int k m ∧ y = .int k' n := by
  unfold abin at e
  split at e
  · rename_i s t
    split at e
    · cases e
    · rename_i hle; cases e; exact .inl ⟨s, t, rfl, rfl, rfl, hle, rfl⟩
  · exact .inr ⟨_, _, _, _, rfl, rfl⟩
  · exact .inr ⟨_, _, _, _, rfl, rfl⟩
  · exact .inr ⟨_, _, _, _, rfl, rfl⟩
  · cases e
theorem bin_run {op : BinOp} {k k' : IntKind} {m n : Int} {r : AV} (e : abin op (.int k m) (.int k' n) = some r) (t : TypeId) (x y : Operand) (w : World) :
    ∃ z, RepS w X r z ∧ (do eqGuard op t x y (.int k m) (.int k' n); binOp op t (.int k m) (.int k' n) : Sem Value).run P w = .ok z w := by
  have g : (eqGuard op t x y (.int k m) (.int k' n)).run P w = .ok () w := by
    unfold eqGuard
    split <;> simp
  cases op <;> simp only [abin, asum] at e
  case shl =>
    split at e
    · cases e
    · rename_i hn; cases e; exact ⟨_, .int _ _, by simp [g, binOp, Op.shift, hn]⟩
  case shr =>
    split at e
    · cases e
    · rename_i hn; cases e; exact ⟨_, .int _ _, by simp [g, binOp, Op.shift, hn]⟩
  case quo =>
    split at e
    · rename_i hk; subst hk
      split at e
      · cases e
      · rename_i hn; cases e; exact ⟨_, .int _ _, by simp [g, binOp, Op.intDiv, hn]⟩
    · cases e
  case rem =>
    split at e
    · rename_i hk; subst hk
      split at e
      · cases e
      · rename_i hn; cases e; exact ⟨_, .int _ _, by simp [g, binOp, Op.intDiv, hn]⟩
    · cases e
  case xor => split at e <;> cases e
  case and =>
    split at e
    · rename_i hk; subst hk; cases e
      exact ⟨_, .int _ _, by simp only [Sem.run_bind, g, Result.andThen_ok, binOp]; rw [if_neg (by simp)]; rfl⟩
    · cases e
  case or =>
    split at e
    · rename_i hk; subst hk; cases e
      exact ⟨_, .int _ _, by simp only [Sem.run_bind, g, Result.andThen_ok, binOp]; rw [if_neg (by simp)]; rfl⟩
    · cases e
  case andNot =>
    split at e
    · rename_i hk; subst hk; cases e
      exact ⟨_, .int _ _, by simp only [Sem.run_bind, g, Result.andThen_ok, binOp]; rw [if_neg (by simp)]; rfl⟩
    · cases e
  all_goals
    split at e
    · rename_i hk; subst hk; cases e
      first
        | exact ⟨_, .int _ _, by simp [g, binOp, Op.intArith]; done⟩
        | exact ⟨_, .bool _, by simp [g, binOp, Op.intCmp]⟩
    · cases e
theorem ok_bin {op : BinOp} {x y : AOpd} (hop : chkOp P o.op (.bin op x y) = true) (R : Rel G ρ w S O env a) (he : aop G env h (.bin op x y) = some (v, h')) : FreeOk ρ w S O h ((execOp a.eval o).run P w) v h' := by
  obtain ⟨v0, h0, he⟩ := opt_bind_some.1 he
  obtain ⟨v1, h1, he⟩ := opt_bind_some.1 he
  obtain ⟨r, hb, e⟩ := opt_map_some.1 he
  cases e
  simp only [chkOp] at hop
  split at hop
  case h_2 => cases hop
  rename_i op' t x' y' yt heq
  simp only [Bool.and_eq_true, beq_iff_eq] at hop
  obtain ⟨⟨rfl, hx⟩, hy⟩ := hop
  have rx := ev_rep hx R h0
  have ry := ev_rep hy R h1
  rcases abin_some hb with ⟨s, t', rfl, rfl, rfl, hle, rfl⟩ | ⟨k, m, k', n, rfl, rfl⟩
  · have e1 := rv_str rx
    have e2 := rv_str ry
    refine .pure (x := .string (s ++ t')) ?_ (.s (.str _))
    simp only [execOp, heq, e1, e2, eqGuard, binOp, Op.stringOp]
    rw [if_neg hle]
    simp
  · have e1 := rv_int rx
    have e2 := rv_int ry
    obtain ⟨z, hz, hrun⟩ := bin_run (P := P) (X := fun b => S b ∨ O b) hb t x' y' w
    refine .pure (x := z) ?_ (.s hz)
    simp only [execOp, heq, e1, e2]
    rw [Sem.run_bind, hrun]
    rfl
theorem ok_not {x : AOpd} (hop : chkOp P o.op (.not x) = true) (R : Rel G ρ w S O env a) (he : aop G env h (.not x) = some (v, h')) : FreeOk ρ w S O h ((execOp a.eval o).run P w) v h' := by
  obtain ⟨v0, h0, he⟩ := opt_bind_some.1 he
  simp only [chkOp] at hop
  split at hop
  case h_2 => cases hop
  rename_i ty y heq
  split at he
  case h_2 => cases he
  cases he
  have e1 := rv_bool (ev_rep hop R h0)
  exact .pure (by simp [execOp, heq, e1, Op.unary]) (.s (.bool _))
theorem ok_neg {x : AOpd} (hop : chkOp P o.op (.neg x) = true) (R : Rel G ρ w S O env a) (he : aop G env h (.neg x) = some (v, h')) : FreeOk ρ w S O h ((execOp a.eval o).run P w) v h' := by
  obtain ⟨v0, h0, he⟩ := opt_bind_some.1 he
  simp only [chkOp] at hop
  split at hop
  case h_2 => cases hop
  rename_i ty y heq
  split at he
  case h_2 => cases he
  cases he
  have e1 := rv_int (ev_rep hop R h0)
  exact .pure (by simp [execOp, heq, e1, Op.unary, Op.intArith]) (.s (.int _ _))
theorem und_some {t : TypeId} (h : (P.underlying t).isSome = true) : ∃ d, P.underlying t = some d := Option.isSome_iff_exists.1 h
theorem ok_conv {k : IntKind} {x : AOpd} (hop : chkOp P o.op (.conv k x) = true) (R : Rel G ρ w S O env a) (he : aop G env h (.conv k x) = some (v, h')) : FreeOk ρ w S O h ((execOp a.eval o).run P w) v h' := by
  obtain ⟨v0, h0, he⟩ := opt_bind_some.1 he
  simp only [chkOp] at hop
  split at hop
  case h_2 => cases hop
  rename_i s d y heq
  simp only [Bool.and_eq_true] at hop
  obtain ⟨⟨h1, h2⟩, h3⟩ := hop
  obtain ⟨ds, hs⟩ := und_some h2
  split at h3
  case h_2 => cases h3
  rename_i k' hd
  simp only [beq_iff_eq] at h3
  subst h3
  split at he
  case h_2 => cases he
  cases he
  have e1 := rv_int (ev_rep h1 R h0)
  exact .pure (by simp [execOp, heq, e1, convert, run_underlying hs, run_underlying hd, Conv.intToInt]) (.s (.int _ _))
theorem ok_rstr {x : AOpd} (hop : chkOp P o.op (.rstr x) = true) (R : Rel G ρ w S O env a) (he : aop G env h (.rstr x) = some (v, h')) : FreeOk ρ w S O h ((execOp a.eval o).run P w) v h' := by
  obtain ⟨v0, h0, he⟩ := opt_bind_some.1 he
  simp only [chkOp] at hop
  split at hop
  case h_2 => cases hop
  rename_i s d y heq
  simp only [Bool.and_eq_true] at hop
  obtain ⟨⟨h1, h2⟩, h3⟩ := hop
  obtain ⟨ds, hs⟩ := und_some h2
  split at h3
  case h_2 => cases h3
  rename_i hd
  split at he
  case h_2 => cases he
  cases he
  have e1 := rv_int (ev_rep h1 R h0)
  exact .pure (by simp [execOp, heq, e1, convert, run_underlying hs, run_underlying hd, Conv.intToString]) (.s (.str _))
theorem ok_cvs {x : AOpd} (hop : chkOp P o.op (.cvs x) = true) (R : Rel G ρ w S O env a) (he : aop G env h (.cvs x) = some (v, h')) : FreeOk ρ w S O h ((execOp a.eval o).run P w) v h' := by
  obtain ⟨v0, h0, he⟩ := opt_bind_some.1 he
  simp only [chkOp] at hop
  split at hop
  case h_2 => cases hop
  rename_i s d y heq
  simp only [Bool.and_eq_true] at hop
  obtain ⟨⟨h1, h2⟩, h3⟩ := hop
  obtain ⟨ds, hs⟩ := und_some h2
  split at h3
  case h_2 => cases h3
  rename_i hd
  split at he
  case h_2 => cases he
  cases he
  have e1 := rv_str (ev_rep h1 R h0)
  exact .pure (by simp [execOp, heq, e1, convert, run_underlying hs, run_underlying hd]) (.s (.str _))
theorem evs_rep : ∀ {xs : List Operand} {as : List AOpd} {vs : List AV}, chkOpds xs as = true → Rel G ρ w S O env a → as.mapM (aeval G env) = some vs →
    vs.length = (xs.map a.eval).length ∧ ∀ (i : Nat) c v, vs[i]? = some c → (xs.map a.eval)[i]? = some v → RepV ρ w S O c v
  | [], [], vs, _, _, he => by simp at he; subst he; exact ⟨rfl, fun i c v hc => by simp at hc⟩
  | x :: xs, b :: as, vs, hc, R, he => by
    simp only [chkOpds, Bool.and_eq_true] at hc
    simp only [List.mapM_cons] at he
    obtain ⟨u, hu, he⟩ := opt_bind_some.1 he
    obtain ⟨us, hus, he⟩ := opt_bind_some.1 he
    cases he
    obtain ⟨h1, h2⟩ := evs_rep hc.2 R hus
    refine ⟨by simp [h1], fun i c v hc' hv => ?_⟩
    cases i with
    | zero => simp at hc' hv; subst hc' hv; exact ev_rep hc.1 R hu
    | succ i => exact h2 i c v (by simpa using hc') (by simpa using hv)
  | [], _ :: _, _, hc, _, _ => by cases hc
  | _ :: _, [], _, hc, _, _ => by cases hc
theorem ok_mkfn {f : Fn} {xs ys : List AOpd} (hop : chkOp P o.op (.mkfn f xs ys) = true) (R : Rel G ρ w S O env a) (he : aop G env h (.mkfn f xs ys) = some (v, h')) : FreeOk ρ w S O h ((execOp a.eval o).run P w) v h' := by
  obtain ⟨v0, h0, he⟩ := opt_bind_some.1 he
  obtain ⟨v1, h1, e⟩ := opt_map_some.1 he
  cases e
  simp only [chkOp] at hop
  split at hop
  case h_2 => cases hop
  rename_i f' first caps heq
  simp only [Bool.and_eq_true, beq_iff_eq] at hop
  obtain ⟨⟨rfl, hx⟩, hy⟩ := hop
  obtain ⟨l1, r1⟩ := evs_rep hx R h0
  obtain ⟨l2, r2⟩ := evs_rep hy R h1
  refine .pure (x := .func f (first.toList.map a.eval).toArray (caps.toList.map a.eval).toArray) ?_ (.fn f v0 v1 _ _ l1 l2 r1 r2)
  have m1 : first.map a.eval = (first.toList.map a.eval).toArray := by apply Array.ext'; simp
  have m2 : caps.map a.eval = (caps.toList.map a.eval).toArray := by apply Array.ext'; simp
  simp [execOp, heq, Instr.makeFunc, m1, m2]
theorem ok_extract {i : Nat} {x : AOpd} (hop : chkOp P o.op (.extract i x) = true) (R : Rel G ρ w S O env a) (he : aop G env h (.extract i x) = some (v, h')) : FreeOk ρ w S O h ((execOp a.eval o).run P w) v h' := by
  obtain ⟨v0, h0, he⟩ := opt_bind_some.1 he
  split at he
  case h_2 => cases he
  rename_i vs
  obtain ⟨c, hc, e⟩ := opt_map_some.1 he
  cases e
  simp only [chkOp] at hop
  split at hop
  case h_2 => cases hop
  rename_i y j heq
  simp only [Bool.and_eq_true, beq_iff_eq] at hop
  obtain ⟨hx, rfl⟩ := hop
  obtain ⟨us, e1, hl, hr⟩ := rv_tup (ev_rep hx R h0)
  have hlt : i < us.length := by have := (List.getElem?_eq_some_iff.1 hc).1; omega
  refine .pure (x := us[i]) ?_ (hr i v _ hc (by simp [hlt]))
  simp [execOp, heq, e1, Instr.extract, hlt]
end
end Go.Proofs.Ytfnonledcniojaa
/- '==' and '!=' of arrays, element by element, over any program. Conditions: the type is an array. -/
namespace Go.Proofs.Ytfnonledcniojaa
open Go

/-- the elements of two arrays, from the i-th on, so many of them -/
def eqElems (d : Nat) (e : TypeId) (sz : Nat) (xs ys : Array Value) : Nat → Nat → Sem Bool
  | 0, _ => pure true
  | k + 1, i => do
    let a ← part e xs (i * sz)
    let b ← part e ys (i * sz)
    let r ← Op.equalIn d e a b
    if (!r) = true then pure false else eqElems d e sz xs ys k (i + 1)

section
variable {P : Program} (w : World)
theorem run_equalIn_array (d : Nat) (t e : TypeId) (n sz : Nat) (xs ys : Array Value) (ht : P.underlying t = some (.array n e)) (hs : (sizeOf e).run P w = .ok sz w) :
    (Op.equalIn (d + 1) t (.agg xs) (.agg ys)).run P w = (eqElems d e sz xs ys n 0).run P w := by
  simp only [Op.equalIn, Sem.run_bind, run_underlying ht, Result.andThen_ok, hs]
  rw [Std.Legacy.Range.forIn_eq_forIn_range']
  simp only [Std.Legacy.Range.size, Nat.sub_zero, Nat.add_sub_cancel, Nat.div_one]
  clear hs ht
  generalize 0 = s
  induction n generalizing s w with
  | zero => simp [eqElems]
  | succ k ih =>
    simp only [List.range'_succ, List.forIn_cons, eqElems, Sem.run_bind, Sem.run_ite]
    generalize (part e xs (s * sz)).run P w = r1
    cases r1 with
    | ok a w1 =>
      simp only [Result.andThen_ok]
      generalize (part e ys (s * sz)).run P w1 = r2
      cases r2 with
      | ok b w2 =>
        simp only [Result.andThen_ok]
        generalize (Op.equalIn d e a b).run P w2 = r3
        cases r3 with
        | ok r w3 =>
          cases r
          · simp only [Result.andThen_ok, Bool.not_false, if_true, Sem.run_pure]
          · simp only [Result.andThen_ok, Bool.not_true, Bool.false_eq_true, if_false, Sem.run_pure]
            exact ih w3 (s + 1)
        | halt x w3 => simp [Result.andThen]
      | halt x w2 => simp [Result.andThen]
    | halt x w1 => simp [Result.andThen]
end
end Go.Proofs.Ytfnonledcniojaa
/- '==' of structs and arrays whose cells are numbers, bools and strings. Conditions: none. -/
namespace Go.Proofs.Ytfnonledcniojaa
open Go Go.RowKit
section
variable {P : Program}

def sval : AV → Value
  | .int k n => .int k n
  | .bool b => .bool b
  | .str s => .string s
  | _ => undef
theorem isAgg_run {t : TypeId} {b : Bool} (h : isAggB P t = some b) (w : World) : (isAgg t).run P w = .ok b w := by
  unfold isAggB at h
  unfold isAgg
  split at h
  · rename_i d hu; cases h; simp [run_underlying hu]
  · rename_i d e hu; cases h; simp [run_underlying hu]
  · rename_i d n1 n2 hu; cases h
    rw [Sem.run_bind, run_underlying hu w]
    cases d with
    | struct fs => exact absurd rfl (n1 fs)
    | array n e => exact absurd rfl (n2 n e)
    | _ => rfl
  · cases h
theorem sizeOf_run {t : TypeId} {n : Nat} (h : sizeIs P t n = true) (w : World) : (sizeOf t).run P w = .ok n w := by
  unfold sizeIs at h
  split at h
  · rename_i i hi; simp only [beq_iff_eq] at h; simp [sizeOf, typeInfo, hi, h]
  · cases h
theorem info_of_size {t : TypeId} {n : Nat} (h : sizeIs P t n = true) : ∃ i, P.info? t = some i ∧ i.size = n := by
  unfold sizeIs at h
  split at h
  · rename_i i hi; exact ⟨i, hi, by simpa using h⟩
  · cases h
/-- A value of a type out of its cells. -/
def tval (P : Program) (t : TypeId) (vs : List Value) : Value := if isAggB P t = some true then .agg vs.toArray else vs.headD undef
theorem part_run {t : TypeId} {b : Bool} {n off : Nat} {vs : List Value} (h1 : isAggB P t = some b) (h2 : sizeIs P t n = true) (h3 : off + n ≤ vs.length) (h4 : b = false → n = 1) (w : World) :
    (part t vs.toArray off).run P w = .ok (tval P t ((vs.drop off).take n)) w := by
  unfold part
  rw [Sem.run_bind, isAgg_run h1]
  cases b with
  | true =>
    simp only [Result.andThen_ok, if_true, Sem.run_bind, sizeOf_run h2, Sem.run_pure, tval, h1]
    congr 2
    apply Array.ext'
    simp [List.drop_take]
  | false =>
    obtain rfl := h4 rfl
    have hlt : off < vs.length := by omega
    have e : (vs.drop off).take 1 = [vs[off]] := by rw [List.drop_eq_getElem_cons hlt]; rfl
    simp only [Result.andThen_ok, Bool.false_eq_true, if_false, tval, h1, List.getElem?_toArray, e]
    rw [List.getElem?_eq_getElem hlt]
    rfl

theorem eqCells_len : ∀ {sh : List Sh} {as bs : List AV} {b : Bool}, eqCells sh as bs = some b → as.length = sh.length ∧ bs.length = sh.length
  | [], [], [], _, _ => ⟨rfl, rfl⟩
  | s :: ss, a :: as, c :: bs, _, h => by
    obtain ⟨x, _, h⟩ := opt_bind_some.1 h
    obtain ⟨y, hy, _⟩ := opt_bind_some.1 h
    obtain ⟨h1, h2⟩ := eqCells_len hy
    exact ⟨by simp [h1], by simp [h2]⟩
  | [], [], _ :: _, _, h => by cases h
  | [], _ :: _, _, _, h => by cases h
  | _ :: _, [], _, _, h => by cases h
  | _ :: _, _ :: _, [], _, h => by cases h
theorem eqCells_append : ∀ {s1 s2 : List Sh} {as bs : List AV} {b : Bool}, eqCells (s1 ++ s2) as bs = some b →
    ∃ x y, eqCells s1 (as.take s1.length) (bs.take s1.length) = some x ∧ eqCells s2 (as.drop s1.length) (bs.drop s1.length) = some y ∧ b = (x && y)
  | [], s2, as, bs, b, h => ⟨true, b, by simp [eqCells], by simpa using h, by simp⟩
  | s :: s1, s2, a :: as, c :: bs, b, h => by
    obtain ⟨x, hx, h⟩ := opt_bind_some.1 h
    obtain ⟨y, hy, h⟩ := opt_bind_some.1 h
    cases h
    obtain ⟨p, q, h1, h2, rfl⟩ := eqCells_append hy
    refine ⟨x && p, q, ?_, by simpa using h2, by simp [Bool.and_assoc]⟩
    simp [eqCells, hx, h1]
  | _ :: _, _, [], _, _, h => by cases h
  | _ :: _, _, _ :: _, [], _, h => by cases h

def ShOf (P : Program) (t : TypeId) : Sh → Prop
  | .ki => ∃ k, P.underlying t = some (.int k)
  | .kb => P.underlying t = some .bool
  | .ks => P.underlying t = some .string
theorem eqLeaf_run (d : Nat) (t : TypeId) (w : World) {s : Sh} {x y : AV} {b : Bool} (h : eqLeaf s x y = some b)
    (hs : ShOf P t s) :
    (Op.equalIn (d + 1) t (sval x) (sval y)).run P w = .ok b w := by
  unfold eqLeaf at h
  split at h
  · rename_i k a k' c
    by_cases hk : k = k'
    · rw [if_pos hk] at h
      subst hk
      cases h
      obtain ⟨k', hu⟩ := hs
      exact run_equalIn_int w d t _ k' _ _ hu
    · rw [if_neg hk] at h; cases h
  · cases h; exact run_equalIn_bool w d t _ _ hs
  · cases h; rw [beq_toListBytes]; exact run_equalIn_string w d t _ _ hs
  · cases h

/-- What is to be shown of a type. -/
def EqAt (P : Program) (d : Nat) : Prop := ∀ (t : TypeId) (sh : List Sh) (as bs : List AV) (b : Bool), flatSh P d t = some sh → eqCells sh as bs = some b → ∀ (f : Nat) (w : World), d ≤ f → (Op.equalIn f t (tval P t (as.map sval)) (tval P t (bs.map sval))).run P w = .ok b w
theorem flat_agg {d : Nat} {t : TypeId} {sh : List Sh} (h : flatSh P d t = some sh) : ∃ bb, isAggB P t = some bb ∧ (bb = false → sh.length = 1) := by
  cases d with
  | zero => cases h
  | succ d =>
    unfold flatSh at h
    unfold isAggB
    split at h
    · rename_i hu; split at h <;> cases h; exact ⟨false, by rw [hu], fun _ => rfl⟩
    · rename_i hu; split at h <;> cases h; exact ⟨false, by rw [hu], fun _ => rfl⟩
    · rename_i hu; split at h <;> cases h; exact ⟨false, by rw [hu], fun _ => rfl⟩
    · rename_i hu; exact ⟨true, by rw [hu], fun h => by cases h⟩
    · rename_i hu; exact ⟨true, by rw [hu], fun h => by cases h⟩
    · cases h

theorem eqFields_run (d : Nat) (ih : EqAt P d) (f0 : Nat) (hf0 : d ≤ f0) (w : World) (xs ys : List AV) :
    ∀ (fs : List Field) (off : Nat) (sh : List Sh) (b : Bool), shFields P (flatSh P d) off fs = some sh → eqCells sh (xs.drop off) (ys.drop off) = some b → off + sh.length = xs.length → off + sh.length = ys.length →
      (Op.eqFields f0 (xs.map sval).toArray (ys.map sval).toArray fs).run P w = .ok b w
  | [], off, sh, b, hp, he, _, _ => by
    cases hp
    generalize xs.drop off = as at he
    generalize ys.drop off = bs at he
    cases as <;> cases bs <;> cases he
    rfl
  | f :: fs, off, sh, b, hp, he, hx, hy => by
    unfold shFields at hp
    obtain ⟨s1, h1, hp⟩ := opt_bind_some.1 hp
    split at hp
    case isFalse => cases hp
    rename_i hc
    simp only [Bool.and_eq_true, beq_iff_eq, bne_iff_ne] at hc
    obtain ⟨⟨ho, hn⟩, hsz⟩ := hc
    obtain ⟨s2, h2, e⟩ := opt_map_some.1 hp
    subst e
    simp only [List.length_append] at hx hy
    obtain ⟨x, y, e1, e2, rfl⟩ := eqCells_append he
    rw [List.drop_drop, List.drop_drop] at e2
    obtain ⟨bb, hb1, hb2⟩ := flat_agg h1
    have p1 := part_run (vs := xs.map sval) hb1 hsz (off := off) (by simp; omega) hb2 w
    have p2 := part_run (vs := ys.map sval) hb1 hsz (off := off) (by simp; omega) hb2 w
    have q := ih f.type s1 _ _ x h1 e1 f0 w hf0
    rw [Op.eqFields, if_pos hn]
    rw [ho]
    simp only [Sem.run_bind, p1, p2, Result.andThen_ok, ← List.map_drop, ← List.map_take, q]
    cases x with
    | false => simp
    | true =>
      simp only [Bool.not_true, Bool.false_eq_true, if_false, Bool.true_and]
      exact eqFields_run d ih f0 hf0 w xs ys fs (off + s1.length) s2 y h2 e2 (by omega) (by omega)
theorem eqElems_run (d : Nat) (ih : EqAt P d) (f0 : Nat) (hf0 : d ≤ f0) (w : World) (e : TypeId) (sh : List Sh) (hfl : flatSh P d e = some sh) (hsz : sizeIs P e sh.length = true) (xs ys : List AV) :
    ∀ (k i : Nat) (b : Bool), (i + k) * sh.length = xs.length → (i + k) * sh.length = ys.length → eqCells (List.replicate k sh).flatten (xs.drop (i * sh.length)) (ys.drop (i * sh.length)) = some b →
      (eqElems f0 e sh.length (xs.map sval).toArray (ys.map sval).toArray k i).run P w = .ok b w
  | 0, i, b, _, _, he => by
    generalize xs.drop (i * sh.length) = as at he
    generalize ys.drop (i * sh.length) = bs at he
    simp only [List.replicate_zero, List.flatten_nil] at he
    cases as <;> cases bs <;> cases he
    rfl
  | k + 1, i, b, hx, hy, he => by
    have ek : (i + (k + 1)) * sh.length = i * sh.length + sh.length + k * sh.length := by simp [Nat.add_mul, Nat.add_comm, Nat.add_left_comm]
    rw [List.replicate_succ, List.flatten_cons] at he
    obtain ⟨x, y, e1, e2, rfl⟩ := eqCells_append he
    rw [List.drop_drop, List.drop_drop, show i * sh.length + sh.length = (i + 1) * sh.length from by rw [Nat.add_mul]; omega] at e2
    obtain ⟨bb, hb1, hb2⟩ := flat_agg hfl
    have p1 := part_run (vs := xs.map sval) hb1 hsz (off := i * sh.length) (by simp; omega) hb2 w
    have p2 := part_run (vs := ys.map sval) hb1 hsz (off := i * sh.length) (by simp; omega) hb2 w
    have q := ih e sh _ _ x hfl e1 f0 w hf0
    rw [eqElems]
    simp only [Sem.run_bind, p1, p2, Result.andThen_ok, ← List.map_drop, ← List.map_take, q]
    cases x with
    | false => simp
    | true =>
      simp only [Bool.not_true, Bool.false_eq_true, if_false, Bool.true_and]
      exact eqElems_run d ih f0 hf0 w e sh hfl hsz xs ys k (i + 1) y (by rw [← hx]; congr 1; omega) (by rw [← hy]; congr 1; omega) e2
theorem eqAt : ∀ d, EqAt P d
  | 0 => fun t sh as bs b h => by cases h
  | d + 1 => fun t sh as bs b h he f w hf => by
    obtain ⟨f, rfl⟩ : ∃ k, f = k + 1 := ⟨f - 1, by omega⟩
    obtain ⟨la, lb⟩ := eqCells_len he
    have leaf : ∀ s, sh = [s] → isAggB P t = some false → ShOf P t s →
        (Op.equalIn (f + 1) t (tval P t (as.map sval)) (tval P t (bs.map sval))).run P w = .ok b w := fun s hsh hag hs => by
      subst hsh
      match as, bs, la, lb with
      | [x], [y], _, _ =>
        obtain ⟨p, hp, he⟩ := opt_bind_some.1 he
        cases he
        simp only [tval, hag, Option.some.injEq, Bool.false_eq_true, if_false, List.map_cons, List.map_nil, List.headD_cons, Bool.and_true]
        exact eqLeaf_run f t w hp hs
    have hag : ∀ dd, P.underlying t = some dd → (match dd with | .struct _ | .array _ _ => False | _ => True) → isAggB P t = some false := fun dd hu hn => by
      unfold isAggB; rw [hu]; cases dd <;> first | rfl | exact hn.elim
    unfold flatSh at h
    split at h
    · rename_i hu; split at h <;> cases h; exact leaf _ rfl (hag _ hu trivial) hu
    · rename_i k hu; split at h <;> cases h; exact leaf _ rfl (hag _ hu trivial) ⟨k, hu⟩
    · rename_i hu; split at h <;> cases h; exact leaf _ rfl (hag _ hu trivial) hu
    · rename_i fs hu
      split at h
      · cases h
      · rename_i hst
        have ha : isAggB P t = some true := by unfold isAggB; rw [hu]
        simp only [tval, ha, if_true]
        have hf1 : P.fieldsOf t = fs := by simp [Program.fieldsOf, hu]
        rw [run_equalIn_struct w f t _ _ (by rw [hf1]; exact hu) (by simpa using hst), hf1]
        exact eqFields_run d (eqAt d) f (by omega) w as bs fs.toList 0 sh b h (by simpa using he) (by omega) (by omega)
    · rename_i n e hu
      obtain ⟨s1, h1, h⟩ := opt_bind_some.1 h
      split at h
      case isFalse => cases h
      rename_i hc
      cases h
      simp only [Bool.and_eq_true] at hc
      have ha : isAggB P t = some true := by unfold isAggB; rw [hu]
      simp only [tval, ha, if_true]
      rw [run_equalIn_array w f t e n s1.length _ _ hu (sizeOf_run hc.1 w)]
      have hl : (List.replicate n s1).flatten.length = n * s1.length := by simp
      exact eqElems_run d (eqAt d) f (by omega) w e s1 h1 hc.1 as bs n 0 b (by rw [la, hl]; simp) (by rw [lb, hl]; simp) (by simpa using he)
    · cases h
end
end Go.Proofs.Ytfnonledcniojaa
/- Each operation of the small machine stands for the program's operation: places, loads, slices, comparisons. Conditions: none. -/
namespace Go.Proofs.Ytfnonledcniojaa
open Go Go.RowKit
variable [FrB]
section
variable {P : Program} {G : Nat → Option (List AV)} {ρ : Rho} {w : World} {S O : Nat → Prop} {env : AEnv} {h : List ARow} {a : Act} {o : Oper} {v : AV} {h' : List ARow}

theorem load_run {t : TypeId} {agg : Bool} {m : Nat} {cs : List AV} {b o off : Nat} {val : Nat → Value} {v : AV} (hagg : isAggB P t = some agg) (hs : sizeIs P t m = true)
    (hc : ∀ j, j < cs.length → w.cell? ⟨b, o + j, none⟩ = some (val j) ∧ (val j).oneCell' = true) (hr : ∀ (j : Nat) c, cs[j]? = some c → RepV ρ w S O c (val j)) (hcut : acut agg m off cs = some v) :
    ∃ x, (Instr.loadAt t (.pointer (some ⟨b, o + off, none⟩))).run P w = .ok x w ∧ RepV ρ w S O v x := by
  cases agg with
  | false =>
    have hcut : cs[off]? = some v := hcut
    have hlt := (List.getElem?_eq_some_iff.1 hcut).1
    refine ⟨val off, ?_, hr off v hcut⟩
    simp [Instr.loadAt, Instr.sureAddr, loadVar, isAgg_run hagg, (hc off hlt).1]
  | true =>
    unfold acut at hcut
    rw [if_pos rfl] at hcut
    split at hcut
    case isFalse => cases hcut
    rename_i hle
    cases hcut
    obtain ⟨i, hi, hsz⟩ := info_of_size hs
    have hd : ∃ d, P.underlying t = some d ∧ d.isRow = true := by
      unfold isAggB at hagg
      split at hagg
      · rename_i hu; exact ⟨_, hu, rfl⟩
      · rename_i hu; exact ⟨_, hu, rfl⟩
      · cases hagg
      · cases hagg
    obtain ⟨d, hu, hrow⟩ := hd
    refine ⟨.agg ((List.range m).map fun j => val (off + j)).toArray, ?_, .agg _ _ (by simp; omega) ?_ ?_⟩
    · refine run_loadAt_mid w b (o + off) t _ d (fun j v hj => ?_) hu hrow (by simp [hi, hsz])
      have hjm : j < m := by have := (List.getElem?_eq_some_iff.1 hj).1; simpa using this
      simp [hjm] at hj
      subst hj
      rw [Nat.add_assoc]
      exact (hc (off + j) (by omega)).1
    · intro v hv
      obtain ⟨j, hj, rfl⟩ := List.mem_map.1 hv
      exact (hc (off + j) (by simp at hj; omega)).2
    · intro j c x hc' hx
      have hjm : j < m := by have := (List.getElem?_eq_some_iff.1 hx).1; simpa using this
      simp [hjm] at hx
      subst hx
      refine hr (off + j) c ?_
      rw [List.getElem?_take, if_pos hjm, List.getElem?_drop] at hc'
      exact hc'
theorem ok_load {agg : Bool} {m : Nat} {x : AOpd} (hop : chkOp P o.op (.load agg m x) = true) (R : Rel G ρ w S O env a) (H : Heap ρ w S O h) (he : aop G env h (.load agg m x) = some (v, h')) : OpN ρ w S O h ((execOp a.eval o).run P w) v h' := by
  obtain ⟨v0, h0, he⟩ := opt_bind_some.1 he
  obtain ⟨v1, h1, e⟩ := opt_map_some.1 he
  cases e
  simp only [chkOp] at hop
  split at hop
  case h_2 => cases hop
  rename_i t y heq
  simp only [Bool.and_eq_true, beq_iff_eq] at hop
  obtain ⟨⟨hx, hag⟩, hs⟩ := hop
  have hr := ev_rep hx R h0
  have fin : ∀ z, (∃ u, (Instr.loadAt t z).run P w = .ok u w ∧ RepV ρ w S O v u) → a.eval y = z → OpN ρ w S O h ((execOp a.eval o).run P w) v h := fun z ⟨u, h1, h2⟩ hz =>
    .pure H (x := u) (by simp [execOp, heq, hz, h1]) h2
  cases v0 with
  | ptr id g e off =>
    obtain ⟨r, hrow, h1⟩ := opt_bind_some.1 h1
    split at h1
    case isFalse => cases h1
    rename_i hgen
    obtain ⟨grp, hg, hcut⟩ := opt_bind_some.1 h1
    obtain ⟨g', pl, ad, hz, hρ, hle, hpl⟩ := rv_ptr hr
    obtain ⟨hg', his⟩ := H.at hρ hrow
    obtain ⟨p, rfl, rfl⟩ := hpl (by omega)
    obtain ⟨arr, ty, lo, hi, hb, hsz, _, hcell⟩ := RowRep.block his
    have hlen := RowRep.len his grp (List.mem_of_getElem? hg)
    refine fin _ (load_run (cs := grp) (b := p.b) (o := p.base + e * p.k) (off := off) (val := fun j => arr.getD (p.base + e * p.k + j) undef) hag hs (fun j hj => ?_) (fun j c hj => ?_) hcut) hz
    · obtain ⟨x, h1, h2, _⟩ := hcell e j grp _ hg (List.getElem?_eq_getElem hj)
      simp only [Array.getD_eq_getD_getElem?, h1, Option.getD_some]
      exact ⟨by rw [cell_of_row w p.b _ arr ty _ hb]; exact h1, h2⟩
    · obtain ⟨x, h1, _, h3, _⟩ := hcell e j grp c hg hj
      simp only [Array.getD_eq_getD_getElem?, h1, Option.getD_some]
      exact h3
  | dptr cs =>
    obtain ⟨b, off, val, hz, _, _, h5, h6⟩ := rv_dptr hr
    have := load_run (ρ := ρ) (S := S) (O := O) (cs := cs) (b := b) (o := off) (off := 0) (val := val) hag hs h5 (fun j c hj => (h6 j c hj).v) h1
    exact fin _ this hz
  | _ => cases h1
theorem addr_add (b o n : Nat) : (⟨b, o, none⟩ : Addr).add n = ⟨b, o + n, none⟩ := Addr.add_mid b o n
theorem ok_faddr {off : Nat} {x : AOpd} (hop : chkOp P o.op (.faddr off x) = true) (R : Rel G ρ w S O env a) (he : aop G env h (.faddr off x) = some (v, h')) : FreeOk ρ w S O h ((execOp a.eval o).run P w) v h' := by
  obtain ⟨v0, h0, he⟩ := opt_bind_some.1 he
  obtain ⟨v1, h1, e⟩ := opt_map_some.1 he
  cases e
  simp only [chkOp] at hop
  split at hop
  case h_2 => cases hop
  rename_i s y f heq
  simp only [Bool.and_eq_true] at hop
  obtain ⟨hx, hop⟩ := hop
  split at hop
  case h_2 => cases hop
  rename_i fs hu
  split at hop
  case h_2 => cases hop
  rename_i fd hf
  simp only [Bool.and_eq_true, beq_iff_eq] at hop
  obtain ⟨hoff, hop⟩ := hop
  split at hop
  case h_2 => cases hop
  rename_i i hi
  have hsz : i.size ≠ 0 := by simpa using hop
  have hr := ev_rep hx R h0
  have run : ∀ b o, (Instr.fieldAt s (.pointer (some ⟨b, o, none⟩)) f).run P w = .ok (.pointer (some ⟨b, o + off, none⟩)) w := fun b o => by
    simp [Instr.fieldAt, run_underlying hu, hf, Instr.sureAddr, fieldPlace, sizeOf, typeInfo, hi, hsz, addr_add, hoff]
  cases v0 with
  | ptr id g e off0 =>
    cases h1
    obtain ⟨g', pl, ad, hz, hρ, hle, hpl⟩ := rv_ptr hr
    by_cases hg : g = g'
    · obtain ⟨p, rfl, rfl⟩ := hpl hg
      exact .pure (x := .pointer (some ⟨p.b, p.base + e * p.k + off0 + off, none⟩)) (by simp [execOp, heq, hz, run]) (.ptr id g g' (some p) e (off0 + off) _ hρ hle (fun _ => ⟨p, rfl, by rw [Nat.add_assoc]⟩))
    · refine .pure (x := .pointer (some (ad.add off))) ?_ (.ptr id g g' pl e (off0 + off) _ hρ hle (fun h => absurd h hg))
      simp [execOp, heq, hz, Instr.fieldAt, run_underlying hu, hf, Instr.sureAddr, fieldPlace, sizeOf, typeInfo, hi, hsz, hoff]
  | dptr cs =>
    cases h1
    obtain ⟨b, o1, val, hz, h3, h4, h5, h6⟩ := rv_dptr hr
    refine .pure (x := .pointer (some ⟨b, o1 + off, none⟩)) (by simp [execOp, heq, hz, run]) (.dptr _ b (o1 + off) (fun j => val (off + j)) h3 h4 (fun j hj => ?_) fun j c hj => ?_)
    · rw [Nat.add_assoc]; exact h5 (off + j) (by simp at hj; omega)
    · exact h6 (off + j) c (by rw [List.getElem?_drop] at hj; exact hj)
  | _ => cases h1
theorem ok_field {agg : Bool} {m off : Nat} {x : AOpd} (hop : chkOp P o.op (.field agg m off x) = true) (R : Rel G ρ w S O env a) (he : aop G env h (.field agg m off x) = some (v, h')) : FreeOk ρ w S O h ((execOp a.eval o).run P w) v h' := by
  obtain ⟨v0, h0, he⟩ := opt_bind_some.1 he
  split at he
  case h_2 => cases he
  rename_i cs
  obtain ⟨v1, h1, e⟩ := opt_map_some.1 he
  cases e
  simp only [chkOp] at hop
  split at hop
  case h_2 => cases hop
  rename_i s y f heq
  simp only [Bool.and_eq_true] at hop
  obtain ⟨hx, hop⟩ := hop
  split at hop
  case h_2 => cases hop
  rename_i fs hu
  split at hop
  case h_2 => cases hop
  rename_i fd hf
  simp only [Bool.and_eq_true, beq_iff_eq] at hop
  obtain ⟨⟨hoff, hag⟩, hs⟩ := hop
  obtain ⟨vs, hz, hl, hone, hrep⟩ := rv_agg (ev_rep hx R h0)
  subst hoff
  have key : ∃ u, (part fd.type vs.toArray fd.offset).run P w = .ok u w ∧ RepV ρ w S O v u := by
    cases agg with
    | false =>
      have h1 : cs[fd.offset]? = some v := h1
      have hlt := (List.getElem?_eq_some_iff.1 h1).1
      refine ⟨vs[fd.offset], ?_, hrep _ _ _ h1 (by simp [hl ▸ hlt])⟩
      simp [part, isAgg_run hag, hl ▸ hlt]
    | true =>
      unfold acut at h1
      rw [if_pos rfl] at h1
      split at h1
      case isFalse => cases h1
      rename_i hle
      cases h1
      refine ⟨.agg ((vs.drop fd.offset).take m).toArray, ?_, .agg _ _ (by simp; omega) ?_ ?_⟩
      · simp only [part, Sem.run_bind, isAgg_run hag, Result.andThen_ok, if_true, sizeOf_run hs, Sem.run_pure]
        congr 2
        apply Array.ext'
        simp
      · intro u hu; exact hone u (List.mem_of_mem_drop (List.mem_of_mem_take hu))
      · intro i c u hc hu
        have hi : i < m := by have := (List.getElem?_eq_some_iff.1 hu).1; simp at this; omega
        rw [List.getElem?_take, if_pos hi, List.getElem?_drop] at hc hu
        exact hrep _ _ _ hc hu
  obtain ⟨u, hrun, hu'⟩ := key
  exact .pure (x := u) (by simp [execOp, heq, hz, Instr.field, run_underlying hu, hf, asAgg, hrun]) hu'
theorem ok_idx {k : Nat} {x i : AOpd} (hop : chkOp P o.op (.idx k x i) = true) (R : Rel G ρ w S O env a) (H : Heap ρ w S O h) (he : aop G env h (.idx k x i) = some (v, h')) : OpN ρ w S O h ((execOp a.eval o).run P w) v h' := by
  obtain ⟨v0, h0, he⟩ := opt_bind_some.1 he
  obtain ⟨vi, hi0, he⟩ := opt_bind_some.1 he
  obtain ⟨v1, h1, e⟩ := opt_map_some.1 he
  cases e
  simp only [chkOp] at hop
  split at hop
  case h_2 => cases hop
  rename_i t y j heq
  simp only [Bool.and_eq_true] at hop
  obtain ⟨⟨hx, hj⟩, hop⟩ := hop
  split at hop
  case h_2 => cases hop
  rename_i e hu
  have hr := ev_rep hx R h0
  have hri := ev_rep hj R hi0
  have run : ∀ (ad : Addr) (len cap : Nat) (kk : IntKind) (n : Int), 0 ≤ n → n < len → (Instr.indexAt t (.slice (some ad) len cap) (.int kk n)).run P w = .ok (.pointer (some (ad.add (n.toNat * k)))) w := fun ad len cap kk n hn0 hn => by
    simp [Instr.indexAt, asIntOf, run_underlying hu, hn0, hn, sizeOf_run hop]
  cases v0 with
  | own id g s l c =>
    cases vi with
    | int kk n =>
      obtain ⟨r, hrow, h1⟩ := opt_bind_some.1 h1
      split at h1
      case isFalse => cases h1
      rename_i hgk
      split at h1
      case isFalse => cases h1
      rename_i hn
      cases h1
      obtain ⟨g', pl, ad, cap, hz, hρ, hle, hlc, _, _, hpl⟩ := rv_own hr
      obtain ⟨hg', his⟩ := H.at hρ hrow
      have e2 := rv_int hri
      rcases hpl (by omega) with hc0 | ⟨p, rfl, rfl, hlim⟩
      · omega
      have hk : p.k = k := (RowRep.k his).trans hgk.2
      refine .pure H (x := .pointer (some ⟨p.b, p.base + (s + n.toNat) * p.k + 0, none⟩)) ?_ (.ptr id g g' (some p) (s + n.toNat) 0 _ hρ hle (fun _ => ⟨p, rfl, rfl⟩))
      have ea : p.base + s * p.k + n.toNat * k = p.base + (s + n.toNat) * p.k + 0 := by rw [hk, Nat.add_mul]; omega
      simp only [execOp, heq, hz, e2, Sem.run_bind, run _ _ _ _ _ hn.1 hn.2, Result.andThen_ok, Sem.run_pure, addr_add, ea]
    | _ => cases h1
  | data bo k' es f =>
    cases vi with
    | int kk n =>
      have h1 : (if k' = k then if 0 ≤ n then (es[n.toNat]?).map (dptrB bo) else none else none) = some v := h1
      split at h1
      case isFalse => cases h1
      rename_i hk
      split at h1
      case isFalse => cases h1
      rename_i hn
      obtain ⟨g, hg, rfl⟩ := opt_map_some.1 h1
      subst hk
      have hlt := (List.getElem?_eq_some_iff.1 hg).1
      obtain ⟨ad, cap, hz, hlc, _, hlen, hd⟩ := rv_data hr
      have e2 := rv_int hri
      rcases hd with rfl | ⟨b, off, val, rfl, hO, _, hb, hc, hrp⟩
      · simp at hlt
      have hgl := hlen g (List.mem_of_getElem? hg)
      refine .pure H (x := .pointer (some ⟨b, off + n.toNat * k', none⟩)) ?_ (dptrB_rep (val := fun j => val n.toNat j) hO hb (fun j hj => ?_) fun j c hj => hrp _ _ _ _ hg hj)
      · simp only [execOp, heq, hz, e2, Sem.run_bind, run _ _ _ _ _ hn (show n < (es.length : Int) by omega), Result.andThen_ok, Sem.run_pure, addr_add]
      · rw [Nat.add_assoc]; exact hc _ _ hlt (by omega)
    | _ => cases h1
  | _ => cases vi <;> cases h1
theorem ok_idxarr {k n : Nat} {x i : AOpd} (hop : chkOp P o.op (.idxarr k n x i) = true) (R : Rel G ρ w S O env a) (he : aop G env h (.idxarr k n x i) = some (v, h')) : FreeOk ρ w S O h ((execOp a.eval o).run P w) v h' := by
  obtain ⟨v0, h0, he⟩ := opt_bind_some.1 he
  obtain ⟨vi, hi0, he⟩ := opt_bind_some.1 he
  obtain ⟨v1, h1, e⟩ := opt_map_some.1 he
  cases e
  simp only [chkOp] at hop
  split at hop
  case h_2 => cases hop
  rename_i t y j heq
  simp only [Bool.and_eq_true] at hop
  obtain ⟨⟨hx, hj⟩, hop⟩ := hop
  split at hop
  case h_2 => cases hop
  rename_i n' e hu
  simp only [Bool.and_eq_true, beq_iff_eq] at hop
  obtain ⟨rfl, hs⟩ := hop
  have hr := ev_rep hx R h0
  have hri := ev_rep hj R hi0
  have run : ∀ (ad : Addr) (kk : IntKind) (m : Int), 0 ≤ m → m < n → (Instr.indexAt t (.pointer (some ad)) (.int kk m)).run P w = .ok (.pointer (some (ad.add (m.toNat * k)))) w := fun ad kk m hm0 hm => by
    simp [Instr.indexAt, asIntOf, run_underlying hu, hm0, hm, sizeOf_run hs, Instr.sureAddr]
  cases v0 with
  | ptr id g e0 off0 =>
    cases vi with
    | int kk m =>
      have h1 : (if 0 ≤ m ∧ m < n then some (AV.ptr id g e0 (off0 + m.toNat * k)) else none) = some v := h1
      split at h1
      case isFalse => cases h1
      rename_i hn
      cases h1
      obtain ⟨g', pl, ad, hz, hρ, hle, hpl⟩ := rv_ptr hr
      have e2 := rv_int hri
      refine .pure (x := .pointer (some (ad.add (m.toNat * k)))) ?_ (.ptr id g g' pl e0 (off0 + m.toNat * k) _ hρ hle (fun hg => ?_))
      · simp only [execOp, heq, hz, e2, Sem.run_bind, run _ _ _ hn.1 hn.2, Result.andThen_ok, Sem.run_pure]
      · obtain ⟨p, h3, rfl⟩ := hpl hg
        exact ⟨p, h3, by rw [addr_add, Nat.add_assoc]⟩
    | _ => cases h1
  | dptr cs =>
    cases vi with
    | int kk m =>
      have h1 : (if 0 ≤ m ∧ m < n then some (AV.dptr (cs.drop (m.toNat * k))) else none) = some v := h1
      split at h1
      case isFalse => cases h1
      rename_i hn
      cases h1
      obtain ⟨b, o1, val, hz, h3, h4, h5, h6⟩ := rv_dptr hr
      have e2 := rv_int hri
      refine .pure (x := .pointer (some ⟨b, o1 + m.toNat * k, none⟩)) ?_ (.dptr _ b (o1 + m.toNat * k) (fun j => val (m.toNat * k + j)) h3 h4 (fun j hj => ?_) fun j c hj => ?_)
      · simp only [execOp, heq, hz, e2, Sem.run_bind, run _ _ _ hn.1 hn.2, Result.andThen_ok, Sem.run_pure, addr_add]
      · rw [Nat.add_assoc]; exact h5 (m.toNat * k + j) (by simp at hj; omega)
      · exact h6 (m.toNat * k + j) c (by rw [List.getElem?_drop] at hj; exact hj)
    | _ => cases h1
  | _ => cases vi <;> cases h1
end
end Go.Proofs.Ytfnonledcniojaa
/- Each operation of the small machine stands for the program's operation: lengths, cuts, comparisons, structs. Conditions: none. -/
namespace Go.Proofs.Ytfnonledcniojaa
open Go Go.RowKit
variable [FrB]
section
variable {P : Program} {G : Nat → Option (List AV)} {ρ : Rho} {w : World} {S O : Nat → Prop} {env : AEnv} {h : List ARow} {a : Act} {o : Oper} {v : AV} {h' : List ARow}

theorem ok_len {b : Bool} {x : AOpd} (hop : chkOp P o.op (.len b x) = true) (R : Rel G ρ w S O env a) (he : aop G env h (.len b x) = some (v, h')) : FreeOk ρ w S O h ((execOp a.eval o).run P w) v h' := by
  obtain ⟨v0, h0, he⟩ := opt_bind_some.1 he
  obtain ⟨v1, h1, e⟩ := opt_map_some.1 he
  cases e
  simp only [chkOp] at hop
  split at hop
  case h_2 => cases hop
  rename_i args ts heq
  split at hop
  case h_2 => cases hop
  rename_i y t ha ht
  simp only [Bool.and_eq_true] at hop
  obtain ⟨hx, hop⟩ := hop
  have hr := ev_rep hx R h0
  have e1 : args = #[y] := by apply Array.ext'; simp [ha]
  have e2 : ts = #[t] := by apply Array.ext'; simp [ht]
  subst e1 e2
  split at hop
  · rename_i hu
    subst hop
    cases v0 with
    | str s => cases h1; exact .pure (by simp [execOp, heq, resolve, invoke, builtin, Builtin.len_, rv_str hr, run_underlying hu, goInt]) (.s (.int _ _))
    | _ => cases h1
  · rename_i e hu
    obtain rfl : b = false := by simpa using hop
    cases v0 with
    | own id g s l c =>
      cases h1
      obtain ⟨g', pl, ad, cap, hz, _⟩ := rv_own hr
      exact .pure (by simp [execOp, heq, resolve, invoke, builtin, Builtin.len_, hz, run_underlying hu, goInt]) (.s (.int _ _))
    | data bo k es f =>
      cases h1
      obtain ⟨ad, cap, hz, _⟩ := rv_data hr
      exact .pure (by simp [execOp, heq, resolve, invoke, builtin, Builtin.len_, hz, run_underlying hu, goInt]) (.s (.int _ _))
    | _ => cases h1
  · cases hop
theorem ok_lenarr {n : Nat} (hop : chkOp P o.op (.lenarr n) = true) (R : Rel G ρ w S O env a) (he : aop G env h (.lenarr n) = some (v, h')) : FreeOk ρ w S O h ((execOp a.eval o).run P w) v h' := by
  simp only [aop, Option.some.injEq, Prod.mk.injEq] at he
  obtain ⟨rfl, rfl⟩ := he
  simp only [chkOp] at hop
  split at hop
  case h_2 => cases hop
  rename_i args ts heq
  split at hop
  case h_2 => cases hop
  rename_i y t ha ht
  have e1 : args = #[y] := by apply Array.ext'; simp [ha]
  have e2 : ts = #[t] := by apply Array.ext'; simp [ht]
  subst e1 e2
  split at hop
  · rename_i n' e hu
    obtain rfl : n = n' := by simpa using hop
    exact .pure (by simp [execOp, heq, resolve, invoke, builtin, Builtin.len_, run_underlying hu, goInt]) (.s (.int _ _))
  · rename_i ar hu
    split at hop
    · rename_i n' e hu2
      obtain rfl : n = n' := by simpa using hop
      exact .pure (by simp [execOp, heq, resolve, invoke, builtin, Builtin.len_, run_underlying hu, run_underlying hu2, goInt]) (.s (.int _ _))
    · cases hop
  · cases hop
theorem ints_run {f : Int → Int → Bool} {x y r : AV} (e : aints f x y = some r) : ∃ k m n, x = .int k m ∧ y = .int k n ∧ r = .int k (if f n m then n else m) := by
  unfold aints at e
  split at e
  · split at e
    · rename_i hk; subst hk; cases e; exact ⟨_, _, _, rfl, rfl, rfl⟩
    · cases e
  · cases e
theorem ok_max {x y : AOpd} (hop : chkOp P o.op (.max x y) = true) (R : Rel G ρ w S O env a) (he : aop G env h (.max x y) = some (v, h')) : FreeOk ρ w S O h ((execOp a.eval o).run P w) v h' := by
  obtain ⟨v0, h0, he⟩ := opt_bind_some.1 he
  obtain ⟨v1, h1, he⟩ := opt_bind_some.1 he
  obtain ⟨r, hb, e⟩ := opt_map_some.1 he
  cases e
  obtain ⟨k, m, n, rfl, rfl, rfl⟩ := ints_run hb
  simp only [chkOp] at hop
  split at hop
  case h_2 => cases hop
  rename_i args ts heq
  split at hop
  case h_2 => cases hop
  rename_i x' y' ha
  have e1 : args = #[x', y'] := by apply Array.ext'; simp [ha]
  subst e1
  simp only [Bool.and_eq_true] at hop
  have rx := rv_int (ev_rep hop.1 R h0)
  have ry := rv_int (ev_rep hop.2 R h1)
  refine .pure (x := .int k (if n > m then n else m)) (by simp [execOp, heq, resolve, invoke, builtin, rx, ry, run_max_int2]) ?_
  by_cases hh : n > m
  · simp only [decide_eq_true_eq, if_pos hh]; exact .s (.int _ _)
  · simp only [decide_eq_true_eq, if_neg hh]; exact .s (.int _ _)
theorem ok_min {x y : AOpd} (hop : chkOp P o.op (.min x y) = true) (R : Rel G ρ w S O env a) (he : aop G env h (.min x y) = some (v, h')) : FreeOk ρ w S O h ((execOp a.eval o).run P w) v h' := by
  obtain ⟨v0, h0, he⟩ := opt_bind_some.1 he
  obtain ⟨v1, h1, he⟩ := opt_bind_some.1 he
  obtain ⟨r, hb, e⟩ := opt_map_some.1 he
  cases e
  obtain ⟨k, m, n, rfl, rfl, rfl⟩ := ints_run hb
  simp only [chkOp] at hop
  split at hop
  case h_2 => cases hop
  rename_i args ts heq
  split at hop
  case h_2 => cases hop
  rename_i x' y' ha
  have e1 : args = #[x', y'] := by apply Array.ext'; simp [ha]
  subst e1
  simp only [Bool.and_eq_true] at hop
  have rx := rv_int (ev_rep hop.1 R h0)
  have ry := rv_int (ev_rep hop.2 R h1)
  refine .pure (x := .int k (if n < m then n else m)) (by simp [execOp, heq, resolve, invoke, builtin, rx, ry, run_min_int2]) ?_
  by_cases hh : n < m
  · simp only [decide_eq_true_eq, if_pos hh]; exact .s (.int _ _)
  · simp only [decide_eq_true_eq, if_neg hh]; exact .s (.int _ _)

/-! ### Cuts -/
def OptRep (ρ : Rho) (w : World) (S O : Nat → Prop) : Option AV → Option Value → Prop
  | none, x => x = none
  | some v, x => ∃ u, x = some u ∧ RepV ρ w S O v u
theorem optv_rep {x : Option Operand} {ax : Option AOpd} {r : Option AV} (hc : chkOpt x ax = true) (R : Rel G ρ w S O env a)
    (he : aopt G env ax = some r) : OptRep ρ w S O r (x.map a.eval) := by
  unfold chkOpt at hc
  split at hc
  · cases he; rfl
  · obtain ⟨v, hv, e⟩ := opt_bind_some.1 he
    cases e
    exact ⟨_, rfl, ev_rep hc R hv⟩
  · cases hc
theorem bound_run {v : AV} {x : Value} {n b : Nat} (hr : RepV ρ w S O v x) (hb : abound n (some v) = some b) (y : Nat) (hy : b ≤ y) (c : BoundsCode) : (Instr.sliceBound x y c).run P w = .ok b w := by
  cases v with
  | int k i =>
    have hb : (if 0 ≤ i then some i.toNat else none) = some b := hb
    split at hb
    · rename_i h0; cases hb
      rw [rv_int hr]
      exact run_sliceBound w k i y c h0 (by omega)
    · cases hb
  | _ => cases hb
theorem bounds_run {lo hi mx : Option AV} {lo' hi' mx' : Option Value} {l c cap x y m : Nat} (hl : OptRep ρ w S O lo lo')
    (hh : OptRep ρ w S O hi hi') (hm : OptRep ρ w S O mx mx')
    (b1 : abound 0 lo = some x) (b2 : abound l hi = some y) (b3 : abound c mx = some m) (h1 : x ≤ y) (h2 : y ≤ m) (h3 : m ≤ c) (h4 : c ≤ cap) (hmh : mx.isSome = true → hi.isSome = true) (is : Bool) :
    (Instr.sliceBounds is l cap lo' hi' mx').run P w = .ok (x, y, if mx.isSome then m else cap) w := by
  cases mx with
  | none =>
    obtain rfl : mx' = none := hm
    cases b3
    cases hi with
    | none =>
      obtain rfl : hi' = none := hh
      cases b2
      cases lo with
      | none => obtain rfl : lo' = none := hl; cases b1; rfl
      | some v =>
        obtain ⟨u, rfl, hu⟩ := hl
        simp only [Instr.sliceBounds, Sem.run_bind, Sem.run_pure, Result.andThen_ok, Option.isSome_none, Bool.false_eq_true, if_false, bound_run hu b1 _ h1]
    | some hv =>
      obtain ⟨u, rfl, hu⟩ := hh
      cases lo with
      | none =>
        obtain rfl : lo' = none := hl
        cases b1
        simp only [Instr.sliceBounds, Sem.run_bind, Sem.run_pure, Result.andThen_ok, Option.isSome_none, Bool.false_eq_true, if_false, bound_run hu b2 cap (by omega)]
      | some v =>
        obtain ⟨u', rfl, hu'⟩ := hl
        simp only [Instr.sliceBounds, Sem.run_bind, Sem.run_pure, Result.andThen_ok, Option.isSome_none, Bool.false_eq_true, if_false, bound_run hu b2 cap (by omega), bound_run hu' b1 y h1]
  | some mv =>
    obtain ⟨mu, rfl, hmu⟩ := hm
    cases hi with
    | none => simp at hmh
    | some hv =>
      obtain ⟨u, rfl, hu⟩ := hh
      cases lo with
      | none =>
        obtain rfl : lo' = none := hl
        cases b1
        simp only [Instr.sliceBounds, Sem.run_bind, Sem.run_pure, Result.andThen_ok, Option.isSome_some, if_true, bound_run hmu b3 cap (by omega), bound_run hu b2 m h2]
      | some v =>
        obtain ⟨u', rfl, hu'⟩ := hl
        simp only [Instr.sliceBounds, Sem.run_bind, Sem.run_pure, Result.andThen_ok, Option.isSome_some, if_true, bound_run hmu b3 cap (by omega), bound_run hu b2 m h2, bound_run hu' b1 y h1]
theorem ok_sl {k : Nat} {x : AOpd} {lo hi mx : Option AOpd} (hop : chkOp P o.op (.sl k x lo hi mx) = true) (R : Rel G ρ w S O env a) (HK : KInv ρ h) (he : aop G env h (.sl k x lo hi mx) = some (v, h')) : FreeOk ρ w S O h ((execOp a.eval o).run P w) v h' := by
  obtain ⟨v0, h0, he⟩ := opt_bind_some.1 he
  obtain ⟨vl, hl0, he⟩ := opt_bind_some.1 he
  obtain ⟨vh, hh0, he⟩ := opt_bind_some.1 he
  obtain ⟨vm, hm0, he⟩ := opt_bind_some.1 he
  obtain ⟨v1, h1, e⟩ := opt_map_some.1 he
  cases e
  simp only [chkOp] at hop
  split at hop
  case h_2 => cases hop
  rename_i t y lo' hi' mx' heq
  simp only [Bool.and_eq_true] at hop
  obtain ⟨⟨⟨⟨⟨hx, hlo⟩, hhi⟩, hmx⟩, hmh⟩, hop⟩ := hop
  split at hop
  case h_2 => cases hop
  rename_i e hu
  have hr := ev_rep hx R h0
  have rl := optv_rep hlo R hl0
  have rh := optv_rep hhi R hh0
  have rm := optv_rep hmx R hm0
  have hmh' : vm.isSome = true → vh.isSome = true := by
    intro hs
    have q1 : mx.isSome = true := by cases mx with | none => cases hm0; cases hs | some m => rfl
    have q2 : hi.isSome = true := by simpa [q1] using hmh
    cases hi with | none => cases q2 | some hh => obtain ⟨u, _, e⟩ := opt_bind_some.1 hh0; cases e; rfl
  have elem : P.elem t = e := by simp [Program.elem, hu]
  have run : ∀ (ad : Option Addr) (len cap x y m : Nat), (Instr.sliceBounds true len cap (lo'.map a.eval) (hi'.map a.eval) (mx'.map a.eval)).run P w = .ok (x, y, m) w →
      (Instr.sliceAt t (.slice ad len cap) (lo'.map a.eval) (hi'.map a.eval) (mx'.map a.eval)).run P w = .ok (.slice (if m = x then ad else ad.map (·.add (x * k))) (y - x) (m - x)) w := fun ad len cap x y m hb => by
    rw [run_sliceAt_slice w t _ _ _ _ (by rw [elem]; exact hu), run_slice_any w t ad len cap (by rw [elem]; exact hu), hb]
    simp only [Result.andThen_ok, elem, sizeOf_run hop, sliced]
  cases v0 with
  | own id g s l c =>
    obtain ⟨bx, b1, h1⟩ := opt_bind_some.1 h1
    obtain ⟨bb, b2, h1⟩ := opt_bind_some.1 h1
    obtain ⟨bm, b3, h1⟩ := opt_bind_some.1 h1
    obtain ⟨r, hrow, h1⟩ := opt_bind_some.1 h1
    split at h1
    case isFalse => cases h1
    rename_i hgk
    split at h1
    case isFalse => cases h1
    rename_i hle
    cases h1
    obtain ⟨g', pl, ad, cap, hz, hρ, hle', hlc, hcc, has, hpl⟩ := rv_own hr
    have hb := bounds_run (P := P) rl rh rm b1 b2 b3 hle.1 hle.2.1 hle.2.2 hcc hmh' true
    have hm2 : bb ≤ (if vm.isSome then bm else cap) ∧ (if vm.isSome then bm else cap) ≤ cap ∧ bm ≤ (if vm.isSome then bm else cap) := by split <;> omega
    refine .pure (x := .slice (if (if vm.isSome then bm else cap) = bx then ad else ad.map (·.add (bx * k))) (bb - bx) ((if vm.isSome then bm else cap) - bx)) (by simp only [execOp, heq, hz, Sem.run_bind, run _ _ _ _ _ _ hb, Result.andThen_ok, Sem.run_pure]) ?_
    generalize (if vm.isSome then bm else cap) = m2 at hm2
    refine .own id g g' pl (s + bx) (bb - bx) (bm - bx) _ _ hρ hle' (by omega) (by omega) (fun hpos => ?_) (fun hg => ?_)
    · have : 0 < cap := by omega
      have := has this
      split
      · exact this
      · simpa using this
    · rcases hpl hg with hc0 | ⟨p, rfl, rfl, hlim⟩
      · left; omega
      · have hk : p.k = k := (HK id g' p r hρ hrow).trans hgk.2
        by_cases hmx0 : m2 = bx
        · left; omega
        · right
          refine ⟨p, rfl, ?_, by omega⟩
          rw [if_neg hmx0]
          simp only [Option.map_some, addr_add, hk, Nat.add_mul]
          rw [Nat.add_assoc]
  | data bo k' es f =>
    obtain ⟨bx, b1, h1⟩ := opt_bind_some.1 h1
    obtain ⟨bb, b2, h1⟩ := opt_bind_some.1 h1
    obtain ⟨bm, b3, h1⟩ := opt_bind_some.1 h1
    split at h1
    case isFalse => cases h1
    rename_i hk
    split at h1
    case isFalse => cases h1
    rename_i hle
    cases h1
    subst hk
    obtain ⟨ad, cap, hz, hlc, hfull, hlen, hd⟩ := rv_data hr
    have hb := bounds_run (P := P) rl rh rm b1 b2 b3 hle.1 hle.2.1 hle.2.2 hlc hmh' true
    have hm2 : bb ≤ (if vm.isSome then bm else cap) ∧ (if vm.isSome then bm else cap) ≤ cap := by split <;> omega
    refine .pure (x := .slice (if (if vm.isSome then bm else cap) = bx then ad else ad.map (·.add (bx * k'))) (bb - bx) ((if vm.isSome then bm else cap) - bx)) (by simp only [execOp, heq, hz, Sem.run_bind, run _ _ _ _ _ _ hb, Result.andThen_ok, Sem.run_pure]) ?_
    have hl2 : ((es.take bb).drop bx).length = bb - bx := by simp; omega
    rw [← hl2]
    refine rv_mk_data (by rw [hl2]; omega) (fun hf => ?_) (fun g hg => hlen g (List.mem_of_mem_take (List.mem_of_mem_drop hg))) ?_
    · rw [hl2]
      cases vm with
      | some mv => simp only [decide_eq_true_eq] at hf; subst hf; rfl
      | none =>
        simp only [Bool.and_eq_true, decide_eq_true_eq] at hf
        have := hfull hf.1
        simp [this, hf.2]
    · rcases hd with rfl | ⟨b, off, val, rfl, hO, hS, hb', hc, hrp⟩
      · left; simp
      · by_cases hne : bb - bx = 0
        · left; exact List.eq_nil_of_length_eq_zero (by omega)
        · right
          refine ⟨b, off + bx * k', fun e j => val (bx + e) j, ?_, hO, hS, hb', fun e j he hj => ?_, fun e j g c hg hcc => ?_⟩
          · rw [if_neg (by omega)]; simp only [Option.map_some, addr_add]
          · rw [show off + bx * k' + (e * k' + j) = off + ((bx + e) * k' + j) from by rw [Nat.add_mul]; omega]
            exact hc _ _ (by omega) hj
          · rw [List.getElem?_drop, List.getElem?_take] at hg
            split at hg
            · exact hrp _ _ _ _ hg hcc
            · cases hg
  | _ => cases h1
theorem ok_slstr {x : AOpd} {lo hi : Option AOpd} (hop : chkOp P o.op (.slstr x lo hi) = true) (R : Rel G ρ w S O env a) (he : aop G env h (.slstr x lo hi) = some (v, h')) : FreeOk ρ w S O h ((execOp a.eval o).run P w) v h' := by
  obtain ⟨v0, h0, he⟩ := opt_bind_some.1 he
  obtain ⟨vl, hl0, he⟩ := opt_bind_some.1 he
  obtain ⟨vh, hh0, he⟩ := opt_bind_some.1 he
  obtain ⟨v1, h1, e⟩ := opt_map_some.1 he
  cases e
  simp only [chkOp] at hop
  split at hop
  case h_2 => cases hop
  rename_i t y lo' hi' mx' heq
  simp only [Bool.and_eq_true] at hop
  obtain ⟨⟨⟨⟨hx, hlo⟩, hhi⟩, hmx⟩, hop⟩ := hop
  split at hop
  case h_2 => cases hop
  rename_i hu
  have hr := ev_rep hx R h0
  have rl := optv_rep hlo R hl0
  have rh := optv_rep hhi R hh0
  obtain rfl : mx' = none := by simpa using hmx
  cases v0 with
  | str s =>
    obtain ⟨bx, b1, h1⟩ := opt_bind_some.1 h1
    obtain ⟨bb, b2, h1⟩ := opt_bind_some.1 h1
    split at h1
    case isFalse => cases h1
    rename_i hle
    cases h1
    have hb := bounds_run (P := P) (mx := none) (mx' := none) (l := s.size) (cap := s.size) (m := s.size) rl rh rfl b1 b2 rfl hle.1 hle.2 (Nat.le_refl _) (Nat.le_refl _) (by simp) false
    refine .pure (x := .string (s.extract bx bb)) ?_ (.s (.str _))
    simp only [execOp, heq, rv_str hr, Sem.run_bind, run_sliceAt_string w t _ _ _ _ hu, Instr.slice, run_underlying hu, Result.andThen_ok, Option.map_none, Option.isSome_none, Bool.false_eq_true, if_false, Sem.run_pure, hb]
  | _ => cases h1
theorem ok_idxv {agg : Bool} {m n : Nat} {x i : AOpd} (hop : chkOp P o.op (.idxv agg m n x i) = true) (R : Rel G ρ w S O env a) (he : aop G env h (.idxv agg m n x i) = some (v, h')) : FreeOk ρ w S O h ((execOp a.eval o).run P w) v h' := by
  obtain ⟨v0, h0, he⟩ := opt_bind_some.1 he
  obtain ⟨vi, hi0, he⟩ := opt_bind_some.1 he
  obtain ⟨v1, h1, e⟩ := opt_map_some.1 he
  cases e
  simp only [chkOp] at hop
  split at hop
  case h_2 => cases hop
  rename_i t y j heq
  simp only [Bool.and_eq_true] at hop
  obtain ⟨⟨hx, hj⟩, hop⟩ := hop
  split at hop
  case h_2 => cases hop
  rename_i n' e hu
  simp only [Bool.and_eq_true, beq_iff_eq] at hop
  obtain ⟨⟨rfl, hs⟩, hag⟩ := hop
  cases v0 with
  | agg cs =>
    cases vi with
    | int kk i =>
      have h1 : (if 0 ≤ i ∧ i < n then acut agg m (i.toNat * m) cs else none) = some v := h1
      split at h1
      case isFalse => cases h1
      rename_i hn
      obtain ⟨vs, hz, hl, hone, hrep⟩ := rv_agg (ev_rep hx R h0)
      have e2 := rv_int (ev_rep hj R hi0)
      have key : ∃ u, (part e vs.toArray (i.toNat * m)).run P w = .ok u w ∧ RepV ρ w S O v u := by
        generalize i.toNat * m = off at h1
        cases agg with
        | false =>
          have h1 : cs[off]? = some v := h1
          have hlt := (List.getElem?_eq_some_iff.1 h1).1
          refine ⟨vs[off], ?_, hrep _ _ _ h1 (by simp [hl ▸ hlt])⟩
          simp [part, isAgg_run hag, hl ▸ hlt]
        | true =>
          unfold acut at h1
          rw [if_pos rfl] at h1
          split at h1
          case isFalse => cases h1
          rename_i hle
          cases h1
          refine ⟨.agg ((vs.drop off).take m).toArray, ?_, .agg _ _ (by simp; omega) ?_ ?_⟩
          · simp only [part, Sem.run_bind, isAgg_run hag, Result.andThen_ok, if_true, sizeOf_run hs, Sem.run_pure]
            congr 2
            apply Array.ext'
            simp
          · intro u hu; exact hone u (List.mem_of_mem_drop (List.mem_of_mem_take hu))
          · intro i c u hc hu
            have hi : i < m := by have := (List.getElem?_eq_some_iff.1 hu).1; simp at this; omega
            rw [List.getElem?_take, if_pos hi, List.getElem?_drop] at hc hu
            exact hrep _ _ _ hc hu
      obtain ⟨u, hrun, hu'⟩ := key
      refine .pure (x := u) ?_ hu'
      simp only [execOp, heq, hz, e2, Instr.index, Sem.run_bind, asIntOf, Sem.run_pure, Result.andThen_ok, run_underlying hu, if_pos hn, sizeOf_run hs, hrun]
    | _ => cases h1
  | _ => cases vi <;> cases h1
theorem ok_idxs {x i : AOpd} (hop : chkOp P o.op (.idxs x i) = true) (R : Rel G ρ w S O env a) (he : aop G env h (.idxs x i) = some (v, h')) : FreeOk ρ w S O h ((execOp a.eval o).run P w) v h' := by
  obtain ⟨v0, h0, he⟩ := opt_bind_some.1 he
  obtain ⟨vi, hi0, he⟩ := opt_bind_some.1 he
  obtain ⟨v1, h1, e⟩ := opt_map_some.1 he
  cases e
  simp only [chkOp] at hop
  split at hop
  case h_2 => cases hop
  rename_i t y j heq
  simp only [Bool.and_eq_true] at hop
  obtain ⟨⟨hx, hj⟩, hop⟩ := hop
  split at hop
  case h_2 => cases hop
  rename_i hu
  cases v0 with
  | str s =>
    cases vi with
    | int kk i =>
      have h1 : (if 0 ≤ i then (s.data.toList[i.toNat]?).map fun b => AV.int .u8 (b.toNat : Int) else none) = some v := h1
      split at h1
      case isFalse => cases h1
      rename_i hn
      obtain ⟨b, hb, rfl⟩ := opt_map_some.1 h1
      have e1 := rv_str (ev_rep hx R h0)
      have e2 := rv_int (ev_rep hj R hi0)
      have hs : s[i.toNat]? = some b := by
        have hlt := (List.getElem?_eq_some_iff.1 hb).1
        have hlt' : i.toNat < s.size := by simpa using hlt
        simp only [getElem?_pos s i.toNat hlt']
        rw [List.getElem?_eq_getElem hlt] at hb
        have hb' : s.data[i.toNat] = b := by simpa using hb
        exact congrArg some hb'
      refine .pure (x := .int .u8 b.toNat) ?_ (.s (.int _ _))
      simp only [execOp, heq, e1, e2, Instr.index, Sem.run_bind, asIntOf, Sem.run_pure, Result.andThen_ok, run_underlying hu, if_pos hn, hs]
    | _ => cases h1
  | _ => cases vi <;> cases h1
end
end Go.Proofs.Ytfnonledcniojaa
/- Each operation of the small machine stands for the program's operation: equality, nil, bytes, structs. Conditions: none. -/
namespace Go.Proofs.Ytfnonledcniojaa
open Go Go.RowKit
variable [FrB]
section
variable {P : Program} {G : Nat → Option (List AV)} {ρ : Rho} {w : World} {S O : Nat → Prop} {env : AEnv} {h : List ARow} {a : Act} {o : Oper} {v : AV} {h' : List ARow}

/-- What a slice's elements are. -/
theorem groups_rep {k : Nat} {v : AV} {x : Value} {es : List (List AV)} {fl : Bool} (H : Heap ρ w S O h) (hr : RepV ρ w S O v x) (hg : agroups h k v = some (es, fl)) :
    ∃ ad cap, x = .slice ad es.length cap ∧ es.length ≤ cap ∧ (∀ g ∈ es, g.length = k) ∧ (es = [] ∨ ∃ (b off : Nat) (val : Nat → Nat → Value), ad = some ⟨b, off, none⟩ ∧ b < w.heap.size ∧
      (∀ (e j : Nat), e < es.length → j < k → w.cell? ⟨b, off + (e * k + j), none⟩ = some (val e j) ∧ (val e j).oneCell' = true) ∧
      (∀ (e j : Nat) g c, es[e]? = some g → g[j]? = some c → RepV ρ w S O c (val e j) ∧ (fl = true → RepS w (fun b => S b ∨ O b) c (val e j)))) := by
  cases v with
  | own id g s l c =>
    obtain ⟨r, hrow, hg⟩ := opt_bind_some.1 hg
    split at hg
    case isFalse => cases hg
    rename_i hgk
    cases hg
    obtain ⟨g', pl, ad, cap, rfl, hρ, hle, hlc, _, _, hpl⟩ := rv_own hr
    obtain ⟨hg', his⟩ := H.at hρ hrow
    have hl : ((r.es.drop s).take l).length = l := by simp; omega
    rw [hl]
    have hmem : ∀ (e : Nat) g, ((r.es.drop s).take l)[e]? = some g → r.es[s + e]? = some g := fun e g he => by
      rw [List.getElem?_take] at he
      split at he
      · rwa [List.getElem?_drop] at he
      · cases he
    cases pl with
    | none =>
      have : r.es = [] := his
      have hl0 : l = 0 := by have := hgk.2.2; rw [‹r.es = []›] at this; simp at this; omega
      subst hl0
      exact ⟨ad, cap, rfl, hlc, by simp, .inl (by simp)⟩
    | some p =>
      have his : RowRep ρ w S O r p := his
      refine ⟨ad, cap, rfl, hlc, fun g hg => ?_, ?_⟩
      · obtain ⟨e, he⟩ := List.mem_iff_getElem?.1 hg
        rw [← hgk.2.1]; exact his.len g (List.mem_of_getElem? (hmem e g he))
      · by_cases hl0 : l = 0
        · left; subst hl0; simp
        · right
          rcases hpl (by omega) with hc0 | ⟨p', hp, rfl, hlim⟩
          · omega
          cases hp
          obtain ⟨arr, ty, lo, hi, hb, hsz, _, hcell⟩ := his.block
          have hk : p.k = k := his.k.trans hgk.2.1
          refine ⟨p.b, p.base + s * p.k, fun e j => arr.getD (p.base + (s + e) * p.k + j) undef, rfl, his.lt, fun e j he hj => ?_, fun e j g c hg hc => ?_⟩
          · have hse : s + e < r.es.length := by omega
            have hgl := his.len _ (List.getElem_mem hse)
            obtain ⟨x, h1, h2, _⟩ := hcell (s + e) j _ _ (List.getElem?_eq_getElem hse) (List.getElem?_eq_getElem (by rw [hgl, hgk.2.1]; exact hj))
            have ea : p.base + s * p.k + (e * k + j) = p.base + (s + e) * p.k + j := by rw [hk, Nat.add_mul]; omega
            rw [ea, cell_of_row w p.b _ arr ty _ hb]
            simp only [Array.getD_eq_getD_getElem?, h1, Option.getD_some]
            exact ⟨trivial, h2⟩
          · obtain ⟨x, h1, _, h3, h4⟩ := hcell (s + e) j g c (hmem e g hg) hc
            simp only [Array.getD_eq_getD_getElem?, h1, Option.getD_some]
            exact ⟨h3, h4⟩
  | data bo k' es' f =>
    have hg : (if k' = k then (if (!bo || plainLL es') = true then some (es', true) else none) else none) = some (es, fl) := hg
    by_cases hk : k' = k
    case neg => rw [if_neg hk] at hg; cases hg
    rw [if_pos hk] at hg
    by_cases hpl : (!bo || plainLL es') = true
    case neg => rw [if_neg hpl] at hg; cases hg
    obtain ⟨rfl, rfl⟩ : es' = es ∧ true = fl := by simpa [hpl] using hg
    subst hk
    obtain ⟨ad, cap, rfl, h1, _, h3, h4⟩ := rv_data hr
    refine ⟨ad, cap, rfl, h1, h3, h4.imp id fun ⟨b, off, val, e1, _, _, e4, e5, e6⟩ => ⟨b, off, val, e1, e4, e5, fun e j g c hg2 hc2 => ?_⟩⟩
    have key : RepS w (fun b => S b ∨ O b) c (val e j) := by
      cases bo with
      | false => exact (e6 e j g c hg2 hc2).mono fun b hb => hb.imp (fun h => ⟨rfl, h⟩) id
      | true =>
        simp only [Bool.not_true, Bool.false_or, plainLL, List.all_eq_true] at hpl
        exact plain_rep (hpl g (List.mem_of_getElem? hg2) c (List.mem_of_getElem? hc2)) (e6 e j g c hg2 hc2)
    exact ⟨.s key, fun _ => key⟩
  | _ => cases hg

theorem asBytes_spec : ∀ {es : List (List AV)} {bs : List UInt8}, asBytes es = some bs → ∃ ns : List Int, es = ns.map (fun n => [AV.int .u8 n]) ∧ bs = ns.map fun n => UInt8.ofNat n.toNat
  | [], _, h => by cases h; exact ⟨[], rfl, rfl⟩
  | g :: es, bs, h => by
    unfold asBytes at h
    split at h
    · rename_i heq; cases heq
    · rename_i n es' heq
      cases heq
      obtain ⟨bs', hb, rfl⟩ := opt_map_some.1 h
      obtain ⟨ns, rfl, rfl⟩ := asBytes_spec hb
      exact ⟨n :: ns, rfl, rfl⟩
    · cases h
theorem foldl_push : ∀ (ns : List Int) (acc : ByteArray), ns.foldl (fun r n => r.push (UInt8.ofNat n.toNat)) acc = ⟨acc.data ++ (ns.map fun n => UInt8.ofNat n.toNat).toArray⟩
  | [], acc => by cases acc; simp
  | n :: ns, acc => by
    rw [List.foldl_cons, foldl_push ns]
    cases acc
    simp [ByteArray.push]
theorem ok_bstr {x : AOpd} (hop : chkOp P o.op (.bstr x) = true) (R : Rel G ρ w S O env a) (H : Heap ρ w S O h) (he : aop G env h (.bstr x) = some (v, h')) : OpN ρ w S O h ((execOp a.eval o).run P w) v h' := by
  obtain ⟨v1, h1, he⟩ := opt_bind_some.1 he
  obtain ⟨v0, h0, hs0⟩ := opt_bind_some.1 h1
  obtain ⟨es, hg, he⟩ := opt_bind_some.1 he
  obtain ⟨bs, hb, e⟩ := opt_map_some.1 he
  cases e
  have e01 : v0 = v1 := by cases v0 <;> first | exact Option.some.inj hs0 | cases hs0
  subst e01
  simp only [chkOp] at hop
  split at hop
  case h_2 => cases hop
  rename_i s d y heq
  simp only [Bool.and_eq_true] at hop
  obtain ⟨⟨hx, h2⟩, h3⟩ := hop
  split at h2
  case h_2 => cases h2
  rename_i e hu
  split at h3
  case h_2 => cases h3
  rename_i hd
  have hu8 : P.underlying e = some (.int .u8) := by
    unfold isU8 at h2
    split at h2
    · assumption
    · cases h2
  obtain ⟨es, fl⟩ := es
  obtain ⟨ad, cap, hz, _, _, hcells⟩ := groups_rep H (ev_rep hx R h0) hg
  obtain ⟨ns, rfl, rfl⟩ := asBytes_spec hb
  have key : (Conv.bytesToString (.slice ad (ns.map fun n => [AV.int .u8 n]).length cap)).run P w = .ok (.string ⟨(ns.map fun n => UInt8.ofNat n.toNat).toArray⟩) w := by
    cases ad with
    | none =>
      rcases hcells with hnil | ⟨b, off, val, hh, _⟩
      · simp only [List.map_eq_nil_iff] at hnil
        subst hnil
        rfl
      · cases hh
    | some ad =>
      rw [run_bytesToString w ad _ cap ns ?_]
      · rw [foldl_push]
        show Result.ok (Value.string ⟨#[] ++ _⟩) w = _
        rw [Array.empty_append]
      · rw [List.length_map, ← List.length_map (f := Value.int .u8)]
        refine run_loadCells_list w ad _ fun j u hj => ?_
        rw [List.getElem?_map] at hj
        obtain ⟨n, hn, rfl⟩ := opt_map_some.1 hj
        rcases hcells with hnil | ⟨b, off, val, hh, _, hc, hr⟩
        · simp only [List.map_eq_nil_iff] at hnil
          subst hnil
          simp at hn
        · cases hh
          have hlt := (List.getElem?_eq_some_iff.1 hn).1
          have h1 := (hc j 0 (by simpa using hlt) (by omega)).1
          have h2 := (hr j 0 _ _ (by rw [List.getElem?_map, hn]; rfl) rfl).1
          rw [rv_int h2] at h1
          rw [addr_add]
          simpa using h1
  refine .pure H (x := .string ⟨(ns.map fun n => UInt8.ofNat n.toNat).toArray⟩) ?_ (.s (.str _))
  simp only [execOp, heq, hz, Sem.run_bind, run_convert_bytes_string w s d e _ _ _ hu hu8 hd, key, Result.andThen_ok, Sem.run_pure]

/-! ### Equality -/
theorem scal_of_eq {s : Sh} {x y : AV} {b : Bool} (e : eqLeaf s x y = some b) {u : Value} : (RepV ρ w S O x u → u = sval x) ∧ (RepV ρ w S O y u → u = sval y) := by
  unfold eqLeaf at e
  split at e
  · exact ⟨rv_int, rv_int⟩
  · exact ⟨rv_bool, rv_bool⟩
  · exact ⟨rv_str, rv_str⟩
  · cases e
theorem vals_of_eq : ∀ {sh : List Sh} {as bs : List AV} {b : Bool}, eqCells sh as bs = some b → ∀ {vs : List Value}, as.length = vs.length → (∀ (i : Nat) c v, as[i]? = some c → vs[i]? = some v → RepV ρ w S O c v) → vs = as.map sval
  | [], [], [], _, _, vs, hl, _ => by cases vs <;> simp_all
  | s :: sh, x :: as, y :: bs, b, e, vs, hl, hr => by
    obtain ⟨p, hp, e⟩ := opt_bind_some.1 e
    obtain ⟨q, hq, _⟩ := opt_bind_some.1 e
    cases vs with
    | nil => simp at hl
    | cons v vs =>
      rw [(scal_of_eq hp).1 (hr 0 x v rfl rfl), vals_of_eq hq (vs := vs) (by simpa using hl) fun i c u hc hu => hr (i + 1) c u (by simpa using hc) (by simpa using hu)]
      rfl
  | [], [], _ :: _, _, e, _, _, _ => by cases e
  | [], _ :: _, _, _, e, _, _, _ => by cases e
  | _ :: _, [], _, _, e, _, _, _ => by cases e
  | _ :: _, _ :: _, [], _, e, _, _, _ => by cases e
theorem vals_of_eq' : ∀ {sh : List Sh} {as bs : List AV} {b : Bool}, eqCells sh as bs = some b → ∀ {vs : List Value}, bs.length = vs.length → (∀ (i : Nat) c v, bs[i]? = some c → vs[i]? = some v → RepV ρ w S O c v) → vs = bs.map sval
  | [], [], [], _, _, vs, hl, _ => by cases vs <;> simp_all
  | s :: sh, x :: as, y :: bs, b, e, vs, hl, hr => by
    obtain ⟨p, hp, e⟩ := opt_bind_some.1 e
    obtain ⟨q, hq, _⟩ := opt_bind_some.1 e
    cases vs with
    | nil => simp at hl
    | cons v vs =>
      rw [(scal_of_eq hp).2 (hr 0 y v rfl rfl), vals_of_eq' hq (vs := vs) (by simpa using hl) fun i c u hc hu => hr (i + 1) c u (by simpa using hc) (by simpa using hu)]
      rfl
  | [], [], _ :: _, _, e, _, _, _ => by cases e
  | [], _ :: _, _, _, e, _, _, _ => by cases e
  | _ :: _, [], _, _, e, _, _, _ => by cases e
  | _ :: _, _ :: _, [], _, e, _, _, _ => by cases e
theorem ok_eq {agg : Bool} {sh : List Sh} {neg : Bool} {x y : AOpd} (hop : chkOp P o.op (.eq agg sh neg x y) = true) (R : Rel G ρ w S O env a) (he : aop G env h (.eq agg sh neg x y) = some (v, h')) : FreeOk ρ w S O h ((execOp a.eval o).run P w) v h' := by
  obtain ⟨v0, h0, he⟩ := opt_bind_some.1 he
  obtain ⟨v1, h1, he⟩ := opt_bind_some.1 he
  obtain ⟨b, hb, e⟩ := opt_map_some.1 he
  cases e
  simp only [chkOp] at hop
  split at hop
  case h_2 => cases hop
  rename_i op t x' y' yt heq
  simp only [Bool.and_eq_true, beq_iff_eq] at hop
  obtain ⟨⟨⟨⟨⟨hopn, hx⟩, hy⟩, hsh⟩, hag⟩, hgd⟩ := hop
  have rx := ev_rep hx R h0
  have ry := ev_rep hy R h1
  have fin : (do eqGuard op t x' y' (a.eval x') (a.eval y'); binOp op t (a.eval x') (a.eval y') : Sem Value).run P w = .ok (.bool (b != neg)) w → FreeOk ρ w S O h ((execOp a.eval o).run P w) (.bool (b != neg)) h := fun hrun => by
    refine .pure (x := .bool (b != neg)) ?_ (.s (.bool _))
    simp only [execOp, heq]
    rw [Sem.run_bind, hrun]
    rfl
  cases agg with
  | true =>
    cases v0 with
    | agg as =>
      cases v1 with
      | agg bs =>
        have hb : eqCells sh as bs = some b := hb
        obtain ⟨vs, e1, l1, _, r1⟩ := rv_agg rx
        obtain ⟨us, e2, l2, _, r2⟩ := rv_agg ry
        obtain rfl := vals_of_eq hb l1 r1
        obtain rfl := vals_of_eq' hb l2 r2
        have q := eqAt 20 t sh as bs b hsh hb 10000 w (by omega)
        simp only [tval, hag, if_true] at q
        refine fin ?_
        rw [e1, e2, Sem.run_bind, run_eqGuard_agg w op t x' y' _ _ (by simpa using hgd)]
        simp only [Result.andThen_ok]
        cases neg with
        | false => simp only [Bool.false_eq_true, if_false] at hopn; subst hopn; rw [run_eql_struct w t, q]; simp
        | true => simp only [if_true] at hopn; subst hopn; rw [run_neq_struct w t, q]; simp
      | _ => cases hb
    | _ => cases hb
  | false =>
    match sh, hb with
    | [s], hb =>
      have hb : eqLeaf s v0 v1 = some b := hb
      have e1 := (scal_of_eq hb).1 rx
      have e2 := (scal_of_eq hb).2 ry
      have hun := hsh
      unfold eqLeaf at hb
      split at hb
      · rename_i k m k' n
        split at hb
        case isFalse => cases hb
        rename_i hk
        subst hk
        cases hb
        refine fin ?_
        rw [e1, e2]
        cases neg with
        | false => simp only [Bool.false_eq_true, if_false] at hopn; subst hopn; simp [sval, eqGuard, binOp, Op.intCmp]
        | true => simp only [if_true] at hopn; subst hopn; simp [sval, eqGuard, binOp, Op.intCmp, bne]
      · cases hb
        have hu : P.underlying t = some .bool := by
          unfold flatSh at hsh
          split at hsh
          · assumption
          · split at hsh <;> cases hsh
          · split at hsh <;> cases hsh
          · rename_i hu; unfold isAggB at hag; rw [hu] at hag; cases hag
          · rename_i hu; unfold isAggB at hag; rw [hu] at hag; cases hag
          · cases hsh
        refine fin ?_
        rw [e1, e2]
        cases neg with
        | false => simp only [Bool.false_eq_true, if_false] at hopn; subst hopn; simp [sval, eqGuard, run_eql_bool w t _ _ hu]
        | true => simp only [if_true] at hopn; subst hopn; simp [sval, eqGuard, run_neq_bool w t _ _ hu]
      · cases hb
        refine fin ?_
        rw [e1, e2]
        cases neg with
        | false => simp only [Bool.false_eq_true, if_false] at hopn; subst hopn; simp [sval, eqGuard, binOp, Op.stringOp, beq_toListBytes]
        | true => simp only [if_true] at hopn; subst hopn; simp [sval, eqGuard, binOp, Op.stringOp, beq_toListBytes]
      · cases hb
theorem nilSide_spec {k : NilK} {d : Option TypeDesc} {x y : Operand} {ax : AOpd} (h : nilSide k d x y ax = true) :
    (k = .kf ∧ (∃ p r c, d = some (.func p r c)) ∧ ((y = .const .nilFunc ∧ chkOpd x ax = true) ∨ (x = .const .nilFunc ∧ chkOpd y ax = true))) ∨
    (k = .kp ∧ (∃ e, d = some (.pointer e)) ∧ ((y = .const (.pointer none) ∧ chkOpd x ax = true) ∨ (x = .const (.pointer none) ∧ chkOpd y ax = true))) ∨
    (k = .ks ∧ (∃ e, d = some (.slice e)) ∧ ((∃ l c, y = .const (.slice none l c) ∧ chkOpd x ax = true) ∨ (∃ l c, x = .const (.slice none l c) ∧ chkOpd y ax = true))) := by
  unfold nilSide at h
  split at h
  · refine .inl ⟨rfl, ⟨_, _, _, rfl⟩, ?_⟩
    rw [Bool.or_eq_true] at h
    rcases h with h | h
    · split at h
      · exact .inl ⟨rfl, h⟩
      · cases h
    · split at h
      · exact .inr ⟨rfl, h⟩
      · cases h
  · refine .inr (.inl ⟨rfl, ⟨_, rfl⟩, ?_⟩)
    rw [Bool.or_eq_true] at h
    rcases h with h | h
    · split at h
      · exact .inl ⟨rfl, h⟩
      · cases h
    · split at h
      · exact .inr ⟨rfl, h⟩
      · cases h
  · refine .inr (.inr ⟨rfl, ⟨_, rfl⟩, ?_⟩)
    rw [Bool.or_eq_true] at h
    rcases h with h | h
    · split at h
      · exact .inl ⟨_, _, rfl, h⟩
      · cases h
    · split at h
      · exact .inr ⟨_, _, rfl, h⟩
      · cases h
  · cases h
def NilLike (z : Value) : Prop := (∃ f xs ys, z = .func f xs ys) ∨ z = .nilFunc ∨ (∃ p, z = .pointer p) ∨ ∃ q l c, z = .slice q l c
theorem binOp_eql {t : TypeId} {z u : Value} (hz : NilLike z) : binOp .eql t z u = (do pure (.bool (← Op.equal t z u))) := by
  rcases hz with ⟨f, xs, ys, rfl⟩ | rfl | ⟨p, rfl⟩ | ⟨q, l, c, rfl⟩ <;> cases u <;> rfl
theorem binOp_neq {t : TypeId} {z u : Value} (hz : NilLike z) : binOp .neq t z u = (do pure (.bool (!(← Op.equal t z u)))) := by
  rcases hz with ⟨f, xs, ys, rfl⟩ | rfl | ⟨p, rfl⟩ | ⟨q, l, c, rfl⟩ <;> cases u <;> rfl
theorem guard_nil {op : BinOp} {t : TypeId} {z u : Value} (x' y' : Operand) (hz : NilLike z) : (eqGuard op t x' y' z u).run P w = .ok () w := by
  unfold eqGuard
  rcases hz with ⟨f, xs, ys, rfl⟩ | rfl | ⟨p, rfl⟩ | ⟨q, l, c, rfl⟩ <;> (split <;> rfl)
theorem binEq_run {op : BinOp} {neg b : Bool} {t : TypeId} (x' y' : Operand) (hopn : op = if neg then .neq else .eql) (z u : Value) (hz : NilLike z)
    (hq : (Op.equalIn 10000 t z u).run P w = .ok b w) : (do eqGuard op t x' y' z u; binOp op t z u : Sem Value).run P w = .ok (.bool (b != neg)) w := by
  rw [Sem.run_bind, guard_nil x' y' hz]
  have hq' : (Op.equal t z u).run P w = .ok b w := hq
  cases neg with
  | false =>
    simp only [Bool.false_eq_true, if_false] at hopn
    subst hopn
    rw [Result.andThen_ok, binOp_eql hz, Sem.run_bind, hq']
    simp
  | true =>
    simp only [if_true] at hopn
    subst hopn
    rw [Result.andThen_ok, binOp_neq hz, Sem.run_bind, hq']
    simp
section
variable (d : Nat) {t : TypeId} (w : World)
theorem eqn1 {p r c} (hu : P.underlying t = some (.func p r c)) (f xs ys) : (Op.equalIn (d + 1) t (.func f xs ys) .nilFunc).run P w = .ok false w := by simp [Op.equalIn, run_underlying hu]
theorem eqn2 {p r c} (hu : P.underlying t = some (.func p r c)) (f xs ys) : (Op.equalIn (d + 1) t .nilFunc (.func f xs ys)).run P w = .ok false w := by simp [Op.equalIn, run_underlying hu]
theorem eqn3 {p r c} (hu : P.underlying t = some (.func p r c)) : (Op.equalIn (d + 1) t .nilFunc .nilFunc).run P w = .ok true w := by simp [Op.equalIn, run_underlying hu]
theorem eqn4 {e} (hu : P.underlying t = some (.pointer e)) (q) : (Op.equalIn (d + 1) t (.pointer (some q)) (.pointer none)).run P w = .ok false w := by simp [Op.equalIn, run_underlying hu]
theorem eqn5 {e} (hu : P.underlying t = some (.pointer e)) (q) : (Op.equalIn (d + 1) t (.pointer none) (.pointer (some q))).run P w = .ok false w := by simp [Op.equalIn, run_underlying hu]
theorem eqn6 {e} (hu : P.underlying t = some (.pointer e)) : (Op.equalIn (d + 1) t (.pointer none) (.pointer none)).run P w = .ok true w := by simp [Op.equalIn, run_underlying hu]
theorem eqn7 {e} (hu : P.underlying t = some (.slice e)) (q l c l' c') : (Op.equalIn (d + 1) t (.slice (some q) l c) (.slice none l' c')).run P w = .ok false w := by simp [Op.equalIn, run_underlying hu]
theorem eqn8 {e} (hu : P.underlying t = some (.slice e)) (q l c l' c') : (Op.equalIn (d + 1) t (.slice none l' c') (.slice (some q) l c)).run P w = .ok false w := by simp [Op.equalIn, run_underlying hu]
end
theorem ok_isnil {k : NilK} {neg : Bool} {x : AOpd} (hop : chkOp P o.op (.isnil k neg x) = true) (R : Rel G ρ w S O env a) (he : aop G env h (.isnil k neg x) = some (v, h')) : FreeOk ρ w S O h ((execOp a.eval o).run P w) v h' := by
  obtain ⟨v0, h0, he⟩ := opt_bind_some.1 he
  obtain ⟨b, hb, e⟩ := opt_map_some.1 he
  cases e
  simp only [chkOp] at hop
  split at hop
  case h_2 => cases hop
  rename_i op t x' y' yt heq
  simp only [Bool.and_eq_true, beq_iff_eq] at hop
  obtain ⟨hopn, hside⟩ := hop
  have fin : (do eqGuard op t x' y' (a.eval x') (a.eval y'); binOp op t (a.eval x') (a.eval y') : Sem Value).run P w = .ok (.bool (b != neg)) w → FreeOk ρ w S O h ((execOp a.eval o).run P w) (.bool (b != neg)) h := fun hrun => by
    refine .pure (x := .bool (b != neg)) ?_ (.s (.bool _))
    simp only [execOp, heq]
    rw [Sem.run_bind, hrun]
    rfl
  rcases nilSide_spec hside with ⟨rfl, ⟨pp, rr, cc, hu⟩, hs⟩ | ⟨rfl, ⟨el, hu⟩, hs⟩ | ⟨rfl, ⟨el, hu⟩, hs⟩
  · have run : ∀ z, RepV ρ w S O v0 z → (∃ f xs ys, z = .func f xs ys ∧ b = false) ∨ (z = .nilFunc ∧ b = true) := fun z hr => by
      cases v0 with
      | nilfn => cases hb; exact .inr ⟨rv_nilfn hr, rfl⟩
      | fn f as bs => cases hb; obtain ⟨xs, ys, e1, _⟩ := rv_fn hr; exact .inl ⟨_, _, _, e1, rfl⟩
      | _ => cases hb
    rcases hs with ⟨rfl, hs⟩ | ⟨rfl, hs⟩
    · refine fin ?_
      rcases run _ (ev_rep hs R h0) with ⟨f, xs, ys, e1, rfl⟩ | ⟨e1, rfl⟩
      · rw [e1]; exact binEq_run _ _ hopn _ _ (.inl ⟨_, _, _, rfl⟩) (eqn1 9999 w hu _ _ _)
      · rw [e1]; exact binEq_run _ _ hopn _ _ (.inr (.inl rfl)) (eqn3 9999 w hu)
    · refine fin ?_
      rcases run _ (ev_rep hs R h0) with ⟨f, xs, ys, e1, rfl⟩ | ⟨e1, rfl⟩
      · rw [e1]; exact binEq_run _ _ hopn _ _ (.inr (.inl rfl)) (eqn2 9999 w hu _ _ _)
      · rw [e1]; exact binEq_run _ _ hopn _ _ (.inr (.inl rfl)) (eqn3 9999 w hu)
  · have run : ∀ z, RepV ρ w S O v0 z → (∃ ad, z = .pointer (some ad) ∧ b = false) ∨ (z = .pointer none ∧ b = true) := fun z hr => by
      cases v0 with
      | nilptr => cases hb; exact .inr ⟨rv_nilptr hr, rfl⟩
      | ptr id g e off => cases hb; obtain ⟨g', pl, ad, e1, _⟩ := rv_ptr hr; exact .inl ⟨_, e1, rfl⟩
      | dptr cs => cases hb; obtain ⟨bl, off, val, e1, _⟩ := rv_dptr hr; exact .inl ⟨_, e1, rfl⟩
      | _ => cases hb
    rcases hs with ⟨rfl, hs⟩ | ⟨rfl, hs⟩
    · refine fin ?_
      rcases run _ (ev_rep hs R h0) with ⟨ad, e1, rfl⟩ | ⟨e1, rfl⟩
      · rw [e1]; exact binEq_run _ _ hopn _ _ (.inr (.inr (.inl ⟨_, rfl⟩))) (eqn4 9999 w hu _)
      · rw [e1]; exact binEq_run _ _ hopn _ _ (.inr (.inr (.inl ⟨_, rfl⟩))) (eqn6 9999 w hu)
    · refine fin ?_
      rcases run _ (ev_rep hs R h0) with ⟨ad, e1, rfl⟩ | ⟨e1, rfl⟩
      · rw [e1]; exact binEq_run _ _ hopn _ _ (.inr (.inr (.inl ⟨_, rfl⟩))) (eqn5 9999 w hu _)
      · rw [e1]; exact binEq_run _ _ hopn _ _ (.inr (.inr (.inl ⟨_, rfl⟩))) (eqn6 9999 w hu)
  · have run : ∀ z, RepV ρ w S O v0 z → ∃ ad l c, z = .slice (some ad) l c ∧ b = false := fun z hr => by
      cases v0 with
      | own id g s l c =>
        have hb : (if 0 < l then some false else none) = some b := hb
        by_cases hl : 0 < l
        · rw [if_pos hl] at hb
          cases hb
          obtain ⟨g', pl, ad, cap, e1, _, _, hlcx, _, has, _⟩ := rv_own hr
          obtain ⟨ad, rfl⟩ := Option.isSome_iff_exists.1 (has (by omega))
          exact ⟨_, _, _, e1, rfl⟩
        · rw [if_neg hl] at hb; cases hb
      | data bo k es f =>
        cases es with
        | nil => cases hb
        | cons e es =>
          cases hb
          obtain ⟨ad, cap, e1, _, _, _, hd⟩ := rv_data hr
          rcases hd with hd | ⟨bl, off, val, rfl, _⟩
          · cases hd
          · exact ⟨_, _, _, e1, rfl⟩
      | _ => cases hb
    rcases hs with ⟨l', c', rfl, hs⟩ | ⟨l', c', rfl, hs⟩
    · refine fin ?_
      obtain ⟨ad, l, c, e1, rfl⟩ := run _ (ev_rep hs R h0)
      rw [e1]; exact binEq_run _ _ hopn _ _ (.inr (.inr (.inr ⟨_, _, _, rfl⟩))) (eqn7 9999 w hu _ _ _ _ _)
    · refine fin ?_
      obtain ⟨ad, l, c, e1, rfl⟩ := run _ (ev_rep hs R h0)
      rw [e1]; exact binEq_run _ _ hopn _ _ (.inr (.inr (.inr ⟨_, _, _, rfl⟩))) (eqn8 9999 w hu _ _ _ _ _)
end
end Go.Proofs.Ytfnonledcniojaa
