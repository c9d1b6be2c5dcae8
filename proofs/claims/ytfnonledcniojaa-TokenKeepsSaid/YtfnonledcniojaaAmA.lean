/- A small machine over values that hang on no addresses: its values, its rows, its operations. Conditions: none. -/
import Derived.WalkKit
import Derived.Orders
namespace Go.Proofs.Ytfnonledcniojaa
open Go

/-- The machine's values. 'data': a slice that is only read (bor: for the time of a call); 'own': a slice of a row of the call's own; 'dptr', 'ptr': addresses. -/
inductive AV where
  | int (k : IntKind) (n : Int)
  | bool (b : Bool)
  | str (s : ByteArray)
  | agg (cs : List AV)
  | tup (cs : List AV)
  | data (bor : Bool) (k : Nat) (es : List (List AV)) (full : Bool)
  | dptr (cs : List AV)
  | own (id gen start len cap : Nat)
  | ptr (id gen e off : Nat)
  | fn (f : Fn) (first caps : List AV)
  | nilfn
  | nilptr
  | unk
  deriving Inhabited

structure ARow where
  k : Nat
  gen : Nat
  flat : Bool
  es : List (List AV)

mutual
/-- May it outlive the call? -/
def AV.stable : AV → Bool
  | .int _ _ | .bool _ | .str _ | .nilfn | .nilptr => true
  | .data bor _ _ _ => !bor
  | .agg cs | .tup cs => AV.stableL cs
  | .fn _ a b => AV.stableL a && AV.stableL b
  | .dptr _ | .own .. | .ptr .. | .unk => false
def AV.stableL : List AV → Bool
  | [] => true
  | v :: vs => v.stable && AV.stableL vs
end

abbrev AEnv := List (Nat × AV)
def look : AEnv → Nat → Option AV
  | [], _ => none
  | (k, v) :: r, n => if k = n then some v else look r n

inductive AOpd where
  | slot (n : Nat)
  | const (v : AV)
  | glob (g : Nat)
  | func (f : Nat)

/-- The kinds of cells that '==' takes. -/
inductive Sh where
  | kb | ki | ks
  deriving DecidableEq

inductive NilK where
  | kf | kp | ks
  deriving DecidableEq

inductive AMd where
  | frz | adp | inl

inductive AOp where
  | mov (x : AOpd)
  | mknil (k : Nat)
  | pick (c a b : AOpd)
  | alloc (zero : List AV)
  | box (m : Nat) (x : AOpd)
  | build (zero : List AV) (parts : List (Nat × Nat × AOpd))
  | mkslice (k n : Nat) (zero : List AV) (parts : List (Nat × AOpd))
  | mkdata (k n : Nat) (zero : List AV) (parts : List (Nat × AOpd))
  | load (agg : Bool) (m : Nat) (x : AOpd)
  | store (agg : Bool) (m : Nat) (p x : AOpd)
  | nilchk (x : AOpd)
  | bin (op : BinOp) (x y : AOpd)
  | eq (agg : Bool) (sh : List Sh) (neg : Bool) (x y : AOpd)
  | isnil (k : NilK) (neg : Bool) (x : AOpd)
  | not (x : AOpd)
  | neg (x : AOpd)
  | conv (k : IntKind) (x : AOpd)
  | rstr (x : AOpd)
  | bstr (x : AOpd)
  | strb (x : AOpd)
  | mark (x : AOpd)
  | cvs (x : AOpd)
  | mkfn (f : Fn) (first caps : List AOpd)
  | mkrow (k bytes : Nat) (zero : List AV) (l c : AOpd)
  | sl (k : Nat) (x : AOpd) (lo hi mx : Option AOpd)
  | slstr (x : AOpd) (lo hi : Option AOpd)
  | faddr (off : Nat) (x : AOpd)
  | field (agg : Bool) (m off : Nat) (x : AOpd)
  | idx (k : Nat) (x i : AOpd)
  | idxarr (k n : Nat) (x i : AOpd)
  | idxv (agg : Bool) (m n : Nat) (x i : AOpd)
  | idxs (x i : AOpd)
  | extract (i : Nat) (x : AOpd)
  | len (isStr : Bool) (x : AOpd)
  | lenarr (n : Nat)
  | append (k bytes : Nat) (x y : AOpd)
  | appendD (k bytes : Nat) (x y : AOpd)
  | copy (k : Nat) (x y : AOpd)
  | clear (zero : List AV) (x : AOpd)
  | max (x y : AOpd)
  | min (x y : AOpd)
  | call (md : AMd) (f : Nat) (args : List AOpd)
  | callv (x : AOpd) (args : List AOpd)

structure AOper where
  dst : Option Nat
  guard : Option (Nat × Bool)
  op : AOp

inductive ACode where
  | skip
  | region (ops : List AOper) (draw : Bool) (live : List Nat)
  | seq (a b : ACode)
  | cond (c : AOpd) (thn els : ACode)
  | block (id : Nat) (body : ACode)
  | loop (live : List Nat) (body : ACode)
  | exit (id : Nat)
  | ret
  | dead

inductive ARes where
  | slot (n : Nat)
  | cell (n : Nat) (agg : Bool) (m : Nat)

structure AFn where
  body : ACode
  res : List ARes

structure ASt where
  env : AEnv
  h : List ARow

inductive AEx where
  | normal
  | exit (id : Nat)
  | ret
  deriving DecidableEq

section ops
variable (G : Nat → Option (List AV))

def aeval (env : AEnv) : AOpd → Option AV
  | .slot n => look env n
  | .const v => some v
  | .glob g => (G g).map .dptr
  | .func f => some (.fn (.func f) [] [])

def acut (agg : Bool) (m off : Nat) (g : List AV) : Option AV :=
  if agg then (if off + m ≤ g.length then some (.agg ((g.drop off).take m)) else none) else g[off]?

def AV.cells : AV → Option (List AV)
  | .agg cs => some cs
  | .tup _ | .unk => none
  | v => some [v]

def aload (h : List ARow) (agg : Bool) (m : Nat) : AV → Option AV
  | .ptr id gen e off => (h[id]?).bind fun r => if r.gen = gen then (r.es[e]?).bind (acut agg m off) else none
  | .dptr cs => acut agg m 0 cs
  | _ => none

def patch (off : Nat) (cs g : List AV) : List AV := g.take off ++ cs ++ g.drop (off + cs.length)

def ARow.put (r : ARow) (e : Nat) (g : List AV) (st : Bool) : ARow := { r with es := r.es.set e g, flat := r.flat && st }

def astore (h : List ARow) (agg : Bool) (m : Nat) (p v : AV) : Option (List ARow) :=
  match p with
  | .ptr id gen e off => (h[id]?).bind fun r => if r.gen = gen then (r.es[e]?).bind fun g =>
      if agg then
        match v with
        | .agg cs => if cs.length = m ∧ off + m ≤ g.length then some (h.set id (r.put e (patch off cs g) (AV.stableL cs))) else none
        | _ => none
      else
        match v with
        | .agg _ | .tup _ | .unk => none
        | v => if off < g.length then some (h.set id (r.put e (g.set off v) v.stable)) else none
    else none
  | _ => none

def asum (k : IntKind) (n : Int) : AV := .int k (k.wrap n)

def abin : BinOp → AV → AV → Option AV
  | .add, .str a, .str b => if ((a.size + b.size : Nat) : Int) > IntKind.i64.max then none else some (.str (a ++ b))
  | .shl, .int k a, .int _ b => if b < 0 then none else some (.int k (k.wrap (a * 2 ^ min b.toNat k.bits)))
  | .shr, .int k a, .int _ b => if b < 0 then none else some (.int k (a.fdiv (2 ^ min b.toNat k.bits)))
  | op, .int k a, .int k' b =>
    if k = k' then
      match op with
      | .add => some (asum k (a + b))
      | .sub => some (asum k (a - b))
      | .mul => some (asum k (a * b))
      | .quo => if b = 0 then none else some (asum k (a.tdiv b))
      | .rem => if b = 0 then none else some (.int k (a.tmod b))
      | .and => some (asum k ((BitVec.ofInt k.bits a &&& BitVec.ofInt k.bits b).toNat))
      | .or => some (asum k ((BitVec.ofInt k.bits a ||| BitVec.ofInt k.bits b).toNat))
      | .andNot => some (asum k ((BitVec.ofInt k.bits a &&& ~~~(BitVec.ofInt k.bits b)).toNat))
      | .eql => some (.bool (a == b))
      | .neq => some (.bool (a != b))
      | .lss => some (.bool (decide (a < b)))
      | .leq => some (.bool (decide (a ≤ b)))
      | .gtr => some (.bool (decide (a > b)))
      | .geq => some (.bool (decide (a ≥ b)))
      | _ => none
    else none
  | _, _, _ => none

def eqLeaf : Sh → AV → AV → Option Bool
  | .ki, .int k a, .int k' b => if k = k' then some (a == b) else none
  | .kb, .bool a, .bool b => some (a == b)
  | .ks, .str a, .str b => some (a == b)
  | _, _, _ => none
def eqCells : List Sh → List AV → List AV → Option Bool
  | [], [], [] => some true
  | s :: ss, a :: as, b :: bs => (eqLeaf s a b).bind fun x => (eqCells ss as bs).bind fun y => some (x && y)
  | _, _, _ => none
def aeq : Bool → List Sh → AV → AV → Option Bool
  | true, sh, .agg as, .agg bs => eqCells sh as bs
  | false, [s], a, b => eqLeaf s a b
  | _, _, _, _ => none
def aisnil : NilK → AV → Option Bool
  | .kf, .nilfn => some true
  | .kp, .nilptr => some true
  | .kf, .fn .. => some false
  | .kp, .ptr .. => some false
  | .kp, .dptr _ => some false
  | .ks, .own _ _ _ l _ => if 0 < l then some false else none
  | .ks, .data _ _ es _ => match es with
    | [] => none
    | _ :: _ => some false
  | _, _ => none

def bytesAV (s : ByteArray) : List (List AV) := s.data.toList.map fun b => [.int .u8 (b.toNat : Int)]
/-- The elements that a slice (or a string's bytes) holds. -/
def agroups (h : List ARow) (k : Nat) : AV → Option (List (List AV) × Bool)
  | .own id gen s l _ => (h[id]?).bind fun r => if r.gen = gen ∧ r.k = k ∧ s + l ≤ r.es.length then some ((r.es.drop s).take l, r.flat) else none
  | .data _ k' es _ => if k' = k then some (es, true) else none
  | _ => none

def asBytes : List (List AV) → Option (List UInt8)
  | [] => some []
  | [.int .u8 n] :: es => (asBytes es).map (UInt8.ofNat n.toNat :: ·)
  | _ => none
def aboundsOk (n bytes : Nat) : Bool := decide (n * bytes ≤ 140737488355328)

def aappend (h : List ARow) (k bytes : Nat) (x y : AV) : Option (AV × List ARow) :=
  (agroups h k y).bind fun ys =>
  match x with
  | .own id gen s l c => (h[id]?).bind fun r =>
      if l < c ∧ l + ys.1.length ≤ c then (if r.gen = gen ∧ r.k = k ∧ s + (l + ys.1.length) ≤ r.es.length then
        some (.own id gen s (l + ys.1.length) c, h.set id ⟨k, gen, r.flat && ys.2, r.es.take (s + l) ++ ys.1 ++ r.es.drop (s + l + ys.1.length)⟩) else none)
      else if r.gen = gen ∧ r.k = k ∧ s + l ≤ r.es.length ∧ aboundsOk (l + ys.1.length) bytes = true then
        some (.own id (gen + 1) 0 (l + ys.1.length) (l + ys.1.length), h.set id ⟨k, gen + 1, r.flat && ys.2, (r.es.drop s).take l ++ ys.1⟩) else none
  | .data _ k' es true =>
    match es with
    | [] => if aboundsOk ys.1.length bytes = true then some (.own h.length 0 0 ys.1.length ys.1.length, h ++ [⟨k, 0, ys.2, ys.1⟩]) else none
    | e :: es => match ys.1 with
      | [] => some (x, h)
      | _ => if k' = k ∧ aboundsOk (es.length + 1 + ys.1.length) bytes = true then some (.own h.length 0 0 (es.length + 1 + ys.1.length) (es.length + 1 + ys.1.length), h ++ [⟨k, 0, ys.2, e :: es ++ ys.1⟩]) else none
  | _ => none

/-- An append whose answer is only read. -/
def aappendD (h : List ARow) (k bytes : Nat) (x y : AV) : Option AV :=
  (agroups h k y).bind fun ys =>
  match x with
  | .data false k' es true => if (es.isEmpty || k' == k) = true ∧ ys.2 = true ∧ aboundsOk (es.length + ys.1.length) bytes = true then some (.data false k (es ++ ys.1) false) else none
  | _ => none

def acopy (h : List ARow) (k : Nat) (x y : AV) : Option (AV × List ARow) :=
  (agroups h k y).bind fun ys =>
  match x with
  | .own id gen s l _ => (h[id]?).bind fun r => if r.gen = gen ∧ r.k = k ∧ s + l ≤ r.es.length then
      some (.int .i64 (min ys.1.length l : Nat), h.set id ⟨r.k, r.gen, r.flat && ys.2, r.es.take s ++ ys.1.take (min ys.1.length l) ++ r.es.drop (s + min ys.1.length l)⟩) else none
  | _ => none

def abound (b : Nat) : Option AV → Option Nat
  | none => some b
  | some (.int _ i) => if 0 ≤ i then some i.toNat else none
  | _ => none

def aslice (h : List ARow) (k : Nat) (x : AV) (lo hi mx : Option AV) : Option AV :=
  match x with
  | .own id gen s l c => (abound 0 lo).bind fun a => (abound l hi).bind fun b => (abound c mx).bind fun m =>
      (h[id]?).bind fun r => if r.gen = gen ∧ r.k = k then if a ≤ b ∧ b ≤ m ∧ m ≤ c then some (.own id gen (s + a) (b - a) (m - a)) else none else none
  | .data bor k' es full => (abound 0 lo).bind fun a => (abound es.length hi).bind fun b => (abound es.length mx).bind fun m =>
      if k' = k then if a ≤ b ∧ b ≤ m ∧ m ≤ es.length then some (.data bor k ((es.take b).drop a) (match mx with | some _ => decide (m = b) | none => full && decide (b = es.length))) else none else none
  | _ => none

def aslstr (x : AV) (lo hi : Option AV) : Option AV :=
  match x with
  | .str s => (abound 0 lo).bind fun a => (abound s.size hi).bind fun b => if a ≤ b ∧ b ≤ s.size then some (.str (s.extract a b)) else none
  | _ => none

def aidx (h : List ARow) (k : Nat) : AV → AV → Option AV
  | .own id gen s l _, .int _ i => (h[id]?).bind fun r => if r.gen = gen ∧ r.k = k then if 0 ≤ i ∧ i < l then some (.ptr id gen (s + i.toNat) 0) else none else none
  | .data _ k' es _, .int _ i => if k' = k then if 0 ≤ i then (es[i.toNat]?).map .dptr else none else none
  | _, _ => none

def aidxarr (k n : Nat) : AV → AV → Option AV
  | .ptr id gen e off, .int _ i => if 0 ≤ i ∧ i < n then some (.ptr id gen e (off + i.toNat * k)) else none
  | .dptr cs, .int _ i => if 0 ≤ i ∧ i < n then some (.dptr (cs.drop (i.toNat * k))) else none
  | _, _ => none

def aidxv (agg : Bool) (m n : Nat) : AV → AV → Option AV
  | .agg cs, .int _ i => if 0 ≤ i ∧ i < n then acut agg m (i.toNat * m) cs else none
  | _, _ => none

def aidxs : AV → AV → Option AV
  | .str s, .int _ i => if 0 ≤ i then (s.data.toList[i.toNat]?).map fun b => .int .u8 (b.toNat : Int) else none
  | _, _ => none

def afaddr (off : Nat) : AV → Option AV
  | .ptr id gen e o => some (.ptr id gen e (o + off))
  | .dptr cs => some (.dptr (cs.drop off))
  | _ => none

def abuild (zero : List AV) : List (Nat × Nat × AV) → Option (List AV)
  | [] => some zero
  | (off, m, v) :: ps => v.cells.bind fun cs => if cs.length = m ∧ off + m ≤ zero.length then abuild (patch off cs zero) ps else none
def afill (k : Nat) (es : List (List AV)) : List (Nat × AV) → Option (List (List AV))
  | [] => some es
  | (i, v) :: ps => v.cells.bind fun cs => if cs.length = k ∧ i < es.length then afill k (es.set i cs) ps else none

def stableLL (es : List (List AV)) : Bool := es.all AV.stableL

def alen : Bool → AV → Option AV
  | false, .own _ _ _ l _ => some (.int .i64 l)
  | false, .data _ _ es _ => some (.int .i64 es.length)
  | true, .str s => some (.int .i64 s.size)
  | _, _ => none

def aints (f : Int → Int → Bool) : AV → AV → Option AV
  | .int k a, .int k' b => if k = k' then some (.int k (if f b a then b else a)) else none
  | _, _ => none

def anostr : AV → Option AV
  | .str _ => none
  | v => some v
/-- An operand that may be left out. -/
def aopt (env : AEnv) : Option AOpd → Option (Option AV)
  | none => some none
  | some o => (aeval G env o).bind fun v => some (some v)
/-- The operations but for the calls. -/
def aop (env : AEnv) (h : List ARow) : AOp → Option (AV × List ARow)
  | .mov x => (aeval G env x).map (·, h)
  | .mknil k => some (.own h.length 0 0 0 0, h ++ [⟨k, 0, true, []⟩])
  | .pick c a b => (aeval G env c).bind fun
    | .bool c => (aeval G env (if c then a else b)).map (·, h)
    | _ => none
  | .alloc zero => some (.ptr h.length 0 0 0, h ++ [⟨zero.length, 0, AV.stableL zero, [zero]⟩])
  | .box m x => (aeval G env x).bind fun v => v.cells.bind fun cs => if cs.length = m then some (.ptr h.length 0 0 0, h ++ [⟨m, 0, AV.stableL cs, [cs]⟩]) else none
  | .build zero parts => (parts.mapM fun (p : Nat × Nat × AOpd) => (aeval G env p.2.2).map fun v => (p.1, p.2.1, v)).bind fun ps => (abuild zero ps).map fun cs => (.agg cs, h)
  | .mkslice k n zero parts => (parts.mapM fun (p : Nat × AOpd) => (aeval G env p.2).map fun v => (p.1, v)).bind fun ps =>
      (afill k (List.replicate n zero) ps).map fun es => (.own h.length 0 0 n n, h ++ [⟨k, 0, stableLL es, es⟩])
  | .mkdata k n zero parts => (parts.mapM fun (p : Nat × AOpd) => (aeval G env p.2).map fun v => (p.1, v)).bind fun ps =>
      (afill k (List.replicate n zero) ps).bind fun es => if stableLL es then some (.data false k es true, h) else none
  | .load agg m x => (aeval G env x).bind fun p => (aload h agg m p).map (·, h)
  | .store agg m p x => (aeval G env p).bind fun p => (aeval G env x).bind fun v => (astore h agg m p v).map (.tup [], ·)
  | .nilchk x => (aeval G env x).bind fun
    | .ptr id gen e off => some (.ptr id gen e off, h)
    | .dptr cs => some (.dptr cs, h)
    | .fn (.func f) a b => some (.fn (.func f) a b, h)
    | _ => none
  | .bin op x y => (aeval G env x).bind fun x => (aeval G env y).bind fun y => (abin op x y).map (·, h)
  | .eq agg sh neg x y => (aeval G env x).bind fun x => (aeval G env y).bind fun y => (aeq agg sh x y).map fun b => (.bool (b != neg), h)
  | .isnil k neg x => (aeval G env x).bind fun x => (aisnil k x).map fun b => (.bool (b != neg), h)
  | .not x => (aeval G env x).bind fun
    | .bool b => some (.bool (!b), h)
    | _ => none
  | .neg x => (aeval G env x).bind fun
    | .int k n => some (asum k (0 - n), h)
    | _ => none
  | .conv k x => (aeval G env x).bind fun
    | .int _ n => some (asum k n, h)
    | _ => none
  | .rstr x => (aeval G env x).bind fun
    | .int _ n => some (.str (Utf8.encode n), h)
    | _ => none
  | .bstr x => ((aeval G env x).bind anostr).bind fun v => (agroups h 1 v).bind fun es =>
      (asBytes es.1).map fun bs => (.str ⟨bs.toArray⟩, h)
  | .strb x => (aeval G env x).bind fun
    | .str s => some (.own h.length 0 0 s.size s.size, h ++ [⟨1, 0, true, bytesAV s⟩])
    | _ => none
  | .mark x => (aeval G env x).bind fun
    | .own id g s l c => (h[id]?).bind fun r => if r.gen = g ∧ 0 < l then some (.own id g s l c, h) else none
    | _ => none
  | .cvs x => (aeval G env x).bind fun
    | .str s => some (.str s, h)
    | _ => none
  | .mkfn f first caps => (first.mapM (aeval G env)).bind fun a => (caps.mapM (aeval G env)).map fun b => (.fn f a b, h)
  | .mkrow k bytes zero l c => (aeval G env l).bind fun l => (aeval G env c).bind fun c =>
      match l, c with
      | .int .i64 l, .int .i64 c => if 0 ≤ l ∧ c = l ∧ aboundsOk l.toNat bytes = true ∧ zero.length = k then
          some (.own h.length 0 0 l.toNat l.toNat, h ++ [⟨k, 0, AV.stableL zero, List.replicate l.toNat zero⟩]) else none
      | _, _ => none
  | .sl k x lo hi mx => (aeval G env x).bind fun x => (aopt G env lo).bind fun lo =>
      (aopt G env hi).bind fun hi => (aopt G env mx).bind fun mx => (aslice h k x lo hi mx).map (·, h)
  | .slstr x lo hi => (aeval G env x).bind fun x => (aopt G env lo).bind fun lo =>
      (aopt G env hi).bind fun hi => (aslstr x lo hi).map (·, h)
  | .faddr off x => (aeval G env x).bind fun p => (afaddr off p).map (·, h)
  | .field agg m off x => (aeval G env x).bind fun
    | .agg cs => (acut agg m off cs).map (·, h)
    | _ => none
  | .idx k x i => (aeval G env x).bind fun x => (aeval G env i).bind fun i => (aidx h k x i).map (·, h)
  | .idxarr k n x i => (aeval G env x).bind fun x => (aeval G env i).bind fun i => (aidxarr k n x i).map (·, h)
  | .idxv agg m n x i => (aeval G env x).bind fun x => (aeval G env i).bind fun i => (aidxv agg m n x i).map (·, h)
  | .idxs x i => (aeval G env x).bind fun x => (aeval G env i).bind fun i => (aidxs x i).map (·, h)
  | .extract i x => (aeval G env x).bind fun
    | .tup vs => (vs[i]?).map (·, h)
    | _ => none
  | .len b x => (aeval G env x).bind fun x => (alen b x).map (·, h)
  | .lenarr n => some (.int .i64 n, h)
  | .append k bytes x y => (aeval G env x).bind fun x => (aeval G env y).bind fun y => aappend h k bytes x y
  | .appendD k bytes x y => (aeval G env x).bind fun x => (aeval G env y).bind fun y => (aappendD h k bytes x y).map (·, h)
  | .copy k x y => (aeval G env x).bind fun x => (aeval G env y).bind fun y => acopy h k x y
  | .clear zero x => (aeval G env x).bind fun
    | .own id gen s l _ => (h[id]?).bind fun r => if r.gen = gen ∧ r.k = zero.length ∧ s + l ≤ r.es.length then
        some (.tup [], h.set id ⟨r.k, r.gen, r.flat && AV.stableL zero, r.es.take s ++ List.replicate l zero ++ r.es.drop (s + l)⟩) else none
    | _ => none
  | .max x y => (aeval G env x).bind fun x => (aeval G env y).bind fun y => (aints (fun b a => decide (b > a)) x y).map (·, h)
  | .min x y => (aeval G env x).bind fun x => (aeval G env y).bind fun y => (aints (fun b a => decide (b < a)) x y).map (·, h)
  | .call .. | .callv .. => none
end ops
end Go.Proofs.Ytfnonledcniojaa
