/- Does an operation of the small machine stand for an operation of the program? A check that is reckoned. Conditions: none. -/
import Derived.Test.YtfnonledcniojaaAmE
namespace Go.Proofs.Ytfnonledcniojaa
open Go Go.RowKit

def chkConst : Value → AV → Bool
  | .int k n, .int k' n' => k == k' && n == n'
  | .bool b, .bool b' => b == b'
  | .string s, .str t => s.data == t.data
  | .nilFunc, .nilfn => true
  | .pointer none, .nilptr => true
  | .slice none 0 0, .data false _ [] _ => true
  | _, _ => false
def chkConsts : List Value → List AV → Bool
  | [], [] => true
  | v :: vs, c :: cs => chkConst v c && chkConsts vs cs
  | _, _ => false
def chkOpd : Operand → AOpd → Bool
  | .tmp t, .slot n => t == n
  | .const v, .const c => chkConst v c
  | .global g, .glob g' => g == g'
  | .func f, .func f' => f == f'
  | _, _ => false
def chkOpds : List Operand → List AOpd → Bool
  | [], [] => true
  | x :: xs, a :: as => chkOpd x a && chkOpds xs as
  | _, _ => false
def chkOpt : Option Operand → Option AOpd → Bool
  | none, none => true
  | some x, some a => chkOpd x a
  | _, _ => false

section
variable (P : Program)
def sizeIs (t : TypeId) (n : Nat) : Bool := match P.info? t with
  | some i => i.size == n
  | none => false
def zeroIs (t : TypeId) (zs : List AV) : Bool := match P.info? t with
  | some i => (match i.zero with | some z => chkConsts z.cells.toList zs | none => false)
  | none => false
def isAggB (t : TypeId) : Option Bool := match P.underlying t with
  | some (.struct _) | some (.array _ _) => some true
  | some _ => some false
  | none => none
def chkParts (place : Nat → Option (Nat × Nat)) : List (Nat × Operand) → List (Nat × Nat × AOpd) → Bool
  | [], [] => true
  | (i, x) :: ps, (off, m, a) :: as => place i == some (off, m) && chkOpd x a && chkParts place ps as
  | _, _ => false
def chkParts2 : List (Nat × Operand) → List (Nat × AOpd) → Bool
  | [], [] => true
  | (i, x) :: ps, (j, a) :: as => i == j && chkOpd x a && chkParts2 ps as
  | _, _ => false
def shFields (rec : TypeId → Option (List Sh)) (off : Nat) : List Field → Option (List Sh)
  | [] => some []
  | f :: fs => (rec f.type).bind fun sh => if f.offset == off && f.name != "_" && sizeIs P f.type sh.length then (shFields rec (off + sh.length) fs).map (sh ++ ·) else none
/-- Types whose values are the same where all cells are: the cells' kinds. -/
def flatSh : Nat → TypeId → Option (List Sh)
  | 0, _ => none
  | d + 1, t => match P.underlying t with
    | some .bool => if sizeIs P t 1 then some [.kb] else none
    | some (.int _) => if sizeIs P t 1 then some [.ki] else none
    | some .string => if sizeIs P t 1 then some [.ks] else none
    | some (.struct fs) => if P.stoodInHeld t then none else shFields P (flatSh d) 0 fs.toList
    | some (.array n e) => (flatSh d e).bind fun sh => if sizeIs P e sh.length && sizeIs P t (n * sh.length) then some (List.replicate n sh).flatten else none
    | _ => none
def isU8 (t : TypeId) : Bool := match P.underlying t with
  | some (.int .u8) => true
  | _ => false
def isSl : Option TypeDesc → Bool
  | some (.slice _) => true
  | _ => false

def nilSide (k : NilK) (d : Option TypeDesc) (x y : Operand) (a : AOpd) : Bool :=
  match k, d with
  | .kf, some (.func ..) => (match y with | .const .nilFunc => chkOpd x a | _ => false) || (match x with | .const .nilFunc => chkOpd y a | _ => false)
  | .kp, some (.pointer _) => (match y with | .const (.pointer none) => chkOpd x a | _ => false) || (match x with | .const (.pointer none) => chkOpd y a | _ => false)
  | .ks, some (.slice _) => (match y with | .const (.slice none _ _) => chkOpd x a | _ => false) || (match x with | .const (.slice none _ _) => chkOpd y a | _ => false)
  | _, _ => false
def chkOp (o : Op) : AOp → Bool
  | .mov a => match o with
    | .move x | .assign x => chkOpd x a
    | _ => false
  | .mknil _ => match o with
    | .move (.const (.slice none 0 0)) | .assign (.const (.slice none 0 0)) => true
    | _ => false
  | .pick c a b => match o with
    | .pick c' a' b' => chkOpd c' c && chkOpd a' a && chkOpd b' b
    | _ => false
  | .alloc zero => match o with
    | .alloc t => zeroIs P t zero
    | _ => false
  | .box _ a => match o with
    | .box _ x => chkOpd x a
    | _ => false
  | .build zero ps => match o with
    | .build t parts => zeroIs P t zero && (match P.underlying t with
      | some (.struct fs) => fs.all (fun f => (P.info? f.type).isSome) && chkParts (fun i => (fs[i]?).map fun f => (f.offset, P.cellsOf f.type)) parts.toList ps
      | some (.array _ e) => (P.info? e).isSome && chkParts (fun i => some (i * P.cellsOf e, P.cellsOf e)) parts.toList ps
      | _ => false)
    | _ => false
  | .mkslice k n zero ps | .mkdata k n zero ps => match o with
    | .buildSlice t n' parts => n == n' && decide (n * k ≤ 16777216) && (match P.underlying t with
      | some (.slice e) => sizeIs P e k && zeroIs P e zero && zero.length == k && chkParts2 parts.toList ps
      | _ => false)
    | _ => false
  | .load agg m a => match o with
    | .load t x => chkOpd x a && isAggB P t == some agg && sizeIs P t m
    | _ => false
  | .store agg m p a => match o with
    | .store t p' x => chkOpd p' p && chkOpd x a && sizeIs P t m && (agg || m == 1)
    | _ => false
  | .nilchk a => match o with
    | .nilCheck x => chkOpd x a
    | _ => false
  | .bin op a b => match o with
    | .binOp op' _ x y _ => op == op' && chkOpd x a && chkOpd y b
    | _ => false
  | .eq agg sh neg a b => match o with
    | .binOp op t x y _ => (op == if neg then .neq else .eql) && chkOpd x a && chkOpd y b && flatSh P 20 t == some sh && isAggB P t == some agg && !P.eqGuardType P.depth t
    | _ => false
  | .isnil k neg a => match o with
    | .binOp op t x y _ => (op == if neg then .neq else .eql) && nilSide k (P.underlying t) x y a
    | _ => false
  | .not a => match o with
    | .unOp .not _ x => chkOpd x a
    | _ => false
  | .neg a => match o with
    | .unOp .neg _ x => chkOpd x a
    | _ => false
  | .conv k a => match o with
    | .convert s d x => chkOpd x a && (P.underlying s).isSome && (match P.underlying d with | some (.int k') => k == k' | _ => false)
    | _ => false
  | .rstr a => match o with
    | .convert s d x => chkOpd x a && (P.underlying s).isSome && (match P.underlying d with | some .string => true | _ => false)
    | _ => false
  | .cvs a => match o with
    | .convert s d x => chkOpd x a && (P.underlying s).isSome && (match P.underlying d with | some .string => true | _ => false)
    | _ => false
  | .bstr a => match o with
    | .convert s d x => chkOpd x a && (match P.underlying s with | some (.slice e) => isU8 P e | _ => false) && (match P.underlying d with | some .string => true | _ => false)
    | _ => false
  | .strb a => match o with
    | .convert s d x => chkOpd x a && (P.underlying s).isSome && (match P.underlying d with | some (.slice e) => isU8 P e && sizeIs P e 1 | _ => false)
    | _ => false
  | .mark a => match o with
    | .convert s d x => chkOpd x a && s == d && (match P.underlying d with | some (.slice e) => isU8 P e | _ => false)
    | _ => false
  | .mkfn f first caps => match o with
    | .makeFunc f' first' caps' => f == f' && chkOpds first'.toList first && chkOpds caps'.toList caps
    | _ => false
  | .mkrow k bytes zero l c => match o with
    | .makeSlice t l' c' => chkOpd l' l && chkOpd c' c && (match P.underlying t with
      | some (.slice e) => sizeIs P e k && zeroIs P e zero && decide (0 < k) && decide (0 < bytes) && (match P.info? e with | some i => i.bytes == bytes | none => false)
      | _ => false)
    | _ => false
  | .sl k a lo hi mx => match o with
    | .slice t x lo' hi' mx' => chkOpd x a && chkOpt lo' lo && chkOpt hi' hi && chkOpt mx' mx && (!mx.isSome || hi.isSome) && (match P.underlying t with
      | some (.slice e) => sizeIs P e k
      | _ => false)
    | _ => false
  | .slstr a lo hi => match o with
    | .slice t x lo' hi' mx' => chkOpd x a && chkOpt lo' lo && chkOpt hi' hi && mx'.isNone && (match P.underlying t with
      | some .string => true
      | _ => false)
    | _ => false
  | .faddr off a => match o with
    | .fieldAddr s x f => chkOpd x a && (match P.underlying s with
      | some (.struct fs) => (match fs[f]? with | some fd => fd.offset == off && (match P.info? fd.type with | some i => i.size != 0 | none => false) | none => false)
      | _ => false)
    | _ => false
  | .field agg m off a => match o with
    | .field s x f => chkOpd x a && (match P.underlying s with
      | some (.struct fs) => (match fs[f]? with | some fd => fd.offset == off && isAggB P fd.type == some agg && sizeIs P fd.type m | none => false)
      | _ => false)
    | _ => false
  | .idx k a i => match o with
    | .indexAddr t x j => chkOpd x a && chkOpd j i && (match P.underlying t with
      | some (.slice e) => sizeIs P e k
      | _ => false)
    | _ => false
  | .idxarr k n a i => match o with
    | .indexAddr t x j => chkOpd x a && chkOpd j i && (match P.underlying t with
      | some (.array n' e) => n == n' && sizeIs P e k
      | _ => false)
    | _ => false
  | .idxv agg m n a i => match o with
    | .index t x j => chkOpd x a && chkOpd j i && (match P.underlying t with
      | some (.array n' e) => n == n' && sizeIs P e m && isAggB P e == some agg
      | _ => false)
    | _ => false
  | .idxs a i => match o with
    | .index t x j => chkOpd x a && chkOpd j i && (match P.underlying t with
      | some .string => true
      | _ => false)
    | _ => false
  | .extract i a => match o with
    | .extract x j => chkOpd x a && i == j
    | _ => false
  | .len isStr a => match o with
    | .call ⟨.builtin .len, args, ts⟩ => (match args.toList, ts.toList with
      | [x], [t] => chkOpd x a && (match P.underlying t with | some .string => isStr | some (.slice _) => !isStr | _ => false)
      | _, _ => false)
    | _ => false
  | .lenarr n => match o with
    | .call ⟨.builtin .len, args, ts⟩ => (match args.toList, ts.toList with
      | [_], [t] => (match P.underlying t with
        | some (.array n' _) => n == n'
        | some (.pointer a) => (match P.underlying a with | some (.array n' _) => n == n' | _ => false)
        | _ => false)
      | _, _ => false)
    | _ => false
  | .append k bytes a b | .appendD k bytes a b => match o with
    | .call ⟨.builtin .append, args, ts⟩ => (match args.toList, ts.toList with
      | [x, y], [t, u] => chkOpd x a && chkOpd y b && isSl (P.underlying u) && (match P.underlying t with
        | some (.slice e) => (match P.info? e with | some i => i.size == k && i.bytes == bytes && decide (0 < k) && decide (0 < bytes) && (match i.zero with | some z => z.cells.size == k | none => false) | none => false)
        | _ => false)
      | _, _ => false)
    | _ => false
  | .copy k a b => match o with
    | .call ⟨.builtin .copy, args, ts⟩ => (match args.toList, ts.toList with
      | [x, y], t :: _ => chkOpd x a && chkOpd y b && (match P.underlying t with | some (.slice e) => sizeIs P e k | _ => false)
      | _, _ => false)
    | _ => false
  | .clear zero a => match o with
    | .call ⟨.builtin .clear, args, ts⟩ => (match args.toList, ts.toList with
      | [x], [t] => chkOpd x a && (match P.underlying t with | some (.slice e) => zeroIs P e zero | _ => false)
      | _, _ => false)
    | _ => false
  | .max a b => match o with
    | .call ⟨.builtin .max, args, _⟩ => (match args.toList with
      | [x, y] => chkOpd x a && chkOpd y b
      | _ => false)
    | _ => false
  | .min a b => match o with
    | .call ⟨.builtin .min, args, _⟩ => (match args.toList with
      | [x, y] => chkOpd x a && chkOpd y b
      | _ => false)
    | _ => false
  | .call _ f args => match o with
    | .call ⟨.value (.func f'), args', _⟩ => f == f' && chkOpds args'.toList args
    | _ => false
  | .callv a args => match o with
    | .call ⟨.value x, args', _⟩ => chkOpd x a && chkOpds args'.toList args
    | _ => false

/-! ### Orders: which operations may come up in either order -/
/-- Looks at no row; changes no row; may change rows. -/
inductive ACls where
  | free | new | change
  deriving DecidableEq
def AOp.cls : AOp → ACls
  | .mov _ | .pick .. | .build .. | .nilchk _ | .bin .. | .eq .. | .isnil .. | .not _ | .neg _ | .conv .. | .rstr _ | .cvs _ | .mkfn .. | .sl .. | .slstr .. | .faddr .. | .field .. | .idxarr .. | .idxv .. | .idxs .. | .extract .. | .len .. | .lenarr _ | .max .. | .min .. => .free
  | .mknil _ | .alloc _ | .box .. | .mkslice .. | .mkdata .. | .load .. | .bstr _ | .strb _ | .mkrow .. | .idx .. | .appendD .. | .call .frz _ _ | .call .adp _ _ => .new
  | .store .. | .append .. | .copy .. | .clear .. | .mark _ | .call .inl _ _ | .callv .. => .change
def ACls.clash (a b : ACls) : Bool := (a == .change && b != .free) || (b == .change && a != .free)
def AOpd.slots : AOpd → List Nat
  | .slot n => [n]
  | _ => []
def optSlots : Option AOpd → List Nat
  | some a => a.slots
  | none => []
def AOp.slots : AOp → List Nat
  | .mknil _ | .alloc _ | .lenarr _ => []
  | .mov a | .box _ a | .load _ _ a | .nilchk a | .isnil _ _ a | .not a | .neg a | .conv _ a | .rstr a | .bstr a | .strb a | .mark a | .cvs a | .faddr _ a | .field _ _ _ a | .extract _ a | .len _ a | .clear _ a => a.slots
  | .pick c a b => c.slots ++ a.slots ++ b.slots
  | .build _ ps => ps.flatMap (·.2.2.slots)
  | .mkslice _ _ _ ps | .mkdata _ _ _ ps => ps.flatMap (·.2.slots)
  | .store _ _ a b | .bin _ a b | .eq _ _ _ a b | .mkrow _ _ _ a b | .idx _ a b | .idxarr _ _ a b | .idxv _ _ _ a b | .idxs a b | .append _ _ a b | .appendD _ _ a b | .copy _ a b | .max a b | .min a b => a.slots ++ b.slots
  | .mkfn _ a b => a.flatMap AOpd.slots ++ b.flatMap AOpd.slots
  | .sl _ a lo hi mx => a.slots ++ optSlots lo ++ optSlots hi ++ optSlots mx
  | .slstr a lo hi => a.slots ++ optSlots lo ++ optSlots hi
  | .call _ _ args => args.flatMap AOpd.slots
  | .callv a args => a.slots ++ args.flatMap AOpd.slots
def AOper.reads (o : AOper) : List Nat := (match o.guard with | some (s, _) => [s] | none => []) ++ o.op.slots
/-- Two operations that must come up in the text's order. -/
def AOper.clash (x y : AOper) : Bool :=
  x.op.cls.clash y.op.cls ||
  (match x.dst with | some d => y.reads.contains d || y.dst == some d | none => false) ||
  (match y.dst with | some d => x.reads.contains d | none => false)
/-- What must be done ahead of an operation, as bits. -/
def beforeOf (acc : List Nat) (o : Oper) : Nat := (o.after.toList.filter (Region.binds .any)).foldl (fun s e => s ||| (2 ^ e.on ||| acc.getD e.on 0)) 0
def befores : List Oper → List Nat → List Nat
  | [], acc => acc
  | o :: os, acc => befores os (acc ++ [beforeOf acc o])
def chkClash (bs : List Nat) : Nat → List AOper → List AOper → Bool
  | _, _, [] => true
  | j, done, y :: ys => (done.zipIdx.all fun p => !p.1.clash y || (bs.getD j 0).testBit p.2) && chkClash bs (j + 1) (done ++ [y]) ys
def chkOrder (ops : Array Oper) (aops : List AOper) : Bool :=
  chkClash (befores ops.toList []) 0 [] aops && ops.toList.zipIdx.all fun p => p.1.after.toList.all fun e => !Region.binds .any e || decide (e.on < p.2)

def chkOper (ops : Array Oper) (o : Oper) (a : AOper) : Bool :=
  o.dst == a.dst && chkOp P o.op a.op &&
  (match o.guard, a.guard with
   | none, none => true
   | some (j, w), some (s, w') => w == w' && ((ops[j]?).bind (·.dst)) == some s
   | _, _ => false)
def chkRegion (ops : Array Oper) (aops : List AOper) (n : Nat) : Bool :=
  ops.size == aops.length && ((ops.toList.zip aops).all fun p => chkOper P ops p.1 p.2 && (match p.1.dst with | some d => decide (d < n) | none => true))
def chkCode (n : Nat) : Code → ACode → Bool
  | _, .dead => true
  | .skip, .skip => true
  | .region _ ops draw, .region aops draw' _ => draw == draw' && chkRegion P ops aops n && (!draw || chkOrder ops aops)
  | .seq a b, .seq a' b' => chkCode n a a' && chkCode n b b'
  | .cond c a b, .cond c' a' b' => chkOpd c c' && chkCode n a a' && chkCode n b b'
  | .block i a, .block i' a' => i == i' && chkCode n a a'
  | .loop a, .loop _ a' => chkCode n a a'
  | .exit i, .exit i' => i == i'
  | .ret, .ret => true
  | _, _ => false
def chkRes : List ResultVar → List ARes → Bool
  | [], [] => true
  | .tmp t :: rs, .slot n :: as => t == n && chkRes rs as
  | .cell t ty :: rs, .cell n agg m :: as => t == n && isAggB P ty == some agg && sizeIs P ty m && chkRes rs as
  | _, _ => false
def chkFn (f : Nat) (a : AFn) : Bool := match P.funcs[f]? with
  | some fn => fn.name != "runtime.NumGoroutine" && (match fn.body with | some c => chkCode P fn.ntmps c a.body | none => false) && chkRes P fn.results.toList a.res
  | none => false
end
end Go.Proofs.Ytfnonledcniojaa
