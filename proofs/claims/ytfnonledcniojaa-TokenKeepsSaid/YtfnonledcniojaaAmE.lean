/- How the small machine's values stand for the program's values in a world. Conditions: none. -/
import Derived.Test.YtfnonledcniojaaAmC
import Derived.Deep.MidRow
import Derived.Below
import Derived.Laws.AppendOwn
namespace Go.Proofs.Ytfnonledcniojaa
open Go Go.RowKit

/-- What may be kept: it hangs on no row of the call's own, and lies in no block of X. -/
inductive RepS (w : World) (X : Nat → Prop) : AV → Value → Prop
  | int (k : IntKind) (n : Int) : RepS w X (.int k n) (.int k n)
  | bool (b : Bool) : RepS w X (.bool b) (.bool b)
  | str (s : ByteArray) : RepS w X (.str s) (.string s)
  | nilfn : RepS w X .nilfn .nilFunc
  | nilptr : RepS w X .nilptr (.pointer none)
  | agg (cs : List AV) (vs : List Value) : cs.length = vs.length → (∀ v ∈ vs, v.oneCell' = true) → (∀ (i : Nat) c v, cs[i]? = some c → vs[i]? = some v → RepS w X c v) → RepS w X (.agg cs) (.agg vs.toArray)
  | tup (cs : List AV) (vs : List Value) : cs.length = vs.length → (∀ (i : Nat) c v, cs[i]? = some c → vs[i]? = some v → RepS w X c v) → RepS w X (.tup cs) (.tuple vs.toArray)
  | fn (f : Fn) (as bs : List AV) (xs ys : List Value) : as.length = xs.length → bs.length = ys.length → (∀ (i : Nat) c v, as[i]? = some c → xs[i]? = some v → RepS w X c v) →
      (∀ (i : Nat) c v, bs[i]? = some c → ys[i]? = some v → RepS w X c v) → RepS w X (.fn f as bs) (.func f xs.toArray ys.toArray)
  | data0 (k : Nat) (full : Bool) (a : Option Addr) (cap : Nat) : (full = true → cap = 0) → RepS w X (.data false k [] full) (.slice a 0 cap)
  | data (k : Nat) (es : List (List AV)) (full : Bool) (b off cap : Nat) (val : Nat → Nat → Value) : es.length ≤ cap → (full = true → cap = es.length) → (∀ g ∈ es, g.length = k) → ¬ X b → b < w.heap.size →
      (∀ (e j : Nat), e < es.length → j < k → w.cell? ⟨b, off + (e * k + j), none⟩ = some (val e j) ∧ (val e j).oneCell' = true) →
      (∀ (e j : Nat) g c, es[e]? = some g → g[j]? = some c → RepS w X c (val e j)) → RepS w X (.data false k es full) (.slice (some ⟨b, off, none⟩) es.length cap)

/-- Where a row lies: its block, its first cell there, an element's cells, how many elements there is room for. -/
structure Pl where
  b : Nat
  base : Nat
  k : Nat
  lim : Nat
abbrev Rho := Nat → Option (Nat × Option Pl)

inductive RepV (ρ : Rho) (w : World) (S O : Nat → Prop) : AV → Value → Prop
  | s {v : AV} {x : Value} : RepS w (fun b => S b ∨ O b) v x → RepV ρ w S O v x
  | agg (cs : List AV) (vs : List Value) : cs.length = vs.length → (∀ v ∈ vs, v.oneCell' = true) → (∀ (i : Nat) c v, cs[i]? = some c → vs[i]? = some v → RepV ρ w S O c v) → RepV ρ w S O (.agg cs) (.agg vs.toArray)
  | tup (cs : List AV) (vs : List Value) : cs.length = vs.length → (∀ (i : Nat) c v, cs[i]? = some c → vs[i]? = some v → RepV ρ w S O c v) → RepV ρ w S O (.tup cs) (.tuple vs.toArray)
  | fn (f : Fn) (as bs : List AV) (xs ys : List Value) : as.length = xs.length → bs.length = ys.length → (∀ (i : Nat) c v, as[i]? = some c → xs[i]? = some v → RepV ρ w S O c v) →
      (∀ (i : Nat) c v, bs[i]? = some c → ys[i]? = some v → RepV ρ w S O c v) → RepV ρ w S O (.fn f as bs) (.func f xs.toArray ys.toArray)
  | bor0 (k : Nat) (full : Bool) (a : Option Addr) (cap : Nat) : (full = true → cap = 0) → RepV ρ w S O (.data true k [] full) (.slice a 0 cap)
  | bor (k : Nat) (es : List (List AV)) (full : Bool) (b off cap : Nat) (val : Nat → Nat → Value) : es.length ≤ cap → (full = true → cap = es.length) → (∀ g ∈ es, g.length = k) → ¬ O b → b < w.heap.size →
      (∀ (e j : Nat), e < es.length → j < k → w.cell? ⟨b, off + (e * k + j), none⟩ = some (val e j) ∧ (val e j).oneCell' = true) →
      (∀ (e j : Nat) g c, es[e]? = some g → g[j]? = some c → RepS w (fun b => S b ∨ O b) c (val e j)) → RepV ρ w S O (.data true k es full) (.slice (some ⟨b, off, none⟩) es.length cap)
  | dptr (cs : List AV) (b off : Nat) (val : Nat → Value) : ¬ O b → b < w.heap.size → (∀ j, j < cs.length → w.cell? ⟨b, off + j, none⟩ = some (val j) ∧ (val j).oneCell' = true) →
      (∀ (j : Nat) c, cs[j]? = some c → RepS w (fun b => S b ∨ O b) c (val j)) → RepV ρ w S O (.dptr cs) (.pointer (some ⟨b, off, none⟩))
  | own (id g g' : Nat) (pl : Option Pl) (s l c : Nat) (a : Option Addr) (cap : Nat) : ρ id = some (g', pl) → g ≤ g' → l ≤ cap → c ≤ cap → (0 < cap → a.isSome = true) →
      (g = g' → cap = 0 ∨ ∃ p, pl = some p ∧ a = some ⟨p.b, p.base + s * p.k, none⟩ ∧ s + cap ≤ p.lim) → RepV ρ w S O (.own id g s l c) (.slice a l cap)
  | ptr (id g g' : Nat) (pl : Option Pl) (e off : Nat) (a : Addr) : ρ id = some (g', pl) → g ≤ g' → (g = g' → ∃ p, pl = some p ∧ a = ⟨p.b, p.base + e * p.k + off, none⟩) → RepV ρ w S O (.ptr id g e off) (.pointer (some a))
  | unk (x : Value) : RepV ρ w S O .unk x

/-- What a row's cells hold. -/
structure RowRep (ρ : Rho) (w : World) (S O : Nat → Prop) (r : ARow) (p : Pl) : Prop where
  k : p.k = r.k
  lim : r.es.length ≤ p.lim
  own : O p.b
  len : ∀ g ∈ r.es, g.length = r.k
  block : ∃ arr ty lo hi, w.heap[p.b]? = some (.cells arr ty (lo, hi)) ∧ p.base + p.lim * p.k ≤ arr.size ∧ (lo ≤ hi ∧ ∀ j, j < arr.size → ¬ (lo ≤ j ∧ j < hi)) ∧
    ∀ (e j : Nat) g c, r.es[e]? = some g → g[j]? = some c → ∃ x, arr[p.base + e * p.k + j]? = some x ∧ x.oneCell' = true ∧ RepV ρ w S O c x ∧ (r.flat = true → RepS w (fun b => S b ∨ O b) c x)

def RowIs (ρ : Rho) (w : World) (S O : Nat → Prop) (r : ARow) : Option Pl → Prop
  | none => r.es = []
  | some p => RowRep ρ w S O r p

/-- The rows that have a place are as told. -/
structure Heap (ρ : Rho) (w : World) (S O : Nat → Prop) (h : List ARow) : Prop where
  row : ∀ (id g : Nat) pl, ρ id = some (g, pl) → ∃ r, h[id]? = some r ∧ r.gen = g ∧ RowIs ρ w S O r pl
  inj : ∀ (id id' g g' : Nat) p p', ρ id = some (g, some p) → ρ id' = some (g', some p') → p.b = p'.b → id = id'
  bd : ∀ b, S b ∨ O b → b < w.heap.size

/-- The world goes on: what is not the call's own stays. -/
structure AdvW (w : World) (O : Nat → Prop) (w' : World) (O' : Nat → Prop) : Prop where
  os : w'.os = w.os
  tape : w'.tape = w.tape
  output : w'.output = w.output
  size : w.heap.size ≤ w'.heap.size
  same : ∀ b, b < w.heap.size → ¬ O b → w'.heap[b]? = w.heap[b]?
  grow : ∀ b, O b → O' b
  new : ∀ b, O' b → O b ∨ w.heap.size ≤ b
def Ext (ρ ρ' : Rho) : Prop := ∀ (id g : Nat) pl, ρ id = some (g, pl) → ∃ g' pl', ρ' id = some (g', pl') ∧ g ≤ g' ∧ (g = g' → pl = pl')

theorem AdvW.refl (w : World) (O : Nat → Prop) : AdvW w O w O := ⟨rfl, rfl, rfl, Nat.le_refl _, fun _ _ _ => rfl, fun _ h => h, fun _ h => .inl h⟩
theorem AdvW.trans {w w' w'' : World} {O O' O'' : Nat → Prop} (h : AdvW w O w' O') (k : AdvW w' O' w'' O'') : AdvW w O w'' O'' :=
  ⟨k.os.trans h.os, k.tape.trans h.tape, k.output.trans h.output, Nat.le_trans h.size k.size,
   fun b hb hO => (k.same b (Nat.lt_of_lt_of_le hb h.size) (fun hO' => (h.new b hO').elim hO (fun hs => by omega))).trans (h.same b hb hO),
   fun b hb => k.grow b (h.grow b hb), fun b hb => (k.new b hb).elim (fun h1 => h.new b h1) (fun h1 => .inr (Nat.le_trans h.size h1))⟩
theorem AdvW.drew (w : World) (O : Nat → Prop) : AdvW w O w.drew O := ⟨rfl, rfl, rfl, Nat.le_refl _, fun _ _ _ => rfl, fun _ h => h, fun _ h => .inl h⟩
theorem Ext.refl (ρ : Rho) : Ext ρ ρ := fun _ g pl h => ⟨g, pl, h, Nat.le_refl _, fun _ => rfl⟩
theorem Ext.trans {ρ ρ' ρ'' : Rho} (h : Ext ρ ρ') (k : Ext ρ' ρ'') : Ext ρ ρ'' := fun id g pl h0 => by
  obtain ⟨g1, p1, h1, l1, e1⟩ := h id g pl h0
  obtain ⟨g2, p2, h2, l2, e2⟩ := k id g1 p1 h1
  exact ⟨g2, p2, h2, Nat.le_trans l1 l2, fun e => by
    have a : g = g1 := by omega
    exact (e1 a).trans (e2 (by omega))⟩

theorem RepS.adv {w w' : World} {S O O' : Nat → Prop} {v : AV} {x : Value} (h : RepS w (fun b => S b ∨ O b) v x) (a : AdvW w O w' O') : RepS w' (fun b => S b ∨ O' b) v x := by
  induction h with
  | int k n => exact .int k n
  | bool b => exact .bool b
  | str s => exact .str s
  | nilfn => exact .nilfn
  | nilptr => exact .nilptr
  | agg cs vs hl h1 _ ih => exact .agg cs vs hl h1 ih
  | tup cs vs hl _ ih => exact .tup cs vs hl ih
  | fn f as bs xs ys h1 h2 _ _ i1 i2 => exact .fn f as bs xs ys h1 h2 i1 i2
  | data0 k full a cap hf => exact .data0 k full a cap hf
  | data k es full b off cap val h1 h2 h3 hX hb hc _ ih =>
    have hO : ¬ O b := fun h => hX (.inr h)
    refine .data k es full b off cap val h1 h2 h3 (fun h => ?_) (Nat.lt_of_lt_of_le hb a.size) (fun e j he hj => ?_) ih
    · rcases h with h | h
      · exact hX (.inl h)
      · rcases a.new b h with h | h
        · exact hO h
        · omega
    · rw [World.cell?_of_block (w := w) (a.same b hb hO)]; exact hc e j he hj
theorem RepV.adv {ρ ρ' : Rho} {w w' : World} {S O O' : Nat → Prop} {v : AV} {x : Value} (h : RepV ρ w S O v x) (e : Ext ρ ρ') (a : AdvW w O w' O') : RepV ρ' w' S O' v x := by
  have nO : ∀ b, b < w.heap.size → ¬ O b → ¬ O' b := fun b hb hO h => (a.new b h).elim hO (fun h => by omega)
  induction h with
  | s h => exact .s (h.adv a)
  | agg cs vs hl h1 _ ih => exact .agg cs vs hl h1 ih
  | tup cs vs hl _ ih => exact .tup cs vs hl ih
  | fn f as bs xs ys h1 h2 _ _ i1 i2 => exact .fn f as bs xs ys h1 h2 i1 i2
  | bor0 k full a cap hf => exact .bor0 k full a cap hf
  | bor k es full b off cap val h1 h2 h3 hO hb hc hr =>
    refine .bor k es full b off cap val h1 h2 h3 (nO b hb hO) (Nat.lt_of_lt_of_le hb a.size) (fun e j he hj => ?_) fun e j g c hg hc => (hr e j g c hg hc).adv a
    rw [World.cell?_of_block (w := w) (a.same b hb hO)]; exact hc e j he hj
  | dptr cs b off val hO hb hc hr =>
    refine .dptr cs b off val (nO b hb hO) (Nat.lt_of_lt_of_le hb a.size) (fun j hj => ?_) fun j c hj => (hr j c hj).adv a
    rw [World.cell?_of_block (w := w) (a.same b hb hO)]; exact hc j hj
  | own id g g' pl s l c ad cap h1 h2 h3 hc h4 h5 =>
    obtain ⟨g1, p1, e1, l1, q1⟩ := e id g' pl h1
    exact .own id g g1 p1 s l c ad cap e1 (by omega) h3 hc h4 (fun eq => by
      have a1 : g' = g1 := by omega
      have a2 : g = g' := by omega
      rw [← q1 a1]; exact h5 a2)
  | ptr id g g' pl e0 off ad h1 h2 h3 =>
    obtain ⟨g1, p1, e1, l1, q1⟩ := e id g' pl h1
    exact .ptr id g g1 p1 e0 off ad e1 (by omega) (fun eq => by
      have a1 : g' = g1 := by omega
      have a2 : g = g' := by omega
      rw [← q1 a1]; exact h3 a2)
  | unk x => exact .unk x
end Go.Proofs.Ytfnonledcniojaa
