/- MergeEdits: the texts are written over, by hand. Conditions: as each statement says. -/
import Derived.Test.YtfnonledcniojaaMe2
import Derived.Test.YtfnonledcniojaaMb5
import Derived.Test.YtfnonledcniojaaHnd
set_option linter.unusedVariables false
set_option linter.unusedSimpArgs false
set_option linter.unusedSectionVars false
namespace Go.Proofs.Ytfnonledcniojaa
open Go Go.RowKit Go.Shelf
/-- A frame of so many slots. -/
def Sz (t : Array Value) (n : Nat) : Prop := t.size = n
theorem Sz_set {t : Array Value} {i n : Nat} {v : Value} : Sz (t.setIfInBounds i v) n ↔ Sz t n := by simp [Sz]
theorem getE_ne {t : Array Value} {i j : Nat} {v : Value} (h : i ≠ j) : (t.setIfInBounds i v)[j]? = t[j]? := Array.getElem?_setIfInBounds_ne h
theorem getE_self {t : Array Value} {i : Nat} {v : Value} (h : Sz t 182) (hi : i < 182) : (t.setIfInBounds i v)[i]? = some v := Array.getElem?_setIfInBounds_self_of_lt (by rw [h]; exact hi)
attribute [local go_sem] getE_ne getE_self Sz_set
/-- Pieces' texts, all of them at or behind block B, none of them the pieces' own block: bytes that may be written. -/
structure TxAt (B : Nat) (W : World) (b off n : Nat) (tx : Nat → Option Addr) (tc ln : Nat → Nat) : Prop where
  hd : ∀ e, e < n → W.cell? ⟨b, off + e * 3 + 2, none⟩ = some (.slice (tx e) (ln e) (tc e))
  txt : ∀ e, e < n → ∀ j, j < ln e → ∃ tb toff v, tx e = some ⟨tb, toff, none⟩ ∧ B ≤ tb ∧ tb ≠ b ∧ W.cell? ⟨tb, toff + j, none⟩ = some (.int .u8 v) ∧ W.frozen? ⟨tb, toff + j, none⟩ = false
theorem cell_set {W : World} {p q : Addr} {x v : Value} (hq : W.cell? q = some x) : (W.setCell p v).cell? q = some v ∨ (W.setCell p v).cell? q = some x := by
  by_cases h : p = q
  · subst h
    refine .inl ?_
    apply World.cell?_setCell_same
    exact hq
  · right
    rw [← hq]
    apply World.cell?_setCell_other
    exact h
theorem TxAt.set {B : Nat} {W : World} {b off n : Nat} {tx : Nat → Option Addr} {tc ln : Nat → Nat} (T : TxAt B W b off n tx tc ln) {tb o : Nat} (hb : tb ≠ b) (v' : Int) : TxAt B (W.setCell ⟨tb, o, none⟩ (.int .u8 v')) b off n tx tc ln := by
  refine ⟨fun e he => ?_, fun e he j hj => ?_⟩
  · exact (World.cell?_of_block (Below.heap_setCell W ⟨tb, o, none⟩ (.int .u8 v') b (fun e => hb e.symm))).trans (T.hd e he)
  · obtain ⟨tb', toff, v, h1, h2, h3, h4, h5⟩ := T.txt e he j hj
    refine (cell_set (p := ⟨tb, o, none⟩) (v := .int .u8 v') h4).elim (fun h => ⟨tb', toff, _, h1, h2, h3, h, ?_⟩) (fun h => ⟨tb', toff, _, h1, h2, h3, h, ?_⟩)
    all_goals rw [World.frozen?_setCell]; exact h5
/-- What lies below block B stays. -/
structure StayB (B : Nat) (w W : World) : Prop where
  os : W.os = w.os
  tape : W.tape = w.tape
  output : W.output = w.output
  size : w.heap.size ≤ W.heap.size
  same : ∀ k, k < B → W.heap[k]? = w.heap[k]?
theorem StayB.refl (B : Nat) (w : World) : StayB B w w := ⟨rfl, rfl, rfl, Nat.le_refl _, fun _ _ => rfl⟩
theorem StayB.set {B : Nat} {w W : World} (k : StayB B w W) {tb o : Nat} (hb : B ≤ tb) (v : Value) : StayB B w (W.setCell ⟨tb, o, none⟩ v) :=
  ⟨k.os, k.tape, k.output, by rw [World.size_setCell]; exact k.size, fun i hi => (Below.heap_setCell W ⟨tb, o, none⟩ v i (fun e => by have e2 : i = tb := e; omega)).trans (k.same i hi)⟩
abbrev meR23 : Code := Go.Code.region 23 #[{ dst := some 19, op := Go.Op.assign (Go.Operand.const (Go.Value.int Go.IntKind.i64 0)), type := 3, pos := "law.go:62", after := #[], guard := none }] false
abbrev meR24 : Code := Go.Code.region 24 #[{ dst := some 153, op := Go.Op.move (Go.Operand.tmp 19), type := 3, pos := "law.go:62", after := #[], guard := none }, { dst := some 154, op := Go.Op.move (Go.Operand.tmp 18), type := 22, pos := "law.go:62", after := #[], guard := none }, { dst := some 155, op := Go.Op.call { callee := Go.Callee.builtin Go.Builtin.len, args := #[Go.Operand.tmp 154], argTypes := #[22] }, type := 3, pos := "law.go:62", after := #[{ on := 1, ground := Go.Ground.data }], guard := none }, { dst := some 156, op := Go.Op.binOp Go.BinOp.lss 3 (Go.Operand.tmp 153) (Go.Operand.tmp 155) 3, type := 4, pos := "law.go:62", after := #[{ on := 0, ground := Go.Ground.data }, { on := 2, ground := Go.Ground.data }], guard := none }] false
abbrev meR25 : Code := Go.Code.region 25 #[{ dst := some 157, op := Go.Op.move (Go.Operand.tmp 19), type := 3, pos := "law.go:62", after := #[], guard := none }, { dst := some 158, op := Go.Op.binOp Go.BinOp.add 3 (Go.Operand.tmp 157) (Go.Operand.const (Go.Value.int Go.IntKind.i64 1)) 3, type := 3, pos := "law.go:62", after := #[{ on := 0, ground := Go.Ground.data }], guard := none }, { dst := some 19, op := Go.Op.assign (Go.Operand.tmp 158), type := 3, pos := "law.go:62", after := #[{ on := 1, ground := Go.Ground.data }, { on := 0, ground := Go.Ground.phase }, { on := 1, ground := Go.Ground.phase }], guard := none }] false
abbrev meR26 : Code := Go.Code.region 26 #[{ dst := some 20, op := Go.Op.assign (Go.Operand.const (Go.Value.int Go.IntKind.i64 0)), type := 3, pos := "law.go:63", after := #[], guard := none }] false
abbrev meR27 : Code := Go.Code.region 27 #[{ dst := some 159, op := Go.Op.move (Go.Operand.tmp 20), type := 3, pos := "law.go:63", after := #[], guard := none }, { dst := some 160, op := Go.Op.move (Go.Operand.tmp 18), type := 22, pos := "law.go:63", after := #[], guard := none }, { dst := some 161, op := Go.Op.move (Go.Operand.tmp 19), type := 3, pos := "law.go:63", after := #[], guard := none }, { dst := some 162, op := Go.Op.indexAddr 22 (Go.Operand.tmp 160) (Go.Operand.tmp 161), type := 0, pos := "law.go:63", after := #[{ on := 1, ground := Go.Ground.data }, { on := 2, ground := Go.Ground.data }], guard := none }, { dst := some 163, op := Go.Op.fieldAddr 25 (Go.Operand.tmp 162) 2, type := 0, pos := "law.go:63", after := #[{ on := 3, ground := Go.Ground.data }], guard := none }, { dst := some 164, op := Go.Op.load 23 (Go.Operand.tmp 163), type := 23, pos := "law.go:63", after := #[{ on := 4, ground := Go.Ground.data }], guard := none }, { dst := some 165, op := Go.Op.call { callee := Go.Callee.builtin Go.Builtin.len, args := #[Go.Operand.tmp 164], argTypes := #[23] }, type := 3, pos := "law.go:63", after := #[{ on := 5, ground := Go.Ground.data }], guard := none }, { dst := some 166, op := Go.Op.binOp Go.BinOp.lss 3 (Go.Operand.tmp 159) (Go.Operand.tmp 165) 3, type := 4, pos := "law.go:63", after := #[{ on := 0, ground := Go.Ground.data }, { on := 6, ground := Go.Ground.data }], guard := none }] false
abbrev meR28 : Code := Go.Code.region 28 #[{ dst := some 167, op := Go.Op.move (Go.Operand.tmp 20), type := 3, pos := "law.go:63", after := #[], guard := none }, { dst := some 168, op := Go.Op.binOp Go.BinOp.add 3 (Go.Operand.tmp 167) (Go.Operand.const (Go.Value.int Go.IntKind.i64 1)) 3, type := 3, pos := "law.go:63", after := #[{ on := 0, ground := Go.Ground.data }], guard := none }, { dst := some 20, op := Go.Op.assign (Go.Operand.tmp 168), type := 3, pos := "law.go:63", after := #[{ on := 1, ground := Go.Ground.data }, { on := 0, ground := Go.Ground.phase }, { on := 1, ground := Go.Ground.phase }], guard := none }] false
abbrev meR29 : Code := Go.Code.region 29 #[{ dst := some 169, op := Go.Op.move (Go.Operand.tmp 18), type := 22, pos := "law.go:64", after := #[], guard := none }, { dst := some 170, op := Go.Op.move (Go.Operand.tmp 19), type := 3, pos := "law.go:64", after := #[], guard := none }, { dst := some 171, op := Go.Op.indexAddr 22 (Go.Operand.tmp 169) (Go.Operand.tmp 170), type := 0, pos := "law.go:64", after := #[{ on := 0, ground := Go.Ground.data }, { on := 1, ground := Go.Ground.data }], guard := none }, { dst := some 172, op := Go.Op.fieldAddr 25 (Go.Operand.tmp 171) 2, type := 0, pos := "law.go:64", after := #[{ on := 2, ground := Go.Ground.data }], guard := none }, { dst := some 173, op := Go.Op.load 23 (Go.Operand.tmp 172), type := 23, pos := "law.go:64", after := #[{ on := 3, ground := Go.Ground.data }], guard := none }, { dst := some 174, op := Go.Op.move (Go.Operand.tmp 20), type := 3, pos := "law.go:64", after := #[], guard := none }, { dst := some 175, op := Go.Op.indexAddr 23 (Go.Operand.tmp 173) (Go.Operand.tmp 174), type := 0, pos := "law.go:64", after := #[{ on := 4, ground := Go.Ground.data }, { on := 5, ground := Go.Ground.data }], guard := none }, { dst := some 176, op := Go.Op.load 5 (Go.Operand.tmp 175), type := 5, pos := "law.go:64", after := #[{ on := 6, ground := Go.Ground.data }], guard := none }, { dst := some 177, op := Go.Op.binOp Go.BinOp.add 5 (Go.Operand.tmp 176) (Go.Operand.const (Go.Value.int Go.IntKind.u8 1)) 5, type := 5, pos := "law.go:64", after := #[{ on := 7, ground := Go.Ground.data }], guard := none }, { dst := some 178, op := Go.Op.indexAddr 23 (Go.Operand.tmp 173) (Go.Operand.tmp 174), type := 0, pos := "law.go:64", after := #[{ on := 4, ground := Go.Ground.data }, { on := 5, ground := Go.Ground.data }, { on := 0, ground := Go.Ground.phase }, { on := 1, ground := Go.Ground.phase }, { on := 2, ground := Go.Ground.phase }, { on := 3, ground := Go.Ground.phase }, { on := 4, ground := Go.Ground.phase }, { on := 5, ground := Go.Ground.phase }, { on := 6, ground := Go.Ground.phase }, { on := 7, ground := Go.Ground.phase }, { on := 8, ground := Go.Ground.phase }], guard := none }, { dst := none, op := Go.Op.store 5 (Go.Operand.tmp 178) (Go.Operand.tmp 177), type := 0, pos := "law.go:64", after := #[{ on := 9, ground := Go.Ground.data }, { on := 8, ground := Go.Ground.data }, { on := 0, ground := Go.Ground.phase }, { on := 1, ground := Go.Ground.phase }, { on := 2, ground := Go.Ground.phase }, { on := 3, ground := Go.Ground.phase }, { on := 4, ground := Go.Ground.phase }, { on := 5, ground := Go.Ground.phase }, { on := 6, ground := Go.Ground.phase }, { on := 7, ground := Go.Ground.phase }, { on := 8, ground := Go.Ground.phase }], guard := none }] false
abbrev meL1 : Code := .seq (.seq meR27 (.cond (.tmp 166) .skip (.exit 2))) (.seq (.block 3 meR29) meR28)
abbrev meL0 : Code := .seq (.seq meR24 (.cond (.tmp 156) .skip (.exit 0))) (.seq (.block 1 (.seq meR26 (.block 2 (.loop meL1)))) meR25)
abbrev meC16 : Code := .seq meR23 (.block 0 (.loop meL0))
/-- The frame within the loops. -/
structure FrAt (t : Array Value) (z0 z9 : Option Value) (ad : Option Addr) (n cap : Nat) (i : Nat) : Prop where
  sz : Sz t 182
  t0 : t[0]? = z0
  t9 : t[9]? = z9
  t18 : t[18]? = some (.slice ad n cap)
  t19 : t[19]? = some (.int .i64 i)
theorem FrAt.set {t : Array Value} {z0 z9 : Option Value} {ad : Option Addr} {n cap i k : Nat} {v : Value} (F : FrAt t z0 z9 ad n cap i) (hk : 20 ≤ k) : FrAt (t.setIfInBounds k v) z0 z9 ad n cap i :=
  ⟨Sz_set.2 F.sz, (getE_ne (by omega)).trans F.t0, (getE_ne (by omega)).trans F.t9, (getE_ne (by omega)).trans F.t18, (getE_ne (by omega)).trans F.t19⟩
section
variable {W : World} {z0 z9 : Option Value} {ad : Option Addr} {b off n cap : Nat} {i : Nat} {Q : Exit → Act → World → Prop} {t : Array Value}
set_option maxRecDepth 100000 in
set_option maxHeartbeats 1000000 in
theorem r27_go {j len tcap : Nat} {tx : Option Addr} (F : FrAt t z0 z9 ad n cap i) (h20 : t[20]? = some (.int .i64 j)) (hi : i < n) (had : ad = some ⟨b, off, none⟩) (c2 : W.cell? ⟨b, off + i * 3 + 2, none⟩ = some (.slice tx len tcap))
    (hQ : ∀ t', FrAt t' z0 z9 ad n cap i → t'[20]? = some (.int .i64 j) → t'[166]? = some (.bool (decide (j < len))) → Q .normal { tmps := t', defers := [] } W) : meR27.wp Try.prog Q { tmps := t, defers := [] } W := by
  subst had
  have hs := F.sz
  have h18 := F.t18
  have h19 := F.t19
  have ed : decide ((j : Int) < len) = decide (j < len) := by rw [decide_eq_decide]; omega
  unfold meR27
  go_wp2
  refine hQ _ ?_ ?_ ?_
  · repeat refine FrAt.set ?_ (by decide)
    exact F
  · repeat rw [getE_ne (by decide)]
    exact h20
  · rw [getE_self (by simpa only [Sz_set] using hs) (by decide)]
set_option maxRecDepth 100000 in
set_option maxHeartbeats 1000000 in
theorem r29_go {j tb toff len tcap : Nat} {v : Int} (F : FrAt t z0 z9 ad n cap i) (h20 : t[20]? = some (.int .i64 j)) (hi : i < n) (had : ad = some ⟨b, off, none⟩) (c2 : W.cell? ⟨b, off + i * 3 + 2, none⟩ = some (.slice (some ⟨tb, toff, none⟩) len tcap)) (hj : j < len) (ct : W.cell? ⟨tb, toff + j, none⟩ = some (.int .u8 v)) (hf : W.frozen? ⟨tb, toff + j, none⟩ = false)
    (hQ : ∀ t' v', FrAt t' z0 z9 ad n cap i → t'[20]? = some (.int .i64 j) → Q .normal { tmps := t', defers := [] } (W.setCell ⟨tb, toff + j, none⟩ (.int .u8 v'))) : meR29.wp Try.prog Q { tmps := t, defers := [] } W := by
  subst had
  have hs := F.sz
  have h18 := F.t18
  have h19 := F.t19
  unfold meR29
  go_wp2
  refine hQ _ _ ?_ ?_
  · repeat refine FrAt.set ?_ (by decide)
    exact F
  · repeat rw [getE_ne (by decide)]
    exact h20
set_option maxRecDepth 100000 in
set_option maxHeartbeats 1000000 in
theorem r28_go {j : Nat} (F : FrAt t z0 z9 ad n cap i) (h20 : t[20]? = some (.int .i64 j)) (hj : j ≤ 100000)
    (hQ : ∀ t', FrAt t' z0 z9 ad n cap i → t'[20]? = some (.int .i64 ((j + 1 : Nat) : Int)) → Q .normal { tmps := t', defers := [] } W) : meR28.wp Try.prog Q { tmps := t, defers := [] } W := by
  have hs := F.sz
  unfold meR28
  go_wp2
  refine hQ _ ?_ ?_
  · repeat refine FrAt.set ?_ (by decide)
    exact F
  · rw [getE_self (by simpa only [Sz_set] using hs) (by decide)]
    rfl
set_option maxRecDepth 100000 in
set_option maxHeartbeats 1000000 in
theorem r26_go (F : FrAt t z0 z9 ad n cap i)
    (hQ : ∀ t', FrAt t' z0 z9 ad n cap i → t'[20]? = some (.int .i64 ((0 : Nat) : Int)) → Q .normal { tmps := t', defers := [] } W) : meR26.wp Try.prog Q { tmps := t, defers := [] } W := by
  have hs := F.sz
  unfold meR26
  go_wp2
  refine hQ _ ?_ ?_
  · repeat refine FrAt.set ?_ (by decide)
    exact F
  · rw [getE_self (by simpa only [Sz_set] using hs) (by decide)]; rfl
set_option maxRecDepth 100000 in
set_option maxHeartbeats 1000000 in
theorem r24_go (F : FrAt t z0 z9 ad n cap i)
    (hQ : ∀ t', FrAt t' z0 z9 ad n cap i → t'[156]? = some (.bool (decide (i < n))) → Q .normal { tmps := t', defers := [] } W) : meR24.wp Try.prog Q { tmps := t, defers := [] } W := by
  have hs := F.sz
  have h18 := F.t18
  have h19 := F.t19
  have ed : decide ((i : Int) < n) = decide (i < n) := by rw [decide_eq_decide]; omega
  unfold meR24
  go_wp2
  refine hQ _ ?_ ?_
  · repeat refine FrAt.set ?_ (by decide)
    exact F
  · rw [getE_self (by simpa only [Sz_set] using hs) (by decide)]
set_option maxRecDepth 100000 in
set_option maxHeartbeats 1000000 in
theorem r25_go (F : FrAt t z0 z9 ad n cap i) (hi : i ≤ 100000)
    (hQ : ∀ t', FrAt t' z0 z9 ad n cap (i + 1) → Q .normal { tmps := t', defers := [] } W) : meR25.wp Try.prog Q { tmps := t, defers := [] } W := by
  have hs := F.sz
  have h19 := F.t19
  unfold meR25
  go_wp2
  refine ⟨?_, ?_, ?_, ?_, ?_⟩
  · simpa only [Sz_set] using hs
  · repeat rw [getE_ne (by decide)]
    exact F.t0
  · repeat rw [getE_ne (by decide)]
    exact F.t9
  · repeat rw [getE_ne (by decide)]
    exact F.t18
  · rw [getE_self (by simpa only [Sz_set] using hs) (by decide)]
    rfl
set_option maxRecDepth 100000 in
set_option maxHeartbeats 1000000 in
theorem r23_go (hs : Sz t 182) (h18 : t[18]? = some (.slice ad n cap))
    (hQ : ∀ t', FrAt t' t[0]? t[9]? ad n cap 0 → Q .normal { tmps := t', defers := [] } W) : meR23.wp Try.prog Q { tmps := t, defers := [] } W := by
  unfold meR23
  go_wp2
  refine ⟨?_, ?_, ?_, ?_, ?_⟩
  · simpa only [Sz_set] using hs
  · repeat rw [getE_ne (by decide)]
  · repeat rw [getE_ne (by decide)]
  · repeat rw [getE_ne (by decide)]
    exact h18
  · rw [getE_self (by simpa only [Sz_set] using hs) (by decide)]; rfl
end
theorem inner_go {B : Nat} {w : World} {z0 z9 : Option Value} {ad : Option Addr} {b off n cap : Nat} {tx : Nat → Option Addr} {tc ln : Nat → Nat} (had : 0 < n → ad = some ⟨b, off, none⟩) (i : Nat) (hi : i < n) (hln : ln i ≤ 100000) (Q : Exit → Act → World → Prop)
    (hQ : ∀ t W, FrAt t z0 z9 ad n cap i → TxAt B W b off n tx tc ln → StayB B w W → Q (.exit 2) { tmps := t, defers := [] } W) :
    ∀ (m j : Nat) (t : Array Value) (W : World), j + m = ln i → FrAt t z0 z9 ad n cap i → t[20]? = some (.int .i64 j) → TxAt B W b off n tx tc ln → StayB B w W → Code.rounds Try.prog meL1 Q (m + 1) { tmps := t, defers := [] } W := by
  intro m
  induction m with
  | zero =>
    intro j t W hj F h20 T K
    obtain rfl : j = ln i := by omega
    rw [rounds_succ]
    refine wp_seq (wp_seq (r27_go F h20 hi (had (by omega)) (T.hd i hi) fun t' F' h20' h166 => ?_))
    refine wp_cond_false (by simp only [Act.eval, Array.getD_eq_getD_getElem?, h166]; simp) (wp_exit (hQ t' W F' T K))
  | succ m ih =>
    intro j t W hj F h20 T K
    have hjl : j < ln i := by omega
    obtain ⟨tb, toff, v, h1, h2, h3, h4, h5⟩ := T.txt i hi j hjl
    have c2 := T.hd i hi
    rw [rounds_succ]
    refine wp_seq (wp_seq (r27_go F h20 hi (had (by omega)) c2 fun t' F' h20' h166 => ?_))
    refine wp_cond_true (by simp only [Act.eval, Array.getD_eq_getD_getElem?, h166]; simp [hjl]) (wp_skip ?_)
    rw [h1] at c2
    refine wp_seq (wp_block (r29_go F' h20' hi (had (by omega)) c2 hjl h4 h5 fun t2 v2 F2 h202 => ?_))
    exact r28_go F2 h202 (by omega) fun t3 F3 h203 => ih (j + 1) t3 _ (by omega) F3 h203 (T.set h3 v2) (K.set h2 _)
theorem outer_go {B : Nat} {w : World} {z0 z9 : Option Value} {ad : Option Addr} {b off n cap : Nat} {tx : Nat → Option Addr} {tc ln : Nat → Nat} (had : 0 < n → ad = some ⟨b, off, none⟩) (hn : n ≤ 100000) (hln : ∀ e, e < n → ln e ≤ 100000) (Q : Exit → Act → World → Prop)
    (hQ : ∀ t W, FrAt t z0 z9 ad n cap n → TxAt B W b off n tx tc ln → StayB B w W → Q (.exit 0) { tmps := t, defers := [] } W) :
    ∀ (m i : Nat) (t : Array Value) (W : World), i + m = n → FrAt t z0 z9 ad n cap i → TxAt B W b off n tx tc ln → StayB B w W → Code.rounds Try.prog meL0 Q (m + 1) { tmps := t, defers := [] } W := by
  intro m
  induction m with
  | zero =>
    intro i t W hi F T K
    obtain rfl : i = n := by omega
    rw [rounds_succ]
    refine wp_seq (wp_seq (r24_go F fun t' F' h156 => ?_))
    refine wp_cond_false (by simp only [Act.eval, Array.getD_eq_getD_getElem?, h156]; simp) (wp_exit (hQ t' W F' T K))
  | succ m ih =>
    intro i t W hi F T K
    have hlt : i < n := by omega
    rw [rounds_succ]
    refine wp_seq (wp_seq (r24_go F fun t' F' h156 => ?_))
    refine wp_cond_true (by simp only [Act.eval, Array.getD_eq_getD_getElem?, h156]; simp [hlt]) (wp_skip ?_)
    refine wp_seq (wp_block (wp_seq (r26_go F' fun t2 F2 h20 => ?_)))
    refine wp_block (wp_loop_rounds (ln i + 1) (inner_go (B := B) (w := w) (tx := tx) (tc := tc) (ln := ln) had i hlt (hln i hlt) _ (fun t3 W3 F3 T3 K3 => ?_) (ln i) 0 t2 W (by omega) F2 h20 T K))
    exact r25_go F3 (by omega) fun t4 F4 => ih (i + 1) t4 W3 (by omega) F4 T3 K3
/-- All texts are written over: what lies below block B stays. -/
theorem loops_go {B : Nat} {w : World} {t : Array Value} {ad : Option Addr} {b off n cap : Nat} {tx : Nat → Option Addr} {tc ln : Nat → Nat} (hs : Sz t 182) (h18 : t[18]? = some (.slice ad n cap)) (had : 0 < n → ad = some ⟨b, off, none⟩) (T : TxAt B w b off n tx tc ln) (hn : n ≤ 100000) (hln : ∀ e, e < n → ln e ≤ 100000) (Q : Exit → Act → World → Prop)
    (hQ : ∀ t' W, Sz t' 182 → t'[0]? = t[0]? → t'[9]? = t[9]? → StayB B w W → Q .normal { tmps := t', defers := [] } W) : meC16.wp Try.prog Q { tmps := t, defers := [] } w := by
  refine wp_seq (r23_go hs h18 fun t1 F1 => ?_)
  exact wp_block (wp_loop_rounds (n + 1) (outer_go (B := B) (w := w) (tx := tx) (tc := tc) (ln := ln) had hn hln _ (fun t2 W2 F2 T2 K2 => hQ t2 W2 F2.sz F2.t0 F2.t9 K2) n 0 t1 w (by omega) F1 T (.refl _ _)))
end Go.Proofs.Ytfnonledcniojaa
