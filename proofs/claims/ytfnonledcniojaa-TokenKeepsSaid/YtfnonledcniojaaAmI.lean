/- '==' of structs and arrays whose cells are numbers, bools and strings. Conditions: none. -/
import Derived.Test.YtfnonledcniojaaAmH
import Derived.Test.YtfnonledcniojaaAmEq
import Derived.Laws.StructEq
namespace Go.Proofs.Ytfnonledcniojaa
open Go Go.RowKit
section
variable {P : Program}

def sval : AV → Value
  | .int k n => .int k n
  | .bool b => .bool b
  | .str s => .string s
  | _ => undef
theorem isAgg_run {t : TypeId} {b : Bool} (h : isAggB P t = some b) (w : World) : (isAgg t).run P w = .ok b w := by
  unfold isAggB at h
  unfold isAgg
  split at h
  · rename_i d hu; cases h; simp [run_underlying hu]
  · rename_i d e hu; cases h; simp [run_underlying hu]
  · rename_i d n1 n2 hu; cases h
    rw [Sem.run_bind, run_underlying hu w]
    cases d with
    | struct fs => exact absurd rfl (n1 fs)
    | array n e => exact absurd rfl (n2 n e)
    | _ => rfl
  · cases h
theorem sizeOf_run {t : TypeId} {n : Nat} (h : sizeIs P t n = true) (w : World) : (sizeOf t).run P w = .ok n w := by
  unfold sizeIs at h
  split at h
  · rename_i i hi; simp only [beq_iff_eq] at h; simp [sizeOf, typeInfo, hi, h]
  · cases h
theorem info_of_size {t : TypeId} {n : Nat} (h : sizeIs P t n = true) : ∃ i, P.info? t = some i ∧ i.size = n := by
  unfold sizeIs at h
  split at h
  · rename_i i hi; exact ⟨i, hi, by simpa using h⟩
  · cases h
theorem cellsOf_eq {t : TypeId} {n : Nat} (h : sizeIs P t n = true) : P.cellsOf t = n := by
  obtain ⟨i, hi, hs⟩ := info_of_size h
  simp [Program.cellsOf, hi, hs]
/-- A value of a type out of its cells. -/
def tval (P : Program) (t : TypeId) (vs : List Value) : Value := if isAggB P t = some true then .agg vs.toArray else vs.headD undef
theorem part_run {t : TypeId} {b : Bool} {n off : Nat} {vs : List Value} (h1 : isAggB P t = some b) (h2 : sizeIs P t n = true) (h3 : off + n ≤ vs.length) (h4 : b = false → n = 1) (w : World) :
    (part t vs.toArray off).run P w = .ok (tval P t ((vs.drop off).take n)) w := by
  unfold part
  rw [Sem.run_bind, isAgg_run h1]
  cases b with
  | true =>
    simp only [Result.andThen_ok, if_true, Sem.run_bind, sizeOf_run h2, Sem.run_pure, tval, h1]
    congr 2
    apply Array.ext'
    simp [List.drop_take]
  | false =>
    obtain rfl := h4 rfl
    have hlt : off < vs.length := by omega
    have e : (vs.drop off).take 1 = [vs[off]] := by rw [List.drop_eq_getElem_cons hlt]; rfl
    simp only [Result.andThen_ok, Bool.false_eq_true, if_false, tval, h1, List.getElem?_toArray, e]
    rw [List.getElem?_eq_getElem hlt]
    rfl

theorem eqCells_len : ∀ {sh : List Sh} {as bs : List AV} {b : Bool}, eqCells sh as bs = some b → as.length = sh.length ∧ bs.length = sh.length
  | [], [], [], _, _ => ⟨rfl, rfl⟩
  | s :: ss, a :: as, c :: bs, _, h => by
    obtain ⟨x, _, h⟩ := opt_bind_some.1 h
    obtain ⟨y, hy, _⟩ := opt_bind_some.1 h
    obtain ⟨h1, h2⟩ := eqCells_len hy
    exact ⟨by simp [h1], by simp [h2]⟩
  | [], [], _ :: _, _, h => by cases h
  | [], _ :: _, _, _, h => by cases h
  | _ :: _, [], _, _, h => by cases h
  | _ :: _, _ :: _, [], _, h => by cases h
theorem eqCells_append : ∀ {s1 s2 : List Sh} {as bs : List AV} {b : Bool}, eqCells (s1 ++ s2) as bs = some b →
    ∃ x y, eqCells s1 (as.take s1.length) (bs.take s1.length) = some x ∧ eqCells s2 (as.drop s1.length) (bs.drop s1.length) = some y ∧ b = (x && y)
  | [], s2, as, bs, b, h => ⟨true, b, by simp [eqCells], by simpa using h, by simp⟩
  | s :: s1, s2, a :: as, c :: bs, b, h => by
    obtain ⟨x, hx, h⟩ := opt_bind_some.1 h
    obtain ⟨y, hy, h⟩ := opt_bind_some.1 h
    cases h
    obtain ⟨p, q, h1, h2, rfl⟩ := eqCells_append hy
    refine ⟨x && p, q, ?_, by simpa using h2, by simp [Bool.and_assoc]⟩
    simp [eqCells, hx, h1]
  | _ :: _, _, [], _, _, h => by cases h
  | _ :: _, _, _ :: _, [], _, h => by cases h

def ShOf (P : Program) (t : TypeId) : Sh → Prop
  | .ki => ∃ k, P.underlying t = some (.int k)
  | .kb => P.underlying t = some .bool
  | .ks => P.underlying t = some .string
theorem eqLeaf_run (d : Nat) (t : TypeId) (w : World) {s : Sh} {x y : AV} {b : Bool} (h : eqLeaf s x y = some b)
    (hs : ShOf P t s) :
    (Op.equalIn (d + 1) t (sval x) (sval y)).run P w = .ok b w := by
  unfold eqLeaf at h
  split at h
  · rename_i k a k' c
    by_cases hk : k = k'
    · rw [if_pos hk] at h
      subst hk
      cases h
      obtain ⟨k', hu⟩ := hs
      exact run_equalIn_int w d t _ k' _ _ hu
    · rw [if_neg hk] at h; cases h
  · cases h; exact run_equalIn_bool w d t _ _ hs
  · cases h; rw [beq_toListBytes]; exact run_equalIn_string w d t _ _ hs
  · cases h

/-- What is to be shown of a type. -/
def EqAt (P : Program) (d : Nat) : Prop := ∀ (t : TypeId) (sh : List Sh) (as bs : List AV) (b : Bool), flatSh P d t = some sh → eqCells sh as bs = some b → ∀ (f : Nat) (w : World), d ≤ f → (Op.equalIn f t (tval P t (as.map sval)) (tval P t (bs.map sval))).run P w = .ok b w
theorem flat_agg {d : Nat} {t : TypeId} {sh : List Sh} (h : flatSh P d t = some sh) : ∃ bb, isAggB P t = some bb ∧ (bb = false → sh.length = 1) := by
  cases d with
  | zero => cases h
  | succ d =>
    unfold flatSh at h
    unfold isAggB
    split at h
    · rename_i hu; split at h <;> cases h; exact ⟨false, by rw [hu], fun _ => rfl⟩
    · rename_i hu; split at h <;> cases h; exact ⟨false, by rw [hu], fun _ => rfl⟩
    · rename_i hu; split at h <;> cases h; exact ⟨false, by rw [hu], fun _ => rfl⟩
    · rename_i hu; exact ⟨true, by rw [hu], fun h => by cases h⟩
    · rename_i hu; exact ⟨true, by rw [hu], fun h => by cases h⟩
    · cases h

theorem eqFields_run (d : Nat) (ih : EqAt P d) (f0 : Nat) (hf0 : d ≤ f0) (w : World) (xs ys : List AV) :
    ∀ (fs : List Field) (off : Nat) (sh : List Sh) (b : Bool), shFields P (flatSh P d) off fs = some sh → eqCells sh (xs.drop off) (ys.drop off) = some b → off + sh.length = xs.length → off + sh.length = ys.length →
      (Op.eqFields f0 (xs.map sval).toArray (ys.map sval).toArray fs).run P w = .ok b w
  | [], off, sh, b, hp, he, _, _ => by
    cases hp
    generalize xs.drop off = as at he
    generalize ys.drop off = bs at he
    cases as <;> cases bs <;> cases he
    rfl
  | f :: fs, off, sh, b, hp, he, hx, hy => by
    unfold shFields at hp
    obtain ⟨s1, h1, hp⟩ := opt_bind_some.1 hp
    split at hp
    case isFalse => cases hp
    rename_i hc
    simp only [Bool.and_eq_true, beq_iff_eq, bne_iff_ne] at hc
    obtain ⟨⟨ho, hn⟩, hsz⟩ := hc
    obtain ⟨s2, h2, e⟩ := opt_map_some.1 hp
    subst e
    simp only [List.length_append] at hx hy
    obtain ⟨x, y, e1, e2, rfl⟩ := eqCells_append he
    rw [List.drop_drop, List.drop_drop] at e2
    obtain ⟨bb, hb1, hb2⟩ := flat_agg h1
    have p1 := part_run (vs := xs.map sval) hb1 hsz (off := off) (by simp; omega) hb2 w
    have p2 := part_run (vs := ys.map sval) hb1 hsz (off := off) (by simp; omega) hb2 w
    have q := ih f.type s1 _ _ x h1 e1 f0 w hf0
    rw [Op.eqFields, if_pos hn]
    rw [ho]
    simp only [Sem.run_bind, p1, p2, Result.andThen_ok, ← List.map_drop, ← List.map_take, q]
    cases x with
    | false => simp
    | true =>
      simp only [Bool.not_true, Bool.false_eq_true, if_false, Bool.true_and]
      exact eqFields_run d ih f0 hf0 w xs ys fs (off + s1.length) s2 y h2 e2 (by omega) (by omega)
theorem eqElems_run (d : Nat) (ih : EqAt P d) (f0 : Nat) (hf0 : d ≤ f0) (w : World) (e : TypeId) (sh : List Sh) (hfl : flatSh P d e = some sh) (hsz : sizeIs P e sh.length = true) (xs ys : List AV) :
    ∀ (k i : Nat) (b : Bool), (i + k) * sh.length = xs.length → (i + k) * sh.length = ys.length → eqCells (List.replicate k sh).flatten (xs.drop (i * sh.length)) (ys.drop (i * sh.length)) = some b →
      (eqElems f0 e sh.length (xs.map sval).toArray (ys.map sval).toArray k i).run P w = .ok b w
  | 0, i, b, _, _, he => by
    generalize xs.drop (i * sh.length) = as at he
    generalize ys.drop (i * sh.length) = bs at he
    simp only [List.replicate_zero, List.flatten_nil] at he
    cases as <;> cases bs <;> cases he
    rfl
  | k + 1, i, b, hx, hy, he => by
    have ek : (i + (k + 1)) * sh.length = i * sh.length + sh.length + k * sh.length := by simp [Nat.add_mul, Nat.add_comm, Nat.add_left_comm]
    rw [List.replicate_succ, List.flatten_cons] at he
    obtain ⟨x, y, e1, e2, rfl⟩ := eqCells_append he
    rw [List.drop_drop, List.drop_drop, show i * sh.length + sh.length = (i + 1) * sh.length from by rw [Nat.add_mul]; omega] at e2
    obtain ⟨bb, hb1, hb2⟩ := flat_agg hfl
    have p1 := part_run (vs := xs.map sval) hb1 hsz (off := i * sh.length) (by simp; omega) hb2 w
    have p2 := part_run (vs := ys.map sval) hb1 hsz (off := i * sh.length) (by simp; omega) hb2 w
    have q := ih e sh _ _ x hfl e1 f0 w hf0
    rw [eqElems]
    simp only [Sem.run_bind, p1, p2, Result.andThen_ok, ← List.map_drop, ← List.map_take, q]
    cases x with
    | false => simp
    | true =>
      simp only [Bool.not_true, Bool.false_eq_true, if_false, Bool.true_and]
      exact eqElems_run d ih f0 hf0 w e sh hfl hsz xs ys k (i + 1) y (by rw [← hx]; congr 1; omega) (by rw [← hy]; congr 1; omega) e2
theorem eqAt : ∀ d, EqAt P d
  | 0 => fun t sh as bs b h => by cases h
  | d + 1 => fun t sh as bs b h he f w hf => by
    obtain ⟨f, rfl⟩ : ∃ k, f = k + 1 := ⟨f - 1, by omega⟩
    obtain ⟨la, lb⟩ := eqCells_len he
    have leaf : ∀ s, sh = [s] → isAggB P t = some false → ShOf P t s →
        (Op.equalIn (f + 1) t (tval P t (as.map sval)) (tval P t (bs.map sval))).run P w = .ok b w := fun s hsh hag hs => by
      subst hsh
      match as, bs, la, lb with
      | [x], [y], _, _ =>
        obtain ⟨p, hp, he⟩ := opt_bind_some.1 he
        cases he
        simp only [tval, hag, Option.some.injEq, Bool.false_eq_true, if_false, List.map_cons, List.map_nil, List.headD_cons, Bool.and_true]
        exact eqLeaf_run f t w hp hs
    have hag : ∀ dd, P.underlying t = some dd → (match dd with | .struct _ | .array _ _ => False | _ => True) → isAggB P t = some false := fun dd hu hn => by
      unfold isAggB; rw [hu]; cases dd <;> first | rfl | exact hn.elim
    unfold flatSh at h
    split at h
    · rename_i hu; split at h <;> cases h; exact leaf _ rfl (hag _ hu trivial) hu
    · rename_i k hu; split at h <;> cases h; exact leaf _ rfl (hag _ hu trivial) ⟨k, hu⟩
    · rename_i hu; split at h <;> cases h; exact leaf _ rfl (hag _ hu trivial) hu
    · rename_i fs hu
      split at h
      · cases h
      · rename_i hst
        have ha : isAggB P t = some true := by unfold isAggB; rw [hu]
        simp only [tval, ha, if_true]
        have hf1 : P.fieldsOf t = fs := by simp [Program.fieldsOf, hu]
        rw [run_equalIn_struct w f t _ _ (by rw [hf1]; exact hu) (by simpa using hst), hf1]
        exact eqFields_run d (eqAt d) f (by omega) w as bs fs.toList 0 sh b h (by simpa using he) (by omega) (by omega)
    · rename_i n e hu
      obtain ⟨s1, h1, h⟩ := opt_bind_some.1 h
      split at h
      case isFalse => cases h
      rename_i hc
      cases h
      simp only [Bool.and_eq_true] at hc
      have ha : isAggB P t = some true := by unfold isAggB; rw [hu]
      simp only [tval, ha, if_true]
      rw [run_equalIn_array w f t e n s1.length _ _ hu (sizeOf_run hc.1 w)]
      have hl : (List.replicate n s1).flatten.length = n * s1.length := by simp
      exact eqElems_run d (eqAt d) f (by omega) w e s1 h1 hc.1 as bs n 0 b (by rw [la, hl]; simp) (by rw [lb, hl]; simp) (by simpa using he)
    · cases h
end
end Go.Proofs.Ytfnonledcniojaa
