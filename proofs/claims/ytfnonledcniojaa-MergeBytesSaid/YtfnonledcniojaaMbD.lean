/- MergeBytes: the range over the queue's bytes, within a turn. Conditions: as the statements say. -/
import Derived.Test.YtfnonledcniojaaMbC
set_option linter.unusedVariables false
set_option linter.unusedSimpArgs false
set_option linter.unusedSectionVars false
namespace Go.Proofs.Ytfnonledcniojaa
open Go Go.RowKit Go.Shelf
/-- The rows at a turn's head. -/
def hpC (left : Int) (q : List Pc) (f : Bool) (wh : List (Int × Int)) (turn : Int) : List ARow :=
  match wh with
  | [] => [⟨1, 0, true, [[.int .i64 left]]⟩, ⟨1, 0, true, [[.bool false]]⟩, ⟨1, 0, true, [[.data false 3 (pcs q) f]]⟩, ⟨1, 0, true, [[.data false 1 [] true]]⟩, ⟨1, 0, true, [[.data false 1 [] true]]⟩, ⟨1, 0, true, [[.int .i64 turn]]⟩]
  | p :: r => [⟨1, 0, true, [[.int .i64 left]]⟩, ⟨1, 0, true, [[.bool false]]⟩, ⟨1, 0, true, [[.data false 3 (pcs q) f]]⟩, ⟨1, 0, false, [[.own 6 0 0 (p :: r).length (p :: r).length]]⟩, ⟨1, 0, false, [[.own 7 0 0 (p :: r).length (p :: r).length]]⟩, ⟨1, 0, true, [[.int .i64 turn]]⟩, ⟨1, 0, true, ints ((p :: r).map Prod.fst)⟩, ⟨1, 0, true, byt ((p :: r).map Prod.snd)⟩]
/-- n's row. -/
def niC : List (Int × Int) → Nat
  | [] => 6
  | _ :: _ => 8
abbrev rowN (m : Nat) : ARow := ⟨1, 0, true, [[.int .i64 (m : Nat)]]⟩
abbrev fnB : AV := .fn (.func n_merge_Bytes_1) [] [.ptr 2 0 0 0]
abbrev envR (ni : Nat) : AEnv := [(3, .ptr 0 0 0 0), (4, .ptr 1 0 0 0), (5, fnB), (6, .ptr 3 0 0 0), (7, .ptr 4 0 0 0), (10, .ptr 5 0 0 0), (11, .ptr ni 0 0 0), (65, fnB)]
theorem niC_len (left : Int) (q : List Pc) (f : Bool) (wh : List (Int × Int)) (turn : Int) : (hpC left q f wh turn).length = niC wh := by
  cases wh <;> rfl
theorem hpC_cons (left : Int) (q : List Pc) (f : Bool) {wh : List (Int × Int)} (h : wh ≠ []) (turn : Int) : hpC left q f wh turn = [⟨1, 0, true, [[.int .i64 left]]⟩, ⟨1, 0, true, [[.bool false]]⟩, ⟨1, 0, true, [[.data false 3 (pcs q) f]]⟩, ⟨1, 0, false, [[.own 6 0 0 wh.length wh.length]]⟩, ⟨1, 0, false, [[.own 7 0 0 wh.length wh.length]]⟩, ⟨1, 0, true, [[.int .i64 turn]]⟩, ⟨1, 0, true, ints (wh.map Prod.fst)⟩, ⟨1, 0, true, byt (wh.map Prod.snd)⟩] := by
  cases wh with
  | nil => exact absurd rfl h
  | cons => rfl
theorem one_int {ρ : Rho} {w : World} {S O : Nat → Prop} {k : IntKind} {n : Int} {y : Value} (h : RepV ρ w S O (.int k n) y) : y = .int k n := rv_int h
/-- What a round looks at. -/
theorem rd_at {w : World} {a : Act} {ρ : Rho} {O : Nat → Prop} {left turn : Int} {q : List Pc} {f : Bool} {wh : List (Int × Int)} (hne : wh ≠ [])
    (H : Heap ρ w (fun _ => False) O (hpC left q f wh turn ++ [rowN 0])) (R : Rel (fun _ => none) ρ w (fun _ => False) O (envR (niC wh)) a) (hsz : a.tmps.size = 106) {pn : Pl} (hn : ρ (niC wh) = some (0, some pn)) (h11 : a.tmps[11]? = some (.pointer (some ⟨pn.b, pn.base, none⟩))) :
    RdAt w a.tmps pn left turn (wh.map Prod.fst) (wh.map Prod.snd) ∧ ∃ pr, ρ 1 = some (0, some pr) ∧ a.tmps[4]? = some (.pointer (some ⟨pr.b, pr.base, none⟩)) ∧ pr.b ≠ pn.b ∧
      (∀ s ∈ [3, 6, 7, 10], ∀ b o, a.tmps[s]? = some (.pointer (some ⟨b, o, none⟩)) → b ≠ pr.b ∧ ∀ b2 o2 x cap, w.cell? ⟨b, o, none⟩ = some (.slice (some ⟨b2, o2, none⟩) x cap) → b2 ≠ pr.b) := by
  have hni : niC wh = 8 := by
    cases wh with
    | nil => exact absurd rfl hne
    | cons => rfl
  rw [hni] at R hn
  rw [hpC_cons left q f hne turn] at H
  have lt : ∀ (id g : Nat) p, ρ id = some (g, some p) → p.b < w.heap.size := fun id g p h => by
    obtain ⟨r, _, _, hR⟩ := H.row id g _ h
    exact RowRep.lt (show RowRep ρ w (fun _ => False) O r p from hR)
  have ne : ∀ (id id' g g' : Nat) p p', ρ id = some (g, some p) → ρ id' = some (g', some p') → id ≠ id' → p.b ≠ p'.b := fun id id' g g' p p' h h' hi e => hi (H.inj id id' g g' p p' h h' e)
  obtain ⟨x3, t3, r3⟩ := R.env 3 _ rfl
  obtain ⟨x4, t4, r4⟩ := R.env 4 _ rfl
  obtain ⟨x6, t6, r6⟩ := R.env 6 _ rfl
  obtain ⟨x7, t7, r7⟩ := R.env 7 _ rfl
  obtain ⟨x10, t10, r10⟩ := R.env 10 _ rfl
  obtain ⟨p3, y3, a3, o3, rfl, c3, v3, _⟩ := box_at H r3 rfl
  obtain ⟨pr, y4, a4, o4, rfl, c4, v4, _⟩ := box_at H r4 rfl
  obtain ⟨p6, y6, a6, o6, rfl, c6, v6, _⟩ := box_at H r6 rfl
  obtain ⟨p7, y7, a7, o7, rfl, c7, v7, _⟩ := box_at H r7 rfl
  obtain ⟨p10, y10, a10, o10, rfl, c10, v10, _⟩ := box_at H r10 rfl
  obtain rfl := one_int v3
  obtain rfl := one_int v10
  have hpos : 0 < wh.length := List.length_pos_iff.2 hne
  obtain ⟨l6, cap6, b6, _, rfl, k6, d6⟩ := list_at H v6 rfl hpos (by rw [ints_len, List.length_map])
  obtain ⟨l7, cap7, b7, _, rfl, k7, d7⟩ := list_at H v7 rfl hpos (by rw [byt_len, List.length_map])
  refine ⟨⟨hsz, h11, ⟨_, _, t3, c3, ne _ _ _ _ _ _ a3 hn (by decide), lt _ _ _ a3⟩, ⟨_, _, t10, c10, ne _ _ _ _ _ _ a10 hn (by decide), lt _ _ _ a10⟩,
    ⟨_, _, l6.b, l6.base, cap6, t6, by rw [List.length_map]; exact c6, ne _ _ _ _ _ _ a6 hn (by decide), lt _ _ _ a6, by rw [List.length_map]; exact k6, ne _ _ _ _ _ _ b6 hn (by decide), lt _ _ _ b6, fun e he => ?_⟩,
    ⟨_, _, l7.b, l7.base, cap7, t7, by rw [List.length_map]; exact c7, ne _ _ _ _ _ _ a7 hn (by decide), lt _ _ _ a7, by rw [List.length_map]; exact k7, ne _ _ _ _ _ _ b7 hn (by decide), lt _ _ _ b7, fun e he => ?_⟩⟩, pr, a4, t4, ne _ _ _ _ _ _ a4 hn (by decide), fun s hs b o hb => ?_⟩
  · obtain ⟨y, hy, hr⟩ := d6 e _ (ints_at he)
    rw [hy, one_int hr]
  · obtain ⟨y, hy, hr⟩ := d7 e (.int .u8 (wh.map Prod.snd)[e]) (by unfold byt; rw [List.getElem?_map, List.getElem?_eq_getElem he]; rfl)
    rw [hy, one_int hr]
  · simp only [List.mem_cons, List.not_mem_nil, or_false] at hs
    rcases hs with rfl | rfl | rfl | rfl
    · rw [t3] at hb
      cases hb
      exact ⟨ne _ _ _ _ _ _ a3 a4 (by decide), fun b2 o2 x cap h => by rw [c3] at h; cases h⟩
    · rw [t6] at hb
      cases hb
      exact ⟨ne _ _ _ _ _ _ a6 a4 (by decide), fun b2 o2 x cap h => by rw [c6] at h; cases h; exact ne _ _ _ _ _ _ b6 a4 (by decide)⟩
    · rw [t7] at hb
      cases hb
      exact ⟨ne _ _ _ _ _ _ a7 a4 (by decide), fun b2 o2 x cap h => by rw [c7] at h; cases h; exact ne _ _ _ _ _ _ b7 a4 (by decide)⟩
    · rw [t10] at hb
      cases hb
      exact ⟨ne _ _ _ _ _ _ a10 a4 (by decide), fun b2 o2 x cap h => by rw [c10] at h; cases h⟩
end Go.Proofs.Ytfnonledcniojaa
