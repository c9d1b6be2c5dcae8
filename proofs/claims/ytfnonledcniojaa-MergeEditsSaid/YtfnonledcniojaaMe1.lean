/- MergeEdits: the law's parts, by the machine. Conditions: as each statement says. -/
import Derived.Test.YtfnonledcniojaaQd2
import Derived.Test.YtfnonledcniojaaMg3
set_option linter.unusedVariables false
set_option linter.unusedSimpArgs false
set_option linter.unusedSectionVars false
set_option maxRecDepth 20000
set_option maxHeartbeats 8000000
namespace Go.Proofs.Ytfnonledcniojaa
open Go
abbrev meP0 : ACode := .region q13R0 false [0, 2, 3, 5]
abbrev meP1 : ACode := .seq (.region q13R1 false [0, 2, 3, 5, 22]) (.cond (.slot 22) (.seq (.region q13R2 false [8]) .ret) .skip)
abbrev meP2 : ACode := .seq (.region q13R3 false [0, 2, 3, 5, 30]) (.cond (.slot 30) (.seq (.region q13R4 false [8]) .ret) .skip)
abbrev meP3 : ACode := .region q13R5 false [0, 2, 3, 5, 9]
abbrev meP4 : ACode := .region q13R6 false [0, 2, 3, 5, 9, 10, 11]
abbrev meP5 : ACode := .region q13R7 false [0, 2, 3, 5, 9, 10, 11, 12, 13]
abbrev meP6 : ACode := .region q13R8 false [0, 2, 3, 5, 9, 10, 11, 12, 13, 14]
abbrev meP7 : ACode := .seq (.region q13R9 false [0, 2, 3, 5, 9, 10, 11, 12, 13, 14, 58]) (.cond (.slot 58) (.seq (.region q13R10 false [8]) .ret) .skip)
abbrev meP8 : ACode := .seq (.region q13R11 false [0, 2, 3, 5, 9, 10, 11, 12, 13, 14, 61]) (.cond (.slot 61) (.seq (.region q13R12 false [8]) .ret) .skip)
abbrev meP9 : ACode := .region q13R13 false [0, 3, 5, 9, 10, 11, 12, 13, 14, 15]
abbrev meP10 : ACode := .seq (.region q13R14 false [0, 5, 9, 10, 11, 12, 13, 14, 114]) (.cond (.slot 114) (.seq (.region q13R15 false [8]) .ret) .skip)
abbrev meP11 : ACode := .region q13R16 true [0, 5, 9, 10, 11, 12, 13, 14, 16]
abbrev meP12 : ACode := .region q13R17 false [0, 5, 9, 10, 11, 12, 13, 14, 16, 17]
abbrev meP13 : ACode := .seq (.region q13R18 false [0, 5, 9, 10, 11, 12, 13, 14, 16, 17, 128]) (.cond (.slot 128) (.region q13R19 false [0, 9, 10, 11, 12, 13, 14, 16, 17]) .skip)
abbrev meP14 : ACode := .seq (.region q13R20 false [0, 9, 10, 12, 13, 14, 141]) (.cond (.slot 141) (.seq (.region q13R21 false [8]) .ret) .skip)
abbrev meP15 : ACode := .region q13R22 false [0, 9, 18]
abbrev meP17 : ACode := .seq (.region q13R30 false [8]) .ret
def core (x : Pc) : Int × Int × List Int := (x.1, x.2.1, x.2.2.1)
def coreQ (q : List Pc) : List (Int × Int × List Int) := q.map core
theorem core_cp (q : List Pc) : coreQ (cpQ q) = coreQ q := by
  unfold coreQ cpQ
  rw [List.map_map]; rfl
theorem core_app (a b : List Pc) : coreQ (a ++ b) = coreQ a ++ coreQ b := by unfold coreQ; rw [List.map_append]
theorem core_len {a b : List Pc} (h : coreQ a = coreQ b) : a.length = b.length := by
  have := congrArg List.length h
  simpa [coreQ] using this
theorem sameQ_core : ∀ {a b : List Pc}, coreQ a = coreQ b → sameQ a b = true
  | [], [], _ => rfl
  | [], _ :: _, h => by simp [coreQ] at h
  | _ :: _, [], h => by simp [coreQ] at h
  | x :: a, y :: b, h => by
    simp only [coreQ, List.map_cons, List.cons.injEq] at h
    obtain ⟨h1, h2⟩ := h
    have e1 : x.1 = y.1 := congrArg (·.1) h1
    have e2 : x.2.1 = y.2.1 := congrArg (·.2.1) h1
    have e3 : x.2.2.1 = y.2.2.1 := congrArg (·.2.2) h1
    rw [sameQ, sameQ_core (a := a) (b := b) h2]
    simp [sameP, e1, e2, e3, bEq_self]
theorem size_core {a b : List Pc} (h : coreQ a = coreQ b) : sizeQ a = sizeQ b := by
  have e : ∀ q : List Pc, sizeQ q = ((coreQ q).map fun x => x.2.2.length).sum := fun q => by
    unfold sizeQ coreQ
    rw [List.map_map]; rfl
  rw [e, e, h]
theorem may_core : ∀ {a b : List Pc} (n : Int), coreQ a = coreQ b → mayQ n a = mayQ n b
  | [], [], _, _ => rfl
  | [], _ :: _, _, h => by simp [coreQ] at h
  | _ :: _, [], _, h => by simp [coreQ] at h
  | x :: a, y :: b, n, h => by
    simp only [coreQ, List.map_cons, List.cons.injEq] at h
    obtain ⟨h1, h2⟩ := h
    have e1 : x.1 = y.1 := congrArg (·.1) h1
    have e2 : x.2.1 = y.2.1 := congrArg (·.2.1) h1
    have e3 : x.2.2.1 = y.2.2.1 := congrArg (·.2.2) h1
    rw [mayQ, mayQ, e1, e2, e3, may_core _ h2]
theorem popN_core : ∀ {a b : List Pc} (n : Int), coreQ a = coreQ b → popN a n = popN b n
  | [], [], _, _ => rfl
  | [], _ :: _, _, h => by simp [coreQ] at h
  | _ :: _, [], _, h => by simp [coreQ] at h
  | x :: a, y :: b, n, h => by
    simp only [coreQ, List.map_cons, List.cons.injEq] at h
    obtain ⟨h1, h2⟩ := h
    have e3 : x.2.2.1 = y.2.2.1 := congrArg (·.2.2) h1
    rw [popN, popN, e3, popN_core _ h2]
theorem core_drop (q : List Pc) (k : Nat) : coreQ (q.drop k) = (coreQ q).drop k := by unfold coreQ; rw [List.map_drop]
theorem core_take (q : List Pc) (k : Nat) : coreQ (q.take k) = (coreQ q).take k := by unfold coreQ; rw [List.map_take]
theorem core_dropQ (q : List Pc) (m : Int) : coreQ (dropQ q m) = (coreQ q).filter fun x => !decide (x.1 = m) := by
  unfold coreQ dropQ
  rw [List.filter_map]; rfl
theorem okL_cp {q : List Pc} (h : okL q) : okL (cpQ q) := ⟨by rw [cpQ_len]; exact h.1, fun x hx => by
  obtain ⟨y, hy, rfl⟩ := List.mem_map.1 hx
  exact h.2 y hy⟩
def greatT (q : List Pc) (t : Pc) : Bool := greatQ q || decide (100 < t.2.2.1.length)
section
variable (G : Nat → Option (List AV)) (q : List Pc) (f : Bool) (t : Pc) (n m : Int)
theorem me_r0 : aE G FT 0 meP0 ⟨[(0, .data false 3 (pcs q) f), (1, .agg (pcell t)), (2, .int .i64 n), (3, .int .i64 m)], []⟩ = some (.normal, ⟨[(0, .data false 3 (pcs q) f), (2, .int .i64 n), (3, .int .i64 m), (5, .ptr 0 0 0 0)], [⟨3, 0, true, [pcell t]⟩]⟩) := by
  unfold meP0 pcell
  (sym => simp [Qd,Qe,Qi,Qj,Qr,Qw,Yj,Y9,Za,Zb,Zc,Ze,Zg,Zh,Zm,Zn,Zv,Zw,Jv,Ue,Uf,Ug,Ul,Hv,No,Nx,Be,q13R0.eq_1,q13R1.eq_1,q13R2.eq_1,q13R3.eq_1,q13R4.eq_1,q13R5.eq_1,q13R6.eq_1,q13R7.eq_1,q13R8.eq_1,q13R9.eq_1,q13R10.eq_1,q13R11.eq_1,q13R12.eq_1,q13R13.eq_1,q13R14.eq_1,q13R15.eq_1,q13R16.eq_1,q13R17.eq_1,q13R18.eq_1,q13R19.eq_1,q13R20.eq_1,q13R21.eq_1,q13R22.eq_1,q13R23.eq_1,q13R24.eq_1,q13R26.eq_1,q13R27.eq_1,q13R29.eq_1,q13R28.eq_1,q13R25.eq_1,q13R30.eq_1,c_law28_MergeEdits.eq_1])
theorem me_r1 : aE G FT 0 meP1 ⟨[(0, .data false 3 (pcs q) f), (2, .int .i64 n), (3, .int .i64 m), (5, .dptr (pcell t))], []⟩ = some (.normal, ⟨[(0, .data false 3 (pcs q) f), (2, .int .i64 n), (3, .int .i64 m), (5, .dptr (pcell t)), (22, .bool false)], []⟩) := by
  unfold meP1
  have hK := known28_P G
  (sym => simp [Qc,Qd,Qe,Qi,Qm,Qo,Qt,Xd,Y9,Za,Zb,Zc,Ze,Zg,Zh,Zo,Zt,Zv,Zw,Z3,Jj,Jk,Jr,Jv,Wd,Nw,Be,q13R0.eq_1,q13R1.eq_1,q13R2.eq_1,q13R3.eq_1,q13R4.eq_1,q13R5.eq_1,q13R6.eq_1,q13R7.eq_1,q13R8.eq_1,q13R9.eq_1,q13R10.eq_1,q13R11.eq_1,q13R12.eq_1,q13R13.eq_1,q13R14.eq_1,q13R15.eq_1,q13R16.eq_1,q13R17.eq_1,q13R18.eq_1,q13R19.eq_1,q13R20.eq_1,q13R21.eq_1,q13R22.eq_1,q13R23.eq_1,q13R24.eq_1,q13R26.eq_1,q13R27.eq_1,q13R29.eq_1,q13R28.eq_1,q13R25.eq_1,q13R30.eq_1,c_law28_MergeEdits.eq_1,hK])
theorem me_r2t (h : greatT q t = true) : aE G FT 0 meP2 ⟨[(0, .data false 3 (pcs q) f), (2, .int .i64 n), (3, .int .i64 m), (5, .dptr (pcell t))], []⟩ = some (.ret, ⟨[(8, .bool true)], []⟩) := by
  unfold meP2 pcell
  have hK := fun b f => great_P G q b f
  have hbl := byt_len t.2.2.1
  unfold greatT at h
  cases hg : greatQ q with
  | true =>
    rw [hg] at hK
    (sym => simp [Qb,Qd,Qe,Qf,Qg,Qi,Qj,Qm,Qn,Qo,Qr,Qt,Qu,Q4,Xa,Xp,Xy,Yc,Yh,Ys,Yt,Yw,Y9,Za,Zb,Zc,Ze,Zg,Zh,Zo,Zt,Zv,Zw,Z3,Jb,Jj,Jk,Jr,Jv,V9,Wd,We,Hh,Hr,Hs,Nl,Nw,Nx,Be,q13R0.eq_1,q13R1.eq_1,q13R2.eq_1,q13R3.eq_1,q13R4.eq_1,q13R5.eq_1,q13R6.eq_1,q13R7.eq_1,q13R8.eq_1,q13R9.eq_1,q13R10.eq_1,q13R11.eq_1,q13R12.eq_1,q13R13.eq_1,q13R14.eq_1,q13R15.eq_1,q13R16.eq_1,q13R17.eq_1,q13R18.eq_1,q13R19.eq_1,q13R20.eq_1,q13R21.eq_1,q13R22.eq_1,q13R23.eq_1,q13R24.eq_1,q13R26.eq_1,q13R27.eq_1,q13R29.eq_1,q13R28.eq_1,q13R25.eq_1,q13R30.eq_1,c_law28_MergeEdits.eq_1,hK])
  | false =>
    rw [hg] at hK h
    have h1 : (100 : Int) < t.2.2.1.length := by simp at h; omega
    (sym => simp [Qb,Qd,Qe,Qf,Qg,Qi,Qj,Qm,Qn,Qo,Qr,Qt,Qu,Q4,Xa,Xp,Xy,Yc,Yh,Ys,Yt,Yw,Y9,Za,Zb,Zc,Ze,Zg,Zh,Zo,Zt,Zv,Zw,Z3,Jb,Jj,Jk,Jr,Jv,V9,Wd,We,Hh,Hr,Hs,Nl,Nw,Nx,Be,q13R0.eq_1,q13R1.eq_1,q13R2.eq_1,q13R3.eq_1,q13R4.eq_1,q13R5.eq_1,q13R6.eq_1,q13R7.eq_1,q13R8.eq_1,q13R9.eq_1,q13R10.eq_1,q13R11.eq_1,q13R12.eq_1,q13R13.eq_1,q13R14.eq_1,q13R15.eq_1,q13R16.eq_1,q13R17.eq_1,q13R18.eq_1,q13R19.eq_1,q13R20.eq_1,q13R21.eq_1,q13R22.eq_1,q13R23.eq_1,q13R24.eq_1,q13R26.eq_1,q13R27.eq_1,q13R29.eq_1,q13R28.eq_1,q13R25.eq_1,q13R30.eq_1,c_law28_MergeEdits.eq_1,hK,hbl,h1])
theorem me_r2f (h : greatT q t = false) : aE G FT 0 meP2 ⟨[(0, .data false 3 (pcs q) f), (2, .int .i64 n), (3, .int .i64 m), (5, .dptr (pcell t))], []⟩ = some (.normal, ⟨[(0, .data false 3 (pcs q) f), (2, .int .i64 n), (3, .int .i64 m), (5, .dptr (pcell t)), (30, .bool false)], []⟩) := by
  unfold meP2 pcell
  have hK := fun b f => great_P G q b f
  have hbl := byt_len t.2.2.1
  unfold greatT at h
  cases hg : greatQ q with
  | true => rw [hg] at h; simp at h
  | false =>
    rw [hg] at hK h
    have h1 : ¬ (100 : Int) < t.2.2.1.length := by simp at h; omega
    (sym => simp [Qc,Qd,Qe,Qf,Qg,Qi,Qj,Qm,Qn,Qo,Qr,Qt,Qu,Q4,Xa,Xp,Xy,Yc,Yh,Ys,Yt,Yw,Y9,Za,Zb,Zc,Ze,Zg,Zh,Zo,Zt,Zv,Zw,Z3,Jb,Jj,Jk,Jr,Jv,V9,Wd,We,Hh,Hr,Hs,Nm,Nx,Be,q13R0.eq_1,q13R1.eq_1,q13R2.eq_1,q13R3.eq_1,q13R4.eq_1,q13R5.eq_1,q13R6.eq_1,q13R7.eq_1,q13R8.eq_1,q13R9.eq_1,q13R10.eq_1,q13R11.eq_1,q13R12.eq_1,q13R13.eq_1,q13R14.eq_1,q13R15.eq_1,q13R16.eq_1,q13R17.eq_1,q13R18.eq_1,q13R19.eq_1,q13R20.eq_1,q13R21.eq_1,q13R22.eq_1,q13R23.eq_1,q13R24.eq_1,q13R26.eq_1,q13R27.eq_1,q13R29.eq_1,q13R28.eq_1,q13R25.eq_1,q13R30.eq_1,c_law28_MergeEdits.eq_1,hK,hbl,h1])
theorem me_r3 (h : okL q) : aE G FT 0 meP3 ⟨[(0, .data false 3 (pcs q) f), (2, .int .i64 n), (3, .int .i64 m), (5, .dptr (pcell t)), (30, .bool false)], []⟩ = some (.normal, ⟨[(0, .data false 3 (pcs q) f), (2, .int .i64 n), (3, .int .i64 m), (5, .dptr (pcell t)), (9, .data false 3 (pcs (cpQ q)) false)], []⟩) := by
  unfold meP3
  have hK := fun b f => rcopy_P G q b f h
  (sym => simp [Qd,Qe,Qi,Qm,Qn,Qo,Qr,Y9,Za,Zb,Zc,Ze,Zg,Zh,Zo,Zv,Zw,Jv,V9,Wd,We,Be,q13R0.eq_1,q13R1.eq_1,q13R2.eq_1,q13R3.eq_1,q13R4.eq_1,q13R5.eq_1,q13R6.eq_1,q13R7.eq_1,q13R8.eq_1,q13R9.eq_1,q13R10.eq_1,q13R11.eq_1,q13R12.eq_1,q13R13.eq_1,q13R14.eq_1,q13R15.eq_1,q13R16.eq_1,q13R17.eq_1,q13R18.eq_1,q13R19.eq_1,q13R20.eq_1,q13R21.eq_1,q13R22.eq_1,q13R23.eq_1,q13R24.eq_1,q13R26.eq_1,q13R27.eq_1,q13R29.eq_1,q13R28.eq_1,q13R25.eq_1,q13R30.eq_1,c_law28_MergeEdits.eq_1,hK])
/-! What was lent: the queue's copy, the piece. -/
abbrev meI (t : Pc) (n m : Int) (own : List Pc) : AEnv := [(2, .int .i64 n), (3, .int .i64 m), (5, .dptr [.int .i64 t.1, .int .i64 t.2.1, .data true 1 (byt t.2.2.1) t.2.2.2]), (9, .data true 3 (pcs own) false)]
theorem me_r4 (own : List Pc) (h : okL own) (ht : t.2.2.1.length ≤ 1000) : aE G FT 0 meP4 ⟨meI t n m own, []⟩ = some (.normal, ⟨meI t n m own ++ [(10, .data false 3 (pcs (pushM own t).1) false), (11, .bool (pushM own t).2)], []⟩) := by
  unfold meP4 meI
  have lk : ∀ k, look [] k = none := fun _ => rfl
  have hP := fun b f bo => push_P G own t b f h ht bo
  generalize (pushM own t).1 = A at *
  generalize (pushM own t).2 = ok at *
  simp only [List.cons_append, List.nil_append]
  (sym => simp [Qd,Qe,Qi,Qm,Qn,Qo,Qr,Q4,Xw,Xx,Ys,Yu,Y9,Za,Zb,Zc,Ze,Zf,Zg,Zh,Zm,Zn,Zo,Zv,Zw,Jv,V3,V6,V9,Wd,We,Hh,Hi,Ho,Hq,Hs,Be,q13R0.eq_1,q13R1.eq_1,q13R2.eq_1,q13R3.eq_1,q13R4.eq_1,q13R5.eq_1,q13R6.eq_1,q13R7.eq_1,q13R8.eq_1,q13R9.eq_1,q13R10.eq_1,q13R11.eq_1,q13R12.eq_1,q13R13.eq_1,q13R14.eq_1,q13R15.eq_1,q13R16.eq_1,q13R17.eq_1,q13R18.eq_1,q13R19.eq_1,q13R20.eq_1,q13R21.eq_1,q13R22.eq_1,q13R23.eq_1,q13R24.eq_1,q13R26.eq_1,q13R27.eq_1,q13R29.eq_1,q13R28.eq_1,q13R25.eq_1,q13R30.eq_1,c_law28_MergeEdits.eq_1,hP,lk])
theorem me_r5 (own A : List Pc) (ok : Bool) (h : okL own) (hn : n ≤ 9223372036854775807) : aE G FT 0 meP5 ⟨meI t n m own ++ [(10, .data false 3 (pcs A) false), (11, .bool ok)], []⟩ = some (.normal, ⟨meI t n m own ++ [(10, .data false 3 (pcs A) false), (11, .bool ok), (12, .data false 3 (pcs (popM own n).1) false), (13, .data false 3 (pcs (popM own n).2) false)], []⟩) := by
  unfold meP5 meI
  have lk : ∀ k, look [] k = none := fun _ => rfl
  have hP := fun b f => pop_P G own b f h n hn
  generalize (popM own n).1 = R1' at *
  generalize (popM own n).2 = R2' at *
  simp only [List.cons_append, List.nil_append]
  (sym => simp [Qd,Qe,Qi,Qm,Qn,Qo,Qr,Xw,Xx,Y9,Za,Zb,Zc,Ze,Zf,Zg,Zh,Zo,Zv,Zw,Jv,V6,V9,Wd,We,Hh,Hi,Be,q13R0.eq_1,q13R1.eq_1,q13R2.eq_1,q13R3.eq_1,q13R4.eq_1,q13R5.eq_1,q13R6.eq_1,q13R7.eq_1,q13R8.eq_1,q13R9.eq_1,q13R10.eq_1,q13R11.eq_1,q13R12.eq_1,q13R13.eq_1,q13R14.eq_1,q13R15.eq_1,q13R16.eq_1,q13R17.eq_1,q13R18.eq_1,q13R19.eq_1,q13R20.eq_1,q13R21.eq_1,q13R22.eq_1,q13R23.eq_1,q13R24.eq_1,q13R26.eq_1,q13R27.eq_1,q13R29.eq_1,q13R28.eq_1,q13R25.eq_1,q13R30.eq_1,c_law28_MergeEdits.eq_1,hP,lk])
theorem me_r6 (own A B C : List Pc) (ok : Bool) (h : okL own) : aE G FT 0 meP6 ⟨meI t n m own ++ [(10, .data false 3 (pcs A) false), (11, .bool ok), (12, .data false 3 (pcs B) false), (13, .data false 3 (pcs C) false)], []⟩ = some (.normal, ⟨meI t n m own ++ [(10, .data false 3 (pcs A) false), (11, .bool ok), (12, .data false 3 (pcs B) false), (13, .data false 3 (pcs C) false), (14, .data false 3 (pcs (dropM own m)) false)], []⟩) := by
  unfold meP6 meI
  have lk : ∀ k, look [] k = none := fun _ => rfl
  have hP := fun b f => drop_P G own b f h m
  generalize dropM own m = D1' at *
  simp only [List.cons_append, List.nil_append]
  (sym => simp [Qd,Qe,Qi,Qm,Qn,Qo,Qr,Y9,Za,Zb,Zc,Ze,Zf,Zg,Zh,Zo,Zv,Zw,Jv,V6,V9,Wd,We,Be,q13R0.eq_1,q13R1.eq_1,q13R2.eq_1,q13R3.eq_1,q13R4.eq_1,q13R5.eq_1,q13R6.eq_1,q13R7.eq_1,q13R8.eq_1,q13R9.eq_1,q13R10.eq_1,q13R11.eq_1,q13R12.eq_1,q13R13.eq_1,q13R14.eq_1,q13R15.eq_1,q13R16.eq_1,q13R17.eq_1,q13R18.eq_1,q13R19.eq_1,q13R20.eq_1,q13R21.eq_1,q13R22.eq_1,q13R23.eq_1,q13R24.eq_1,q13R26.eq_1,q13R27.eq_1,q13R29.eq_1,q13R28.eq_1,q13R25.eq_1,q13R30.eq_1,c_law28_MergeEdits.eq_1,hP,lk])
end
end Go.Proofs.Ytfnonledcniojaa
