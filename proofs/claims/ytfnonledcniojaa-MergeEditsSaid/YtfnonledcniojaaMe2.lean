/- MergeEdits: the law's parts behind what was lent, by the machine. Conditions: as each statement says. -/
import Derived.Test.YtfnonledcniojaaMe1
set_option linter.unusedVariables false
set_option linter.unusedSimpArgs false
set_option linter.unusedSectionVars false
set_option maxRecDepth 20000
set_option maxHeartbeats 8000000
namespace Go.Proofs.Ytfnonledcniojaa
open Go
section
variable (G : Nat → Option (List AV)) (q : List Pc) (f : Bool) (t : Pc) (n m : Int) (A B C D : List Pc) (ok fits : Bool)
theorem me_r7 (h : okL q) : aE G FT 0 meP7 ⟨[(0, .data false 3 (pcs q) f), (2, .int .i64 n), (3, .int .i64 m), (5, .dptr (pcell t)), (9, .data false 3 (pcs (cpQ q)) false), (10, .data false 3 (pcs A) false), (11, .bool ok), (12, .data false 3 (pcs B) false), (13, .data false 3 (pcs C) false), (14, .data false 3 (pcs D) false)], []⟩ = some (.normal, ⟨[(0, .data false 3 (pcs q) f), (2, .int .i64 n), (3, .int .i64 m), (5, .dptr (pcell t)), (9, .data false 3 (pcs (cpQ q)) false), (10, .data false 3 (pcs A) false), (11, .bool ok), (12, .data false 3 (pcs B) false), (13, .data false 3 (pcs C) false), (14, .data false 3 (pcs D) false), (58, .bool false)], []⟩) := by
  unfold meP7
  have h1 := fun b f => qmay_P G (cpQ q) (okL_cp h) b f
  have h2 := fun b f => mrmay28_P G q b f h
  have h3 := fun b1 f1 b2 f2 => rsame28_P G (cpQ q) q b1 f1 b2 f2 (by rw [cpQ_len]; exact h.1)
  rw [sameQ_core (core_cp q)] at h3
  rw [may_core 0 (core_cp q)] at h1
  cases hm : mayQ 0 q with
  | true => rw [hm] at h1 h2; (sym => simp [Qc,Qd,Qe,Qf,Qg,Qi,Qm,Qn,Qo,Qr,Qt,Qu,Xb,Xd,Y9,Za,Zb,Zc,Ze,Zg,Zh,Zo,Zt,Zv,Zw,Z3,Ja,Jb,Jg,Jj,Jk,Jr,Jv,Ki,Kn,V9,Wd,We,Nw,Nx,Be,q13R0.eq_1,q13R1.eq_1,q13R2.eq_1,q13R3.eq_1,q13R4.eq_1,q13R5.eq_1,q13R6.eq_1,q13R7.eq_1,q13R8.eq_1,q13R9.eq_1,q13R10.eq_1,q13R11.eq_1,q13R12.eq_1,q13R13.eq_1,q13R14.eq_1,q13R15.eq_1,q13R16.eq_1,q13R17.eq_1,q13R18.eq_1,q13R19.eq_1,q13R20.eq_1,q13R21.eq_1,q13R22.eq_1,q13R23.eq_1,q13R24.eq_1,q13R26.eq_1,q13R27.eq_1,q13R29.eq_1,q13R28.eq_1,q13R25.eq_1,q13R30.eq_1,c_law28_MergeEdits.eq_1,h1,h2,h3])
  | false => rw [hm] at h1 h2; (sym => simp [Qc,Qd,Qe,Qf,Qg,Qi,Qm,Qn,Qo,Qr,Qt,Qu,Xb,Xd,Y9,Za,Zb,Zc,Ze,Zg,Zh,Zo,Zt,Zv,Zw,Z3,Ja,Jb,Jg,Jj,Jk,Jr,Jv,Ki,Kn,V9,Wd,We,Nw,Nx,Be,q13R0.eq_1,q13R1.eq_1,q13R2.eq_1,q13R3.eq_1,q13R4.eq_1,q13R5.eq_1,q13R6.eq_1,q13R7.eq_1,q13R8.eq_1,q13R9.eq_1,q13R10.eq_1,q13R11.eq_1,q13R12.eq_1,q13R13.eq_1,q13R14.eq_1,q13R15.eq_1,q13R16.eq_1,q13R17.eq_1,q13R18.eq_1,q13R19.eq_1,q13R20.eq_1,q13R21.eq_1,q13R22.eq_1,q13R23.eq_1,q13R24.eq_1,q13R26.eq_1,q13R27.eq_1,q13R29.eq_1,q13R28.eq_1,q13R25.eq_1,q13R30.eq_1,c_law28_MergeEdits.eq_1,h1,h2,h3])
theorem me_r8f (h : okL q) (hm : mayQ 0 q = false) : aE G FT 0 meP8 ⟨[(0, .data false 3 (pcs q) f), (2, .int .i64 n), (3, .int .i64 m), (5, .dptr (pcell t)), (9, .data false 3 (pcs (cpQ q)) false), (10, .data false 3 (pcs []) false), (11, .bool false), (12, .data false 3 (pcs []) false), (13, .data false 3 (pcs []) false), (14, .data false 3 (pcs []) false), (58, .bool false)], []⟩ = some (.ret, ⟨[(8, .bool true)], []⟩) := by
  unfold meP8
  have h2 := fun b f => mrmay28_P G q b f h
  have h3 := fun b f => size_P G q h b f
  rw [hm] at h2
  simp only [hm] at h3
  have e0 : pcs [] = [] := rfl
  have w0 : IntKind.i64.wrap 0 = 0 := by decide
  have a0 : (0 : Int) + 0 = 0 := rfl
  (sym => simp [Qb,Qd,Qe,Qf,Qg,Qi,Qj,Qm,Qn,Qo,Qr,Qt,Qu,Xa,Xd,Xy,X5,X8,Yh,Y9,Za,Zb,Zc,Ze,Zg,Zh,Zm,Zo,Zt,Zv,Zw,Z3,Ja,Jj,Jk,Jr,Jv,V9,Wd,We,Nl,Nx,Be,Bh,q13R0.eq_1,q13R1.eq_1,q13R2.eq_1,q13R3.eq_1,q13R4.eq_1,q13R5.eq_1,q13R6.eq_1,q13R7.eq_1,q13R8.eq_1,q13R9.eq_1,q13R10.eq_1,q13R11.eq_1,q13R12.eq_1,q13R13.eq_1,q13R14.eq_1,q13R15.eq_1,q13R16.eq_1,q13R17.eq_1,q13R18.eq_1,q13R19.eq_1,q13R20.eq_1,q13R21.eq_1,q13R22.eq_1,q13R23.eq_1,q13R24.eq_1,q13R26.eq_1,q13R27.eq_1,q13R29.eq_1,q13R28.eq_1,q13R25.eq_1,q13R30.eq_1,c_law28_MergeEdits.eq_1,h2,h3,e0,w0,a0])
theorem me_r8t (h : okL q) (hm : mayQ 0 q = true) : aE G FT 0 meP8 ⟨[(0, .data false 3 (pcs q) f), (2, .int .i64 n), (3, .int .i64 m), (5, .dptr (pcell t)), (9, .data false 3 (pcs (cpQ q)) false), (10, .data false 3 (pcs A) false), (11, .bool ok), (12, .data false 3 (pcs B) false), (13, .data false 3 (pcs C) false), (14, .data false 3 (pcs D) false), (58, .bool false)], []⟩ = some (.normal, ⟨[(0, .data false 3 (pcs q) f), (2, .int .i64 n), (3, .int .i64 m), (5, .dptr (pcell t)), (9, .data false 3 (pcs (cpQ q)) false), (10, .data false 3 (pcs A) false), (11, .bool ok), (12, .data false 3 (pcs B) false), (13, .data false 3 (pcs C) false), (14, .data false 3 (pcs D) false), (61, .bool false)], []⟩) := by
  unfold meP8
  have h2 := fun b f => mrmay28_P G q b f h
  rw [hm] at h2
  (sym => simp [Qc,Qd,Qe,Qi,Qm,Qn,Qo,Qr,Qt,Xd,Y9,Za,Zb,Zc,Ze,Zg,Zh,Zo,Zt,Zv,Zw,Z3,Jj,Jk,Jr,Jv,V9,Wd,We,Nw,Be,q13R0.eq_1,q13R1.eq_1,q13R2.eq_1,q13R3.eq_1,q13R4.eq_1,q13R5.eq_1,q13R6.eq_1,q13R7.eq_1,q13R8.eq_1,q13R9.eq_1,q13R10.eq_1,q13R11.eq_1,q13R12.eq_1,q13R13.eq_1,q13R14.eq_1,q13R15.eq_1,q13R16.eq_1,q13R17.eq_1,q13R18.eq_1,q13R19.eq_1,q13R20.eq_1,q13R21.eq_1,q13R22.eq_1,q13R23.eq_1,q13R24.eq_1,q13R26.eq_1,q13R27.eq_1,q13R29.eq_1,q13R28.eq_1,q13R25.eq_1,q13R30.eq_1,c_law28_MergeEdits.eq_1,h2])
theorem me_r9 (h : okL q) : aE G FT 0 meP9 ⟨[(0, .data false 3 (pcs q) f), (2, .int .i64 n), (3, .int .i64 m), (5, .dptr (pcell t)), (9, .data false 3 (pcs (cpQ q)) false), (10, .data false 3 (pcs A) false), (11, .bool ok), (12, .data false 3 (pcs B) false), (13, .data false 3 (pcs C) false), (14, .data false 3 (pcs D) false), (61, .bool false)], []⟩ = some (.normal, ⟨[(0, .data false 3 (pcs q) f), (3, .int .i64 m), (5, .dptr (pcell t)), (9, .data false 3 (pcs (cpQ q)) false), (10, .data false 3 (pcs A) false), (11, .bool ok), (12, .data false 3 (pcs B) false), (13, .data false 3 (pcs C) false), (14, .data false 3 (pcs D) false), (15, .int .i64 (popN q n : Nat))], []⟩) := by
  unfold meP9
  have h1 := fun b f => rfirst_P G q b f n (fun k hk b f => mrsize_P G (q.take k) b f (okL_sub h (by simp; omega) (fun x hx => List.mem_of_mem_take hx))) h.1
  (sym => simp [Qd,Qe,Qi,Qm,Qn,Qo,Qr,Y9,Za,Zb,Zc,Ze,Zg,Zh,Zo,Zv,Zw,Jv,V6,V9,Wd,We,Be,q13R0.eq_1,q13R1.eq_1,q13R2.eq_1,q13R3.eq_1,q13R4.eq_1,q13R5.eq_1,q13R6.eq_1,q13R7.eq_1,q13R8.eq_1,q13R9.eq_1,q13R10.eq_1,q13R11.eq_1,q13R12.eq_1,q13R13.eq_1,q13R14.eq_1,q13R15.eq_1,q13R16.eq_1,q13R17.eq_1,q13R18.eq_1,q13R19.eq_1,q13R20.eq_1,q13R21.eq_1,q13R22.eq_1,q13R23.eq_1,q13R24.eq_1,q13R26.eq_1,q13R27.eq_1,q13R29.eq_1,q13R28.eq_1,q13R25.eq_1,q13R30.eq_1,c_law28_MergeEdits.eq_1,h1])
theorem me_r10 (h : okL q) (hm : mayQ 0 q = true) (k : Nat) (hk : k ≤ q.length) (hB : coreQ B = coreQ (q.drop k)) (hC : coreQ C = coreQ (q.take k)) (hD : coreQ D = coreQ (dropQ q m)) : aE G FT 0 meP10 ⟨[(0, .data false 3 (pcs q) f), (3, .int .i64 m), (5, .dptr (pcell t)), (9, .data false 3 (pcs (cpQ q)) false), (10, .data false 3 (pcs A) false), (11, .bool ok), (12, .data false 3 (pcs B) false), (13, .data false 3 (pcs C) false), (14, .data false 3 (pcs D) false), (15, .int .i64 (k : Nat))], []⟩ = some (.normal, ⟨[(0, .data false 3 (pcs q) f), (5, .dptr (pcell t)), (9, .data false 3 (pcs (cpQ q)) false), (10, .data false 3 (pcs A) false), (11, .bool ok), (12, .data false 3 (pcs B) false), (13, .data false 3 (pcs C) false), (14, .data false 3 (pcs D) false), (114, .bool false)], []⟩) := by
  unfold meP10
  have h1 := fun b f => size_P G q h b f
  have h2 := fun b f => mrsize_P G q b f h
  simp only [hm, if_true] at h1
  have lB := core_len hB
  have lC := core_len hC
  have lD := core_len hD
  have h0 := h.1
  have h3 := fun b1 f1 b2 f2 => rsame28_P G B (q.drop k) b1 f1 b2 f2 (by rw [lB, List.length_drop]; omega)
  have h4 := fun b1 f1 b2 f2 => rsame28_P G C (q.take k) b1 f1 b2 f2 (by rw [lC, List.length_take]; omega)
  have h5 := fun b1 f1 b2 f2 => rsame28_P G D (dropQ q m) b1 f1 b2 f2 (by rw [lD]; have := List.length_filter_le (fun x : Pc => !decide (x.1 = m)) q; unfold dropQ; omega)
  rw [sameQ_core hB] at h3
  rw [sameQ_core hC] at h4
  rw [sameQ_core hD] at h5
  have h6 := fun f => rdrop_P G q f h m
  have hln := pcs_len q
  have d1 : List.drop k (pcs q) = pcs (q.drop k) := by simp [pcs, List.map_drop]
  have d2 : List.take k (pcs q) = pcs (q.take k) := by simp [pcs, List.map_take]
  have d4 : List.take q.length (pcs q) = pcs q := List.take_of_length_le (by omega)
  have c1 : (k : Int) ≤ q.length := by omega
  (sym => simp [Qc,Qd,Qe,Qf,Qg,Qi,Qm,Qn,Qo,Qr,Qt,Qu,Xa,Xd,Xl,Xm,Xn,X9,Y9,Za,Zb,Zc,Ze,Zg,Zh,Zo,Zt,Zv,Zw,Z3,Jb,Jj,Jk,Jr,Jv,K0,K1,K3,V6,V9,Wd,We,Hs,Nf,Ng,Ni,Nk,Nl,No,Nw,Nx,Nz,Be,q13R0.eq_1,q13R1.eq_1,q13R2.eq_1,q13R3.eq_1,q13R4.eq_1,q13R5.eq_1,q13R6.eq_1,q13R7.eq_1,q13R8.eq_1,q13R9.eq_1,q13R10.eq_1,q13R11.eq_1,q13R12.eq_1,q13R13.eq_1,q13R14.eq_1,q13R15.eq_1,q13R16.eq_1,q13R17.eq_1,q13R18.eq_1,q13R19.eq_1,q13R20.eq_1,q13R21.eq_1,q13R22.eq_1,q13R23.eq_1,q13R24.eq_1,q13R26.eq_1,q13R27.eq_1,q13R29.eq_1,q13R28.eq_1,q13R25.eq_1,q13R30.eq_1,c_law28_MergeEdits.eq_1,h1,h2,h3,h4,h5,h6,hln,d1,d2,d4,hk,c1,List.drop_zero])
def fitsB (q : List Pc) (t : Pc) : Bool := pieceB t.1 t.2.1 t.2.2.1.length && decide (sizeQ q + t.2.2.1.length ≤ 64)
theorem me_r11 (h : okL q) (ht : t.2.2.1.length ≤ 1000) : aE G FT 0 meP11 ⟨[(0, .data false 3 (pcs q) f), (5, .dptr (pcell t)), (9, .data false 3 (pcs (cpQ q)) false), (10, .data false 3 (pcs A) false), (11, .bool ok), (12, .data false 3 (pcs B) false), (13, .data false 3 (pcs C) false), (14, .data false 3 (pcs D) false), (114, .bool false)], []⟩ = some (.normal, ⟨[(0, .data false 3 (pcs q) f), (5, .dptr (pcell t)), (9, .data false 3 (pcs (cpQ q)) false), (10, .data false 3 (pcs A) false), (11, .bool ok), (12, .data false 3 (pcs B) false), (13, .data false 3 (pcs C) false), (14, .data false 3 (pcs D) false), (16, .bool (fitsB q t))], []⟩) := by
  unfold meP11 fitsB pcell
  have h1 := fun b f => mrpiece_P G t.1 t.2.1 (byt t.2.2.1) b f
  have hbl := byt_len t.2.2.1
  rw [hbl] at h1
  have h2 := fun b f => mrsize_P G q b f h
  have hs := sizeQ_le q h.2
  have h0 := h.1
  have hw : IntKind.i64.wrap ((sizeQ q : Int) + t.2.2.1.length) = ((sizeQ q + t.2.2.1.length : Nat) : Int) := by rw [wrap_in _ (by omega) (by omega)]; omega
  cases hp : pieceB t.1 t.2.1 t.2.2.1.length with
  | false =>
    rw [hp] at h1
    simp only [Bool.false_and]
    (sym => simp [Qd,Qe,Qf,Qg,Qi,Qj,Qm,Qn,Qo,Qr,Qt,Qu,Q4,Xa,Xp,Xy,X5,Yb,Yh,Ys,Yt,Yu,Yw,Y9,Za,Zb,Zc,Ze,Zg,Zh,Zm,Zn,Zo,Zv,Zw,Z3,Ja,Jv,V3,V6,V9,Wd,We,Hh,Ho,Hq,Hr,Hs,Nl,Nm,Be,q13R0.eq_1,q13R1.eq_1,q13R2.eq_1,q13R3.eq_1,q13R4.eq_1,q13R5.eq_1,q13R6.eq_1,q13R7.eq_1,q13R8.eq_1,q13R9.eq_1,q13R10.eq_1,q13R11.eq_1,q13R12.eq_1,q13R13.eq_1,q13R14.eq_1,q13R15.eq_1,q13R16.eq_1,q13R17.eq_1,q13R18.eq_1,q13R19.eq_1,q13R20.eq_1,q13R21.eq_1,q13R22.eq_1,q13R23.eq_1,q13R24.eq_1,q13R26.eq_1,q13R27.eq_1,q13R29.eq_1,q13R28.eq_1,q13R25.eq_1,q13R30.eq_1,c_law28_MergeEdits.eq_1,h1,hbl])
  | true =>
    rw [hp] at h1
    by_cases h6 : sizeQ q + t.2.2.1.length ≤ 64
    · have h7 : ((sizeQ q + t.2.2.1.length : Nat) : Int) ≤ 64 := by omega
      have h8 : decide (sizeQ q + t.2.2.1.length ≤ 64) = true := decide_eq_true h6
      rw [h8, Bool.true_and]
      (sym => simp [Qd,Qe,Qf,Qg,Qi,Qj,Qm,Qn,Qo,Qr,Qt,Qu,Q4,Xa,Xp,Xy,X5,Yb,Yh,Ys,Yt,Yu,Yw,Y9,Za,Zb,Zc,Ze,Zg,Zh,Zm,Zn,Zo,Zv,Zw,Z3,Ja,Jv,V3,V6,V9,Wd,We,Hh,Ho,Hq,Hr,Hs,Nl,Nm,Be,q13R0.eq_1,q13R1.eq_1,q13R2.eq_1,q13R3.eq_1,q13R4.eq_1,q13R5.eq_1,q13R6.eq_1,q13R7.eq_1,q13R8.eq_1,q13R9.eq_1,q13R10.eq_1,q13R11.eq_1,q13R12.eq_1,q13R13.eq_1,q13R14.eq_1,q13R15.eq_1,q13R16.eq_1,q13R17.eq_1,q13R18.eq_1,q13R19.eq_1,q13R20.eq_1,q13R21.eq_1,q13R22.eq_1,q13R23.eq_1,q13R24.eq_1,q13R26.eq_1,q13R27.eq_1,q13R29.eq_1,q13R28.eq_1,q13R25.eq_1,q13R30.eq_1,c_law28_MergeEdits.eq_1,h1,h2,hbl,hw,h7])
    · have h7 : ¬ ((sizeQ q + t.2.2.1.length : Nat) : Int) ≤ 64 := by omega
      have h8 : decide (sizeQ q + t.2.2.1.length ≤ 64) = false := decide_eq_false h6
      rw [h8, Bool.true_and]
      (sym => simp [Qd,Qe,Qf,Qg,Qi,Qj,Qm,Qn,Qo,Qr,Qt,Qu,Q4,Xa,Xp,Xy,X5,Yb,Yh,Ys,Yt,Yu,Yw,Y9,Za,Zb,Zc,Ze,Zg,Zh,Zm,Zn,Zo,Zv,Zw,Z3,Ja,Jv,V3,V6,V9,Wd,We,Hh,Ho,Hq,Hr,Hs,Nl,Nm,Be,q13R0.eq_1,q13R1.eq_1,q13R2.eq_1,q13R3.eq_1,q13R4.eq_1,q13R5.eq_1,q13R6.eq_1,q13R7.eq_1,q13R8.eq_1,q13R9.eq_1,q13R10.eq_1,q13R11.eq_1,q13R12.eq_1,q13R13.eq_1,q13R14.eq_1,q13R15.eq_1,q13R16.eq_1,q13R17.eq_1,q13R18.eq_1,q13R19.eq_1,q13R20.eq_1,q13R21.eq_1,q13R22.eq_1,q13R23.eq_1,q13R24.eq_1,q13R26.eq_1,q13R27.eq_1,q13R29.eq_1,q13R28.eq_1,q13R25.eq_1,q13R30.eq_1,c_law28_MergeEdits.eq_1,h1,h2,hbl,hw,h7])
theorem me_r12 (h : okL q) : aE G FT 0 meP12 ⟨[(0, .data false 3 (pcs q) f), (5, .dptr (pcell t)), (9, .data false 3 (pcs (cpQ q)) false), (10, .data false 3 (pcs A) false), (11, .bool ok), (12, .data false 3 (pcs B) false), (13, .data false 3 (pcs C) false), (14, .data false 3 (pcs D) false), (16, .bool fits)], []⟩ = some (.normal, ⟨[(0, .data false 3 (pcs q) f), (5, .dptr (pcell t)), (9, .data false 3 (pcs (cpQ q)) false), (10, .data false 3 (pcs A) false), (11, .bool ok), (12, .data false 3 (pcs B) false), (13, .data false 3 (pcs C) false), (14, .data false 3 (pcs D) false), (16, .bool fits), (17, .own 0 0 0 q.length q.length)], [⟨3, 0, true, pcs (cpQ q)⟩]⟩) := by
  unfold meP12
  have h1 := fun b f => rcopy_run G q b f h
  (sym => simp [Qd,Qe,Qi,Qm,Qn,Qo,Qr,Y9,Za,Zb,Zc,Ze,Zg,Zh,Zm,Zn,Zp,Zv,Zw,Zx,Zy,Zz,Z0,Z3,Jv,Us,U6,Vk,Vm,Vo,Vp,Vq,Vr,Vs,Vt,Vu,Vv,Vw,Vx,V9,Wd,We,Wz,W5,W6,W7,Hh,Hv,Hy,Hz,H5,H6,Nl,No,Nt,Nx,Be,q13R0.eq_1,q13R1.eq_1,q13R2.eq_1,q13R3.eq_1,q13R4.eq_1,q13R5.eq_1,q13R6.eq_1,q13R7.eq_1,q13R8.eq_1,q13R9.eq_1,q13R10.eq_1,q13R11.eq_1,q13R12.eq_1,q13R13.eq_1,q13R14.eq_1,q13R15.eq_1,q13R16.eq_1,q13R17.eq_1,q13R18.eq_1,q13R19.eq_1,q13R20.eq_1,q13R21.eq_1,q13R22.eq_1,q13R23.eq_1,q13R24.eq_1,q13R26.eq_1,q13R27.eq_1,q13R29.eq_1,q13R28.eq_1,q13R25.eq_1,q13R30.eq_1,c_law28_MergeEdits.eq_1,h1])
theorem me_r13f : aE G FT 0 meP13 ⟨[(0, .data false 3 (pcs q) f), (5, .dptr (pcell t)), (9, .data false 3 (pcs (cpQ q)) false), (10, .data false 3 (pcs A) false), (11, .bool ok), (12, .data false 3 (pcs B) false), (13, .data false 3 (pcs C) false), (14, .data false 3 (pcs D) false), (16, .bool false), (17, .own 0 0 0 q.length q.length)], [⟨3, 0, true, pcs (cpQ q)⟩]⟩ = some (.normal, ⟨[(0, .data false 3 (pcs q) f), (5, .dptr (pcell t)), (9, .data false 3 (pcs (cpQ q)) false), (10, .data false 3 (pcs A) false), (11, .bool ok), (12, .data false 3 (pcs B) false), (13, .data false 3 (pcs C) false), (14, .data false 3 (pcs D) false), (16, .bool false), (17, .own 0 0 0 q.length q.length), (128, .bool false)], [⟨3, 0, true, pcs (cpQ q)⟩]⟩) := by
  unfold meP13
  (sym => simp [Qc,Qd,Qe,Qi,Qr,Qt,Y9,Za,Zb,Zc,Ze,Zg,Zh,Zt,Zv,Zw,Z3,Jj,Jk,Jr,Jv,Be,q13R0.eq_1,q13R1.eq_1,q13R2.eq_1,q13R3.eq_1,q13R4.eq_1,q13R5.eq_1,q13R6.eq_1,q13R7.eq_1,q13R8.eq_1,q13R9.eq_1,q13R10.eq_1,q13R11.eq_1,q13R12.eq_1,q13R13.eq_1,q13R14.eq_1,q13R15.eq_1,q13R16.eq_1,q13R17.eq_1,q13R18.eq_1,q13R19.eq_1,q13R20.eq_1,q13R21.eq_1,q13R22.eq_1,q13R23.eq_1,q13R24.eq_1,q13R26.eq_1,q13R27.eq_1,q13R29.eq_1,q13R28.eq_1,q13R25.eq_1,q13R30.eq_1,c_law28_MergeEdits.eq_1])
theorem me_r13t (h : okL q) : aE G FT 0 meP13 ⟨[(0, .data false 3 (pcs q) f), (5, .dptr (pcell t)), (9, .data false 3 (pcs (cpQ q)) false), (10, .data false 3 (pcs A) false), (11, .bool ok), (12, .data false 3 (pcs B) false), (13, .data false 3 (pcs C) false), (14, .data false 3 (pcs D) false), (16, .bool true), (17, .own 0 0 0 q.length q.length)], [⟨3, 0, true, pcs (cpQ q)⟩]⟩ = some (.normal, ⟨[(0, .data false 3 (pcs q) f), (9, .data false 3 (pcs (cpQ q)) false), (10, .data false 3 (pcs A) false), (11, .bool ok), (12, .data false 3 (pcs B) false), (13, .data false 3 (pcs C) false), (14, .data false 3 (pcs D) false), (16, .bool true), (17, .own 0 1 0 (q.length + 1) (q.length + 1))], [⟨3, 1, true, pcs (cpQ q ++ [t])⟩, ⟨3, 0, true, [pcell t]⟩]⟩) := by
  unfold meP13
  have hlo : (pcs (cpQ q)).length = q.length := by rw [pcs_len, cpQ_len]
  have tk : List.take q.length (pcs (cpQ q)) = pcs (cpQ q) := List.take_of_length_le (by omega)
  have b1 : (q.length + 1) * 40 ≤ 140737488355328 := by have := h.1; omega
  have n1 : q.length + 1 ≤ q.length ↔ False := by simp
  have e1 : pcs (cpQ q ++ [t]) = pcs (cpQ q) ++ [pcell t] := by rw [pcs_append]; rfl
  rw [e1]
  unfold pcell
  generalize pcs (cpQ q) = P at *
  (sym => simp [Qd,Qe,Qi,Qr,Qt,Qz,Q0,Q2,Q4,X0,Yj,Ys,Yu,Y2,Y9,Za,Zb,Zc,Ze,Zg,Zh,Zm,Zn,Zt,Zv,Zw,Zx,Zy,Zz,Z0,Jj,Jk,Jr,Jv,Kv,Kx,Ua,Ub,Uc,Ud,Ue,Uf,Ug,Ul,Hh,Hi,Hk,Ho,Hq,Hs,Hu,Hv,H2,H3,H8,Ng,Nh,Nl,No,Nx,Nz,N2,Be,Bg,q13R0.eq_1,q13R1.eq_1,q13R2.eq_1,q13R3.eq_1,q13R4.eq_1,q13R5.eq_1,q13R6.eq_1,q13R7.eq_1,q13R8.eq_1,q13R9.eq_1,q13R10.eq_1,q13R11.eq_1,q13R12.eq_1,q13R13.eq_1,q13R14.eq_1,q13R15.eq_1,q13R16.eq_1,q13R17.eq_1,q13R18.eq_1,q13R19.eq_1,q13R20.eq_1,q13R21.eq_1,q13R22.eq_1,q13R23.eq_1,q13R24.eq_1,q13R26.eq_1,q13R27.eq_1,q13R29.eq_1,q13R28.eq_1,q13R25.eq_1,q13R30.eq_1,c_law28_MergeEdits.eq_1,hlo,tk,b1,n1])
theorem me_r14f (h : okL q) (hA : coreQ A = coreQ (cpQ q)) : aE G FT 0 meP14 ⟨[(0, .data false 3 (pcs q) f), (5, .dptr (pcell t)), (9, .data false 3 (pcs (cpQ q)) false), (10, .data false 3 (pcs A) false), (11, .bool false), (12, .data false 3 (pcs B) false), (13, .data false 3 (pcs C) false), (14, .data false 3 (pcs D) false), (16, .bool false), (17, .own 0 0 0 q.length q.length), (128, .bool false)], [⟨3, 0, true, pcs (cpQ q)⟩]⟩ = some (.normal, ⟨[(0, .data false 3 (pcs q) f), (9, .data false 3 (pcs (cpQ q)) false), (10, .data false 3 (pcs A) false), (12, .data false 3 (pcs B) false), (13, .data false 3 (pcs C) false), (14, .data false 3 (pcs D) false), (141, .bool false)], [⟨3, 0, true, pcs (cpQ q)⟩]⟩) := by
  unfold meP14
  have lA := core_len hA
  have h0 := h.1
  have h1 := fun b1 f1 b2 f2 => rsame28_P G A (cpQ q) b1 f1 b2 f2 (by rw [lA, cpQ_len]; omega)
  rw [sameQ_core hA] at h1
  have hlo : (pcs (cpQ q)).length = q.length := by rw [pcs_len, cpQ_len]
  have tk : List.take q.length (pcs (cpQ q)) = pcs (cpQ q) := List.take_of_length_le (by omega)
  (sym => simp [Qc,Qd,Qe,Qf,Qg,Qi,Qm,Qn,Qo,Qr,Qt,Qu,Xb,Xd,Y9,Za,Zb,Zc,Ze,Zg,Zh,Zo,Zt,Zv,Zw,Zx,Zy,Zz,Z0,Z3,Jb,Jg,Jj,Jk,Jr,Jv,Ki,Kn,V1,V9,Wd,We,Hh,Hs,H8,Ng,Nw,Nx,Nz,Be,q13R0.eq_1,q13R1.eq_1,q13R2.eq_1,q13R3.eq_1,q13R4.eq_1,q13R5.eq_1,q13R6.eq_1,q13R7.eq_1,q13R8.eq_1,q13R9.eq_1,q13R10.eq_1,q13R11.eq_1,q13R12.eq_1,q13R13.eq_1,q13R14.eq_1,q13R15.eq_1,q13R16.eq_1,q13R17.eq_1,q13R18.eq_1,q13R19.eq_1,q13R20.eq_1,q13R21.eq_1,q13R22.eq_1,q13R23.eq_1,q13R24.eq_1,q13R26.eq_1,q13R27.eq_1,q13R29.eq_1,q13R28.eq_1,q13R25.eq_1,q13R30.eq_1,c_law28_MergeEdits.eq_1,h1,hlo,tk])
theorem me_r14t (h : okL q) (hq : q.length ≤ 900) (hA : coreQ A = coreQ (cpQ q ++ [t])) : aE G FT 0 meP14 ⟨[(0, .data false 3 (pcs q) f), (9, .data false 3 (pcs (cpQ q)) false), (10, .data false 3 (pcs A) false), (11, .bool true), (12, .data false 3 (pcs B) false), (13, .data false 3 (pcs C) false), (14, .data false 3 (pcs D) false), (16, .bool true), (17, .own 0 1 0 (q.length + 1) (q.length + 1))], [⟨3, 1, true, pcs (cpQ q ++ [t])⟩, ⟨3, 0, true, [pcell t]⟩]⟩ = some (.normal, ⟨[(0, .data false 3 (pcs q) f), (9, .data false 3 (pcs (cpQ q)) false), (10, .data false 3 (pcs A) false), (12, .data false 3 (pcs B) false), (13, .data false 3 (pcs C) false), (14, .data false 3 (pcs D) false), (141, .bool false)], [⟨3, 1, true, pcs (cpQ q ++ [t])⟩, ⟨3, 0, true, [pcell t]⟩]⟩) := by
  unfold meP14
  have lA := core_len hA
  have h0 := h.1
  have h1 := fun b1 f1 b2 f2 => rsame28_P G A (cpQ q ++ [t]) b1 f1 b2 f2 (by rw [lA, List.length_append, cpQ_len, List.length_singleton]; omega)
  rw [sameQ_core hA] at h1
  have hlo : (pcs (cpQ q ++ [t])).length = q.length + 1 := by rw [pcs_len, List.length_append, cpQ_len]; rfl
  have tk : List.take (q.length + 1) (pcs (cpQ q ++ [t])) = pcs (cpQ q ++ [t]) := List.take_of_length_le (by omega)
  generalize cpQ q ++ [t] = Q' at *
  (sym => simp [Qc,Qd,Qe,Qf,Qg,Qi,Qm,Qn,Qo,Qr,Qt,Qu,Xb,Xd,Y9,Za,Zb,Zc,Ze,Zg,Zh,Zo,Zt,Zv,Zw,Zx,Zy,Zz,Z0,Z3,Ja,Jb,Jg,Jj,Jk,Jr,Jv,Ki,Kn,V1,V9,Wd,We,Hh,Hs,H8,Ng,Nw,Nx,Nz,Be,q13R0.eq_1,q13R1.eq_1,q13R2.eq_1,q13R3.eq_1,q13R4.eq_1,q13R5.eq_1,q13R6.eq_1,q13R7.eq_1,q13R8.eq_1,q13R9.eq_1,q13R10.eq_1,q13R11.eq_1,q13R12.eq_1,q13R13.eq_1,q13R14.eq_1,q13R15.eq_1,q13R16.eq_1,q13R17.eq_1,q13R18.eq_1,q13R19.eq_1,q13R20.eq_1,q13R21.eq_1,q13R22.eq_1,q13R23.eq_1,q13R24.eq_1,q13R26.eq_1,q13R27.eq_1,q13R29.eq_1,q13R28.eq_1,q13R25.eq_1,q13R30.eq_1,c_law28_MergeEdits.eq_1,h1,hlo,tk])
theorem me_r15 (hl : A.length + B.length + C.length + D.length ≤ 100000) : ∃ id g h, aE G FT 0 meP15 ⟨[(10, .data false 3 (pcs A) false), (12, .data false 3 (pcs B) false), (13, .data false 3 (pcs C) false), (14, .data false 3 (pcs D) false)], []⟩ = some (.normal, ⟨[(18, .own id g 0 (A ++ B ++ (C ++ D)).length (A ++ B ++ (C ++ D)).length)], h⟩) ∧ h[id]? = some ⟨3, g, true, pcs (A ++ B ++ (C ++ D))⟩ := by
  have lA := pcs_len A
  have lB := pcs_len B
  have lC := pcs_len C
  have lD := pcs_len D
  refine ⟨0, 3, [⟨3, 3, true, pcs (A ++ B ++ (C ++ D))⟩, ⟨3, 2, true, pcs (C ++ D)⟩], ?_, rfl⟩
  unfold meP15
  have lk : ∀ k, look [] k = none := fun _ => rfl
  have b1 : A.length * 40 ≤ 140737488355328 := by omega
  have b2 : (A.length + B.length) * 40 ≤ 140737488355328 := by omega
  have b3 : C.length * 40 ≤ 140737488355328 := by omega
  have b4 : (C.length + D.length) * 40 ≤ 140737488355328 := by omega
  have b5 : (A.length + B.length + (C.length + D.length)) * 40 ≤ 140737488355328 := by omega
  have t1 : List.take A.length (pcs A) = pcs A := List.take_of_length_le (by omega)
  have t2 : List.take (A.length + B.length) (pcs A ++ pcs B) = pcs A ++ pcs B := List.take_of_length_le (by rw [List.length_append]; omega)
  have t3 : List.take C.length (pcs C) = pcs C := List.take_of_length_le (by omega)
  have t4 : List.take (C.length + D.length) (pcs C ++ pcs D) = pcs C ++ pcs D := List.take_of_length_le (by rw [List.length_append]; omega)
  rw [pcs_append, pcs_append, pcs_append, List.length_append, List.length_append, List.length_append]
  (sym => simp [Qd,Qe,Qi,Qr,Qz,Q2,X0,Y2,Y3,Y9,Za,Zb,Zc,Ze,Zf,Zg,Zh,Zm,Zn,Zv,Zw,Zx,Zy,Zz,Z0,Jv,Kv,Kx,Ua,Uc,Hh,Hi,Hk,Hl,Hq,Hs,Ht,Hu,Hv,Hx,H2,H8,Ng,Nh,Nl,No,Nt,Nx,Nz,N2,Be,Bg,q13R0.eq_1,q13R1.eq_1,q13R2.eq_1,q13R3.eq_1,q13R4.eq_1,q13R5.eq_1,q13R6.eq_1,q13R7.eq_1,q13R8.eq_1,q13R9.eq_1,q13R10.eq_1,q13R11.eq_1,q13R12.eq_1,q13R13.eq_1,q13R14.eq_1,q13R15.eq_1,q13R16.eq_1,q13R17.eq_1,q13R18.eq_1,q13R19.eq_1,q13R20.eq_1,q13R21.eq_1,q13R22.eq_1,q13R23.eq_1,q13R24.eq_1,q13R26.eq_1,q13R27.eq_1,q13R29.eq_1,q13R28.eq_1,q13R25.eq_1,q13R30.eq_1,c_law28_MergeEdits.eq_1,lA,lB,lC,lD,lk,b1,b2,b3,b4,b5,t1,t2,t3,t4,List.take_zero,List.nil_append])
theorem me_r17 (h : okL q) : aE G FT 0 meP17 ⟨[(0, .data false 3 (pcs q) f), (9, .data false 3 (pcs (cpQ q)) false)], []⟩ = some (.ret, ⟨[(8, .bool true)], []⟩) := by
  unfold meP17
  have h3 := fun b1 f1 b2 f2 => rsame28_P G (cpQ q) q b1 f1 b2 f2 (by rw [cpQ_len]; exact h.1)
  rw [sameQ_core (core_cp q)] at h3
  (sym => simp [Qb,Qd,Qe,Qi,Qm,Qn,Qo,Qr,Y9,Za,Zb,Zc,Ze,Zg,Zh,Zo,Zv,Zw,Jj,Jk,Jv,V9,Wd,We,Be,q13R0.eq_1,q13R1.eq_1,q13R2.eq_1,q13R3.eq_1,q13R4.eq_1,q13R5.eq_1,q13R6.eq_1,q13R7.eq_1,q13R8.eq_1,q13R9.eq_1,q13R10.eq_1,q13R11.eq_1,q13R12.eq_1,q13R13.eq_1,q13R14.eq_1,q13R15.eq_1,q13R16.eq_1,q13R17.eq_1,q13R18.eq_1,q13R19.eq_1,q13R20.eq_1,q13R21.eq_1,q13R22.eq_1,q13R23.eq_1,q13R24.eq_1,q13R26.eq_1,q13R27.eq_1,q13R29.eq_1,q13R28.eq_1,q13R25.eq_1,q13R30.eq_1,c_law28_MergeEdits.eq_1,h3])
end
end Go.Proofs.Ytfnonledcniojaa
