/- VtNone: the law. Conditions: none. -/
import Derived.Test.YtkkcblfoaldckaaVn2
import Derived.Test.YtkkcblfoaldckaaVrC
import Derived.Test.YtkkcblfoaldckaaVs5
set_option linter.unusedVariables false
set_option linter.unusedSimpArgs false
set_option linter.unusedSectionVars false
set_option maxRecDepth 20000
set_option maxHeartbeats 4000000
namespace Go.Proofs.Ytkkcblfoaldckaa
open Go
variable (G : Nat → Option (List AV))
theorem put_none (c : Int) : aP G FT n_vt_Parser_Put [.nilptr, .int .i32 c] = some (.data false 6 [] false) := by
  unfold aP
  rw [run_vt_Parser_Put]
  (sym => simp [Qb,Qd,Qe,Qi,Qj,Qr,Qt,Xc,Y1,Y5,Y7,Y9,Za,Zb,Zc,Ze,Zg,Zh,Zi,Zj,Zk,Zl,Zm,Zr,Zs,Zt,Zu,Zv,Zw,Jh,Jj,Jk,Jl,Jr,Jv,Jx,Kp,Wg,Be,Bj,Bo,Bw,BB,q24R0.eq_1,q24R1.eq_1,q24R2.eq_1,q24R3.eq_1,q24R4.eq_1,q24R5.eq_1,q24R6.eq_1,c_vt_Parser_Put.eq_1])
def vtIdle : VS → Bool
  | .nil => true
  | _ => false
theorem idle_at (h : List ARow) (s : VS) (fl : Bool) (i g : Nat) (h0 : h[0]? = some (vtF s fl i g)) : aR G FT n_vt_Parser_Idle [.ptr 0 0 0 0] h = some (.bool (vtIdle s), h) := by
  rw [run_vt_Parser_Idle]
  cases s <;> simp only [vtF] at h0 <;> simp only [vtIdle] <;> (sym => simp [Qb,Qd,Qe,Qf,Qg,Qi,Qj,Qr,Qt,Qu,Q4,Q6,Q9,Xc,Xp,Yr,Yt,Yv,Y1,Y5,Y7,Y9,Za,Zb,Zc,Ze,Zg,Zh,Zi,Zj,Zk,Zl,Zr,Zs,Zt,Zu,Zv,Zw,Zy,Z0,Z3,Jb,Jh,Jj,Jk,Jv,Jx,Ko,Kq,Kr,Hh,Nx,Be,q23R0.eq_1,q23R1.eq_1,c_vt_Parser_Idle.eq_1,h0])
theorem idle_none (h : List ARow) : aR G FT n_vt_Parser_Idle [.nilptr] h = some (.bool true, h) := by
  rw [run_vt_Parser_Idle]
  (sym => simp [Qb,Qd,Qe,Qf,Qg,Qi,Qj,Qr,Qt,Qu,Xc,Y1,Y5,Y7,Y9,Za,Zb,Zc,Ze,Zg,Zh,Zi,Zj,Zk,Zl,Zr,Zs,Zt,Zu,Zv,Zw,Z3,Jb,Jh,Jj,Jk,Jv,Jx,Kp,Nw,Be,q23R0.eq_1,q23R1.eq_1,c_vt_Parser_Idle.eq_1])
theorem copy_none (h : List ARow) : aR G FT n_vt_Parser_Copy [.nilptr] h = some (.nilptr, h) := by
  rw [run_vt_Parser_Copy]
  (sym => simp [Qb,Qd,Qe,Qi,Qj,Qr,Qt,Xc,Y1,Y5,Y7,Y9,Za,Zb,Zc,Ze,Zg,Zh,Zi,Zj,Zk,Zl,Zr,Zs,Zt,Zu,Zv,Zw,Jh,Jj,Jk,Jl,Jr,Jv,Jx,Kp,Be,q22R0.eq_1,q22R1.eq_1,q22R2.eq_1,q22R3.eq_1,q22R4.eq_1,q22R5.eq_1,c_vt_Parser_Copy.eq_1])
theorem sim_idle {H : List Int} {s : VS} (h : Sim H s) : vtIdle s = decide (H.length = 0) := by
  cases s with
  | nil => cases h; rfl
  | esc => obtain ⟨I, rfl, _⟩ := h; simp [vtIdle]
  | seq0 => obtain ⟨I, rfl, _⟩ := h; simp [vtIdle]
  | seq1 => obtain ⟨I, rfl, _⟩ := h; simp [vtIdle]
  | txt0 => obtain ⟨I, rfl, _⟩ := h; simp [vtIdle]
  | txt1 => obtain ⟨I, T, rfl, _⟩ := h; simp [vtIdle]
theorem none_loop (l : List Int) (f : Bool) (hl : l.length ≤ 200) : ∀ m i, i + m = l.length → ∀ (s : VS) (H : List Int) (fl fl2 : Bool) (h : List ARow), vtOk2 s → rInv i H → Sim H s → NSt h (vtX s fl) (rX H fl2) →
    ∃ R, aE G FT 0 lp_law11_VtNone_0 ⟨[(0, .data false 1 (rn l) f), (3, .nilptr), (4, .ptr 0 0 0 0), (5, .ptr 1 0 0 0), (6, .int .i64 i)], h⟩ =
      some (.exit 0, ⟨[(0, .data false 1 (rn l) f), (3, .nilptr), (4, .ptr 0 0 0 0), (5, .ptr 1 0 0 0), (6, .int .i64 l.length), (19, .bool false)], R⟩) := by
  intro m
  have rl := rn_len l
  induction m with
  | zero =>
    intro i hi s H fl fl2 h ok inv sim hs
    obtain rfl : i = l.length := by omega
    have hg := none_gc (.data false 1 (rn l) f) (by simp [AV.ids]) (fun _ _ _ _ => by simp [AV.ren]) l.length (vtX_ok s fl) (rX_ok H fl2) hs
    have h4 : ¬ (l.length : Int) < l.length := by omega
    refine ⟨canN (vtX s fl) (rX H fl2), ?_⟩
    rw [lp_law11_VtNone_0, y_loop, hg]
    (sym => simp [Qa,Qc,Qd,Qe,Qg,Qi,Qj,Qm,Qn,Qo,Qr,Qt,Qu,Q4,Q6,Q9,Xa,Xb,Xd,Xp,Xs,Xy,X5,X8,X9,Ya,Yg,Yh,Yr,Ys,Yt,Yv,Yy,Y9,Za,Zb,Zc,Ze,Zg,Zh,Zm,Zo,Zq,Zt,Zv,Zw,Zy,Z0,Z3,Ja,Jb,Jg,Jj,Jk,Jm,Jn,Jo,Jr,Js,Ju,Jv,Ki,Kn,Us,Ux,U0,U1,V6,V9,Wc,Wd,We,Hh,Hi,Hu,Hv,Hy,Hz,Ne,Ni,Nk,Nl,Nm,No,Nw,Nx,Be,Bh,BD,BE,BF,BG,BH,BI,BJ,BK,BL,BM,BN,BO,BP,BR,BT,BY,BZ,q2R0.eq_1,q2R1.eq_1,q2R2.eq_1,q2R3.eq_1,q2R4.eq_1,q2R5.eq_1,q2R6.eq_1,q2R7.eq_1,q2R8.eq_1,q2R9.eq_1,q2R11.eq_1,q2R12.eq_1,q2R10.eq_1,q2R13.eq_1,c_law11_VtNone.eq_1,c_law11_VtNone_L0.eq_1,h4,rl])
  | succ m ih =>
    intro i hi s H fl fl2 h ok inv sim hs
    have hn : i < l.length := by omega
    have hg := none_gc (.data false 1 (rn l) f) (by simp [AV.ids]) (fun _ _ _ _ => by simp [AV.ren]) i (vtX_ok s fl) (rX_ok H fl2) hs
    obtain ⟨b, hy, p1, p2⟩ := put_okb G ⟨1, 0, true, []⟩ fl s ok l[i]
    obtain ⟨b2, hy2, r1, r2⟩ := rput_okq G fl2 H ⟨by have := inv.1; omega, inv.2⟩ l[i]
    obtain ⟨f1, i1, g1, R1, rfl, x1⟩ := stb_root p2
    obtain ⟨f2, i2, g2, R2, rfl, x2⟩ := rstq_root r2
    rw [canonRb_eq] at p1
    rw [rHeapq_eq] at r1
    obtain ⟨sm1, sm2⟩ := sim_put sim l[i]
    rw [sm1] at r1
    obtain ⟨h1, h2, e1, e2, ns⟩ := two_iso (aR G FT) n_vt_Parser_Put n_ref11_Parser_Put (.int .i32 l[i]) rfl (fun _ _ _ _ => rfl) (vtX s fl) (rX H fl2) (vtX (vtPut s l[i]).2 f1) (rX (rPut H l[i]).2 f2) (vtX_ok _ _) (rX_ok _ _) (vtX_ok _ _) (rX_ok _ _) rfl rfl rfl rfl
      _ _ (by simp [AV.ids]) (by simp [AV.clean]) (fun _ => by simp [AV.mapid]) (by simp [AV.ids]) (by simp [AV.clean]) (fun _ => by simp [AV.mapid]) i1 g1 R1 p1 x1 i2 g2 R2 r1 x2
    have ns' := ns
    obtain ⟨i', g', j', k', w0, w1, _, w2, _⟩ := ns'
    have hid := idle_at G h2 _ _ _ _ w0
    rw [sim_idle sm2] at hid
    have hci := acall_iso (G := G) (F := FT)
    have hpn := put_none G l[i]
    have hc := put_count s l[i]
    have ha := fun b b2 => all_P G (vtPut s l[i]).1 b b2 (by omega) (fun a h => lim_lens (put_lim s ok l[i] a h))
    have hw := wrap_nat (n := i) (by omega)
    have q1 : (i : Int) < l.length := by omega
    have a1 := rn_at hn
    obtain ⟨R, ih⟩ := ih (i + 1) (by omega) _ _ f1 f2 h2 (put_ok2 s ok _) (rinv_put i H _ inv) sm2 ns
    refine ⟨R, ?_⟩
    rw [lp_law11_VtNone_0] at ih
    rw [lp_law11_VtNone_0, y_loop, hg, ← ih]
    generalize (rPut H l[i]).2 = H' at w1 w2 hid
    cases H' with
    | nil =>
      simp only [rF] at w1
      simp only [List.length_nil, decide_true] at hid
      (sym => simp [Qa,Qc,Qd,Qe,Qg,Qi,Qj,Qm,Qn,Qo,Qr,Qt,Qu,Q4,Q6,Q9,Xa,Xb,Xd,Xp,Xs,Xy,X5,X8,X9,Ya,Yg,Yh,Yr,Ys,Yt,Yv,Yy,Y9,Za,Zb,Zc,Ze,Zg,Zh,Zm,Zo,Zq,Zt,Zv,Zw,Zy,Z0,Z3,Ja,Jb,Jg,Jj,Jk,Jm,Jn,Jo,Jr,Js,Ju,Jv,Ki,Kn,Us,Ux,U0,U1,V6,V9,Wc,Wd,We,Hh,Hi,Hu,Hv,Hy,Hz,Ne,Ni,Nk,Nl,Nm,No,Nw,Nx,Be,Bh,BD,BE,BF,BG,BH,BI,BJ,BK,BL,BM,BN,BO,BP,BR,BT,BY,BZ,q2R0.eq_1,q2R1.eq_1,q2R2.eq_1,q2R3.eq_1,q2R4.eq_1,q2R5.eq_1,q2R6.eq_1,q2R7.eq_1,q2R8.eq_1,q2R9.eq_1,q2R11.eq_1,q2R12.eq_1,q2R10.eq_1,q2R13.eq_1,c_law11_VtNone.eq_1,c_law11_VtNone_L0.eq_1,q1,hw,a1,hpn,hci,e1,e2,ha,hid,w1,rl])
    | cons x T =>
      simp only [rF, List.length_cons] at w1
      have hz : decide ((x :: T).length = 0) = false := by simp
      rw [hz] at hid
      have hz2 : ¬ ((T.length + 1 : Nat) : Int) = 0 := by omega
      have w3 := (w2 rfl).2
      have w4 := (List.getElem?_eq_some_iff.1 w3).1
      (sym => simp [Qa,Qc,Qd,Qe,Qg,Qi,Qj,Qm,Qn,Qo,Qr,Qt,Qu,Q4,Q6,Q9,Xa,Xb,Xd,Xp,Xs,Xy,X5,X8,X9,Ya,Yg,Yh,Yr,Ys,Yt,Yv,Yy,Y9,Za,Zb,Zc,Ze,Zg,Zh,Zm,Zo,Zq,Zt,Zv,Zw,Zy,Z0,Z3,Ja,Jb,Jg,Jj,Jk,Jm,Jn,Jo,Jr,Js,Ju,Jv,Ki,Kn,Us,Ux,U0,U1,V6,V9,Wc,Wd,We,Hh,Hi,Hu,Hv,Hy,Hz,Ne,Ni,Nk,Nl,Nm,No,Nw,Nx,Be,Bh,BD,BE,BF,BG,BH,BI,BJ,BK,BL,BM,BN,BO,BP,BR,BT,BY,BZ,q2R0.eq_1,q2R1.eq_1,q2R2.eq_1,q2R3.eq_1,q2R4.eq_1,q2R5.eq_1,q2R6.eq_1,q2R7.eq_1,q2R8.eq_1,q2R9.eq_1,q2R11.eq_1,q2R12.eq_1,q2R10.eq_1,q2R13.eq_1,c_law11_VtNone.eq_1,c_law11_VtNone_L0.eq_1,q1,hw,a1,hpn,hci,e1,e2,ha,hid,w1,w3,w4,rl,hz2])
theorem vtNone_P (l : List Int) (f : Bool) : aP G FT n_law11_VtNone [.data false 1 (rn l) f] = some (.bool true) := by
  have hK := known11_P G
  have rl := rn_len l
  unfold aP
  rw [run_law11_VtNone]
  by_cases h1 : (200 : Int) < l.length
  · (sym => simp [Qb,Qc,Qd,Qe,Qf,Qg,Qi,Qj,Qm,Qn,Qo,Qr,Qt,Qu,Qw,Qx,Q1,Xa,Xc,Xd,Xy,Yc,Yh,Yj,Y1,Y5,Y7,Y9,Za,Zb,Zc,Ze,Zg,Zh,Zi,Zj,Zk,Zl,Zm,Zn,Zo,Zq,Zr,Zs,Zt,Zu,Zv,Zw,Z3,Ja,Jh,Jj,Jk,Jl,Jn,Jq,Jr,Jv,Jx,Kp,K8,Ue,Uf,Ug,Uh,Ui,Uj,Ul,Wd,Wk,Hu,Hv,Ne,Nl,Nm,No,Nw,Nx,Be,q2R0.eq_1,q2R1.eq_1,q2R2.eq_1,q2R3.eq_1,q2R4.eq_1,q2R5.eq_1,q2R6.eq_1,q2R7.eq_1,q2R8.eq_1,q2R9.eq_1,q2R11.eq_1,q2R12.eq_1,q2R10.eq_1,q2R13.eq_1,c_law11_VtNone.eq_1,hK,rl,h1])
  obtain ⟨R, k⟩ := none_loop G l f (by omega) l.length 0 (by omega) .nil [] true true [⟨10, 0, true, [[.nilfn, .bool false, .bool false, .bool false, .bool false, .bool false, .int .i32 0, .str ⟨#[]⟩, .data false 1 [] true, .data false 1 [] true]]⟩, ⟨1, 0, true, [[.data false 1 [] true]]⟩] trivial ⟨by simp, fun x h => by cases h⟩ rfl
    ⟨2, 0, 2, 0, rfl, rfl, fun e => (by cases e), fun e => (by cases e), fun e => (by cases e)⟩
  simp only [Int.natCast_zero] at k
  have hi := idle_none G
  have hcp := copy_none G
  (sym => simp [Qb,Qc,Qd,Qe,Qf,Qg,Qi,Qj,Qm,Qn,Qo,Qr,Qt,Qu,Qw,Qx,Q1,Xa,Xc,Xd,Xy,Yc,Yh,Yj,Y1,Y5,Y7,Y9,Za,Zb,Zc,Ze,Zg,Zh,Zi,Zj,Zk,Zl,Zm,Zn,Zo,Zq,Zr,Zs,Zt,Zu,Zv,Zw,Z3,Ja,Jh,Jj,Jk,Jl,Jn,Jq,Jr,Jv,Jx,Kp,K8,Ue,Uf,Ug,Uh,Ui,Uj,Ul,Wd,Wk,Hu,Hv,Ne,Nl,Nm,No,Nw,Nx,Be,q2R0.eq_1,q2R1.eq_1,q2R2.eq_1,q2R3.eq_1,q2R4.eq_1,q2R5.eq_1,q2R6.eq_1,q2R7.eq_1,q2R8.eq_1,q2R9.eq_1,q2R11.eq_1,q2R12.eq_1,q2R10.eq_1,q2R13.eq_1,c_law11_VtNone.eq_1,hK,rl,h1,k,hi,hcp])
theorem law_VtNone (a0 : AV) (h0 : HasTy (.sl [.int .i32]) a0) : aP G FT n_law11_VtNone [a0] = some (.bool true) := by
  obtain ⟨l, f, rfl, _⟩ := ty_runes h0
  exact vtNone_P G l f
end Go.Proofs.Ytkkcblfoaldckaa
