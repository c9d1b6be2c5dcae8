/- Sessions: May. Conditions: as each statement says. -/
import Derived.Test.YthcnhibjddomdaaGreatSe2
set_option linter.unusedVariables false
set_option linter.unusedSimpArgs false
set_option linter.unusedSectionVars false
set_option maxRecDepth 20000
set_option maxHeartbeats 8000000
namespace Go.Proofs.YthcnhibjddomdaaGreat
open Go
variable (G : Nat → Option (List AV))
def sH (s : Ses) : List ARow := [⟨33, 0, true, [sC s]⟩]
theorem sH_closed (s : Ses) : ClosedH (sH s) := fun r hr i hi => by simp [sH] at hr; subst hr; simp [ARow.ids] at hi
theorem may1_ses (s : Ses) (hl : s.mem.length < 1000000) (id : Int) : aR G FT n_session_May_1 [.int .i64 id, .ptr 0 0 0 0] (sH s) = some (.bool (!wrB s.mem id), sH s) := by
  have hW := writes_P G s id hl
  have e1 := sC_len s
  have e3 := sC_all s
  have e4 := sC_ids s
  have e5 := sC_v s
  unfold sH
  rw [run_session_May_1]
  (sym => simp [Qb,Qd,Qe,Qi,Qj,Qm,Qn,Qo,Qr,Qt,Q4,Xd,Yr,Yu,Y1,Y5,Y7,Y9,Za,Zb,Zc,Ze,Zg,Zh,Zi,Zj,Zk,Zl,Zm,Zn,Zo,Zr,Zs,Zt,Zu,Zv,Zw,Zy,Z0,Jj,Jk,Jv,Jx,V3,V6,Wd,We,Hh,Hs,Be,q72R0.eq_1,q72R1.eq_1,c_session_May_1.eq_1,hW,e1,e3,e4,e5])
/-- Is a piece out of place? -/
def outB (s : Ses) (t : Pc) : Bool := !thereB s.mem t.1 || decide (s.k t.1.toNat < t.2.1)
theorem may2_ses (s : Ses) (hl : s.mem.length < 1000000) (t : Pc) : ∃ e, aR G FT n_session_May_2 [.agg (pcell t), .ptr 0 0 0 0] (sH s) = some (.bool (outB s t), sH s ++ e) := by
  have hF := fun b f => find_P G s.mem b f t.1 hl
  have e0 := sC_0 s
  have e1 := sC_len s
  have e3 := sC_all s
  have e4 := sC_ids s
  have e5 := sC_v s
  have e6 := sC_k s
  unfold sH outB pcell
  rw [run_session_May_2]
  cases ht : thereB s.mem t.1 with
  | false =>
    rw [ht] at hF
    simp only [Bool.false_eq_true, if_false] at hF
    refine ⟨[⟨3, 0, true, [[.int .i64 t.1, .int .i64 t.2.1, .data false 1 (byt t.2.2.1) t.2.2.2]]⟩, ⟨2, 0, true, [[.int .i64 0, .int .i64 0]]⟩], ?_⟩
    (sym => simp [Qb,Qd,Qe,Qf,Qg,Qi,Qj,Qm,Qn,Qo,Qr,Qt,Qu,Qv,Qw,Q4,Q5,Xa,Xd,Xp,Xt,Xw,Xx,Yc,Yj,Yr,Yt,Yv,Yz,Y1,Y5,Y7,Y9,Za,Zb,Zc,Zd,Ze,Zg,Zh,Zi,Zj,Zk,Zl,Zm,Zn,Zo,Zr,Zs,Zt,Zu,Zv,Zw,Zy,Z0,Z1,Z3,Jb,Jj,Jk,Jv,Jx,J1,J2,Ue,Uf,Ug,Ul,V6,V9,Wd,We,Hh,Hi,Hk,Hl,Hp,Hr,Ht,Hu,Hv,Hw,Nc,Ne,Ni,Nk,Nl,Nm,No,Ns,Nt,Nu,Nw,Nx,Nz,N0,Be,Bh,q73R0.eq_1,q73R1.eq_1,q73R2.eq_1,c_session_May_2.eq_1,hF,e0,e1,e3,e4,e5])
  | true =>
    rw [ht] at hF
    simp only [if_true] at hF
    have hid : idB t.1 = true := by simp [thereB] at ht; exact ht.1.2
    obtain ⟨i1, i8⟩ : 1 ≤ t.1 ∧ t.1 ≤ 8 := by simpa [idB] using hid
    obtain ⟨j, hj⟩ : ∃ j : Nat, t.1 = (j : Int) := ⟨t.1.toNat, by omega⟩
    have hj9 : j < 9 := by omega
    have hj9' : (j : Int) < 9 := by omega
    have hka := sC_kat s hj9
    have hn : t.1.toNat = j := by omega
    rw [hn]
    rw [hj] at hF ⊢
    refine ⟨[⟨3, 0, true, [[.int .i64 (j : Int), .int .i64 t.2.1, .data false 1 (byt t.2.2.1) t.2.2.2]]⟩, ⟨2, 0, true, [[.int .i64 (j : Int), .int .i64 (roleOf s.mem j)]]⟩], ?_⟩
    by_cases hc : s.k j < t.2.1
    · (sym => simp [Qb,Qd,Qe,Qf,Qg,Qi,Qj,Qm,Qn,Qo,Qr,Qt,Qu,Qv,Qw,Q4,Q5,Xa,Xd,Xp,Xt,Xw,Xx,Yc,Yj,Yr,Yt,Yv,Yz,Y1,Y5,Y7,Y9,Za,Zb,Zc,Zd,Ze,Zg,Zh,Zi,Zj,Zk,Zl,Zm,Zn,Zo,Zr,Zs,Zt,Zu,Zv,Zw,Zy,Z0,Z1,Z3,Jb,Jj,Jk,Jv,Jx,J1,J2,Ue,Uf,Ug,Ul,V6,V9,Wd,We,Hh,Hi,Hk,Hl,Hp,Hr,Ht,Hu,Hv,Hw,Nc,Ne,Ni,Nk,Nl,Nm,No,Ns,Nt,Nu,Nw,Nx,Nz,N0,Be,Bh,q73R0.eq_1,q73R1.eq_1,q73R2.eq_1,c_session_May_2.eq_1,hF,e0,e1,e3,e4,e5,hj9,hj9',hka,hc])
    · (sym => simp [Qb,Qd,Qe,Qf,Qg,Qi,Qj,Qm,Qn,Qo,Qr,Qt,Qu,Qv,Qw,Q4,Q5,Xa,Xd,Xp,Xt,Xw,Xx,Yc,Yj,Yr,Yt,Yv,Yz,Y1,Y5,Y7,Y9,Za,Zb,Zc,Zd,Ze,Zg,Zh,Zi,Zj,Zk,Zl,Zm,Zn,Zo,Zr,Zs,Zt,Zu,Zv,Zw,Zy,Z0,Z1,Z3,Jb,Jj,Jk,Jv,Jx,J1,J2,Ue,Uf,Ug,Ul,V6,V9,Wd,We,Hh,Hi,Hk,Hl,Hp,Hr,Ht,Hu,Hv,Hw,Nc,Ne,Ni,Nk,Nl,Nm,No,Ns,Nt,Nu,Nw,Nx,Nz,N0,Be,Bh,q73R0.eq_1,q73R1.eq_1,q73R2.eq_1,c_session_May_2.eq_1,hF,e0,e1,e3,e4,e5,hj9,hj9',hka,hc])
end Go.Proofs.YthcnhibjddomdaaGreat
