/- Rosters: role, May. Conditions: as each statement says. -/
import Derived.Test.YthcnhibjddomdaaGreatFn
set_option linter.unusedVariables false
set_option linter.unusedSimpArgs false
set_option linter.unusedSectionVars false
set_option maxRecDepth 20000
set_option maxHeartbeats 1000000
namespace Go.Proofs.YthcnhibjddomdaaGreat
open Go
variable (G : Nat → Option (List AV))
/-- A member's cells. -/
def cm (m : Int × Int) : List AV := [.int .i64 m.1, .int .i64 m.2]
def mbs (l : List (Int × Int)) : List (List AV) := List.map cm l
theorem mbs_len (l : List (Int × Int)) : (mbs l).length = l.length := by simp [mbs]
theorem mbs_at {l : List (Int × Int)} {i : Nat} (h : i < l.length) : (mbs l)[i]? = some [.int .i64 l[i].1, .int .i64 l[i].2] := by simp [mbs, h, cm]
def roleB (r : Int) : Bool := decide (r = 1) || decide (r = 2)
theorem role_P (r : Int) : aP G FT n_roster_role [.int .i64 r] = some (.bool (roleB r)) := by
  unfold aP roleB
  rw [run_roster_role]
  by_cases h1 : r = 1
  · (sym => simp [Qb,Qd,Qe,Qf,Qg,Qi,Qj,Qr,Qt,Qu,Xa,X8,Y1,Y5,Y7,Y9,Za,Zb,Zc,Ze,Zg,Zh,Zi,Zj,Zk,Zl,Zm,Zr,Zs,Zt,Zu,Zv,Zw,Z3,Jb,Jj,Jk,Jv,Jx,Wk,Nl,Nm,Nu,Nv,Nw,Nx,Be,q66R0.eq_1,q66R1.eq_1,c_roster_role.eq_1,h1])
  · (sym => simp [Qb,Qd,Qe,Qf,Qg,Qi,Qj,Qr,Qt,Qu,Xa,X8,Y1,Y5,Y7,Y9,Za,Zb,Zc,Ze,Zg,Zh,Zi,Zj,Zk,Zl,Zm,Zr,Zs,Zt,Zu,Zv,Zw,Z3,Jb,Jj,Jk,Jv,Jx,Wk,Nl,Nm,Nu,Nv,Nw,Nx,Be,q66R0.eq_1,q66R1.eq_1,c_roster_role.eq_1,h1])
/-- May a member stand behind another one? -/
def okM (last : Int) (m : Int × Int) : Bool := decide (last < m.1) && decide (m.1 ≤ 8) && roleB m.2
def mayGo : Int → List (Int × Int) → Bool
  | _, [] => true
  | last, m :: t => okM last m && mayGo m.1 t
def mayM (l : List (Int × Int)) : Bool := mayGo 0 l
theorem may1_run (last : Int) (m : Int × Int) : aR G FT n_roster_May_1 [.agg (cm m), .ptr 0 0 0 0] [⟨1, 0, true, [[.int .i64 last]]⟩] = some (.bool (!okM last m), [⟨1, 0, true, [[.int .i64 m.1]]⟩, ⟨2, 0, true, [cm m]⟩]) := by
  obtain ⟨a, r⟩ := m
  have hR := role_P G r
  unfold cm okM
  rw [run_roster_May_1]
  simp only
  by_cases h1 : a ≤ last
  · have h1' : ¬ last < a := by omega
    (sym => simp [Qb,Qd,Qe,Qf,Qg,Qi,Qj,Qm,Qn,Qo,Qr,Qt,Qu,Qw,Q4,Q5,Xa,Xd,Xp,Yb,Yc,Yj,Yr,Yt,Yv,Y1,Y5,Y7,Y9,Za,Zb,Zc,Zd,Ze,Zg,Zh,Zi,Zj,Zk,Zl,Zm,Zn,Zo,Zr,Zs,Zt,Zu,Zv,Zw,Zy,Z0,Z1,Z3,Jb,Jj,Jk,Jv,Jx,J3,Ue,Uf,Ug,V6,Wd,We,Hh,Hi,Hk,Hu,Hv,Nl,Nm,No,Np,Nq,Nr,Nw,Nx,Be,q62R0.eq_1,q62R1.eq_1,q62R2.eq_1,q62R3.eq_1,c_roster_May_1.eq_1,h1,h1',hR])
  · have h1' : last < a := by omega
    by_cases h8 : 8 < a
    · have h8' : ¬ a ≤ 8 := by omega
      (sym => simp [Qb,Qd,Qe,Qf,Qg,Qi,Qj,Qm,Qn,Qo,Qr,Qt,Qu,Qw,Q4,Q5,Xa,Xd,Xp,Yb,Yc,Yj,Yr,Yt,Yv,Y1,Y5,Y7,Y9,Za,Zb,Zc,Zd,Ze,Zg,Zh,Zi,Zj,Zk,Zl,Zm,Zn,Zo,Zr,Zs,Zt,Zu,Zv,Zw,Zy,Z0,Z1,Z3,Jb,Jj,Jk,Jv,Jx,J3,Ue,Uf,Ug,V6,Wd,We,Hh,Hi,Hk,Hu,Hv,Nl,Nm,No,Np,Nq,Nr,Nw,Nx,Be,q62R0.eq_1,q62R1.eq_1,q62R2.eq_1,q62R3.eq_1,c_roster_May_1.eq_1,h1,h1',h8,h8',hR])
    · have h8' : a ≤ 8 := by omega
      (sym => simp [Qb,Qd,Qe,Qf,Qg,Qi,Qj,Qm,Qn,Qo,Qr,Qt,Qu,Qw,Q4,Q5,Xa,Xd,Xp,Yb,Yc,Yj,Yr,Yt,Yv,Y1,Y5,Y7,Y9,Za,Zb,Zc,Zd,Ze,Zg,Zh,Zi,Zj,Zk,Zl,Zm,Zn,Zo,Zr,Zs,Zt,Zu,Zv,Zw,Zy,Z0,Z1,Z3,Jb,Jj,Jk,Jv,Jx,J3,Ue,Uf,Ug,V6,Wd,We,Hh,Hi,Hk,Hu,Hv,Nl,Nm,No,Np,Nq,Nr,Nw,Nx,Be,q62R0.eq_1,q62R1.eq_1,q62R2.eq_1,q62R3.eq_1,c_roster_May_1.eq_1,h1,h1',h8,h8',hR])
def lastAt (l : List (Int × Int)) : Nat → Int
  | 0 => 0
  | j + 1 => (l.getD j (0, 0)).1
theorem mayGo_iff : ∀ (l : List (Int × Int)) (last : Int), mayGo last l = true ↔ ∀ (i : Nat) (h : i < l.length), okM (match i with | 0 => last | j + 1 => (l.getD j (0, 0)).1) l[i] = true
  | [], last => by simp [mayGo]
  | m :: t, last => by
    rw [mayGo, Bool.and_eq_true, mayGo_iff t m.1]
    constructor
    · rintro ⟨h1, h2⟩ i hi
      cases i with
      | zero => exact h1
      | succ i =>
        have := h2 i (by simpa using hi)
        cases i with
        | zero => simpa using this
        | succ i => simpa using this
    · intro h
      refine ⟨h 0 (by simp), fun i hi => ?_⟩
      have := h (i + 1) (by simpa using hi)
      cases i with
      | zero => simpa using this
      | succ i => simpa using this
theorem mayM_iff (l : List (Int × Int)) : mayM l = true ↔ ∀ (i : Nat) (h : i < l.length), okM (lastAt l i) l[i] = true := by
  rw [mayM, mayGo_iff]
  constructor
  · intro h i hi
    have := h i hi
    cases i <;> exact this
  · intro h i hi
    have := h i hi
    cases i <;> exact this
theorem first_at (p : Nat → Bool) : ∀ n, (∀ i, i < n → p i = false) ∨ ∃ k, k < n ∧ p k = true ∧ ∀ j, j < k → p j = false
  | 0 => .inl fun i h => by omega
  | n + 1 => by
    rcases first_at p n with h | ⟨k, h1, h2, h3⟩
    · cases hn : p n with
      | true => exact .inr ⟨n, by omega, hn, h⟩
      | false =>
        refine .inl fun i hi => ?_
        by_cases e : i = n
        · subst e; exact hn
        · exact h i (by omega)
    · exact .inr ⟨k, by omega, h2, h3⟩
theorem smay_P (l : List (Int × Int)) (b f : Bool) (hl : l.length < 1000000) : aP G FT n_roster_May [.data b 2 (mbs l) f] = some (.bool (mayM l)) := by
  have hC : ∀ j, ClosedH ((fun j => [⟨1, 0, true, [[.int .i64 (lastAt l j)]]⟩] : Nat → List ARow) j) := fun j r hr i hi => by simp at hr; subst hr; simp [ARow.ids] at hi
  have hidx : ∀ (j i : Nat), i < l.length → aidx ((fun j => [⟨1, 0, true, [[.int .i64 (lastAt l j)]]⟩] : Nat → List ARow) j) 2 (.data b 2 (mbs l) f) (.int .i64 i) = some ((fun i => .dptr ((mbs l).getD i [])) i) := fun j i hi => by
    have h4 := mbs_at hi
    have h5 : (mbs l).getD i [] = [.int .i64 l[i].1, .int .i64 l[i].2] := by rw [List.getD_eq_getElem?_getD, h4]; rfl
    (sym => simp [Qb,Qd,Qe,Qi,Qj,Qm,Qn,Qo,Qr,Qt,Qv,Q5,Xd,Xj,Yh,Ys,Yu,Yy,Y1,Y5,Y7,Y9,Za,Zb,Zc,Zd,Ze,Zg,Zh,Zi,Zj,Zk,Zl,Zm,Zn,Zq,Zr,Zs,Zt,Zu,Zv,Zw,Zy,Z0,Z1,Jj,Jk,Jv,Jx,J3,Ue,Uf,Ug,Wk,Hh,Hk,Ho,Hq,Hs,Hu,Hv,Ne,Ni,Nk,Nl,Nm,No,Nw,Nx,Be,h4,h5])
  have hld : ∀ (j i : Nat) (hi : i < l.length), aload ((fun j => [⟨1, 0, true, [[.int .i64 (lastAt l j)]]⟩] : Nat → List ARow) j) true 2 ((fun i => .dptr ((mbs l).getD i [])) i) = some ((fun m => AV.agg (cm m)) l[i]) := fun j i hi => by
    have h5 : (mbs l).getD i [] = [.int .i64 l[i].1, .int .i64 l[i].2] := by rw [List.getD_eq_getElem?_getD, mbs_at hi]; rfl
    simp only [h5, cm]
    (sym => simp [Qb,Qd,Qe,Qi,Qj,Qm,Qn,Qo,Qr,Qt,Qv,Q5,Xd,Xj,Yh,Ys,Yu,Yy,Y1,Y5,Y7,Y9,Za,Zb,Zc,Zd,Ze,Zg,Zh,Zi,Zj,Zk,Zl,Zm,Zn,Zq,Zr,Zs,Zt,Zu,Zv,Zw,Zy,Z0,Z1,Jj,Jk,Jv,Jx,J3,Ue,Uf,Ug,Wk,Hh,Hk,Ho,Hq,Hs,Hu,Hv,Ne,Ni,Nk,Nl,Nm,No,Nw,Nx,Be])
  have hp : ∀ i (h : i < l.length), aR G FT n_roster_May_1 (([] : List AV) ++ [(fun m => AV.agg (cm m)) l[i]] ++ [.ptr 0 0 0 0]) ((fun j => [⟨1, 0, true, [[.int .i64 (lastAt l j)]]⟩] : Nat → List ARow) i) =
      some (.bool ((fun i => if h : i < l.length then !okM (lastAt l i) l[i] else true) i), (fun j => [⟨1, 0, true, [[.int .i64 (lastAt l j)]]⟩] : Nat → List ARow) (i + 1) ++ (fun i => if h : i < l.length then [⟨2, 0, true, [cm l[i]]⟩] else [] : Nat → List ARow) i) := fun i hi => by
    have e1 : lastAt l (i + 1) = l[i].1 := by rw [lastAt, List.getD_eq_getElem?_getD, List.getElem?_eq_getElem hi]; rfl
    simp only [dif_pos hi, e1]
    exact may1_run G (lastAt l i) l[i]
  have hlen : alen false (.data b 2 (mbs l) f) = some (.int .i64 l.length) := by
    have := mbs_len l
    (sym => simp [Qb,Qd,Qe,Qi,Qj,Qm,Qn,Qo,Qr,Qt,Qv,Q5,Xd,Xj,Yh,Ys,Yu,Yy,Y1,Y5,Y7,Y9,Za,Zb,Zc,Zd,Ze,Zg,Zh,Zi,Zj,Zk,Zl,Zm,Zn,Zq,Zr,Zs,Zt,Zu,Zv,Zw,Zy,Z0,Z1,Jj,Jk,Jv,Jx,J3,Ue,Uf,Ug,Wk,Hh,Hk,Ho,Hq,Hs,Hu,Hv,Ne,Ni,Nk,Nl,Nm,No,Nw,Nx,Be,this])
  unfold aP
  rw [run_roster_May]
  rcases first_at (fun i => if h : i < l.length then !okM (lastAt l i) l[i] else true) l.length with hn | ⟨k, hk, hk1, hk2⟩
  · have key := idxj_Member_none G l (fun m => AV.agg (cm m)) (.data b 2 (mbs l) f) (fun i => .dptr ((mbs l).getD i [])) n_roster_May_1 [] [.ptr 0 0 0 0] _ (fun j => [⟨1, 0, true, [[.int .i64 (lastAt l j)]]⟩]) _ 1 (fun _ => rfl) hC (by simp [AV.ids]) (by simp [AV.idsL, AV.ids]) (by omega) hlen hidx hld hp (fun j hj => hn j hj)
    have hcf := contfn_Member G _ _ _ _ _ key
    have hm : mayM l = true := (mayM_iff l).2 fun i hi => by have := hn i hi; simp only [dif_pos hi] at this; simpa using this
    rw [hm]
    have hcf : aR G FT n_slices_ContainsFunc_Member [.data b 2 (mbs l) f, .fn (.func n_roster_May_1) [] [.ptr 0 0 0 0]] [⟨1, 0, true, [[.int .i64 0]]⟩] = _ := hcf
    (sym => simp [Qb,Qd,Qe,Qi,Qj,Qm,Qn,Qo,Qr,Qt,Qv,Q5,Xd,Xj,Yh,Ys,Yu,Yy,Y1,Y5,Y7,Y9,Za,Zb,Zc,Zd,Ze,Zg,Zh,Zi,Zj,Zk,Zl,Zm,Zn,Zq,Zr,Zs,Zt,Zu,Zv,Zw,Zy,Z0,Z1,Jj,Jk,Jv,Jx,J3,Ue,Uf,Ug,Wk,Hh,Hk,Ho,Hq,Hs,Hu,Hv,Ne,Ni,Nk,Nl,Nm,No,Nw,Nx,Be,q61R0.eq_1,q61R1.eq_1,q61R2.eq_1,c_roster_May.eq_1,hcf])
  · have key := idxj_Member_found G l (fun m => AV.agg (cm m)) (.data b 2 (mbs l) f) (fun i => .dptr ((mbs l).getD i [])) n_roster_May_1 [] [.ptr 0 0 0 0] _ (fun j => [⟨1, 0, true, [[.int .i64 (lastAt l j)]]⟩]) _ 1 (fun _ => rfl) hC (by simp [AV.ids]) (by simp [AV.idsL, AV.ids]) (by omega) hlen hidx hld k hk (fun i hi _ => hp i hi) hk1 hk2
    have hcf := contfn_Member G _ _ _ _ _ key
    have hm : mayM l = false := by
      rw [Bool.eq_false_iff]
      intro hh
      have := (mayM_iff l).1 hh k hk
      simp only [dif_pos hk, this] at hk1
      simp at hk1
    rw [hm]
    have h0k : (0 : Int) ≤ (k : Int) := by omega
    have hcf : aR G FT n_slices_ContainsFunc_Member [.data b 2 (mbs l) f, .fn (.func n_roster_May_1) [] [.ptr 0 0 0 0]] [⟨1, 0, true, [[.int .i64 0]]⟩] = _ := hcf
    (sym => simp [Qb,Qd,Qe,Qi,Qj,Qm,Qn,Qo,Qr,Qt,Qv,Q5,Xd,Xj,Yh,Ys,Yu,Yy,Y1,Y5,Y7,Y9,Za,Zb,Zc,Zd,Ze,Zg,Zh,Zi,Zj,Zk,Zl,Zm,Zn,Zq,Zr,Zs,Zt,Zu,Zv,Zw,Zy,Z0,Z1,Jj,Jk,Jv,Jx,J3,Ue,Uf,Ug,Wk,Hh,Hk,Ho,Hq,Hs,Hu,Hv,Ne,Ni,Nk,Nl,Nm,No,Nw,Nx,Be,q61R0.eq_1,q61R1.eq_1,q61R2.eq_1,c_roster_May.eq_1,hcf,h0k])
end Go.Proofs.YthcnhibjddomdaaGreat
