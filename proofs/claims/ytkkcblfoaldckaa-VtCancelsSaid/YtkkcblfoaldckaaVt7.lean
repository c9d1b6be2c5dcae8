/- The parser's states; what a code point that counts as one makes of each. Conditions: none. -/
import Derived.Test.YtkkcblfoaldckaaVt6
set_option linter.unusedVariables false
set_option linter.unusedSimpArgs false
set_option linter.unusedSectionVars false
set_option maxRecDepth 20000
set_option maxHeartbeats 2000000
namespace Go.Proofs.Ytkkcblfoaldckaa
open Go
inductive VS where
  | nil
  | esc (v : Bool) (s : ByteArray)
  | seq0 (f v : Bool) (m : Int) (s : ByteArray)
  | seq1 (v : Bool) (m : Int) (s : ByteArray) (q : List Int) (x : Int)
  | txt0 (t : Bool)
  | txt1 (t : Bool) (ts : List Int)
def canonR : VS → Bool → List ARow
  | .nil, fl => [⟨10, 0, fl, [[.nilfn, .bool false, .bool false, .bool false, .bool false, .bool false, .int .i32 0, .str ⟨#[]⟩, .data false 1 [] true, .data false 1 [] true]]⟩]
  | .esc v s, fl => [⟨10, 0, fl, [[.fn (.func n_vt_escape) [] [], .bool false, .bool false, .bool false, .bool v, .bool false, .int .i32 0, .str s, .data false 1 [] true, .data false 1 [] true]]⟩]
  | .seq0 f v m s, fl => [⟨10, 0, fl, [[.fn (.func n_vt_sequence) [] [], .bool false, .bool false, .bool f, .bool v, .bool false, .int .i32 m, .str s, .data false 1 [] true, .data false 1 [] true]]⟩]
  | .seq1 v m s q x, _ => [⟨10, 0, false, [[.fn (.func n_vt_sequence) [] [], .bool false, .bool false, .bool false, .bool v, .bool true, .int .i32 m, .str s, .own 2 0 0 (q.length + 1) (q.length + 1), .data false 1 [] true]]⟩, ⟨1, 0, true, ints q ++ [[.int .i64 x]]⟩]
  | .txt0 t, fl => [⟨10, 0, fl, [[.fn (.func n_vt_text) [] [], .bool true, .bool t, .bool false, .bool false, .bool false, .int .i32 0, .str ⟨#[]⟩, .data false 1 [] true, .data false 1 [] true]]⟩]
  | .txt1 t ts, _ => [⟨10, 0, false, [[.fn (.func n_vt_text) [] [], .bool true, .bool t, .bool false, .bool false, .bool false, .int .i32 0, .str ⟨#[]⟩, .data false 1 [] true, .own 2 0 0 ts.length ts.length]]⟩, ⟨1, 0, true, rn ts⟩]
/-- The rows stand for a state, whatever else is there. -/
def St (o : ARow) (h : List ARow) : VS → Prop
  | .nil => ∃ fl R, h = o :: ⟨10, 0, fl, [[.nilfn, .bool false, .bool false, .bool false, .bool false, .bool false, .int .i32 0, .str ⟨#[]⟩, .data false 1 [] true, .data false 1 [] true]]⟩ :: R
  | .esc v s => ∃ fl R, h = o :: ⟨10, 0, fl, [[.fn (.func n_vt_escape) [] [], .bool false, .bool false, .bool false, .bool v, .bool false, .int .i32 0, .str s, .data false 1 [] true, .data false 1 [] true]]⟩ :: R
  | .seq0 f v m s => ∃ fl R, h = o :: ⟨10, 0, fl, [[.fn (.func n_vt_sequence) [] [], .bool false, .bool false, .bool f, .bool v, .bool false, .int .i32 m, .str s, .data false 1 [] true, .data false 1 [] true]]⟩ :: R
  | .seq1 v m s q x => ∃ i g R, h = o :: ⟨10, 0, false, [[.fn (.func n_vt_sequence) [] [], .bool false, .bool false, .bool false, .bool v, .bool true, .int .i32 m, .str s, .own i g 0 (q.length + 1) (q.length + 1), .data false 1 [] true]]⟩ :: R ∧ 2 ≤ i ∧ h[i]? = some ⟨1, g, true, ints q ++ [[.int .i64 x]]⟩
  | .txt0 t => ∃ fl R, h = o :: ⟨10, 0, fl, [[.fn (.func n_vt_text) [] [], .bool true, .bool t, .bool false, .bool false, .bool false, .int .i32 0, .str ⟨#[]⟩, .data false 1 [] true, .data false 1 [] true]]⟩ :: R
  | .txt1 t ts => ∃ i g R, h = o :: ⟨10, 0, false, [[.fn (.func n_vt_text) [] [], .bool true, .bool t, .bool false, .bool false, .bool false, .int .i32 0, .str ⟨#[]⟩, .data false 1 [] true, .own i g 0 ts.length ts.length]]⟩ :: R ∧ 2 ≤ i ∧ h[i]? = some ⟨1, g, true, rn ts⟩

def oscT (ts : List Int) : Act' := ⟨5, 0, 0, ⟨#[]⟩, [], true, ts, false⟩
def escA (c : Int) (s : ByteArray) : Act' := ⟨3, c, 0, s, [], true, [], true⟩
def csiA (c m : Int) (s : ByteArray) (ps : List Int) (pf : Bool) : Act' := ⟨4, c, m, s, ps, pf, [], true⟩
def vtEnd : VS → List Act'
  | .txt0 true => [oscT []]
  | .txt1 true ts => [oscT ts]
  | _ => []
def vtEsc (v : Bool) (s : ByteArray) (c : Int) : List Act' × VS :=
  if c < 48 then ([], if s.size = 2 then .esc true s else .esc v (s ++ Utf8.encode c))
  else if s.size = 0 ∧ c = 91 then ([], .seq0 true false 0 ⟨#[]⟩)
  else if s.size = 0 ∧ c = 93 then ([], .txt0 true)
  else if s.size = 0 ∧ (c = 80 ∨ c = 88 ∨ c = 94 ∨ c = 95) then ([], .txt0 false)
  else (if v then [] else [escA c s], .nil)
def vtSeq0 (f v : Bool) (m : Int) (s : ByteArray) (c : Int) : List Act' × VS :=
  if c < 48 then ([], if s.size = 2 then .seq0 false true m s else .seq0 false v m (s ++ Utf8.encode c))
  else if 60 ≤ c ∧ c < 64 ∧ f = true then ([], .seq0 false v c s)
  else if c = 58 ∨ 60 ≤ c ∧ c < 64 ∨ c < 64 ∧ s.size ≠ 0 then ([], .seq0 false true m s)
  else if c < 64 then ([], if c = 59 then .seq1 v m s [0] 0 else .seq1 v m s [] (c - 48))
  else (if v then [] else [csiA c m s [] true], .nil)
def vtSeq1 (v : Bool) (m : Int) (s : ByteArray) (q : List Int) (x : Int) (c : Int) : List Act' × VS :=
  if c < 48 then ([], if s.size = 2 then .seq1 true m s q x else .seq1 v m (s ++ Utf8.encode c) q x)
  else if c = 58 ∨ 60 ≤ c ∧ c < 64 ∨ c < 64 ∧ s.size ≠ 0 then ([], .seq1 true m s q x)
  else if c < 64 then ([], if c = 59 then (if q.length < 16 then .seq1 v m s (q ++ [x]) 0 else .seq1 v m s q x) else .seq1 v m s q (min (10 * x + (c - 48)) 9999))
  else (if v then [] else [csiA c m s ((q ++ [x]).take 16) false], .nil)
def vtOne (s : VS) (c : Int) : List Act' × VS :=
  if s matches .nil then (if c = 27 then ([], .esc false ⟨#[]⟩) else (wordT c, .nil))
  else if c = 27 then (vtEnd s, .esc false ⟨#[]⟩)
  else if c = 24 ∨ c = 26 then (wordT c, .nil)
  else match s with
    | .txt0 t => if c = 7 then (vtEnd s, .nil) else if 32 ≤ c ∧ c ≠ 127 then ([], .txt1 t [c]) else ([], s)
    | .txt1 t ts => if c = 7 then (vtEnd s, .nil) else if 32 ≤ c ∧ c ≠ 127 ∧ ts.length < 64 then ([], .txt1 t (ts ++ [c])) else ([], s)
    | _ => if 160 ≤ c then (wordT c, .nil) else if c < 32 ∨ c = 127 then (wordT c, s) else match s with
      | .esc v i => vtEsc v i c
      | .seq0 f v m i => vtSeq0 f v m i c
      | .seq1 v m i q x => vtSeq1 v m i q x c
      | _ => ([], s)
variable (o p a : ARow) (R h : List ARow)
theorem melt_D0 : amelt h (.data false 6 [] true) = some (.data false 6 [] true, h) := by (sym => simp [Qa,Qb,Qc,Qd,Qe,Qf,Qg,Qh,Qi,Qj,Qk,Ql,Qm,Qn,Qo,Qp,Qq,Qr,Qs,Qt,Qu,Qv,Qw,Qx,Qy,Qz,Q0,Q1,Q2,Q3,Q4,Q5,Q6,Q7,Q8,Q9,Xa,Xb,Xc,Xd,Xe,Xf,Xg,Xh,Xi,Xj,Xk,Xl,Xm,Xn,Xo,Xp,Xq,Xr,Xs,Xt,Xu,Xv,Xw,Xx,Xy,Xz,X0,X1,X2,X3,X4,X5,X6,X7,X8,X9,Ya,Yb,Yc,Yd,Ye,Yf,Yg,Yh,Yi,Yj,Yk,Yl,Ym,Yn,Yo,Yp,Yq,Yr,Ys,Yt,Yu,Yv,Yw,Yx,Yy,Yz,Y0,Y1,Y2,Y3,Y4,Y5,Y6,Y7,Y8,Y9,Za,Zb,Zc,Zd,Ze,Zf,Zg,Zh,Zi,Zj,Zk,Zl,Zm,Zn,Zo,Zp,Zq,Zr,Zs,Zt,Zu,Zv,Zw,Zx,Zy,Zz,Z0,Z1,Z2,Z3,Z4,Z5,Z6,Z7,Z8,Z9,Ja,Jb,Jc,Jd,Je,Jf,Jg,Jh,Ji,Jj,Jk,Jl,Jm,Jn,Jo,Jp,Jq,Jr,Js,Jt,Ju,Jv,Jw,Jx,Jy,Jz,J0,J1,J2,J3,J4,J5,J6,J7,J8,J9,Ka,Kb,Kc,Kd,Ke,Kf,Kg,Kh,Ki,Kj,Kk,Kl,Km,Kn,Ko,Kp,Kq,Kr,Ks,Kt,Ku,Kv,Kw,Kx,Ky,Kz,K0,K1,K2,K3,K4,K5,K6,K7,K8,K9,Ua,Ub,Uc,Ud,Ue,Uf,Ug,Uh,Ui,Uj,Uk,Ul,Um,Un,Uo,Up,Uq,Ur,Us,Ut,Uu,Uv,Uw,Ux,Uy,Uz,U0,U1,U2,U3,U4,U5,U6,U7,U8,U9,Va,Vb,Vc,Vd,Ve,Vf,Vg,Vh,Vi,Vj,Vk,Vl,Vm,Vn,Vo,Vp,Vq,Vr,Vs,Vt,Vu,Vv,Vw,Vx,Vy,Vz,V0,V1,V2,V3,V4,V5,V6,V7,V8,V9,Wa,Wb,Wc,Wd,We,Wf,Wg,Wh,Wi,Wj,Wk,Wl,Wm,Wn,Wo,Wp,Wq,Wr,Ws,Wt,Wu,Wv,Ww,Wx,Wy,Wz,W0,W1,W2,W3,W4,W5,W6,W7,W8,W9,Ha,Hb,Hc,Hd,He,Hf,Hg,Hh,Hi,Hj,Hk,Hl,Hm,Hn,Ho,Hp,Hq,Hr,Hs,Ht,Hu,Hv,Hw,Hx,Hy,Hz,H0,H1,H2,H3,H4,H5,H6,H7,H8,H9,Na,Nb,Nc,Nd,Ne,Nf,Ng,Nh,Ni,Nj,Nk,Nl,Nm,Nn,No,Np,Nq,Nr,Ns,Nt,Nu,Nv,Nw,Nx,Ny,Nz,N0,N1,N2,N3,N4,N5,N6,N7,N8,N9,Ba,Bb,Bc,Bd,Be,Bf,Bg,Bh,Bi,Bj,Bk,Bl,Bm,Bn,Bo,Bp,Bq,Br,Bs,Bt,Bu,Bv,Bw,Bx,By,Bz,BA,BB,BC])
theorem melt_data (l : List Act') (f : Bool) : amelt h (.data false 6 (actG l) f) = some (.data false 6 (actG l) f, h) := by (sym => simp [Qa,Qb,Qc,Qd,Qe,Qf,Qg,Qh,Qi,Qj,Qk,Ql,Qm,Qn,Qo,Qp,Qq,Qr,Qs,Qt,Qu,Qv,Qw,Qx,Qy,Qz,Q0,Q1,Q2,Q3,Q4,Q5,Q6,Q7,Q8,Q9,Xa,Xb,Xc,Xd,Xe,Xf,Xg,Xh,Xi,Xj,Xk,Xl,Xm,Xn,Xo,Xp,Xq,Xr,Xs,Xt,Xu,Xv,Xw,Xx,Xy,Xz,X0,X1,X2,X3,X4,X5,X6,X7,X8,X9,Ya,Yb,Yc,Yd,Ye,Yf,Yg,Yh,Yi,Yj,Yk,Yl,Ym,Yn,Yo,Yp,Yq,Yr,Ys,Yt,Yu,Yv,Yw,Yx,Yy,Yz,Y0,Y1,Y2,Y3,Y4,Y5,Y6,Y7,Y8,Y9,Za,Zb,Zc,Zd,Ze,Zf,Zg,Zh,Zi,Zj,Zk,Zl,Zm,Zn,Zo,Zp,Zq,Zr,Zs,Zt,Zu,Zv,Zw,Zx,Zy,Zz,Z0,Z1,Z2,Z3,Z4,Z5,Z6,Z7,Z8,Z9,Ja,Jb,Jc,Jd,Je,Jf,Jg,Jh,Ji,Jj,Jk,Jl,Jm,Jn,Jo,Jp,Jq,Jr,Js,Jt,Ju,Jv,Jw,Jx,Jy,Jz,J0,J1,J2,J3,J4,J5,J6,J7,J8,J9,Ka,Kb,Kc,Kd,Ke,Kf,Kg,Kh,Ki,Kj,Kk,Kl,Km,Kn,Ko,Kp,Kq,Kr,Ks,Kt,Ku,Kv,Kw,Kx,Ky,Kz,K0,K1,K2,K3,K4,K5,K6,K7,K8,K9,Ua,Ub,Uc,Ud,Ue,Uf,Ug,Uh,Ui,Uj,Uk,Ul,Um,Un,Uo,Up,Uq,Ur,Us,Ut,Uu,Uv,Uw,Ux,Uy,Uz,U0,U1,U2,U3,U4,U5,U6,U7,U8,U9,Va,Vb,Vc,Vd,Ve,Vf,Vg,Vh,Vi,Vj,Vk,Vl,Vm,Vn,Vo,Vp,Vq,Vr,Vs,Vt,Vu,Vv,Vw,Vx,Vy,Vz,V0,V1,V2,V3,V4,V5,V6,V7,V8,V9,Wa,Wb,Wc,Wd,We,Wf,Wg,Wh,Wi,Wj,Wk,Wl,Wm,Wn,Wo,Wp,Wq,Wr,Ws,Wt,Wu,Wv,Ww,Wx,Wy,Wz,W0,W1,W2,W3,W4,W5,W6,W7,W8,W9,Ha,Hb,Hc,Hd,He,Hf,Hg,Hh,Hi,Hj,Hk,Hl,Hm,Hn,Ho,Hp,Hq,Hr,Hs,Ht,Hu,Hv,Hw,Hx,Hy,Hz,H0,H1,H2,H3,H4,H5,H6,H7,H8,H9,Na,Nb,Nc,Nd,Ne,Nf,Ng,Nh,Ni,Nj,Nk,Nl,Nm,Nn,No,Np,Nq,Nr,Ns,Nt,Nu,Nv,Nw,Nx,Ny,Nz,N0,N1,N2,N3,N4,N5,N6,N7,N8,N9,Ba,Bb,Bc,Bd,Be,Bf,Bg,Bh,Bi,Bj,Bk,Bl,Bm,Bn,Bo,Bp,Bq,Br,Bs,Bt,Bu,Bv,Bw,Bx,By,Bz,BA,BB,BC])
theorem app_set2 (x y z : ARow) : (R ++ [x] ++ [y]).set (R.length + 1) z = R ++ [x] ++ [z] := by
  rw [List.set_append_right _ _ (by simp)]
  simp
theorem melt_end (l : List AV) : amelt (o :: p :: (R ++ [a] ++ [⟨6, 0, true, [l]⟩])) (.own (R.length + 1 + 1 + 1) 0 0 1 1) = some (.data false 6 [l] false, o :: p :: (R ++ [a] ++ [⟨6, 1, true, []⟩])) := by
  have e1 := app_at2 R
  have e2 := app_set2 R
  (sym => simp [Qa,Qb,Qc,Qd,Qe,Qf,Qg,Qh,Qi,Qj,Qk,Ql,Qm,Qn,Qo,Qp,Qq,Qr,Qs,Qt,Qu,Qv,Qw,Qx,Qy,Qz,Q0,Q1,Q2,Q3,Q4,Q5,Q6,Q7,Q8,Q9,Xa,Xb,Xc,Xd,Xe,Xf,Xg,Xh,Xi,Xj,Xk,Xl,Xm,Xn,Xo,Xp,Xq,Xr,Xs,Xt,Xu,Xv,Xw,Xx,Xy,Xz,X0,X1,X2,X3,X4,X5,X6,X7,X8,X9,Ya,Yb,Yc,Yd,Ye,Yf,Yg,Yh,Yi,Yj,Yk,Yl,Ym,Yn,Yo,Yp,Yq,Yr,Ys,Yt,Yu,Yv,Yw,Yx,Yy,Yz,Y0,Y1,Y2,Y3,Y4,Y5,Y6,Y7,Y8,Y9,Za,Zb,Zc,Zd,Ze,Zf,Zg,Zh,Zi,Zj,Zk,Zl,Zm,Zn,Zo,Zp,Zq,Zr,Zs,Zt,Zu,Zv,Zw,Zx,Zy,Zz,Z0,Z1,Z2,Z3,Z4,Z5,Z6,Z7,Z8,Z9,Ja,Jb,Jc,Jd,Je,Jf,Jg,Jh,Ji,Jj,Jk,Jl,Jm,Jn,Jo,Jp,Jq,Jr,Js,Jt,Ju,Jv,Jw,Jx,Jy,Jz,J0,J1,J2,J3,J4,J5,J6,J7,J8,J9,Ka,Kb,Kc,Kd,Ke,Kf,Kg,Kh,Ki,Kj,Kk,Kl,Km,Kn,Ko,Kp,Kq,Kr,Ks,Kt,Ku,Kv,Kw,Kx,Ky,Kz,K0,K1,K2,K3,K4,K5,K6,K7,K8,K9,Ua,Ub,Uc,Ud,Ue,Uf,Ug,Uh,Ui,Uj,Uk,Ul,Um,Un,Uo,Up,Uq,Ur,Us,Ut,Uu,Uv,Uw,Ux,Uy,Uz,U0,U1,U2,U3,U4,U5,U6,U7,U8,U9,Va,Vb,Vc,Vd,Ve,Vf,Vg,Vh,Vi,Vj,Vk,Vl,Vm,Vn,Vo,Vp,Vq,Vr,Vs,Vt,Vu,Vv,Vw,Vx,Vy,Vz,V0,V1,V2,V3,V4,V5,V6,V7,V8,V9,Wa,Wb,Wc,Wd,We,Wf,Wg,Wh,Wi,Wj,Wk,Wl,Wm,Wn,Wo,Wp,Wq,Wr,Ws,Wt,Wu,Wv,Ww,Wx,Wy,Wz,W0,W1,W2,W3,W4,W5,W6,W7,W8,W9,Ha,Hb,Hc,Hd,He,Hf,Hg,Hh,Hi,Hj,Hk,Hl,Hm,Hn,Ho,Hp,Hq,Hr,Hs,Ht,Hu,Hv,Hw,Hx,Hy,Hz,H0,H1,H2,H3,H4,H5,H6,H7,H8,H9,Na,Nb,Nc,Nd,Ne,Nf,Ng,Nh,Ni,Nj,Nk,Nl,Nm,Nn,No,Np,Nq,Nr,Ns,Nt,Nu,Nv,Nw,Nx,Ny,Nz,N0,N1,N2,N3,N4,N5,N6,N7,N8,N9,Ba,Bb,Bc,Bd,Be,Bf,Bg,Bh,Bi,Bj,Bk,Bl,Bm,Bn,Bo,Bp,Bq,Br,Bs,Bt,Bu,Bv,Bw,Bx,By,Bz,BA,BB,BC,e1,e2])

theorem melt_csi (b : ARow) (c m : Int) (s : ByteArray) (q : List Int) (x : Int) : amelt [o, p, ⟨1, 0, true, ints q ++ [[.int .i64 x]]⟩, b, ⟨6, 0, false, [[.int .i64 4, .int .i32 c, .int .i32 m, .str s, .own 2 0 0 (min (q.length + 1) 16) (q.length + 1), .data false 1 [] true]]⟩] (.own 4 0 0 1 1) =
    some (.data false 6 [[.int .i64 4, .int .i32 c, .int .i32 m, .str s, .data false 1 (ints ((q ++ [x]).take 16)) false, .data false 1 [] true]] false, [o, p, ⟨1, 1, true, []⟩, b, ⟨6, 1, true, []⟩]) := by
  have e1 : min (q.length + 1) 16 ≤ (ints q).length + 1 := by rw [ints_len]; omega
  have e2 : (ints q ++ [[AV.int .i64 x]]).take (min (q.length + 1) 16) = ints ((q ++ [x]).take 16) := by
    rw [show ints q ++ [[AV.int .i64 x]] = ints (q ++ [x]) from (by simp [ints]), ints_take]
    congr 1
    rcases Nat.le_total (q.length + 1) 16 with h | h
    · rw [Nat.min_eq_left h, List.take_of_length_le (by simp), List.take_of_length_le (by simpa using h)]
    · rw [Nat.min_eq_right h]
  (sym => simp [Qa,Qb,Qc,Qd,Qe,Qf,Qg,Qh,Qi,Qj,Qk,Ql,Qm,Qn,Qo,Qp,Qq,Qr,Qs,Qt,Qu,Qv,Qw,Qx,Qy,Qz,Q0,Q1,Q2,Q3,Q4,Q5,Q6,Q7,Q8,Q9,Xa,Xb,Xc,Xd,Xe,Xf,Xg,Xh,Xi,Xj,Xk,Xl,Xm,Xn,Xo,Xp,Xq,Xr,Xs,Xt,Xu,Xv,Xw,Xx,Xy,Xz,X0,X1,X2,X3,X4,X5,X6,X7,X8,X9,Ya,Yb,Yc,Yd,Ye,Yf,Yg,Yh,Yi,Yj,Yk,Yl,Ym,Yn,Yo,Yp,Yq,Yr,Ys,Yt,Yu,Yv,Yw,Yx,Yy,Yz,Y0,Y1,Y2,Y3,Y4,Y5,Y6,Y7,Y8,Y9,Za,Zb,Zc,Zd,Ze,Zf,Zg,Zh,Zi,Zj,Zk,Zl,Zm,Zn,Zo,Zp,Zq,Zr,Zs,Zt,Zu,Zv,Zw,Zx,Zy,Zz,Z0,Z1,Z2,Z3,Z4,Z5,Z6,Z7,Z8,Z9,Ja,Jb,Jc,Jd,Je,Jf,Jg,Jh,Ji,Jj,Jk,Jl,Jm,Jn,Jo,Jp,Jq,Jr,Js,Jt,Ju,Jv,Jw,Jx,Jy,Jz,J0,J1,J2,J3,J4,J5,J6,J7,J8,J9,Ka,Kb,Kc,Kd,Ke,Kf,Kg,Kh,Ki,Kj,Kk,Kl,Km,Kn,Ko,Kp,Kq,Kr,Ks,Kt,Ku,Kv,Kw,Kx,Ky,Kz,K0,K1,K2,K3,K4,K5,K6,K7,K8,K9,Ua,Ub,Uc,Ud,Ue,Uf,Ug,Uh,Ui,Uj,Uk,Ul,Um,Un,Uo,Up,Uq,Ur,Us,Ut,Uu,Uv,Uw,Ux,Uy,Uz,U0,U1,U2,U3,U4,U5,U6,U7,U8,U9,Va,Vb,Vc,Vd,Ve,Vf,Vg,Vh,Vi,Vj,Vk,Vl,Vm,Vn,Vo,Vp,Vq,Vr,Vs,Vt,Vu,Vv,Vw,Vx,Vy,Vz,V0,V1,V2,V3,V4,V5,V6,V7,V8,V9,Wa,Wb,Wc,Wd,We,Wf,Wg,Wh,Wi,Wj,Wk,Wl,Wm,Wn,Wo,Wp,Wq,Wr,Ws,Wt,Wu,Wv,Ww,Wx,Wy,Wz,W0,W1,W2,W3,W4,W5,W6,W7,W8,W9,Ha,Hb,Hc,Hd,He,Hf,Hg,Hh,Hi,Hj,Hk,Hl,Hm,Hn,Ho,Hp,Hq,Hr,Hs,Ht,Hu,Hv,Hw,Hx,Hy,Hz,H0,H1,H2,H3,H4,H5,H6,H7,H8,H9,Na,Nb,Nc,Nd,Ne,Nf,Ng,Nh,Ni,Nj,Nk,Nl,Nm,Nn,No,Np,Nq,Nr,Ns,Nt,Nu,Nv,Nw,Nx,Ny,Nz,N0,N1,N2,N3,N4,N5,N6,N7,N8,N9,Ba,Bb,Bc,Bd,Be,Bf,Bg,Bh,Bi,Bj,Bk,Bl,Bm,Bn,Bo,Bp,Bq,Br,Bs,Bt,Bu,Bv,Bw,Bx,By,Bz,BA,BB,BC,e1,e2])
theorem melt_osc0 : amelt [o, p, ⟨1, 0, true, []⟩, ⟨6, 0, false, [[.int .i64 5, .int .i32 0, .int .i32 0, .str ⟨#[]⟩, .data false 1 [] true, .own 2 0 0 0 0]]⟩] (.own 3 0 0 1 1) = some (.data false 6 [[.int .i64 5, .int .i32 0, .int .i32 0, .str ⟨#[]⟩, .data false 1 [] true, .data false 1 [] false]] false, [o, p, ⟨1, 1, true, []⟩, ⟨6, 1, true, []⟩]) := by
  (sym => simp [Qa,Qb,Qc,Qd,Qe,Qf,Qg,Qh,Qi,Qj,Qk,Ql,Qm,Qn,Qo,Qp,Qq,Qr,Qs,Qt,Qu,Qv,Qw,Qx,Qy,Qz,Q0,Q1,Q2,Q3,Q4,Q5,Q6,Q7,Q8,Q9,Xa,Xb,Xc,Xd,Xe,Xf,Xg,Xh,Xi,Xj,Xk,Xl,Xm,Xn,Xo,Xp,Xq,Xr,Xs,Xt,Xu,Xv,Xw,Xx,Xy,Xz,X0,X1,X2,X3,X4,X5,X6,X7,X8,X9,Ya,Yb,Yc,Yd,Ye,Yf,Yg,Yh,Yi,Yj,Yk,Yl,Ym,Yn,Yo,Yp,Yq,Yr,Ys,Yt,Yu,Yv,Yw,Yx,Yy,Yz,Y0,Y1,Y2,Y3,Y4,Y5,Y6,Y7,Y8,Y9,Za,Zb,Zc,Zd,Ze,Zf,Zg,Zh,Zi,Zj,Zk,Zl,Zm,Zn,Zo,Zp,Zq,Zr,Zs,Zt,Zu,Zv,Zw,Zx,Zy,Zz,Z0,Z1,Z2,Z3,Z4,Z5,Z6,Z7,Z8,Z9,Ja,Jb,Jc,Jd,Je,Jf,Jg,Jh,Ji,Jj,Jk,Jl,Jm,Jn,Jo,Jp,Jq,Jr,Js,Jt,Ju,Jv,Jw,Jx,Jy,Jz,J0,J1,J2,J3,J4,J5,J6,J7,J8,J9,Ka,Kb,Kc,Kd,Ke,Kf,Kg,Kh,Ki,Kj,Kk,Kl,Km,Kn,Ko,Kp,Kq,Kr,Ks,Kt,Ku,Kv,Kw,Kx,Ky,Kz,K0,K1,K2,K3,K4,K5,K6,K7,K8,K9,Ua,Ub,Uc,Ud,Ue,Uf,Ug,Uh,Ui,Uj,Uk,Ul,Um,Un,Uo,Up,Uq,Ur,Us,Ut,Uu,Uv,Uw,Ux,Uy,Uz,U0,U1,U2,U3,U4,U5,U6,U7,U8,U9,Va,Vb,Vc,Vd,Ve,Vf,Vg,Vh,Vi,Vj,Vk,Vl,Vm,Vn,Vo,Vp,Vq,Vr,Vs,Vt,Vu,Vv,Vw,Vx,Vy,Vz,V0,V1,V2,V3,V4,V5,V6,V7,V8,V9,Wa,Wb,Wc,Wd,We,Wf,Wg,Wh,Wi,Wj,Wk,Wl,Wm,Wn,Wo,Wp,Wq,Wr,Ws,Wt,Wu,Wv,Ww,Wx,Wy,Wz,W0,W1,W2,W3,W4,W5,W6,W7,W8,W9,Ha,Hb,Hc,Hd,He,Hf,Hg,Hh,Hi,Hj,Hk,Hl,Hm,Hn,Ho,Hp,Hq,Hr,Hs,Ht,Hu,Hv,Hw,Hx,Hy,Hz,H0,H1,H2,H3,H4,H5,H6,H7,H8,H9,Na,Nb,Nc,Nd,Ne,Nf,Ng,Nh,Ni,Nj,Nk,Nl,Nm,Nn,No,Np,Nq,Nr,Ns,Nt,Nu,Nv,Nw,Nx,Ny,Nz,N0,N1,N2,N3,N4,N5,N6,N7,N8,N9,Ba,Bb,Bc,Bd,Be,Bf,Bg,Bh,Bi,Bj,Bk,Bl,Bm,Bn,Bo,Bp,Bq,Br,Bs,Bt,Bu,Bv,Bw,Bx,By,Bz,BA,BB,BC])
theorem melt_osc1 (ts : List Int) : amelt [o, p, a, ⟨1, 0, true, rn ts⟩, ⟨6, 0, false, [[.int .i64 5, .int .i32 0, .int .i32 0, .str ⟨#[]⟩, .data false 1 [] true, .own 3 0 0 ts.length ts.length]]⟩] (.own 4 0 0 1 1) = some (.data false 6 [[.int .i64 5, .int .i32 0, .int .i32 0, .str ⟨#[]⟩, .data false 1 [] true, .data false 1 (rn ts) false]] false, [o, p, a, ⟨1, 1, true, []⟩, ⟨6, 1, true, []⟩]) := by
  have l1 := rn_len ts
  have l2 := rn_take ts
  (sym => simp [Qa,Qb,Qc,Qd,Qe,Qf,Qg,Qh,Qi,Qj,Qk,Ql,Qm,Qn,Qo,Qp,Qq,Qr,Qs,Qt,Qu,Qv,Qw,Qx,Qy,Qz,Q0,Q1,Q2,Q3,Q4,Q5,Q6,Q7,Q8,Q9,Xa,Xb,Xc,Xd,Xe,Xf,Xg,Xh,Xi,Xj,Xk,Xl,Xm,Xn,Xo,Xp,Xq,Xr,Xs,Xt,Xu,Xv,Xw,Xx,Xy,Xz,X0,X1,X2,X3,X4,X5,X6,X7,X8,X9,Ya,Yb,Yc,Yd,Ye,Yf,Yg,Yh,Yi,Yj,Yk,Yl,Ym,Yn,Yo,Yp,Yq,Yr,Ys,Yt,Yu,Yv,Yw,Yx,Yy,Yz,Y0,Y1,Y2,Y3,Y4,Y5,Y6,Y7,Y8,Y9,Za,Zb,Zc,Zd,Ze,Zf,Zg,Zh,Zi,Zj,Zk,Zl,Zm,Zn,Zo,Zp,Zq,Zr,Zs,Zt,Zu,Zv,Zw,Zx,Zy,Zz,Z0,Z1,Z2,Z3,Z4,Z5,Z6,Z7,Z8,Z9,Ja,Jb,Jc,Jd,Je,Jf,Jg,Jh,Ji,Jj,Jk,Jl,Jm,Jn,Jo,Jp,Jq,Jr,Js,Jt,Ju,Jv,Jw,Jx,Jy,Jz,J0,J1,J2,J3,J4,J5,J6,J7,J8,J9,Ka,Kb,Kc,Kd,Ke,Kf,Kg,Kh,Ki,Kj,Kk,Kl,Km,Kn,Ko,Kp,Kq,Kr,Ks,Kt,Ku,Kv,Kw,Kx,Ky,Kz,K0,K1,K2,K3,K4,K5,K6,K7,K8,K9,Ua,Ub,Uc,Ud,Ue,Uf,Ug,Uh,Ui,Uj,Uk,Ul,Um,Un,Uo,Up,Uq,Ur,Us,Ut,Uu,Uv,Uw,Ux,Uy,Uz,U0,U1,U2,U3,U4,U5,U6,U7,U8,U9,Va,Vb,Vc,Vd,Ve,Vf,Vg,Vh,Vi,Vj,Vk,Vl,Vm,Vn,Vo,Vp,Vq,Vr,Vs,Vt,Vu,Vv,Vw,Vx,Vy,Vz,V0,V1,V2,V3,V4,V5,V6,V7,V8,V9,Wa,Wb,Wc,Wd,We,Wf,Wg,Wh,Wi,Wj,Wk,Wl,Wm,Wn,Wo,Wp,Wq,Wr,Ws,Wt,Wu,Wv,Ww,Wx,Wy,Wz,W0,W1,W2,W3,W4,W5,W6,W7,W8,W9,Ha,Hb,Hc,Hd,He,Hf,Hg,Hh,Hi,Hj,Hk,Hl,Hm,Hn,Ho,Hp,Hq,Hr,Hs,Ht,Hu,Hv,Hw,Hx,Hy,Hz,H0,H1,H2,H3,H4,H5,H6,H7,H8,H9,Na,Nb,Nc,Nd,Ne,Nf,Ng,Nh,Ni,Nj,Nk,Nl,Nm,Nn,No,Np,Nq,Nr,Ns,Nt,Nu,Nv,Nw,Nx,Ny,Nz,N0,N1,N2,N3,N4,N5,N6,N7,N8,N9,Ba,Bb,Bc,Bd,Be,Bf,Bg,Bh,Bi,Bj,Bk,Bl,Bm,Bn,Bo,Bp,Bq,Br,Bs,Bt,Bu,Bv,Bw,Bx,By,Bz,BA,BB,BC,l1,l2])
end Go.Proofs.Ytkkcblfoaldckaa
