/- The Vt texts for the parser at row 0, nothing ahead of it (printed by gen/fam.py). Conditions: none. -/
import Derived.Test.YtkkcblfoaldckaaVtB
set_option linter.unusedVariables false
set_option linter.unusedSimpArgs false
set_option linter.unusedSectionVars false
set_option maxRecDepth 20000
set_option maxHeartbeats 4000000
namespace Go.Proofs.Ytkkcblfoaldckaa
open Go
section
variable (G : Nat → Option (List AV))
variable (o : ARow) (fl str told first void asked : Bool) (mark : Int) (s : ByteArray) (step pv tv : AV) (R : List ARow)
include o
theorem between_2b (c : Int) (hs : s.size = 2) : aR G FT n_vt_Parser_between [.ptr 0 0 0 0, .int .i32 c] (⟨10, 0, fl, [[step, .bool str, .bool told, .bool first, .bool void, .bool asked, .int .i32 mark, .str s, pv, tv]]⟩ :: R) =
    some (.tup [], ⟨10, 0, fl, [[step, .bool str, .bool told, .bool first, .bool true, .bool asked, .int .i32 mark, .str s, pv, tv]]⟩ :: R) := by
  rw [run_vt_Parser_between]
  (sym => simp [Qb,Qd,Qe,Qi,Qj,Qr,Qt,Q4,Q5,Q6,Q9,Xa,Xp,Xy,X8,Yi,Yr,Yt,Yv,Y1,Y4,Y9,Za,Zb,Zc,Zd,Ze,Zg,Zh,Zi,Zj,Zk,Zl,Zm,Zn,Zr,Zs,Zt,Zu,Zv,Zw,Zy,Z0,Z1,Jj,Jk,Jl,Jr,Jv,Jx,J4,Hh,Hi,Hk,Hl,Nl,No,Be,Bh,q25R0.eq_1,q25R1.eq_1,q25R2.eq_1,c_vt_Parser_between.eq_1,hs])
theorem between_1b (c : Int) (hs : ¬ s.size = 2) (h2 : s.size ≤ 2) (hc : (Utf8.encode c).size ≤ 4) : aR G FT n_vt_Parser_between [.ptr 0 0 0 0, .int .i32 c] (⟨10, 0, fl, [[step, .bool str, .bool told, .bool first, .bool void, .bool asked, .int .i32 mark, .str s, pv, tv]]⟩ :: R) =
    some (.tup [], ⟨10, 0, fl, [[step, .bool str, .bool told, .bool first, .bool void, .bool asked, .int .i32 mark, .str (s ++ Utf8.encode c), pv, tv]]⟩ :: R) := by
  rw [run_vt_Parser_between]
  have hs' : ¬ (s.size : Int) = 2 := by omega
  have h3 : ¬ IntKind.i64.max < ((s.size + (Utf8.encode c).size : Nat) : Int) := by have : IntKind.i64.max = 9223372036854775807 := rfl; omega
  (sym => simp [Qc,Qd,Qe,Qi,Qj,Qr,Qt,Q4,Q5,Q6,Q9,Xa,Xe,Xh,Xp,Xy,X8,Yi,Yr,Yt,Yv,Y1,Y4,Y9,Za,Zb,Zc,Zd,Ze,Zg,Zh,Zi,Zj,Zk,Zl,Zm,Zn,Zr,Zs,Zt,Zu,Zv,Zw,Zy,Z0,Z1,Z3,Jj,Jk,Jr,Jv,Jw,J5,Kc,Hh,Hi,Hk,Hl,Nm,No,Be,q25R0.eq_1,q25R1.eq_1,q25R2.eq_1,c_vt_Parser_between.eq_1,hs,hs',h3])
end
section
variable (G : Nat → Option (List AV)) (o : ARow) (fl : Bool) (R : List ARow)
include o
theorem esc_mid2b (c : Int) (v : Bool) (s : ByteArray) (h1 : c < 48) (h2 : s.size = 2) : aR G FT n_vt_escape [.ptr 0 0 0 0, .int .i32 c] (⟨10, 0, fl, [[.fn (.func n_vt_escape) [] [], .bool false, .bool false, .bool false, .bool v, .bool false, .int .i32 0, .str s, .data false 1 [] true, .data false 1 [] true]]⟩ :: R) = some (.data false 6 [] true, (⟨10, 0, fl, [[.fn (.func n_vt_escape) [] [], .bool false, .bool false, .bool false, .bool true, .bool false, .int .i32 0, .str s, .data false 1 [] true, .data false 1 [] true]]⟩ :: R)) := by
  rw [run_vt_escape]
  have hb := between_2b G o fl false false false v false 0 s (.fn (.func n_vt_escape) [] []) (.data false 1 [] true) (.data false 1 [] true) R c h2
  (sym => simp [Qb,Qd,Qe,Qi,Qj,Qm,Qn,Qo,Qr,Qt,Xa,Ya,Y1,Y5,Y7,Y9,Za,Zb,Zc,Ze,Zg,Zh,Zi,Zj,Zk,Zl,Zn,Zq,Zr,Zs,Zt,Zu,Zv,Zw,Jj,Jk,Jl,Jr,Jv,Jx,Nl,Be,q29R0.eq_1,q29R1.eq_1,q29R2.eq_1,q29R3.eq_1,q29R4.eq_1,q29R5.eq_1,q29R6.eq_1,q29R7.eq_1,q29R8.eq_1,q29R9.eq_1,q29R10.eq_1,q29R11.eq_1,q29R12.eq_1,q29R13.eq_1,q29R14.eq_1,q29R15.eq_1,q29R16.eq_1,q29R17.eq_1,q29R18.eq_1,q29R19.eq_1,q29R20.eq_1,q29R21.eq_1,q29R22.eq_1,c_vt_escape.eq_1,h1,hb])
theorem esc_mid1b (c : Int) (v : Bool) (s : ByteArray) (h1 : c < 48) (h0 : 32 ≤ c) (h2 : ¬ s.size = 2) (h3 : s.size ≤ 2) : aR G FT n_vt_escape [.ptr 0 0 0 0, .int .i32 c] (⟨10, 0, fl, [[.fn (.func n_vt_escape) [] [], .bool false, .bool false, .bool false, .bool v, .bool false, .int .i32 0, .str s, .data false 1 [] true, .data false 1 [] true]]⟩ :: R) = some (.data false 6 [] true, (⟨10, 0, fl, [[.fn (.func n_vt_escape) [] [], .bool false, .bool false, .bool false, .bool v, .bool false, .int .i32 0, .str (s ++ Utf8.encode c), .data false 1 [] true, .data false 1 [] true]]⟩ :: R)) := by
  rw [run_vt_escape]
  have hb := between_1b G o fl false false false v false 0 s (.fn (.func n_vt_escape) [] []) (.data false 1 [] true) (.data false 1 [] true) R c h2 h3 (by rw [utf1 h0 h1]; omega)
  (sym => simp [Qb,Qd,Qe,Qi,Qj,Qm,Qn,Qo,Qr,Qt,Xa,Ya,Y1,Y5,Y7,Y9,Za,Zb,Zc,Ze,Zg,Zh,Zi,Zj,Zk,Zl,Zn,Zq,Zr,Zs,Zt,Zu,Zv,Zw,Jj,Jk,Jl,Jr,Jv,Jx,Nl,Be,q29R0.eq_1,q29R1.eq_1,q29R2.eq_1,q29R3.eq_1,q29R4.eq_1,q29R5.eq_1,q29R6.eq_1,q29R7.eq_1,q29R8.eq_1,q29R9.eq_1,q29R10.eq_1,q29R11.eq_1,q29R12.eq_1,q29R13.eq_1,q29R14.eq_1,q29R15.eq_1,q29R16.eq_1,q29R17.eq_1,q29R18.eq_1,q29R19.eq_1,q29R20.eq_1,q29R21.eq_1,q29R22.eq_1,c_vt_escape.eq_1,h1,hb])
theorem esc_seqb (c : Int) (v : Bool) (s : ByteArray) (h1 : c = 91) : aR G FT n_vt_escape [.ptr 0 0 0 0, .int .i32 c] (⟨10, 0, fl, [[.fn (.func n_vt_escape) [] [], .bool false, .bool false, .bool false, .bool v, .bool false, .int .i32 0, .str ⟨#[]⟩, .data false 1 [] true, .data false 1 [] true]]⟩ :: R) = some (.data false 6 [] true, (⟨10, 0, fl, [[.fn (.func n_vt_sequence) [] [], .bool false, .bool false, .bool true, .bool false, .bool false, .int .i32 0, .str ⟨#[]⟩, .data false 1 [] true, .data false 1 [] true]]⟩ :: R)) := by
  rw [run_vt_escape]
  subst h1
  have e0 : (({ data := #[] } : ByteArray) == { data := #[] }) = true := rfl
  (sym => simp [Qa,Qb,Qc,Qd,Qe,Qi,Qj,Ql,Qr,Qt,Qx,Qy,Q1,Q4,Q5,Q6,Q9,Xa,Xb,Xp,X8,Ya,Yl,Yq,Yr,Yt,Yv,Y1,Y5,Y7,Y9,Za,Zb,Zc,Zd,Ze,Zg,Zh,Zi,Zj,Zk,Zl,Zm,Zn,Zr,Zs,Zt,Zu,Zv,Zw,Zy,Z0,Z1,Z3,Jh,Jj,Jk,Jl,Jm,Jn,Jp,Jq,Jr,Jv,Jx,J1,J2,Kj,Kn,K8,K9,Ue,Uf,Ug,Uh,Ui,Ul,Uo,Hh,Hi,Hk,Ho,Hp,Hr,Hs,Ht,Hu,Hv,Hw,Nl,Nm,No,Nx,Nz,N0,Be,q29R0.eq_1,q29R1.eq_1,q29R2.eq_1,q29R3.eq_1,q29R4.eq_1,q29R5.eq_1,q29R6.eq_1,q29R7.eq_1,q29R8.eq_1,q29R9.eq_1,q29R10.eq_1,q29R11.eq_1,q29R12.eq_1,q29R13.eq_1,q29R14.eq_1,q29R15.eq_1,q29R16.eq_1,q29R17.eq_1,q29R18.eq_1,q29R19.eq_1,q29R20.eq_1,q29R21.eq_1,q29R22.eq_1,c_vt_escape.eq_1,e0])
theorem esc_oscb (c : Int) (v : Bool) (s : ByteArray) (h1 : c = 93) : aR G FT n_vt_escape [.ptr 0 0 0 0, .int .i32 c] (⟨10, 0, fl, [[.fn (.func n_vt_escape) [] [], .bool false, .bool false, .bool false, .bool v, .bool false, .int .i32 0, .str ⟨#[]⟩, .data false 1 [] true, .data false 1 [] true]]⟩ :: R) = some (.data false 6 [] true, (⟨10, 0, fl, [[.fn (.func n_vt_text) [] [], .bool true, .bool true, .bool false, .bool false, .bool false, .int .i32 0, .str ⟨#[]⟩, .data false 1 [] true, .data false 1 [] true]]⟩ :: R)) := by
  rw [run_vt_escape]
  subst h1
  have e0 : (({ data := #[] } : ByteArray) == { data := #[] }) = true := rfl
  (sym => simp [Qa,Qb,Qc,Qd,Qe,Qi,Qj,Ql,Qr,Qt,Qx,Qy,Q1,Q4,Q5,Q6,Q9,Xa,Xb,Xp,X8,Ya,Yl,Yq,Yr,Yt,Yv,Y1,Y5,Y7,Y9,Za,Zb,Zc,Zd,Ze,Zg,Zh,Zi,Zj,Zk,Zl,Zm,Zn,Zr,Zs,Zt,Zu,Zv,Zw,Zy,Z0,Z1,Z3,Jh,Jj,Jk,Jl,Jm,Jn,Jo,Jp,Jq,Jr,Jv,Jx,J1,J2,J4,Kj,Kn,K8,K9,Ue,Uf,Ug,Uh,Ui,Ul,Uo,Hh,Hi,Hk,Hl,Ho,Hp,Hr,Hs,Ht,Hu,Hv,Hw,Nl,Nm,No,Nx,Nz,N0,Be,q29R0.eq_1,q29R1.eq_1,q29R2.eq_1,q29R3.eq_1,q29R4.eq_1,q29R5.eq_1,q29R6.eq_1,q29R7.eq_1,q29R8.eq_1,q29R9.eq_1,q29R10.eq_1,q29R11.eq_1,q29R12.eq_1,q29R13.eq_1,q29R14.eq_1,q29R15.eq_1,q29R16.eq_1,q29R17.eq_1,q29R18.eq_1,q29R19.eq_1,q29R20.eq_1,q29R21.eq_1,q29R22.eq_1,c_vt_escape.eq_1,e0])
theorem esc_str80b (c : Int) (v : Bool) (s : ByteArray) (h1 : c = 80) : aR G FT n_vt_escape [.ptr 0 0 0 0, .int .i32 c] (⟨10, 0, fl, [[.fn (.func n_vt_escape) [] [], .bool false, .bool false, .bool false, .bool v, .bool false, .int .i32 0, .str ⟨#[]⟩, .data false 1 [] true, .data false 1 [] true]]⟩ :: R) = some (.data false 6 [] true, (⟨10, 0, fl, [[.fn (.func n_vt_text) [] [], .bool true, .bool false, .bool false, .bool false, .bool false, .int .i32 0, .str ⟨#[]⟩, .data false 1 [] true, .data false 1 [] true]]⟩ :: R)) := by
  rw [run_vt_escape]
  subst h1
  have e0 : (({ data := #[] } : ByteArray) == { data := #[] }) = true := rfl
  (sym => simp [Qa,Qb,Qc,Qd,Qe,Qi,Qj,Ql,Qr,Qt,Qx,Qy,Q1,Q4,Q5,Q6,Q9,Xa,Xb,Xp,X8,Ya,Yl,Yq,Yr,Yt,Yv,Y1,Y5,Y7,Y9,Za,Zb,Zc,Zd,Ze,Zg,Zh,Zi,Zj,Zk,Zl,Zm,Zn,Zr,Zs,Zt,Zu,Zv,Zw,Zy,Z0,Z1,Z3,Jh,Jj,Jk,Jl,Jm,Jn,Jp,Jq,Jr,Jv,Jx,J1,J2,Kj,Kn,K8,K9,Ue,Uf,Ug,Uh,Ui,Ul,Uo,Hh,Hi,Hk,Ho,Hp,Hr,Hs,Ht,Hu,Hv,Hw,Nl,Nm,No,Nx,Nz,N0,Be,q29R0.eq_1,q29R1.eq_1,q29R2.eq_1,q29R3.eq_1,q29R4.eq_1,q29R5.eq_1,q29R6.eq_1,q29R7.eq_1,q29R8.eq_1,q29R9.eq_1,q29R10.eq_1,q29R11.eq_1,q29R12.eq_1,q29R13.eq_1,q29R14.eq_1,q29R15.eq_1,q29R16.eq_1,q29R17.eq_1,q29R18.eq_1,q29R19.eq_1,q29R20.eq_1,q29R21.eq_1,q29R22.eq_1,c_vt_escape.eq_1,e0])
theorem esc_str88b (c : Int) (v : Bool) (s : ByteArray) (h1 : c = 88) : aR G FT n_vt_escape [.ptr 0 0 0 0, .int .i32 c] (⟨10, 0, fl, [[.fn (.func n_vt_escape) [] [], .bool false, .bool false, .bool false, .bool v, .bool false, .int .i32 0, .str ⟨#[]⟩, .data false 1 [] true, .data false 1 [] true]]⟩ :: R) = some (.data false 6 [] true, (⟨10, 0, fl, [[.fn (.func n_vt_text) [] [], .bool true, .bool false, .bool false, .bool false, .bool false, .int .i32 0, .str ⟨#[]⟩, .data false 1 [] true, .data false 1 [] true]]⟩ :: R)) := by
  rw [run_vt_escape]
  subst h1
  have e0 : (({ data := #[] } : ByteArray) == { data := #[] }) = true := rfl
  (sym => simp [Qa,Qb,Qc,Qd,Qe,Qi,Qj,Ql,Qr,Qt,Qx,Qy,Q1,Q4,Q5,Q6,Q9,Xa,Xb,Xp,X8,Ya,Yl,Yq,Yr,Yt,Yv,Y1,Y5,Y7,Y9,Za,Zb,Zc,Zd,Ze,Zg,Zh,Zi,Zj,Zk,Zl,Zm,Zn,Zr,Zs,Zt,Zu,Zv,Zw,Zy,Z0,Z1,Z3,Jh,Jj,Jk,Jl,Jm,Jn,Jp,Jq,Jr,Jv,Jx,J1,J2,Kj,Kn,K8,K9,Ue,Uf,Ug,Uh,Ui,Ul,Uo,Hh,Hi,Hk,Ho,Hp,Hr,Hs,Ht,Hu,Hv,Hw,Nl,Nm,No,Nx,Nz,N0,Be,q29R0.eq_1,q29R1.eq_1,q29R2.eq_1,q29R3.eq_1,q29R4.eq_1,q29R5.eq_1,q29R6.eq_1,q29R7.eq_1,q29R8.eq_1,q29R9.eq_1,q29R10.eq_1,q29R11.eq_1,q29R12.eq_1,q29R13.eq_1,q29R14.eq_1,q29R15.eq_1,q29R16.eq_1,q29R17.eq_1,q29R18.eq_1,q29R19.eq_1,q29R20.eq_1,q29R21.eq_1,q29R22.eq_1,c_vt_escape.eq_1,e0])
theorem esc_str94b (c : Int) (v : Bool) (s : ByteArray) (h1 : c = 94) : aR G FT n_vt_escape [.ptr 0 0 0 0, .int .i32 c] (⟨10, 0, fl, [[.fn (.func n_vt_escape) [] [], .bool false, .bool false, .bool false, .bool v, .bool false, .int .i32 0, .str ⟨#[]⟩, .data false 1 [] true, .data false 1 [] true]]⟩ :: R) = some (.data false 6 [] true, (⟨10, 0, fl, [[.fn (.func n_vt_text) [] [], .bool true, .bool false, .bool false, .bool false, .bool false, .int .i32 0, .str ⟨#[]⟩, .data false 1 [] true, .data false 1 [] true]]⟩ :: R)) := by
  rw [run_vt_escape]
  subst h1
  have e0 : (({ data := #[] } : ByteArray) == { data := #[] }) = true := rfl
  (sym => simp [Qa,Qb,Qc,Qd,Qe,Qi,Qj,Ql,Qr,Qt,Qx,Qy,Q1,Q4,Q5,Q6,Q9,Xa,Xb,Xp,X8,Ya,Yl,Yq,Yr,Yt,Yv,Y1,Y5,Y7,Y9,Za,Zb,Zc,Zd,Ze,Zg,Zh,Zi,Zj,Zk,Zl,Zm,Zn,Zr,Zs,Zt,Zu,Zv,Zw,Zy,Z0,Z1,Z3,Jh,Jj,Jk,Jl,Jm,Jn,Jp,Jq,Jr,Jv,Jx,J1,J2,Kj,Kn,K8,K9,Ue,Uf,Ug,Uh,Ui,Ul,Uo,Hh,Hi,Hk,Ho,Hp,Hr,Hs,Ht,Hu,Hv,Hw,Nl,Nm,No,Nx,Nz,N0,Be,q29R0.eq_1,q29R1.eq_1,q29R2.eq_1,q29R3.eq_1,q29R4.eq_1,q29R5.eq_1,q29R6.eq_1,q29R7.eq_1,q29R8.eq_1,q29R9.eq_1,q29R10.eq_1,q29R11.eq_1,q29R12.eq_1,q29R13.eq_1,q29R14.eq_1,q29R15.eq_1,q29R16.eq_1,q29R17.eq_1,q29R18.eq_1,q29R19.eq_1,q29R20.eq_1,q29R21.eq_1,q29R22.eq_1,c_vt_escape.eq_1,e0])
theorem esc_str95b (c : Int) (v : Bool) (s : ByteArray) (h1 : c = 95) : aR G FT n_vt_escape [.ptr 0 0 0 0, .int .i32 c] (⟨10, 0, fl, [[.fn (.func n_vt_escape) [] [], .bool false, .bool false, .bool false, .bool v, .bool false, .int .i32 0, .str ⟨#[]⟩, .data false 1 [] true, .data false 1 [] true]]⟩ :: R) = some (.data false 6 [] true, (⟨10, 0, fl, [[.fn (.func n_vt_text) [] [], .bool true, .bool false, .bool false, .bool false, .bool false, .int .i32 0, .str ⟨#[]⟩, .data false 1 [] true, .data false 1 [] true]]⟩ :: R)) := by
  rw [run_vt_escape]
  subst h1
  have e0 : (({ data := #[] } : ByteArray) == { data := #[] }) = true := rfl
  (sym => simp [Qa,Qb,Qc,Qd,Qe,Qi,Qj,Ql,Qr,Qt,Qx,Qy,Q1,Q4,Q5,Q6,Q9,Xa,Xb,Xp,X8,Ya,Yl,Yq,Yr,Yt,Yv,Y1,Y5,Y7,Y9,Za,Zb,Zc,Zd,Ze,Zg,Zh,Zi,Zj,Zk,Zl,Zm,Zn,Zr,Zs,Zt,Zu,Zv,Zw,Zy,Z0,Z1,Z3,Jh,Jj,Jk,Jl,Jm,Jn,Jp,Jq,Jr,Jv,Jx,J1,J2,Kj,Kn,K8,K9,Ue,Uf,Ug,Uh,Ui,Ul,Uo,Hh,Hi,Hk,Ho,Hp,Hr,Hs,Ht,Hu,Hv,Hw,Nl,Nm,No,Nx,Nz,N0,Be,q29R0.eq_1,q29R1.eq_1,q29R2.eq_1,q29R3.eq_1,q29R4.eq_1,q29R5.eq_1,q29R6.eq_1,q29R7.eq_1,q29R8.eq_1,q29R9.eq_1,q29R10.eq_1,q29R11.eq_1,q29R12.eq_1,q29R13.eq_1,q29R14.eq_1,q29R15.eq_1,q29R16.eq_1,q29R17.eq_1,q29R18.eq_1,q29R19.eq_1,q29R20.eq_1,q29R21.eq_1,q29R22.eq_1,c_vt_escape.eq_1,e0])
theorem esc_fin_voidb (c : Int) (v : Bool) (s : ByteArray) (h1 : ¬ c < 48) (h2 : ¬ s.size = 0) : aR G FT n_vt_escape [.ptr 0 0 0 0, .int .i32 c] (⟨10, 0, fl, [[.fn (.func n_vt_escape) [] [], .bool false, .bool false, .bool false, .bool true, .bool false, .int .i32 0, .str s, .data false 1 [] true, .data false 1 [] true]]⟩ :: R) = some (.data false 6 [] true, (⟨10, 0, fl, [[.nilfn, .bool false, .bool false, .bool false, .bool false, .bool false, .int .i32 0, .str ⟨#[]⟩, .data false 1 [] true, .data false 1 [] true]]⟩ :: (R ++ [⟨6, 0, true, [[.int .i64 3, .int .i32 c, .int .i32 0, .str s, .data false 1 [] true, .data false 1 [] true]]⟩]))) := by
  rw [run_vt_escape]
  have e0 : (s == { data := #[] }) = false := by
    exact ba_ne h2
  (sym => simp [Qb,Qc,Qd,Qe,Qi,Qj,Qr,Qt,Qv,Qx,Qy,Q1,Q4,Q5,Q6,Q9,Xa,Xb,Xp,Ya,Yk,Ym,Yr,Yt,Yv,Y1,Y5,Y7,Y9,Za,Zb,Zc,Zd,Ze,Zg,Zh,Zi,Zj,Zk,Zl,Zm,Zn,Zr,Zs,Zt,Zu,Zv,Zw,Zy,Z0,Z1,Z3,Jh,Jj,Jk,Jl,Jr,Jv,Jx,J1,J2,Kj,Kn,K8,K9,Ue,Uf,Ug,Uh,Ui,Uj,Ul,Hh,Hi,Hk,Hl,Ho,Hp,Hr,Hs,Ht,Hu,Hv,Hw,Nm,No,Nx,Nz,N0,Be,q29R0.eq_1,q29R1.eq_1,q29R2.eq_1,q29R3.eq_1,q29R4.eq_1,q29R5.eq_1,q29R6.eq_1,q29R7.eq_1,q29R8.eq_1,q29R9.eq_1,q29R10.eq_1,q29R11.eq_1,q29R12.eq_1,q29R13.eq_1,q29R14.eq_1,q29R15.eq_1,q29R16.eq_1,q29R17.eq_1,q29R18.eq_1,q29R19.eq_1,q29R20.eq_1,q29R21.eq_1,q29R22.eq_1,c_vt_escape.eq_1,h1,e0,app_at,app_set,app_at2,app_at1,app_len])
theorem esc_fin_toldb (c : Int) (v : Bool) (s : ByteArray) (h1 : ¬ c < 48) (h2 : ¬ s.size = 0) : aR G FT n_vt_escape [.ptr 0 0 0 0, .int .i32 c] (⟨10, 0, fl, [[.fn (.func n_vt_escape) [] [], .bool false, .bool false, .bool false, .bool false, .bool false, .int .i32 0, .str s, .data false 1 [] true, .data false 1 [] true]]⟩ :: R) = some (.own (R.length + 1 + 1) 0 0 1 1, (⟨10, 0, fl, [[.nilfn, .bool false, .bool false, .bool false, .bool false, .bool false, .int .i32 0, .str ⟨#[]⟩, .data false 1 [] true, .data false 1 [] true]]⟩ :: (R ++ [⟨6, 0, true, [[.int .i64 3, .int .i32 c, .int .i32 0, .str s, .data false 1 [] true, .data false 1 [] true]]⟩] ++ [⟨6, 0, true, [[.int .i64 3, .int .i32 c, .int .i32 0, .str s, .data false 1 [] true, .data false 1 [] true]]⟩]))) := by
  rw [run_vt_escape]
  have e0 : (s == { data := #[] }) = false := by
    exact ba_ne h2
  (sym => simp [Qb,Qc,Qd,Qe,Qi,Qj,Qr,Qt,Qv,Qx,Qy,Qz,Q0,Q1,Q2,Q4,Q5,Q6,Q9,Xa,Xb,Xp,Ya,Yj,Yk,Ym,Yr,Yt,Yu,Yv,Y1,Y5,Y7,Y9,Za,Zb,Zc,Zd,Ze,Zg,Zh,Zi,Zj,Zk,Zl,Zm,Zn,Zr,Zs,Zt,Zu,Zv,Zw,Zy,Z0,Z1,Z3,Jh,Jj,Jk,Jr,Jv,Jx,J1,J2,Kj,Kn,K8,K9,Ua,Ub,Uc,Ud,Ue,Uf,Ug,Uh,Ui,Uj,Ul,Hh,Hi,Hk,Hl,Ho,Hp,Hq,Hr,Hs,Ht,Hu,Hv,Hw,Hx,H2,H3,Nm,No,Nx,Nz,N0,Be,q29R0.eq_1,q29R1.eq_1,q29R2.eq_1,q29R3.eq_1,q29R4.eq_1,q29R5.eq_1,q29R6.eq_1,q29R7.eq_1,q29R8.eq_1,q29R9.eq_1,q29R10.eq_1,q29R11.eq_1,q29R12.eq_1,q29R13.eq_1,q29R14.eq_1,q29R15.eq_1,q29R16.eq_1,q29R17.eq_1,q29R18.eq_1,q29R19.eq_1,q29R20.eq_1,q29R21.eq_1,q29R22.eq_1,c_vt_escape.eq_1,h1,e0,app_at,app_set,app_at2,app_at1,app_len])
theorem esc_fin0_toldb (c : Int) (v : Bool) (s : ByteArray) (h1 : ¬ c < 48) (k1 : ¬ c = 91) (k2 : ¬ c = 93) (k3 : ¬ c = 80) (k4 : ¬ c = 88) (k5 : ¬ c = 94) (k6 : ¬ c = 95) : aR G FT n_vt_escape [.ptr 0 0 0 0, .int .i32 c] (⟨10, 0, fl, [[.fn (.func n_vt_escape) [] [], .bool false, .bool false, .bool false, .bool false, .bool false, .int .i32 0, .str ⟨#[]⟩, .data false 1 [] true, .data false 1 [] true]]⟩ :: R) = some (.own (R.length + 1 + 1) 0 0 1 1, (⟨10, 0, fl, [[.nilfn, .bool false, .bool false, .bool false, .bool false, .bool false, .int .i32 0, .str ⟨#[]⟩, .data false 1 [] true, .data false 1 [] true]]⟩ :: (R ++ [⟨6, 0, true, [[.int .i64 3, .int .i32 c, .int .i32 0, .str ⟨#[]⟩, .data false 1 [] true, .data false 1 [] true]]⟩] ++ [⟨6, 0, true, [[.int .i64 3, .int .i32 c, .int .i32 0, .str ⟨#[]⟩, .data false 1 [] true, .data false 1 [] true]]⟩]))) := by
  rw [run_vt_escape]
  have e0 : (({ data := #[] } : ByteArray) == { data := #[] }) = true := rfl
  (sym => simp [Qa,Qb,Qc,Qd,Qe,Qi,Qj,Qr,Qt,Qv,Qx,Qy,Qz,Q0,Q1,Q2,Q4,Q5,Q6,Q9,Xa,Xb,Xp,X8,Ya,Yj,Yk,Ym,Yr,Yt,Yu,Yv,Y1,Y5,Y7,Y9,Za,Zb,Zc,Zd,Ze,Zg,Zh,Zi,Zj,Zk,Zl,Zm,Zn,Zr,Zs,Zt,Zu,Zv,Zw,Zy,Z0,Z1,Z3,Jh,Jj,Jk,Jm,Jn,Jq,Jr,Jv,Jx,J1,J2,Kj,Kn,K8,K9,Ua,Ub,Uc,Ud,Ue,Uf,Ug,Uh,Ui,Uj,Ul,Hh,Hi,Hk,Hl,Ho,Hp,Hq,Hr,Hs,Ht,Hu,Hv,Hw,Hx,H2,H3,Nm,No,Nx,Nz,N0,Be,q29R0.eq_1,q29R1.eq_1,q29R2.eq_1,q29R3.eq_1,q29R4.eq_1,q29R5.eq_1,q29R6.eq_1,q29R7.eq_1,q29R8.eq_1,q29R9.eq_1,q29R10.eq_1,q29R11.eq_1,q29R12.eq_1,q29R13.eq_1,q29R14.eq_1,q29R15.eq_1,q29R16.eq_1,q29R17.eq_1,q29R18.eq_1,q29R19.eq_1,q29R20.eq_1,q29R21.eq_1,q29R22.eq_1,c_vt_escape.eq_1,h1,e0,k1,k2,k3,k4,k5,k6,app_at,app_set,app_at2,app_at1,app_len])
end
section
variable (G : Nat → Option (List AV)) (o : ARow) (fl first void : Bool) (mark : Int) (s : ByteArray)
include o
theorem param_newb (c : Int) (h1 : 48 ≤ c) (h2 : c < 58) : aR G FT n_vt_Parser_param [.ptr 0 0 0 0, .int .i32 c] [⟨10, 0, fl, [[.fn (.func n_vt_sequence) [] [], .bool false, .bool false, .bool first, .bool void, .bool false, .int .i32 mark, .str s, .data false 1 [] true, .data false 1 [] true]]⟩] = some (.tup [], [⟨10, 0, false, [[.fn (.func n_vt_sequence) [] [], .bool false, .bool false, .bool first, .bool void, .bool true, .int .i32 mark, .str s, .own 1 0 0 1 1, .data false 1 [] true]]⟩, ⟨1, 0, true, [[.int .i64 (c - 48)]]⟩]) := by
  rw [run_vt_Parser_param]
  have h3 : ¬ c = 59 := by omega
  have w1 : IntKind.i32.wrap (c - 48) = c - 48 := i32_in (by omega) (by omega)
  have w2 : IntKind.i64.wrap (c - 48) = c - 48 := wrap_in _ (by omega) (by omega)
  have v2 : asum .i64 (c - 48) = .int .i64 (c - 48) := by unfold asum; rw [w2]
  have w0 : IntKind.i64.wrap 0 = 0 := rfl
  have w3 : min (c - 48) 9999 = c - 48 := by omega
  have w4 : IntKind.i64.wrap (0 + (c - 48)) = c - 48 := by rw [Int.zero_add]; exact w2
  (sym => simp [Qd,Qe,Qi,Qj,Qr,Qt,Qz,Q0,Q2,Q4,Q5,Q6,Q9,Xa,Xd,Xe,Xg,Xp,Xs,Xy,X4,X5,X6,X7,X9,Ye,Yg,Yk,Yr,Yt,Yv,Yx,Y1,Y4,Y9,Za,Zb,Zc,Zd,Ze,Zg,Zh,Zi,Zj,Zk,Zl,Zm,Zn,Zr,Zs,Zt,Zu,Zv,Zw,Zx,Zy,Z0,Z1,Jj,Jk,Jn,Jo,Jr,Jv,Jw,J3,J4,J7,Ua,Ub,Uc,Ud,Ue,Uf,Ug,Hh,Hi,Hk,Hl,Hu,Hv,H2,H3,Nm,No,Nq,Nx,Nz,Be,Bh,Bi,q28R0.eq_1,q28R1.eq_1,q28R2.eq_1,q28R3.eq_1,q28R4.eq_1,q28R5.eq_1,q28R6.eq_1,c_vt_Parser_param.eq_1,h3,w0,w1,w2,v2,w3,w4])
theorem param_new_sepb : aR G FT n_vt_Parser_param [.ptr 0 0 0 0, .int .i32 59] [⟨10, 0, fl, [[.fn (.func n_vt_sequence) [] [], .bool false, .bool false, .bool first, .bool void, .bool false, .int .i32 mark, .str s, .data false 1 [] true, .data false 1 [] true]]⟩] = some (.tup [], [⟨10, 0, false, [[.fn (.func n_vt_sequence) [] [], .bool false, .bool false, .bool first, .bool void, .bool true, .int .i32 mark, .str s, .own 1 1 0 2 2, .data false 1 [] true]]⟩, ⟨1, 1, true, [[.int .i64 0], [.int .i64 0]]⟩, ⟨1, 0, true, [[.int .i64 0]]⟩]) := by
  rw [run_vt_Parser_param]
  have w0 : IntKind.i64.wrap 0 = 0 := rfl
  (sym => simp [Qd,Qe,Qi,Qj,Qr,Qt,Qz,Q0,Q2,Q4,Q5,Q6,Q9,Xa,Xd,Xp,Xy,X0,X6,X9,Ya,Yg,Yk,Yr,Yt,Yv,Y1,Y2,Y4,Y9,Za,Zb,Zc,Zd,Ze,Zg,Zh,Zi,Zj,Zk,Zl,Zm,Zn,Zr,Zs,Zt,Zu,Zv,Zw,Zx,Zy,Zz,Z0,Z1,Z3,Jj,Jk,Jn,Jo,Jr,Jv,Jw,J4,J7,Kv,Kx,Ua,Ub,Uc,Ud,Ue,Uf,Ug,Hh,Hi,Hk,Hl,Ho,Hq,Hs,Hu,Hv,H2,H3,Nl,No,Nq,Nw,Nx,Nz,N2,Be,Bg,Bh,q28R0.eq_1,q28R1.eq_1,q28R2.eq_1,q28R3.eq_1,q28R4.eq_1,q28R5.eq_1,q28R6.eq_1,c_vt_Parser_param.eq_1,w0])
theorem param_digb (c : Int) (h1 : 48 ≤ c) (h2 : c < 58) (q : List Int) (x : Int) (hq : q.length ≤ 100) (hx : 0 ≤ x) (hx' : x ≤ 9999) : aR G FT n_vt_Parser_param [.ptr 0 0 0 0, .int .i32 c] [⟨10, 0, false, [[.fn (.func n_vt_sequence) [] [], .bool false, .bool false, .bool first, .bool void, .bool true, .int .i32 mark, .str s, .own 1 0 0 (q.length + 1) (q.length + 1), .data false 1 [] true]]⟩, ⟨1, 0, true, ints q ++ [[.int .i64 x]]⟩] = some (.tup [], [⟨10, 0, false, [[.fn (.func n_vt_sequence) [] [], .bool false, .bool false, .bool first, .bool void, .bool true, .int .i32 mark, .str s, .own 1 0 0 (q.length + 1) (q.length + 1), .data false 1 [] true]]⟩, ⟨1, 0, true, ints q ++ [[.int .i64 (min (10 * x + (c - 48)) 9999)]]⟩]) := by
  rw [run_vt_Parser_param]
  have h3 : ¬ c = 59 := by omega
  have w1 : IntKind.i32.wrap (c - 48) = c - 48 := i32_in (by omega) (by omega)
  have w2 : IntKind.i64.wrap (c - 48) = c - 48 := wrap_in _ (by omega) (by omega)
  have v2 : asum .i64 (c - 48) = .int .i64 (c - 48) := by unfold asum; rw [w2]
  have w0 : IntKind.i64.wrap 0 = 0 := rfl
  have w3 : IntKind.i64.wrap (10 * x) = 10 * x := wrap_in _ (by omega) (by omega)
  have w4 : IntKind.i64.wrap (10 * x + (c - 48)) = 10 * x + (c - 48) := wrap_in _ (by omega) (by omega)
  have w5 : IntKind.i64.wrap (((q.length + 1 : Nat) : Int) - 1) = q.length := by rw [wrap_in _ (by omega) (by omega)]; omega
  have a1 := last_at q
  have a2 := last_set q
  have a3 := ints_len q
  have q1 : (q.length : Int) < ((q.length + 1 : Nat) : Int) := by omega
  (sym => simp [Qc,Qd,Qe,Qi,Qj,Qr,Qt,Q4,Q5,Q6,Q9,Xa,Xd,Xe,Xg,Xp,Xs,Xy,X4,X5,X6,X7,X9,Ye,Yg,Yr,Yt,Yv,Yx,Y1,Y4,Y9,Za,Zb,Zc,Zd,Ze,Zg,Zh,Zi,Zj,Zk,Zl,Zm,Zn,Zr,Zs,Zt,Zu,Zv,Zw,Zx,Zy,Z0,Z1,Z3,Jj,Jk,Jn,Jo,Jr,Jv,Jw,J3,Hh,Hi,Hk,Hl,H8,Ni,Nk,Nm,No,Nw,Nx,Nz,Be,q28R0.eq_1,q28R1.eq_1,q28R2.eq_1,q28R3.eq_1,q28R4.eq_1,q28R5.eq_1,q28R6.eq_1,c_vt_Parser_param.eq_1,h3,q1,w0,w1,w2,v2,w3,w4,w5,a1,a2,a3])
theorem param_sepb (q : List Int) (x : Int) (hq : q.length < 16) : aR G FT n_vt_Parser_param [.ptr 0 0 0 0, .int .i32 59] [⟨10, 0, false, [[.fn (.func n_vt_sequence) [] [], .bool false, .bool false, .bool first, .bool void, .bool true, .int .i32 mark, .str s, .own 1 0 0 (q.length + 1) (q.length + 1), .data false 1 [] true]]⟩, ⟨1, 0, true, ints q ++ [[.int .i64 x]]⟩] = some (.tup [], [⟨10, 0, false, [[.fn (.func n_vt_sequence) [] [], .bool false, .bool false, .bool first, .bool void, .bool true, .int .i32 mark, .str s, .own 1 1 0 (q.length + 1 + 1) (q.length + 1 + 1), .data false 1 [] true]]⟩, ⟨1, 1, true, ints q ++ [[.int .i64 x]] ++ [[.int .i64 0]]⟩, ⟨1, 0, true, [[.int .i64 0]]⟩]) := by
  rw [run_vt_Parser_param]
  have w5 : IntKind.i64.wrap (((q.length + 1 : Nat) : Int) - 1) = q.length := by rw [wrap_in _ (by omega) (by omega)]; omega
  have h3 : (q.length : Int) < 16 := by omega
  have a3 := ints_len q
  have a4 := last_take q
  have q1 : (q.length + 1 + 1) * 8 ≤ 140737488355328 := by omega
  (sym => simp [Qc,Qd,Qe,Qi,Qj,Qr,Qt,Qz,Q0,Q2,Q4,Q5,Q6,Q9,Xa,Xd,Xp,Xy,X0,X6,X9,Ya,Yg,Yk,Yr,Yt,Yv,Y1,Y2,Y4,Y9,Za,Zb,Zc,Zd,Ze,Zg,Zh,Zi,Zj,Zk,Zl,Zm,Zn,Zr,Zs,Zt,Zu,Zv,Zw,Zx,Zy,Zz,Z0,Z1,Z3,Jj,Jk,Jn,Jo,Jr,Jv,Jw,J7,Kv,Kx,Ua,Ub,Uc,Ud,Ue,Uf,Ug,Hh,Hi,Hk,Hl,Ho,Hq,Hs,Hu,Hv,Hx,H2,H3,H8,Ng,Nh,Nl,No,Nq,Nw,Nz,N2,Be,Bg,q28R0.eq_1,q28R1.eq_1,q28R2.eq_1,q28R3.eq_1,q28R4.eq_1,q28R5.eq_1,q28R6.eq_1,c_vt_Parser_param.eq_1,w5,h3,a3,a4,q1])
theorem param_fullb (q : List Int) (x : Int) (hq : ¬ q.length < 16) (hq' : q.length < 100) : aR G FT n_vt_Parser_param [.ptr 0 0 0 0, .int .i32 59] [⟨10, 0, false, [[.fn (.func n_vt_sequence) [] [], .bool false, .bool false, .bool first, .bool void, .bool true, .int .i32 mark, .str s, .own 1 0 0 (q.length + 1) (q.length + 1), .data false 1 [] true]]⟩, ⟨1, 0, true, ints q ++ [[.int .i64 x]]⟩] = some (.tup [], [⟨10, 0, false, [[.fn (.func n_vt_sequence) [] [], .bool false, .bool false, .bool first, .bool void, .bool true, .int .i32 mark, .str s, .own 1 0 0 (q.length + 1) (q.length + 1), .data false 1 [] true]]⟩, ⟨1, 0, true, ints q ++ [[.int .i64 x]]⟩]) := by
  rw [run_vt_Parser_param]
  have w5 : IntKind.i64.wrap (((q.length + 1 : Nat) : Int) - 1) = q.length := by rw [wrap_in _ (by omega) (by omega)]; omega
  have h3 : ¬ (q.length : Int) < 16 := by omega
  (sym => simp [Qc,Qd,Qe,Qi,Qj,Qr,Qt,Q4,Q6,Q9,Xa,Xd,Xp,Xy,X6,X9,Ya,Yg,Yr,Yt,Yv,Y1,Y4,Y9,Za,Zb,Zc,Ze,Zg,Zh,Zi,Zj,Zk,Zl,Zm,Zn,Zr,Zs,Zt,Zu,Zv,Zw,Zy,Z0,Z3,Jj,Jk,Jn,Jo,Jr,Jv,Jw,Hh,Hi,Nl,Nm,Nw,Be,q28R0.eq_1,q28R1.eq_1,q28R2.eq_1,q28R3.eq_1,q28R4.eq_1,q28R5.eq_1,q28R6.eq_1,c_vt_Parser_param.eq_1,w5,h3])
end
section
variable (G : Nat → Option (List AV)) (o : ARow) (fl first void : Bool) (mark : Int) (s : ByteArray)
include o
theorem seq0_mid2b (c : Int) (h1 : c < 48) (h2 : s.size = 2) : aR G FT n_vt_sequence [.ptr 0 0 0 0, .int .i32 c] [⟨10, 0, fl, [[.fn (.func n_vt_sequence) [] [], .bool false, .bool false, .bool first, .bool void, .bool false, .int .i32 mark, .str s, .data false 1 [] true, .data false 1 [] true]]⟩] = some (.data false 6 [] true, [⟨10, 0, fl, [[.fn (.func n_vt_sequence) [] [], .bool false, .bool false, .bool false, .bool true, .bool false, .int .i32 mark, .str s, .data false 1 [] true, .data false 1 [] true]]⟩]) := by
  rw [run_vt_sequence]
  have hb := between_2b G o fl false false false void false mark s (.fn (.func n_vt_sequence) [] []) (.data false 1 [] true) (.data false 1 [] true) [] c h2
  (sym => simp [Qb,Qd,Qe,Qi,Qj,Qm,Qn,Qo,Qr,Qt,Q4,Q5,Q6,Q9,Xa,Xp,Ya,Yr,Yt,Yv,Y1,Y5,Y7,Y9,Za,Zb,Zc,Zd,Ze,Zg,Zh,Zi,Zj,Zk,Zl,Zm,Zn,Zq,Zr,Zs,Zt,Zu,Zv,Zw,Zy,Z0,Z1,Jj,Jk,Jl,Jn,Jp,Jr,Jv,Jx,J4,Hh,Hi,Hk,Hl,Nl,No,Be,q32R0.eq_1,q32R1.eq_1,q32R2.eq_1,q32R3.eq_1,q32R4.eq_1,q32R5.eq_1,q32R6.eq_1,q32R7.eq_1,q32R8.eq_1,q32R9.eq_1,q32R10.eq_1,q32R11.eq_1,q32R12.eq_1,q32R13.eq_1,q32R14.eq_1,q32R15.eq_1,q32R16.eq_1,q32R17.eq_1,q32R18.eq_1,q32R19.eq_1,q32R20.eq_1,c_vt_sequence.eq_1,h1,hb])
theorem seq0_mid1b (c : Int) (h1 : c < 48) (h0 : 32 ≤ c) (h2 : ¬ s.size = 2) (h3 : s.size ≤ 2) : aR G FT n_vt_sequence [.ptr 0 0 0 0, .int .i32 c] [⟨10, 0, fl, [[.fn (.func n_vt_sequence) [] [], .bool false, .bool false, .bool first, .bool void, .bool false, .int .i32 mark, .str s, .data false 1 [] true, .data false 1 [] true]]⟩] = some (.data false 6 [] true, [⟨10, 0, fl, [[.fn (.func n_vt_sequence) [] [], .bool false, .bool false, .bool false, .bool void, .bool false, .int .i32 mark, .str (s ++ Utf8.encode c), .data false 1 [] true, .data false 1 [] true]]⟩]) := by
  rw [run_vt_sequence]
  have hb := between_1b G o fl false false false void false mark s (.fn (.func n_vt_sequence) [] []) (.data false 1 [] true) (.data false 1 [] true) [] c h2 h3 (by rw [utf1 h0 h1]; omega)
  (sym => simp [Qb,Qd,Qe,Qi,Qj,Qm,Qn,Qo,Qr,Qt,Q4,Q5,Q6,Q9,Xa,Xp,Ya,Yr,Yt,Yv,Y1,Y5,Y7,Y9,Za,Zb,Zc,Zd,Ze,Zg,Zh,Zi,Zj,Zk,Zl,Zm,Zn,Zq,Zr,Zs,Zt,Zu,Zv,Zw,Zy,Z0,Z1,Jj,Jk,Jl,Jn,Jp,Jr,Jv,Jx,J4,Hh,Hi,Hk,Hl,Nl,No,Be,q32R0.eq_1,q32R1.eq_1,q32R2.eq_1,q32R3.eq_1,q32R4.eq_1,q32R5.eq_1,q32R6.eq_1,q32R7.eq_1,q32R8.eq_1,q32R9.eq_1,q32R10.eq_1,q32R11.eq_1,q32R12.eq_1,q32R13.eq_1,q32R14.eq_1,q32R15.eq_1,q32R16.eq_1,q32R17.eq_1,q32R18.eq_1,q32R19.eq_1,q32R20.eq_1,c_vt_sequence.eq_1,h1,hb])
theorem seq0_markb (c : Int) (h1 : 60 ≤ c) (h2 : c < 64) : aR G FT n_vt_sequence [.ptr 0 0 0 0, .int .i32 c] [⟨10, 0, fl, [[.fn (.func n_vt_sequence) [] [], .bool false, .bool false, .bool true, .bool void, .bool false, .int .i32 mark, .str s, .data false 1 [] true, .data false 1 [] true]]⟩] = some (.data false 6 [] true, [⟨10, 0, fl, [[.fn (.func n_vt_sequence) [] [], .bool false, .bool false, .bool false, .bool void, .bool false, .int .i32 c, .str s, .data false 1 [] true, .data false 1 [] true]]⟩]) := by
  rw [run_vt_sequence]
  have h0 : ¬ c < 48 := by omega
  (sym => simp [Qb,Qd,Qe,Qf,Qg,Qi,Qj,Qr,Qt,Qu,Q4,Q5,Q6,Q9,Xa,Xp,Ya,Yd,Yr,Yt,Yv,Y1,Y5,Y7,Y9,Za,Zb,Zc,Zd,Ze,Zg,Zh,Zi,Zj,Zk,Zl,Zm,Zn,Zr,Zs,Zt,Zu,Zv,Zw,Zy,Z0,Z1,Z3,Ja,Jj,Jk,Jl,Jn,Jp,Jr,Jv,Jx,J3,J4,Hh,Hi,Hk,Hl,Nl,Nm,No,Be,q32R0.eq_1,q32R1.eq_1,q32R2.eq_1,q32R3.eq_1,q32R4.eq_1,q32R5.eq_1,q32R6.eq_1,q32R7.eq_1,q32R8.eq_1,q32R9.eq_1,q32R10.eq_1,q32R11.eq_1,q32R12.eq_1,q32R13.eq_1,q32R14.eq_1,q32R15.eq_1,q32R16.eq_1,q32R17.eq_1,q32R18.eq_1,q32R19.eq_1,q32R20.eq_1,c_vt_sequence.eq_1,h0,h1,h2])
theorem seq0_bad58b (c : Int) (h1 : c = 58) : aR G FT n_vt_sequence [.ptr 0 0 0 0, .int .i32 c] [⟨10, 0, fl, [[.fn (.func n_vt_sequence) [] [], .bool false, .bool false, .bool first, .bool void, .bool false, .int .i32 mark, .str s, .data false 1 [] true, .data false 1 [] true]]⟩] = some (.data false 6 [] true, [⟨10, 0, fl, [[.fn (.func n_vt_sequence) [] [], .bool false, .bool false, .bool false, .bool true, .bool false, .int .i32 mark, .str s, .data false 1 [] true, .data false 1 [] true]]⟩]) := by
  rw [run_vt_sequence]
  subst h1
  (sym => simp [Qb,Qd,Qe,Qf,Qg,Qh,Qi,Qj,Qr,Qt,Qu,Q4,Q5,Q6,Q9,Xa,Xp,X8,Ya,Yd,Yr,Yt,Yv,Y1,Y5,Y7,Y9,Za,Zb,Zc,Zd,Ze,Zg,Zh,Zi,Zj,Zk,Zl,Zm,Zn,Zr,Zs,Zt,Zu,Zv,Zw,Zy,Z0,Z1,Z3,Ja,Jb,Jj,Jk,Jl,Jn,Jp,Jr,Jv,Jx,J4,Hh,Hi,Hk,Hl,Nl,Nm,No,Nw,Be,q32R0.eq_1,q32R1.eq_1,q32R2.eq_1,q32R3.eq_1,q32R4.eq_1,q32R5.eq_1,q32R6.eq_1,q32R7.eq_1,q32R8.eq_1,q32R9.eq_1,q32R10.eq_1,q32R11.eq_1,q32R12.eq_1,q32R13.eq_1,q32R14.eq_1,q32R15.eq_1,q32R16.eq_1,q32R17.eq_1,q32R18.eq_1,q32R19.eq_1,q32R20.eq_1,c_vt_sequence.eq_1])
theorem seq0_bad60b (c : Int) (h1 : 60 ≤ c) (h2 : c < 64) : aR G FT n_vt_sequence [.ptr 0 0 0 0, .int .i32 c] [⟨10, 0, fl, [[.fn (.func n_vt_sequence) [] [], .bool false, .bool false, .bool false, .bool void, .bool false, .int .i32 mark, .str s, .data false 1 [] true, .data false 1 [] true]]⟩] = some (.data false 6 [] true, [⟨10, 0, fl, [[.fn (.func n_vt_sequence) [] [], .bool false, .bool false, .bool false, .bool true, .bool false, .int .i32 mark, .str s, .data false 1 [] true, .data false 1 [] true]]⟩]) := by
  rw [run_vt_sequence]
  have h0 : ¬ c < 48 := by omega
  have h3 : ¬ c = 58 := by omega
  (sym => simp [Qb,Qd,Qe,Qf,Qg,Qh,Qi,Qj,Qr,Qt,Qu,Q4,Q5,Q6,Q9,Xa,Xp,X8,Ya,Yd,Yr,Yt,Yv,Y1,Y5,Y7,Y9,Za,Zb,Zc,Zd,Ze,Zg,Zh,Zi,Zj,Zk,Zl,Zm,Zn,Zr,Zs,Zt,Zu,Zv,Zw,Zy,Z0,Z1,Z3,Ja,Jb,Jj,Jk,Jl,Jn,Jp,Jr,Jv,Jx,J4,Hh,Hi,Hk,Hl,Nl,Nm,No,Nw,Nx,Be,q32R0.eq_1,q32R1.eq_1,q32R2.eq_1,q32R3.eq_1,q32R4.eq_1,q32R5.eq_1,q32R6.eq_1,q32R7.eq_1,q32R8.eq_1,q32R9.eq_1,q32R10.eq_1,q32R11.eq_1,q32R12.eq_1,q32R13.eq_1,q32R14.eq_1,q32R15.eq_1,q32R16.eq_1,q32R17.eq_1,q32R18.eq_1,q32R19.eq_1,q32R20.eq_1,c_vt_sequence.eq_1,h0,h1,h2,h3])
theorem seq0_badsb (c : Int) (h1 : 48 ≤ c) (h2 : c < 60) (h4 : ¬ s.size = 0) : aR G FT n_vt_sequence [.ptr 0 0 0 0, .int .i32 c] [⟨10, 0, fl, [[.fn (.func n_vt_sequence) [] [], .bool false, .bool false, .bool first, .bool void, .bool false, .int .i32 mark, .str s, .data false 1 [] true, .data false 1 [] true]]⟩] = some (.data false 6 [] true, [⟨10, 0, fl, [[.fn (.func n_vt_sequence) [] [], .bool false, .bool false, .bool false, .bool true, .bool false, .int .i32 mark, .str s, .data false 1 [] true, .data false 1 [] true]]⟩]) := by
  rw [run_vt_sequence]
  have h0 : ¬ c < 48 := by omega
  have h5 : ¬ 60 ≤ c := by omega
  have h6 : c < 64 := by omega
  have e0 := ba_ne h4
  by_cases h3 : c = 58
  · subst h3; (sym => simp [Qb,Qd,Qe,Qf,Qg,Qh,Qi,Qj,Qr,Qt,Qu,Q4,Q5,Q6,Q9,Xa,Xb,Xp,X8,Ya,Yd,Yr,Yt,Yv,Y1,Y5,Y7,Y9,Za,Zb,Zc,Zd,Ze,Zg,Zh,Zi,Zj,Zk,Zl,Zm,Zn,Zr,Zs,Zt,Zu,Zv,Zw,Zy,Z0,Z1,Z3,Ja,Jb,Jg,Jj,Jk,Jl,Jn,Jp,Jr,Jv,Jx,J4,Kj,Kn,Hh,Hi,Hk,Hl,Nl,Nm,No,Nw,Nx,Be,q32R0.eq_1,q32R1.eq_1,q32R2.eq_1,q32R3.eq_1,q32R4.eq_1,q32R5.eq_1,q32R6.eq_1,q32R7.eq_1,q32R8.eq_1,q32R9.eq_1,q32R10.eq_1,q32R11.eq_1,q32R12.eq_1,q32R13.eq_1,q32R14.eq_1,q32R15.eq_1,q32R16.eq_1,q32R17.eq_1,q32R18.eq_1,q32R19.eq_1,q32R20.eq_1,c_vt_sequence.eq_1])
  (sym => simp [Qb,Qd,Qe,Qf,Qg,Qh,Qi,Qj,Qr,Qt,Qu,Q4,Q5,Q6,Q9,Xa,Xb,Xp,X8,Ya,Yd,Yr,Yt,Yv,Y1,Y5,Y7,Y9,Za,Zb,Zc,Zd,Ze,Zg,Zh,Zi,Zj,Zk,Zl,Zm,Zn,Zr,Zs,Zt,Zu,Zv,Zw,Zy,Z0,Z1,Z3,Ja,Jb,Jg,Jj,Jk,Jl,Jn,Jp,Jr,Jv,Jx,J4,Kj,Kn,Hh,Hi,Hk,Hl,Nl,Nm,No,Nw,Nx,Be,q32R0.eq_1,q32R1.eq_1,q32R2.eq_1,q32R3.eq_1,q32R4.eq_1,q32R5.eq_1,q32R6.eq_1,q32R7.eq_1,q32R8.eq_1,q32R9.eq_1,q32R10.eq_1,q32R11.eq_1,q32R12.eq_1,q32R13.eq_1,q32R14.eq_1,q32R15.eq_1,q32R16.eq_1,q32R17.eq_1,q32R18.eq_1,q32R19.eq_1,q32R20.eq_1,c_vt_sequence.eq_1,h0,h3,h5,h6,e0])
theorem seq0_digb (c : Int) (h1 : 48 ≤ c) (h2 : c < 58) : aR G FT n_vt_sequence [.ptr 0 0 0 0, .int .i32 c] [⟨10, 0, fl, [[.fn (.func n_vt_sequence) [] [], .bool false, .bool false, .bool first, .bool void, .bool false, .int .i32 mark, .str ⟨#[]⟩, .data false 1 [] true, .data false 1 [] true]]⟩] = some (.data false 6 [] true, [⟨10, 0, false, [[.fn (.func n_vt_sequence) [] [], .bool false, .bool false, .bool false, .bool void, .bool true, .int .i32 mark, .str ⟨#[]⟩, .own 1 0 0 1 1, .data false 1 [] true]]⟩, ⟨1, 0, true, [[.int .i64 (c - 48)]]⟩]) := by
  rw [run_vt_sequence]
  have e0 : (({ data := #[] } : ByteArray) == { data := #[] }) = true := rfl
  have h0 : ¬ c < 48 := by omega
  have h5 : ¬ 60 ≤ c := by omega
  have h6 : c < 64 := by omega
  have h3 : ¬ c = 58 := by omega
  have hp := param_newb G o fl false void mark { data := #[] } c h1 h2
  (sym => simp [Qb,Qd,Qe,Qf,Qg,Qi,Qj,Qm,Qn,Qo,Qr,Qt,Qu,Q4,Q5,Q6,Q9,Xa,Xb,Xp,X8,Ya,Yd,Yr,Yt,Yv,Y1,Y5,Y7,Y9,Za,Zb,Zc,Zd,Ze,Zg,Zh,Zi,Zj,Zk,Zl,Zm,Zn,Zq,Zr,Zs,Zt,Zu,Zv,Zw,Zy,Z0,Z1,Z3,Ja,Jb,Jg,Jj,Jk,Jl,Jn,Jp,Jr,Jv,Jx,J4,Kj,Kn,Hh,Hi,Hk,Hl,Nl,Nm,No,Nw,Nx,Be,q32R0.eq_1,q32R1.eq_1,q32R2.eq_1,q32R3.eq_1,q32R4.eq_1,q32R5.eq_1,q32R6.eq_1,q32R7.eq_1,q32R8.eq_1,q32R9.eq_1,q32R10.eq_1,q32R11.eq_1,q32R12.eq_1,q32R13.eq_1,q32R14.eq_1,q32R15.eq_1,q32R16.eq_1,q32R17.eq_1,q32R18.eq_1,q32R19.eq_1,q32R20.eq_1,c_vt_sequence.eq_1,h0,h3,h5,h6,e0,hp])
theorem seq0_sepb (c : Int) (h1 : c = 59) : aR G FT n_vt_sequence [.ptr 0 0 0 0, .int .i32 c] [⟨10, 0, fl, [[.fn (.func n_vt_sequence) [] [], .bool false, .bool false, .bool first, .bool void, .bool false, .int .i32 mark, .str ⟨#[]⟩, .data false 1 [] true, .data false 1 [] true]]⟩] = some (.data false 6 [] true, [⟨10, 0, false, [[.fn (.func n_vt_sequence) [] [], .bool false, .bool false, .bool false, .bool void, .bool true, .int .i32 mark, .str ⟨#[]⟩, .own 1 1 0 2 2, .data false 1 [] true]]⟩, ⟨1, 1, true, [[.int .i64 0], [.int .i64 0]]⟩, ⟨1, 0, true, [[.int .i64 0]]⟩]) := by
  rw [run_vt_sequence]
  subst h1
  have e0 : (({ data := #[] } : ByteArray) == { data := #[] }) = true := rfl
  have hp := param_new_sepb G o fl false void mark { data := #[] }
  (sym => simp [Qb,Qd,Qe,Qf,Qg,Qi,Qj,Qm,Qn,Qo,Qr,Qt,Qu,Q4,Q5,Q6,Q9,Xa,Xb,Xp,X8,Ya,Yd,Yr,Yt,Yv,Y1,Y5,Y7,Y9,Za,Zb,Zc,Zd,Ze,Zg,Zh,Zi,Zj,Zk,Zl,Zm,Zn,Zq,Zr,Zs,Zt,Zu,Zv,Zw,Zy,Z0,Z1,Z3,Ja,Jb,Jg,Jj,Jk,Jl,Jn,Jp,Jr,Jv,Jx,J4,Kj,Kn,Hh,Hi,Hk,Hl,Nl,Nm,No,Nw,Nx,Be,q32R0.eq_1,q32R1.eq_1,q32R2.eq_1,q32R3.eq_1,q32R4.eq_1,q32R5.eq_1,q32R6.eq_1,q32R7.eq_1,q32R8.eq_1,q32R9.eq_1,q32R10.eq_1,q32R11.eq_1,q32R12.eq_1,q32R13.eq_1,q32R14.eq_1,q32R15.eq_1,q32R16.eq_1,q32R17.eq_1,q32R18.eq_1,q32R19.eq_1,q32R20.eq_1,c_vt_sequence.eq_1,e0,hp])
theorem seq0_fin_voidb (c : Int) (h1 : 64 ≤ c) : aR G FT n_vt_sequence [.ptr 0 0 0 0, .int .i32 c] [⟨10, 0, fl, [[.fn (.func n_vt_sequence) [] [], .bool false, .bool false, .bool first, .bool true, .bool false, .int .i32 mark, .str s, .data false 1 [] true, .data false 1 [] true]]⟩] = some (.data false 6 [] true, [⟨10, 0, fl, [[.nilfn, .bool false, .bool false, .bool false, .bool false, .bool false, .int .i32 0, .str ⟨#[]⟩, .data false 1 [] true, .data false 1 [] true]]⟩, ⟨6, 0, true, [[.int .i64 4, .int .i32 c, .int .i32 mark, .str s, .data false 1 [] true, .data false 1 [] true]]⟩]) := by
  rw [run_vt_sequence]
  have h0 : ¬ c < 48 := by omega
  have h2 : 60 ≤ c := by omega
  have h3 : ¬ c < 64 := by omega
  have h4 : ¬ c = 58 := by omega
  have m1 : min (0 : Int) 16 = 0 := rfl
  (sym => simp [Qb,Qc,Qd,Qe,Qf,Qg,Qi,Qj,Qr,Qt,Qu,Qv,Qx,Qy,Q1,Q4,Q5,Q6,Q9,Xa,Xl,Xm,Xn,Xp,Xy,X4,X8,Ya,Yd,Ye,Yh,Yk,Ym,Yn,Yr,Yt,Yv,Y1,Y5,Y7,Y9,Za,Zb,Zc,Zd,Ze,Zg,Zh,Zi,Zj,Zk,Zl,Zm,Zn,Zr,Zs,Zt,Zu,Zv,Zw,Zy,Z0,Z1,Z3,Ja,Jb,Jj,Jk,Jl,Jn,Jo,Jr,Jv,Jx,J1,J2,J4,K0,K1,K3,K8,K9,Ue,Uf,Ug,Uh,Ui,Uj,Ul,Hh,Hi,Hk,Hl,Ho,Hp,Hq,Hr,Hs,Ht,Hu,Hv,Hw,Nf,Nl,Nm,No,Nx,Nz,N0,Be,Bh,Bi,q32R0.eq_1,q32R1.eq_1,q32R2.eq_1,q32R3.eq_1,q32R4.eq_1,q32R5.eq_1,q32R6.eq_1,q32R7.eq_1,q32R8.eq_1,q32R9.eq_1,q32R10.eq_1,q32R11.eq_1,q32R12.eq_1,q32R13.eq_1,q32R14.eq_1,q32R15.eq_1,q32R16.eq_1,q32R17.eq_1,q32R18.eq_1,q32R19.eq_1,q32R20.eq_1,c_vt_sequence.eq_1,h0,h2,h3,h4,m1])
theorem seq0_fin_toldb (c : Int) (h1 : 64 ≤ c) : aR G FT n_vt_sequence [.ptr 0 0 0 0, .int .i32 c] [⟨10, 0, fl, [[.fn (.func n_vt_sequence) [] [], .bool false, .bool false, .bool first, .bool false, .bool false, .int .i32 mark, .str s, .data false 1 [] true, .data false 1 [] true]]⟩] = some (.own 2 0 0 1 1, [⟨10, 0, fl, [[.nilfn, .bool false, .bool false, .bool false, .bool false, .bool false, .int .i32 0, .str ⟨#[]⟩, .data false 1 [] true, .data false 1 [] true]]⟩, ⟨6, 0, true, [[.int .i64 4, .int .i32 c, .int .i32 mark, .str s, .data false 1 [] true, .data false 1 [] true]]⟩, ⟨6, 0, true, [[.int .i64 4, .int .i32 c, .int .i32 mark, .str s, .data false 1 [] true, .data false 1 [] true]]⟩]) := by
  rw [run_vt_sequence]
  have h0 : ¬ c < 48 := by omega
  have h2 : 60 ≤ c := by omega
  have h3 : ¬ c < 64 := by omega
  have h4 : ¬ c = 58 := by omega
  have m1 : min (0 : Int) 16 = 0 := rfl
  (sym => simp [Qb,Qc,Qd,Qe,Qf,Qg,Qi,Qj,Qr,Qt,Qu,Qv,Qx,Qy,Qz,Q0,Q1,Q2,Q4,Q5,Q6,Q9,Xa,Xl,Xm,Xn,Xp,Xy,X4,X8,Ya,Yd,Ye,Yh,Yj,Yk,Ym,Yn,Yr,Yt,Yu,Yv,Y1,Y5,Y7,Y9,Za,Zb,Zc,Zd,Ze,Zg,Zh,Zi,Zj,Zk,Zl,Zm,Zn,Zr,Zs,Zt,Zu,Zv,Zw,Zy,Z0,Z1,Z3,Ja,Jb,Jj,Jk,Jn,Jo,Jr,Jv,Jx,J1,J2,J4,K0,K1,K3,K8,K9,Ua,Ub,Uc,Ud,Ue,Uf,Ug,Uh,Ui,Uj,Ul,Hh,Hi,Hk,Hl,Ho,Hp,Hq,Hr,Hs,Ht,Hu,Hv,Hw,H2,H3,Nf,Nl,Nm,No,Nx,Nz,N0,Be,Bh,Bi,q32R0.eq_1,q32R1.eq_1,q32R2.eq_1,q32R3.eq_1,q32R4.eq_1,q32R5.eq_1,q32R6.eq_1,q32R7.eq_1,q32R8.eq_1,q32R9.eq_1,q32R10.eq_1,q32R11.eq_1,q32R12.eq_1,q32R13.eq_1,q32R14.eq_1,q32R15.eq_1,q32R16.eq_1,q32R17.eq_1,q32R18.eq_1,q32R19.eq_1,q32R20.eq_1,c_vt_sequence.eq_1,h0,h2,h3,h4,m1])
theorem seq1_mid2b (c : Int) (q : List Int) (x : Int) (hq : q.length ≤ 16) (hx : 0 ≤ x) (hx2 : x ≤ 9999) (h1 : c < 48) (h2 : s.size = 2) : aR G FT n_vt_sequence [.ptr 0 0 0 0, .int .i32 c] [⟨10, 0, false, [[.fn (.func n_vt_sequence) [] [], .bool false, .bool false, .bool false, .bool void, .bool true, .int .i32 mark, .str s, .own 1 0 0 (q.length + 1) (q.length + 1), .data false 1 [] true]]⟩, ⟨1, 0, true, ints q ++ [[.int .i64 x]]⟩] = some (.data false 6 [] true, [⟨10, 0, false, [[.fn (.func n_vt_sequence) [] [], .bool false, .bool false, .bool false, .bool true, .bool true, .int .i32 mark, .str s, .own 1 0 0 (q.length + 1) (q.length + 1), .data false 1 [] true]]⟩, ⟨1, 0, true, ints q ++ [[.int .i64 x]]⟩]) := by
  rw [run_vt_sequence]
  have hb := between_2b G o false false false false void true mark s (.fn (.func n_vt_sequence) [] []) (.own 1 0 0 (q.length + 1) (q.length + 1)) (.data false 1 [] true) [⟨1, 0, true, ints q ++ [[.int .i64 x]]⟩] c h2
  (sym => simp [Qb,Qd,Qe,Qi,Qj,Qm,Qn,Qo,Qr,Qt,Q4,Q5,Q6,Q9,Xa,Xp,Ya,Yr,Yt,Yv,Y1,Y5,Y7,Y9,Za,Zb,Zc,Zd,Ze,Zg,Zh,Zi,Zj,Zk,Zl,Zm,Zn,Zq,Zr,Zs,Zt,Zu,Zv,Zw,Zy,Z0,Z1,Jj,Jk,Jl,Jn,Jp,Jr,Jv,Jx,J4,Hh,Hi,Hk,Hl,Nl,No,Be,q32R0.eq_1,q32R1.eq_1,q32R2.eq_1,q32R3.eq_1,q32R4.eq_1,q32R5.eq_1,q32R6.eq_1,q32R7.eq_1,q32R8.eq_1,q32R9.eq_1,q32R10.eq_1,q32R11.eq_1,q32R12.eq_1,q32R13.eq_1,q32R14.eq_1,q32R15.eq_1,q32R16.eq_1,q32R17.eq_1,q32R18.eq_1,q32R19.eq_1,q32R20.eq_1,c_vt_sequence.eq_1,h1,hb])
theorem seq1_mid1b (c : Int) (q : List Int) (x : Int) (hq : q.length ≤ 16) (hx : 0 ≤ x) (hx2 : x ≤ 9999) (h1 : c < 48) (h0 : 32 ≤ c) (h2 : ¬ s.size = 2) (h3 : s.size ≤ 2) : aR G FT n_vt_sequence [.ptr 0 0 0 0, .int .i32 c] [⟨10, 0, false, [[.fn (.func n_vt_sequence) [] [], .bool false, .bool false, .bool false, .bool void, .bool true, .int .i32 mark, .str s, .own 1 0 0 (q.length + 1) (q.length + 1), .data false 1 [] true]]⟩, ⟨1, 0, true, ints q ++ [[.int .i64 x]]⟩] = some (.data false 6 [] true, [⟨10, 0, false, [[.fn (.func n_vt_sequence) [] [], .bool false, .bool false, .bool false, .bool void, .bool true, .int .i32 mark, .str (s ++ Utf8.encode c), .own 1 0 0 (q.length + 1) (q.length + 1), .data false 1 [] true]]⟩, ⟨1, 0, true, ints q ++ [[.int .i64 x]]⟩]) := by
  rw [run_vt_sequence]
  have hb := between_1b G o false false false false void true mark s (.fn (.func n_vt_sequence) [] []) (.own 1 0 0 (q.length + 1) (q.length + 1)) (.data false 1 [] true) [⟨1, 0, true, ints q ++ [[.int .i64 x]]⟩] c h2 h3 (by rw [utf1 h0 h1]; omega)
  (sym => simp [Qb,Qd,Qe,Qi,Qj,Qm,Qn,Qo,Qr,Qt,Q4,Q5,Q6,Q9,Xa,Xp,Ya,Yr,Yt,Yv,Y1,Y5,Y7,Y9,Za,Zb,Zc,Zd,Ze,Zg,Zh,Zi,Zj,Zk,Zl,Zm,Zn,Zq,Zr,Zs,Zt,Zu,Zv,Zw,Zy,Z0,Z1,Jj,Jk,Jl,Jn,Jp,Jr,Jv,Jx,J4,Hh,Hi,Hk,Hl,Nl,No,Be,q32R0.eq_1,q32R1.eq_1,q32R2.eq_1,q32R3.eq_1,q32R4.eq_1,q32R5.eq_1,q32R6.eq_1,q32R7.eq_1,q32R8.eq_1,q32R9.eq_1,q32R10.eq_1,q32R11.eq_1,q32R12.eq_1,q32R13.eq_1,q32R14.eq_1,q32R15.eq_1,q32R16.eq_1,q32R17.eq_1,q32R18.eq_1,q32R19.eq_1,q32R20.eq_1,c_vt_sequence.eq_1,h1,hb])
theorem seq1_bad58b (c : Int) (q : List Int) (x : Int) (hq : q.length ≤ 16) (hx : 0 ≤ x) (hx2 : x ≤ 9999) (h1 : c = 58) : aR G FT n_vt_sequence [.ptr 0 0 0 0, .int .i32 c] [⟨10, 0, false, [[.fn (.func n_vt_sequence) [] [], .bool false, .bool false, .bool false, .bool void, .bool true, .int .i32 mark, .str s, .own 1 0 0 (q.length + 1) (q.length + 1), .data false 1 [] true]]⟩, ⟨1, 0, true, ints q ++ [[.int .i64 x]]⟩] = some (.data false 6 [] true, [⟨10, 0, false, [[.fn (.func n_vt_sequence) [] [], .bool false, .bool false, .bool false, .bool true, .bool true, .int .i32 mark, .str s, .own 1 0 0 (q.length + 1) (q.length + 1), .data false 1 [] true]]⟩, ⟨1, 0, true, ints q ++ [[.int .i64 x]]⟩]) := by
  rw [run_vt_sequence]
  subst h1
  (sym => simp [Qb,Qd,Qe,Qf,Qg,Qh,Qi,Qj,Qr,Qt,Qu,Q4,Q5,Q6,Q9,Xa,Xp,X8,Ya,Yd,Yr,Yt,Yv,Y1,Y5,Y7,Y9,Za,Zb,Zc,Zd,Ze,Zg,Zh,Zi,Zj,Zk,Zl,Zm,Zn,Zr,Zs,Zt,Zu,Zv,Zw,Zy,Z0,Z1,Z3,Ja,Jb,Jj,Jk,Jl,Jn,Jp,Jr,Jv,Jx,J4,Hh,Hi,Hk,Hl,Nl,Nm,No,Nw,Be,q32R0.eq_1,q32R1.eq_1,q32R2.eq_1,q32R3.eq_1,q32R4.eq_1,q32R5.eq_1,q32R6.eq_1,q32R7.eq_1,q32R8.eq_1,q32R9.eq_1,q32R10.eq_1,q32R11.eq_1,q32R12.eq_1,q32R13.eq_1,q32R14.eq_1,q32R15.eq_1,q32R16.eq_1,q32R17.eq_1,q32R18.eq_1,q32R19.eq_1,q32R20.eq_1,c_vt_sequence.eq_1])
theorem seq1_bad60b (c : Int) (q : List Int) (x : Int) (hq : q.length ≤ 16) (hx : 0 ≤ x) (hx2 : x ≤ 9999) (h1 : 60 ≤ c) (h2 : c < 64) : aR G FT n_vt_sequence [.ptr 0 0 0 0, .int .i32 c] [⟨10, 0, false, [[.fn (.func n_vt_sequence) [] [], .bool false, .bool false, .bool false, .bool void, .bool true, .int .i32 mark, .str s, .own 1 0 0 (q.length + 1) (q.length + 1), .data false 1 [] true]]⟩, ⟨1, 0, true, ints q ++ [[.int .i64 x]]⟩] = some (.data false 6 [] true, [⟨10, 0, false, [[.fn (.func n_vt_sequence) [] [], .bool false, .bool false, .bool false, .bool true, .bool true, .int .i32 mark, .str s, .own 1 0 0 (q.length + 1) (q.length + 1), .data false 1 [] true]]⟩, ⟨1, 0, true, ints q ++ [[.int .i64 x]]⟩]) := by
  rw [run_vt_sequence]
  have h0 : ¬ c < 48 := by omega
  have h3 : ¬ c = 58 := by omega
  (sym => simp [Qb,Qd,Qe,Qf,Qg,Qh,Qi,Qj,Qr,Qt,Qu,Q4,Q5,Q6,Q9,Xa,Xp,X8,Ya,Yd,Yr,Yt,Yv,Y1,Y5,Y7,Y9,Za,Zb,Zc,Zd,Ze,Zg,Zh,Zi,Zj,Zk,Zl,Zm,Zn,Zr,Zs,Zt,Zu,Zv,Zw,Zy,Z0,Z1,Z3,Ja,Jb,Jj,Jk,Jl,Jn,Jp,Jr,Jv,Jx,J4,Hh,Hi,Hk,Hl,Nl,Nm,No,Nw,Nx,Be,q32R0.eq_1,q32R1.eq_1,q32R2.eq_1,q32R3.eq_1,q32R4.eq_1,q32R5.eq_1,q32R6.eq_1,q32R7.eq_1,q32R8.eq_1,q32R9.eq_1,q32R10.eq_1,q32R11.eq_1,q32R12.eq_1,q32R13.eq_1,q32R14.eq_1,q32R15.eq_1,q32R16.eq_1,q32R17.eq_1,q32R18.eq_1,q32R19.eq_1,q32R20.eq_1,c_vt_sequence.eq_1,h0,h1,h2,h3])
theorem seq1_badsb (c : Int) (q : List Int) (x : Int) (hq : q.length ≤ 16) (hx : 0 ≤ x) (hx2 : x ≤ 9999) (h1 : 48 ≤ c) (h2 : c < 60) (h4 : ¬ s.size = 0) : aR G FT n_vt_sequence [.ptr 0 0 0 0, .int .i32 c] [⟨10, 0, false, [[.fn (.func n_vt_sequence) [] [], .bool false, .bool false, .bool false, .bool void, .bool true, .int .i32 mark, .str s, .own 1 0 0 (q.length + 1) (q.length + 1), .data false 1 [] true]]⟩, ⟨1, 0, true, ints q ++ [[.int .i64 x]]⟩] = some (.data false 6 [] true, [⟨10, 0, false, [[.fn (.func n_vt_sequence) [] [], .bool false, .bool false, .bool false, .bool true, .bool true, .int .i32 mark, .str s, .own 1 0 0 (q.length + 1) (q.length + 1), .data false 1 [] true]]⟩, ⟨1, 0, true, ints q ++ [[.int .i64 x]]⟩]) := by
  rw [run_vt_sequence]
  have h0 : ¬ c < 48 := by omega
  have h5 : ¬ 60 ≤ c := by omega
  have h6 : c < 64 := by omega
  have e0 := ba_ne h4
  by_cases h3 : c = 58
  · subst h3; (sym => simp [Qb,Qd,Qe,Qf,Qg,Qh,Qi,Qj,Qr,Qt,Qu,Q4,Q5,Q6,Q9,Xa,Xb,Xp,X8,Ya,Yd,Yr,Yt,Yv,Y1,Y5,Y7,Y9,Za,Zb,Zc,Zd,Ze,Zg,Zh,Zi,Zj,Zk,Zl,Zm,Zn,Zr,Zs,Zt,Zu,Zv,Zw,Zy,Z0,Z1,Z3,Ja,Jb,Jg,Jj,Jk,Jl,Jn,Jp,Jr,Jv,Jx,J4,Kj,Kn,Hh,Hi,Hk,Hl,Nl,Nm,No,Nw,Nx,Be,q32R0.eq_1,q32R1.eq_1,q32R2.eq_1,q32R3.eq_1,q32R4.eq_1,q32R5.eq_1,q32R6.eq_1,q32R7.eq_1,q32R8.eq_1,q32R9.eq_1,q32R10.eq_1,q32R11.eq_1,q32R12.eq_1,q32R13.eq_1,q32R14.eq_1,q32R15.eq_1,q32R16.eq_1,q32R17.eq_1,q32R18.eq_1,q32R19.eq_1,q32R20.eq_1,c_vt_sequence.eq_1])
  (sym => simp [Qb,Qd,Qe,Qf,Qg,Qh,Qi,Qj,Qr,Qt,Qu,Q4,Q5,Q6,Q9,Xa,Xb,Xp,X8,Ya,Yd,Yr,Yt,Yv,Y1,Y5,Y7,Y9,Za,Zb,Zc,Zd,Ze,Zg,Zh,Zi,Zj,Zk,Zl,Zm,Zn,Zr,Zs,Zt,Zu,Zv,Zw,Zy,Z0,Z1,Z3,Ja,Jb,Jg,Jj,Jk,Jl,Jn,Jp,Jr,Jv,Jx,J4,Kj,Kn,Hh,Hi,Hk,Hl,Nl,Nm,No,Nw,Nx,Be,q32R0.eq_1,q32R1.eq_1,q32R2.eq_1,q32R3.eq_1,q32R4.eq_1,q32R5.eq_1,q32R6.eq_1,q32R7.eq_1,q32R8.eq_1,q32R9.eq_1,q32R10.eq_1,q32R11.eq_1,q32R12.eq_1,q32R13.eq_1,q32R14.eq_1,q32R15.eq_1,q32R16.eq_1,q32R17.eq_1,q32R18.eq_1,q32R19.eq_1,q32R20.eq_1,c_vt_sequence.eq_1,h0,h3,h5,h6,e0])
theorem seq1_digb (c : Int) (q : List Int) (x : Int) (hq : q.length ≤ 16) (hx : 0 ≤ x) (hx2 : x ≤ 9999) (h1 : 48 ≤ c) (h2 : c < 58) : aR G FT n_vt_sequence [.ptr 0 0 0 0, .int .i32 c] [⟨10, 0, false, [[.fn (.func n_vt_sequence) [] [], .bool false, .bool false, .bool false, .bool void, .bool true, .int .i32 mark, .str ⟨#[]⟩, .own 1 0 0 (q.length + 1) (q.length + 1), .data false 1 [] true]]⟩, ⟨1, 0, true, ints q ++ [[.int .i64 x]]⟩] = some (.data false 6 [] true, [⟨10, 0, false, [[.fn (.func n_vt_sequence) [] [], .bool false, .bool false, .bool false, .bool void, .bool true, .int .i32 mark, .str ⟨#[]⟩, .own 1 0 0 (q.length + 1) (q.length + 1), .data false 1 [] true]]⟩, ⟨1, 0, true, ints q ++ [[.int .i64 (min (10 * x + (c - 48)) 9999)]]⟩]) := by
  rw [run_vt_sequence]
  have e0 : (({ data := #[] } : ByteArray) == { data := #[] }) = true := rfl
  have h0 : ¬ c < 48 := by omega
  have h5 : ¬ 60 ≤ c := by omega
  have h6 : c < 64 := by omega
  have h3 : ¬ c = 58 := by omega
  have hp := param_digb G o false void mark { data := #[] } c h1 h2 q x (by omega) hx hx2
  (sym => simp [Qb,Qd,Qe,Qf,Qg,Qi,Qj,Qm,Qn,Qo,Qr,Qt,Qu,Q4,Q5,Q6,Q9,Xa,Xb,Xp,X8,Ya,Yd,Yr,Yt,Yv,Y1,Y5,Y7,Y9,Za,Zb,Zc,Zd,Ze,Zg,Zh,Zi,Zj,Zk,Zl,Zm,Zn,Zq,Zr,Zs,Zt,Zu,Zv,Zw,Zy,Z0,Z1,Z3,Ja,Jb,Jg,Jj,Jk,Jl,Jn,Jp,Jr,Jv,Jx,J4,Kj,Kn,Hh,Hi,Hk,Hl,Nl,Nm,No,Nw,Nx,Be,q32R0.eq_1,q32R1.eq_1,q32R2.eq_1,q32R3.eq_1,q32R4.eq_1,q32R5.eq_1,q32R6.eq_1,q32R7.eq_1,q32R8.eq_1,q32R9.eq_1,q32R10.eq_1,q32R11.eq_1,q32R12.eq_1,q32R13.eq_1,q32R14.eq_1,q32R15.eq_1,q32R16.eq_1,q32R17.eq_1,q32R18.eq_1,q32R19.eq_1,q32R20.eq_1,c_vt_sequence.eq_1,h0,h3,h5,h6,e0,hp])
theorem seq1_sepb (c : Int) (q : List Int) (x : Int) (hq : q.length ≤ 16) (hx : 0 ≤ x) (hx2 : x ≤ 9999) (h1 : c = 59) (h2 : q.length < 16) : aR G FT n_vt_sequence [.ptr 0 0 0 0, .int .i32 c] [⟨10, 0, false, [[.fn (.func n_vt_sequence) [] [], .bool false, .bool false, .bool false, .bool void, .bool true, .int .i32 mark, .str ⟨#[]⟩, .own 1 0 0 (q.length + 1) (q.length + 1), .data false 1 [] true]]⟩, ⟨1, 0, true, ints q ++ [[.int .i64 x]]⟩] = some (.data false 6 [] true, [⟨10, 0, false, [[.fn (.func n_vt_sequence) [] [], .bool false, .bool false, .bool false, .bool void, .bool true, .int .i32 mark, .str ⟨#[]⟩, .own 1 1 0 (q.length + 1 + 1) (q.length + 1 + 1), .data false 1 [] true]]⟩, ⟨1, 1, true, ints q ++ [[.int .i64 x]] ++ [[.int .i64 0]]⟩, ⟨1, 0, true, [[.int .i64 0]]⟩]) := by
  rw [run_vt_sequence]
  subst h1
  have e0 : (({ data := #[] } : ByteArray) == { data := #[] }) = true := rfl
  have hp := param_sepb G o false void mark { data := #[] } q x h2
  (sym => simp [Qb,Qd,Qe,Qf,Qg,Qi,Qj,Qm,Qn,Qo,Qr,Qt,Qu,Q4,Q5,Q6,Q9,Xa,Xb,Xp,X8,Ya,Yd,Yr,Yt,Yv,Y1,Y5,Y7,Y9,Za,Zb,Zc,Zd,Ze,Zg,Zh,Zi,Zj,Zk,Zl,Zm,Zn,Zq,Zr,Zs,Zt,Zu,Zv,Zw,Zy,Z0,Z1,Z3,Ja,Jb,Jg,Jj,Jk,Jl,Jn,Jp,Jr,Jv,Jx,J4,Kj,Kn,Hh,Hi,Hk,Hl,Nl,Nm,No,Nw,Nx,Be,q32R0.eq_1,q32R1.eq_1,q32R2.eq_1,q32R3.eq_1,q32R4.eq_1,q32R5.eq_1,q32R6.eq_1,q32R7.eq_1,q32R8.eq_1,q32R9.eq_1,q32R10.eq_1,q32R11.eq_1,q32R12.eq_1,q32R13.eq_1,q32R14.eq_1,q32R15.eq_1,q32R16.eq_1,q32R17.eq_1,q32R18.eq_1,q32R19.eq_1,q32R20.eq_1,c_vt_sequence.eq_1,e0,hp])
theorem seq1_fullb (c : Int) (q : List Int) (x : Int) (hq : q.length ≤ 16) (hx : 0 ≤ x) (hx2 : x ≤ 9999) (h1 : c = 59) (h2 : ¬ q.length < 16) : aR G FT n_vt_sequence [.ptr 0 0 0 0, .int .i32 c] [⟨10, 0, false, [[.fn (.func n_vt_sequence) [] [], .bool false, .bool false, .bool false, .bool void, .bool true, .int .i32 mark, .str ⟨#[]⟩, .own 1 0 0 (q.length + 1) (q.length + 1), .data false 1 [] true]]⟩, ⟨1, 0, true, ints q ++ [[.int .i64 x]]⟩] = some (.data false 6 [] true, [⟨10, 0, false, [[.fn (.func n_vt_sequence) [] [], .bool false, .bool false, .bool false, .bool void, .bool true, .int .i32 mark, .str ⟨#[]⟩, .own 1 0 0 (q.length + 1) (q.length + 1), .data false 1 [] true]]⟩, ⟨1, 0, true, ints q ++ [[.int .i64 x]]⟩]) := by
  rw [run_vt_sequence]
  subst h1
  have e0 : (({ data := #[] } : ByteArray) == { data := #[] }) = true := rfl
  have hp := param_fullb G o false void mark { data := #[] } q x h2 (by omega)
  (sym => simp [Qb,Qd,Qe,Qf,Qg,Qi,Qj,Qm,Qn,Qo,Qr,Qt,Qu,Q4,Q5,Q6,Q9,Xa,Xb,Xp,X8,Ya,Yd,Yr,Yt,Yv,Y1,Y5,Y7,Y9,Za,Zb,Zc,Zd,Ze,Zg,Zh,Zi,Zj,Zk,Zl,Zm,Zn,Zq,Zr,Zs,Zt,Zu,Zv,Zw,Zy,Z0,Z1,Z3,Ja,Jb,Jg,Jj,Jk,Jl,Jn,Jp,Jr,Jv,Jx,J4,Kj,Kn,Hh,Hi,Hk,Hl,Nl,Nm,No,Nw,Nx,Be,q32R0.eq_1,q32R1.eq_1,q32R2.eq_1,q32R3.eq_1,q32R4.eq_1,q32R5.eq_1,q32R6.eq_1,q32R7.eq_1,q32R8.eq_1,q32R9.eq_1,q32R10.eq_1,q32R11.eq_1,q32R12.eq_1,q32R13.eq_1,q32R14.eq_1,q32R15.eq_1,q32R16.eq_1,q32R17.eq_1,q32R18.eq_1,q32R19.eq_1,q32R20.eq_1,c_vt_sequence.eq_1,e0,hp])
theorem seq1_fin_voidb (c : Int) (q : List Int) (x : Int) (hq : q.length ≤ 16) (hx : 0 ≤ x) (hx2 : x ≤ 9999) (h1 : 64 ≤ c) : aR G FT n_vt_sequence [.ptr 0 0 0 0, .int .i32 c] [⟨10, 0, false, [[.fn (.func n_vt_sequence) [] [], .bool false, .bool false, .bool false, .bool true, .bool true, .int .i32 mark, .str s, .own 1 0 0 (q.length + 1) (q.length + 1), .data false 1 [] true]]⟩, ⟨1, 0, true, ints q ++ [[.int .i64 x]]⟩] = some (.data false 6 [] true, [⟨10, 0, false, [[.nilfn, .bool false, .bool false, .bool false, .bool false, .bool false, .int .i32 0, .str ⟨#[]⟩, .data false 1 [] true, .data false 1 [] true]]⟩, ⟨1, 0, true, ints q ++ [[.int .i64 x]]⟩, ⟨6, 0, false, [[.int .i64 4, .int .i32 c, .int .i32 mark, .str s, .own 1 0 0 (min (q.length + 1) 16) (q.length + 1), .data false 1 [] true]]⟩]) := by
  rw [run_vt_sequence]
  have h0 : ¬ c < 48 := by omega
  have h2 : 60 ≤ c := by omega
  have h3 : ¬ c < 64 := by omega
  have h4 : ¬ c = 58 := by omega
  have m1 : min ((q.length + 1 : Nat) : Int) 16 = ((min (q.length + 1) 16 : Nat) : Int) := by omega
  have m2 : min (q.length + 1) 16 ≤ q.length + 1 := Nat.min_le_left _ _
  (sym => simp [Qb,Qc,Qd,Qe,Qf,Qg,Qi,Qj,Qr,Qt,Qu,Qv,Qx,Qy,Q1,Q4,Q5,Q6,Q9,Xa,Xl,Xm,Xn,Xp,Xy,X4,X8,Ya,Yd,Ye,Yg,Yk,Ym,Yo,Yr,Yt,Yv,Y1,Y5,Y7,Y9,Za,Zb,Zc,Zd,Ze,Zg,Zh,Zi,Zj,Zk,Zl,Zm,Zn,Zr,Zs,Zt,Zu,Zv,Zw,Zx,Zy,Z0,Z1,Z3,Ja,Jb,Jj,Jk,Jl,Jn,Jo,Jr,Jv,Jx,J1,J2,J4,K0,K1,K2,K8,K9,Ue,Uf,Ug,Uh,Ui,Uj,Ul,Uq,Hh,Hi,Hk,Hl,Ho,Hp,Hr,Hs,Ht,Hu,Hv,Hw,Na,Nf,Ng,Ni,Nk,Nl,Nm,No,Nq,Nx,Nz,N0,Be,q32R0.eq_1,q32R1.eq_1,q32R2.eq_1,q32R3.eq_1,q32R4.eq_1,q32R5.eq_1,q32R6.eq_1,q32R7.eq_1,q32R8.eq_1,q32R9.eq_1,q32R10.eq_1,q32R11.eq_1,q32R12.eq_1,q32R13.eq_1,q32R14.eq_1,q32R15.eq_1,q32R16.eq_1,q32R17.eq_1,q32R18.eq_1,q32R19.eq_1,q32R20.eq_1,c_vt_sequence.eq_1,h0,h2,h3,h4,m1,m2])
theorem seq1_fin_toldb (c : Int) (q : List Int) (x : Int) (hq : q.length ≤ 16) (hx : 0 ≤ x) (hx2 : x ≤ 9999) (h1 : 64 ≤ c) : aR G FT n_vt_sequence [.ptr 0 0 0 0, .int .i32 c] [⟨10, 0, false, [[.fn (.func n_vt_sequence) [] [], .bool false, .bool false, .bool false, .bool false, .bool true, .int .i32 mark, .str s, .own 1 0 0 (q.length + 1) (q.length + 1), .data false 1 [] true]]⟩, ⟨1, 0, true, ints q ++ [[.int .i64 x]]⟩] = some (.own 3 0 0 1 1, [⟨10, 0, false, [[.nilfn, .bool false, .bool false, .bool false, .bool false, .bool false, .int .i32 0, .str ⟨#[]⟩, .data false 1 [] true, .data false 1 [] true]]⟩, ⟨1, 0, true, ints q ++ [[.int .i64 x]]⟩, ⟨6, 0, false, [[.int .i64 4, .int .i32 c, .int .i32 mark, .str s, .own 1 0 0 (min (q.length + 1) 16) (q.length + 1), .data false 1 [] true]]⟩, ⟨6, 0, false, [[.int .i64 4, .int .i32 c, .int .i32 mark, .str s, .own 1 0 0 (min (q.length + 1) 16) (q.length + 1), .data false 1 [] true]]⟩]) := by
  rw [run_vt_sequence]
  have h0 : ¬ c < 48 := by omega
  have h2 : 60 ≤ c := by omega
  have h3 : ¬ c < 64 := by omega
  have h4 : ¬ c = 58 := by omega
  have m1 : min ((q.length + 1 : Nat) : Int) 16 = ((min (q.length + 1) 16 : Nat) : Int) := by omega
  have m2 : min (q.length + 1) 16 ≤ q.length + 1 := Nat.min_le_left _ _
  (sym => simp [Qb,Qc,Qd,Qe,Qf,Qg,Qi,Qj,Qr,Qt,Qu,Qv,Qx,Qy,Qz,Q0,Q1,Q2,Q4,Q5,Q6,Q9,Xa,Xl,Xm,Xn,Xp,Xy,X4,X8,Ya,Yd,Ye,Yg,Yj,Yk,Ym,Yo,Yr,Yt,Yu,Yv,Y1,Y5,Y7,Y9,Za,Zb,Zc,Zd,Ze,Zg,Zh,Zi,Zj,Zk,Zl,Zm,Zn,Zr,Zs,Zt,Zu,Zv,Zw,Zx,Zy,Z0,Z1,Z3,Ja,Jb,Jj,Jk,Jn,Jo,Jr,Jv,Jx,J1,J2,J4,K0,K1,K2,K8,K9,Ua,Ub,Uc,Ud,Ue,Uf,Ug,Uh,Ui,Uj,Ul,Uq,Hh,Hi,Hk,Hl,Ho,Hp,Hq,Hr,Hs,Ht,Hu,Hv,Hw,H2,H3,Na,Nf,Ng,Ni,Nk,Nl,Nm,No,Nq,Nx,Nz,N0,Be,q32R0.eq_1,q32R1.eq_1,q32R2.eq_1,q32R3.eq_1,q32R4.eq_1,q32R5.eq_1,q32R6.eq_1,q32R7.eq_1,q32R8.eq_1,q32R9.eq_1,q32R10.eq_1,q32R11.eq_1,q32R12.eq_1,q32R13.eq_1,q32R14.eq_1,q32R15.eq_1,q32R16.eq_1,q32R17.eq_1,q32R18.eq_1,q32R19.eq_1,q32R20.eq_1,c_vt_sequence.eq_1,h0,h2,h3,h4,m1,m2])
end
section
variable (G : Nat → Option (List AV)) (o : ARow) (fl str told first void asked : Bool) (mark : Int) (s : ByteArray) (step pv tv : AV) (R : List ARow)
include o
theorem end_no_strb : aR G FT n_vt_Parser_end [.ptr 0 0 0 0] (⟨10, 0, fl, [[step, .bool false, .bool told, .bool first, .bool void, .bool asked, .int .i32 mark, .str s, pv, tv]]⟩ :: R) = some (.data false 6 [] true, (⟨10, 0, fl, [[step, .bool false, .bool told, .bool first, .bool void, .bool asked, .int .i32 mark, .str s, pv, tv]]⟩ :: R)) := by
  rw [run_vt_Parser_end]
  (sym => simp [Qb,Qd,Qe,Qf,Qg,Qi,Qj,Qr,Qt,Qu,Q4,Q6,Q9,Xd,Xp,Yr,Yt,Yv,Y1,Y5,Y7,Y9,Za,Zb,Zc,Ze,Zg,Zh,Zi,Zj,Zk,Zl,Zn,Zr,Zs,Zt,Zu,Zv,Zw,Zy,Z0,Z3,Jb,Jj,Jk,Jl,Jr,Jv,Jx,Hh,Hi,Nw,Nx,Be,q26R0.eq_1,q26R1.eq_1,q26R2.eq_1,q26R3.eq_1,c_vt_Parser_end.eq_1])
theorem end_no_toldb : aR G FT n_vt_Parser_end [.ptr 0 0 0 0] (⟨10, 0, fl, [[step, .bool true, .bool false, .bool first, .bool void, .bool asked, .int .i32 mark, .str s, pv, tv]]⟩ :: R) = some (.data false 6 [] true, (⟨10, 0, fl, [[step, .bool true, .bool false, .bool first, .bool void, .bool asked, .int .i32 mark, .str s, pv, tv]]⟩ :: R)) := by
  rw [run_vt_Parser_end]
  (sym => simp [Qb,Qd,Qe,Qf,Qg,Qi,Qj,Qr,Qt,Qu,Q4,Q6,Q9,Xd,Xp,Yr,Yt,Yv,Y1,Y5,Y7,Y9,Za,Zb,Zc,Ze,Zg,Zh,Zi,Zj,Zk,Zl,Zn,Zr,Zs,Zt,Zu,Zv,Zw,Zy,Z0,Z3,Jb,Jj,Jk,Jl,Jr,Jv,Jx,Hh,Hi,Nw,Nx,Be,q26R0.eq_1,q26R1.eq_1,q26R2.eq_1,q26R3.eq_1,c_vt_Parser_end.eq_1])
theorem end_0b : aR G FT n_vt_Parser_end [.ptr 0 0 0 0] [⟨10, 0, fl, [[.fn (.func n_vt_text) [] [], .bool true, .bool true, .bool false, .bool false, .bool false, .int .i32 0, .str ⟨#[]⟩, .data false 1 [] true, .data false 1 [] true]]⟩] = some (.own 2 0 0 1 1, [⟨10, 0, fl, [[.fn (.func n_vt_text) [] [], .bool true, .bool true, .bool false, .bool false, .bool false, .int .i32 0, .str ⟨#[]⟩, .data false 1 [] true, .data false 1 [] true]]⟩, ⟨1, 0, true, []⟩, ⟨6, 0, false, [[.int .i64 5, .int .i32 0, .int .i32 0, .str ⟨#[]⟩, .data false 1 [] true, .own 1 0 0 0 0]]⟩]) := by
  rw [run_vt_Parser_end]
  have hC := clone_rune_run0 G
  (sym => simp [Qb,Qc,Qd,Qe,Qf,Qg,Qi,Qj,Qm,Qn,Qo,Qr,Qt,Qu,Qx,Qy,Qz,Q0,Q1,Q2,Q4,Q6,Q9,Xd,Xp,Yj,Yk,Yo,Yr,Yt,Yv,Y1,Y5,Y7,Y9,Za,Zb,Zc,Ze,Zg,Zh,Zi,Zj,Zk,Zl,Zm,Zn,Zp,Zr,Zs,Zt,Zu,Zv,Zw,Zx,Zy,Zz,Z0,Z3,Jb,Jj,Jk,Jr,Jv,Jx,J1,K8,K9,Ua,Ub,Uc,Ud,Ue,Uf,Ug,Ui,Ul,Uq,Us,U6,Vk,Vm,Vo,Vp,Vq,Vr,Vs,Vt,Vu,Vv,Vw,Vx,V9,Wd,We,Wz,W5,W6,W7,Hh,Hi,Hk,Ho,Hp,Hr,Hs,Ht,Hu,Hv,Hw,Hy,Hz,H2,H3,H5,H6,Nl,No,Nq,Ns,Nw,Nx,Nz,Be,q26R0.eq_1,q26R1.eq_1,q26R2.eq_1,q26R3.eq_1,c_vt_Parser_end.eq_1,hC])
theorem end_1b (ts : List Int) (hl : ts.length ≤ 1000) : aR G FT n_vt_Parser_end [.ptr 0 0 0 0] [⟨10, 0, false, [[.fn (.func n_vt_text) [] [], .bool true, .bool true, .bool false, .bool false, .bool false, .int .i32 0, .str ⟨#[]⟩, .data false 1 [] true, .own 1 0 0 ts.length ts.length]]⟩, ⟨1, 0, true, rn ts⟩] = some (.own 3 0 0 1 1, [⟨10, 0, false, [[.fn (.func n_vt_text) [] [], .bool true, .bool true, .bool false, .bool false, .bool false, .int .i32 0, .str ⟨#[]⟩, .data false 1 [] true, .own 1 0 0 ts.length ts.length]]⟩, ⟨1, 0, true, rn ts⟩, ⟨1, 0, true, rn ts⟩, ⟨6, 0, false, [[.int .i64 5, .int .i32 0, .int .i32 0, .str ⟨#[]⟩, .data false 1 [] true, .own 2 0 0 ts.length ts.length]]⟩]) := by
  rw [run_vt_Parser_end]
  have hC := fun b f => clone_rune_run G b f ts (by omega)
  have l1 := rn_len ts
  have l2 := rn_take ts
  (sym => simp [Qb,Qc,Qd,Qe,Qf,Qg,Qi,Qj,Qm,Qn,Qo,Qr,Qt,Qu,Qx,Qy,Qz,Q0,Q1,Q2,Q4,Q6,Q9,Xd,Xp,Yj,Yk,Yo,Yr,Yt,Yv,Y1,Y5,Y7,Y9,Za,Zb,Zc,Ze,Zg,Zh,Zi,Zj,Zk,Zl,Zm,Zn,Zp,Zr,Zs,Zt,Zu,Zv,Zw,Zx,Zy,Zz,Z0,Z3,Jb,Jj,Jk,Jr,Jv,Jx,J1,K8,K9,Ua,Ub,Uc,Ud,Ue,Uf,Ug,Ui,Ul,Uq,Us,U6,Vk,Vm,Vo,Vp,Vq,Vr,Vs,Vt,Vu,Vv,Vw,Vx,V1,Wd,We,Wz,W5,W6,W7,Hh,Hi,Hk,Ho,Hp,Hr,Hs,Ht,Hu,Hv,Hw,Hy,Hz,H2,H3,H5,H6,H8,Ng,Nl,No,Nq,Nt,Nw,Nx,Nz,Be,q26R0.eq_1,q26R1.eq_1,q26R2.eq_1,q26R3.eq_1,c_vt_Parser_end.eq_1,hC,l1,l2])
theorem txt_end0_nob (c : Int) (h1 : c = 7) : aR G FT n_vt_text [.ptr 0 0 0 0, .int .i32 c] [⟨10, 0, fl, [[.fn (.func n_vt_text) [] [], .bool true, .bool false, .bool false, .bool false, .bool false, .int .i32 0, .str ⟨#[]⟩, .data false 1 [] true, .data false 1 [] true]]⟩] = some (.data false 6 [] true, [⟨10, 0, fl, [[.nilfn, .bool false, .bool false, .bool false, .bool false, .bool false, .int .i32 0, .str ⟨#[]⟩, .data false 1 [] true, .data false 1 [] true]]⟩]) := by
  rw [run_vt_text]
  subst h1
  have he := end_no_toldb G o fl false false false 0 ⟨#[]⟩ (.fn (.func n_vt_text) [] []) (.data false 1 [] true) (.data false 1 [] true) []
  (sym => simp [Qb,Qd,Qe,Qi,Qj,Qm,Qn,Qo,Qr,Qt,Qx,Q1,Q5,Q6,Q9,Xa,X8,Y1,Y5,Y7,Y9,Za,Zb,Zc,Zd,Ze,Zg,Zh,Zi,Zj,Zk,Zl,Zm,Zn,Zq,Zr,Zs,Zt,Zu,Zv,Zw,Zy,Z0,Z1,Jj,Jk,Jl,Jn,Jp,Jr,Jv,Jx,J1,J2,K8,Ue,Uf,Ug,Uh,Ui,Uj,Ul,Hh,Hk,Hp,Hr,Ht,Hv,Hw,Nl,No,Nx,N0,Be,q33R0.eq_1,q33R1.eq_1,q33R2.eq_1,q33R3.eq_1,q33R4.eq_1,q33R5.eq_1,q33R6.eq_1,q33R7.eq_1,c_vt_text.eq_1,he])
theorem txt_end1_nob (c : Int) (h1 : c = 7) (ts : List Int) : aR G FT n_vt_text [.ptr 0 0 0 0, .int .i32 c] [⟨10, 0, false, [[.fn (.func n_vt_text) [] [], .bool true, .bool false, .bool false, .bool false, .bool false, .int .i32 0, .str ⟨#[]⟩, .data false 1 [] true, .own 1 0 0 ts.length ts.length]]⟩, ⟨1, 0, true, rn ts⟩] = some (.data false 6 [] true, [⟨10, 0, false, [[.nilfn, .bool false, .bool false, .bool false, .bool false, .bool false, .int .i32 0, .str ⟨#[]⟩, .data false 1 [] true, .data false 1 [] true]]⟩, ⟨1, 0, true, rn ts⟩]) := by
  rw [run_vt_text]
  subst h1
  have he := end_no_toldb G o false false false false 0 ⟨#[]⟩ (.fn (.func n_vt_text) [] []) (.data false 1 [] true) (.own 1 0 0 ts.length ts.length) [⟨1, 0, true, rn ts⟩]
  (sym => simp [Qb,Qd,Qe,Qi,Qj,Qm,Qn,Qo,Qr,Qt,Qx,Q1,Q5,Q6,Q9,Xa,X8,Y1,Y5,Y7,Y9,Za,Zb,Zc,Zd,Ze,Zg,Zh,Zi,Zj,Zk,Zl,Zm,Zn,Zq,Zr,Zs,Zt,Zu,Zv,Zw,Zy,Z0,Z1,Jj,Jk,Jl,Jn,Jp,Jr,Jv,Jx,J1,J2,K8,Ue,Uf,Ug,Uh,Ui,Uj,Ul,Hh,Hk,Hp,Hr,Ht,Hv,Hw,Nl,No,Nx,N0,Be,q33R0.eq_1,q33R1.eq_1,q33R2.eq_1,q33R3.eq_1,q33R4.eq_1,q33R5.eq_1,q33R6.eq_1,q33R7.eq_1,c_vt_text.eq_1,he])
theorem txt_end0b (c : Int) (h1 : c = 7) : aR G FT n_vt_text [.ptr 0 0 0 0, .int .i32 c] [⟨10, 0, fl, [[.fn (.func n_vt_text) [] [], .bool true, .bool true, .bool false, .bool false, .bool false, .int .i32 0, .str ⟨#[]⟩, .data false 1 [] true, .data false 1 [] true]]⟩] = some (.own 2 0 0 1 1, [⟨10, 0, fl, [[.nilfn, .bool false, .bool false, .bool false, .bool false, .bool false, .int .i32 0, .str ⟨#[]⟩, .data false 1 [] true, .data false 1 [] true]]⟩, ⟨1, 0, true, []⟩, ⟨6, 0, false, [[.int .i64 5, .int .i32 0, .int .i32 0, .str ⟨#[]⟩, .data false 1 [] true, .own 1 0 0 0 0]]⟩]) := by
  rw [run_vt_text]
  subst h1
  have he := end_0b G o fl
  (sym => simp [Qb,Qd,Qe,Qi,Qj,Qm,Qn,Qo,Qr,Qt,Qx,Q1,Q5,Q6,Q9,Xa,X8,Y1,Y5,Y7,Y9,Za,Zb,Zc,Zd,Ze,Zg,Zh,Zi,Zj,Zk,Zl,Zm,Zn,Zq,Zr,Zs,Zt,Zu,Zv,Zw,Zy,Z0,Z1,Jj,Jk,Jl,Jn,Jp,Jr,Jv,Jx,J1,J2,K8,Ue,Uf,Ug,Uh,Ui,Uj,Ul,Hh,Hk,Hp,Hr,Ht,Hv,Hw,Nl,No,Nx,N0,Be,q33R0.eq_1,q33R1.eq_1,q33R2.eq_1,q33R3.eq_1,q33R4.eq_1,q33R5.eq_1,q33R6.eq_1,q33R7.eq_1,c_vt_text.eq_1,he])
theorem txt_end1b (c : Int) (h1 : c = 7) (ts : List Int) (hl : ts.length ≤ 1000) : aR G FT n_vt_text [.ptr 0 0 0 0, .int .i32 c] [⟨10, 0, false, [[.fn (.func n_vt_text) [] [], .bool true, .bool true, .bool false, .bool false, .bool false, .int .i32 0, .str ⟨#[]⟩, .data false 1 [] true, .own 1 0 0 ts.length ts.length]]⟩, ⟨1, 0, true, rn ts⟩] = some (.own 3 0 0 1 1, [⟨10, 0, false, [[.nilfn, .bool false, .bool false, .bool false, .bool false, .bool false, .int .i32 0, .str ⟨#[]⟩, .data false 1 [] true, .data false 1 [] true]]⟩, ⟨1, 0, true, rn ts⟩, ⟨1, 0, true, rn ts⟩, ⟨6, 0, false, [[.int .i64 5, .int .i32 0, .int .i32 0, .str ⟨#[]⟩, .data false 1 [] true, .own 2 0 0 ts.length ts.length]]⟩]) := by
  rw [run_vt_text]
  subst h1
  have he := end_1b G o ts hl
  (sym => simp [Qb,Qd,Qe,Qi,Qj,Qm,Qn,Qo,Qr,Qt,Qx,Q1,Q5,Q6,Q9,Xa,X8,Y1,Y5,Y7,Y9,Za,Zb,Zc,Zd,Ze,Zg,Zh,Zi,Zj,Zk,Zl,Zm,Zn,Zq,Zr,Zs,Zt,Zu,Zv,Zw,Zy,Z0,Z1,Jj,Jk,Jl,Jn,Jp,Jr,Jv,Jx,J1,J2,K8,Ue,Uf,Ug,Uh,Ui,Uj,Ul,Hh,Hk,Hp,Hr,Ht,Hv,Hw,Nl,No,Nx,N0,Be,q33R0.eq_1,q33R1.eq_1,q33R2.eq_1,q33R3.eq_1,q33R4.eq_1,q33R5.eq_1,q33R6.eq_1,q33R7.eq_1,c_vt_text.eq_1,he])
theorem txt_add0b (c : Int) (h1 : 32 ≤ c) (h2 : c ≠ 127) : aR G FT n_vt_text [.ptr 0 0 0 0, .int .i32 c] [⟨10, 0, fl, [[.fn (.func n_vt_text) [] [], .bool true, .bool told, .bool false, .bool false, .bool false, .int .i32 0, .str ⟨#[]⟩, .data false 1 [] true, .data false 1 [] true]]⟩] = some (.data false 6 [] true, [⟨10, 0, false, [[.fn (.func n_vt_text) [] [], .bool true, .bool told, .bool false, .bool false, .bool false, .int .i32 0, .str ⟨#[]⟩, .data false 1 [] true, .own 2 0 0 1 1]]⟩, ⟨1, 0, true, [[.int .i32 c]]⟩, ⟨1, 0, true, [[.int .i32 c]]⟩]) := by
  rw [run_vt_text]
  have h3 : ¬ c = 7 := by omega
  have h4 : ¬ c = 127 := by omega
  (sym => simp [Qb,Qd,Qe,Qf,Qg,Qi,Qj,Qr,Qt,Qu,Qz,Q0,Q2,Q4,Q5,Q6,Q9,Xa,Xp,Xy,X0,X8,X9,Ya,Yd,Yh,Yk,Yr,Yt,Yv,Y1,Y2,Y5,Y7,Y9,Za,Zb,Zc,Zd,Ze,Zg,Zh,Zi,Zj,Zk,Zl,Zm,Zn,Zr,Zs,Zt,Zu,Zv,Zw,Zx,Zy,Zz,Z0,Z1,Z3,Ja,Jj,Jk,Jn,Jo,Jr,Jv,Jx,J7,Kw,Kx,Ua,Ub,Uc,Ud,Ue,Uf,Ug,Hh,Hi,Hk,Hl,Ho,Hq,Hs,Hu,Hv,H2,H3,Ne,Nl,Nm,Nn,No,Nq,Nx,Nz,Be,Bh,q33R0.eq_1,q33R1.eq_1,q33R2.eq_1,q33R3.eq_1,q33R4.eq_1,q33R5.eq_1,q33R6.eq_1,q33R7.eq_1,c_vt_text.eq_1,h1,h3,h4])
theorem txt_add1b (c : Int) (h1 : 32 ≤ c) (h2 : c ≠ 127) (ts : List Int) (hl : ts.length < 64) : aR G FT n_vt_text [.ptr 0 0 0 0, .int .i32 c] [⟨10, 0, false, [[.fn (.func n_vt_text) [] [], .bool true, .bool told, .bool false, .bool false, .bool false, .int .i32 0, .str ⟨#[]⟩, .data false 1 [] true, .own 1 0 0 ts.length ts.length]]⟩, ⟨1, 0, true, rn ts⟩] = some (.data false 6 [] true, [⟨10, 0, false, [[.fn (.func n_vt_text) [] [], .bool true, .bool told, .bool false, .bool false, .bool false, .int .i32 0, .str ⟨#[]⟩, .data false 1 [] true, .own 1 1 0 (ts.length + 1) (ts.length + 1)]]⟩, ⟨1, 1, true, rn ts ++ [[.int .i32 c]]⟩, ⟨1, 0, true, [[.int .i32 c]]⟩]) := by
  rw [run_vt_text]
  have h3 : ¬ c = 7 := by omega
  have h4 : ¬ c = 127 := by omega
  have h5 : (ts.length : Int) < 64 := by omega
  have l1 := rn_len ts
  have l2 := rn_take ts
  have l3 : (ts.length + 1) * 4 ≤ 140737488355328 := by omega
  (sym => simp [Qb,Qd,Qe,Qf,Qg,Qi,Qj,Qr,Qt,Qu,Qz,Q0,Q2,Q4,Q5,Q6,Q9,Xa,Xp,Xy,X0,X8,X9,Ya,Yd,Yg,Yk,Yr,Yt,Yv,Y1,Y2,Y5,Y7,Y9,Za,Zb,Zc,Zd,Ze,Zg,Zh,Zi,Zj,Zk,Zl,Zm,Zn,Zr,Zs,Zt,Zu,Zv,Zw,Zx,Zy,Zz,Z0,Z1,Z3,Ja,Jj,Jk,Jn,Jo,Jr,Jv,Jx,J7,Kv,Kx,Ua,Ub,Uc,Ud,Ue,Uf,Ug,Hh,Hi,Hk,Hl,Ho,Hq,Hs,Hu,Hv,H2,H3,H8,Ne,Ng,Nh,Nl,Nm,No,Nq,Nx,Nz,N2,Be,Bg,q33R0.eq_1,q33R1.eq_1,q33R2.eq_1,q33R3.eq_1,q33R4.eq_1,q33R5.eq_1,q33R6.eq_1,q33R7.eq_1,c_vt_text.eq_1,h1,h3,h4,h5,l1,l2,l3])
theorem txt_fullb (c : Int) (h1 : 32 ≤ c) (h2 : c ≠ 127) (ts : List Int) (hl : ¬ ts.length < 64) : aR G FT n_vt_text [.ptr 0 0 0 0, .int .i32 c] [⟨10, 0, false, [[.fn (.func n_vt_text) [] [], .bool true, .bool told, .bool false, .bool false, .bool false, .int .i32 0, .str ⟨#[]⟩, .data false 1 [] true, .own 1 0 0 ts.length ts.length]]⟩, ⟨1, 0, true, rn ts⟩] = some (.data false 6 [] true, [⟨10, 0, false, [[.fn (.func n_vt_text) [] [], .bool true, .bool told, .bool false, .bool false, .bool false, .int .i32 0, .str ⟨#[]⟩, .data false 1 [] true, .own 1 0 0 ts.length ts.length]]⟩, ⟨1, 0, true, rn ts⟩]) := by
  rw [run_vt_text]
  have h3 : ¬ c = 7 := by omega
  have h4 : ¬ c = 127 := by omega
  have h5 : ¬ (ts.length : Int) < 64 := by omega
  (sym => simp [Qb,Qc,Qd,Qe,Qf,Qg,Qi,Qj,Qr,Qt,Qu,Q4,Q6,Q9,Xa,Xp,Xy,X8,X9,Ya,Yd,Yg,Yr,Yt,Yv,Y1,Y5,Y7,Y9,Za,Zb,Zc,Ze,Zg,Zh,Zi,Zj,Zk,Zl,Zm,Zn,Zr,Zs,Zt,Zu,Zv,Zw,Zy,Z0,Z3,Ja,Jj,Jk,Jn,Jo,Jr,Jv,Jx,Hh,Hi,Ne,Nl,Nm,Nx,Be,q33R0.eq_1,q33R1.eq_1,q33R2.eq_1,q33R3.eq_1,q33R4.eq_1,q33R5.eq_1,q33R6.eq_1,q33R7.eq_1,c_vt_text.eq_1,h1,h3,h4,h5])
theorem txt_lowb (c : Int) (h1 : c < 32) (h2 : c ≠ 7) : aR G FT n_vt_text [.ptr 0 0 0 0, .int .i32 c] (⟨10, 0, fl, [[step, .bool str, .bool told, .bool first, .bool void, .bool asked, .int .i32 mark, .str s, pv, tv]]⟩ :: R) = some (.data false 6 [] true, (⟨10, 0, fl, [[step, .bool str, .bool told, .bool first, .bool void, .bool asked, .int .i32 mark, .str s, pv, tv]]⟩ :: R)) := by
  rw [run_vt_text]
  have h3 : ¬ c = 7 := h2
  have h4 : ¬ 32 ≤ c := by omega
  (sym => simp [Qb,Qc,Qd,Qe,Qf,Qg,Qi,Qj,Qr,Qt,Qu,Xa,X8,Yd,Y1,Y5,Y7,Y9,Za,Zb,Zc,Ze,Zg,Zh,Zi,Zj,Zk,Zl,Zn,Zr,Zs,Zt,Zu,Zv,Zw,Z3,Ja,Jj,Jk,Jn,Jo,Jr,Jv,Jx,Ne,Nm,Be,q33R0.eq_1,q33R1.eq_1,q33R2.eq_1,q33R3.eq_1,q33R4.eq_1,q33R5.eq_1,q33R6.eq_1,q33R7.eq_1,c_vt_text.eq_1,h3,h4])
theorem txt_delb (c : Int) (h1 : c = 127) : aR G FT n_vt_text [.ptr 0 0 0 0, .int .i32 c] (⟨10, 0, fl, [[step, .bool str, .bool told, .bool first, .bool void, .bool asked, .int .i32 mark, .str s, pv, tv]]⟩ :: R) = some (.data false 6 [] true, (⟨10, 0, fl, [[step, .bool str, .bool told, .bool first, .bool void, .bool asked, .int .i32 mark, .str s, pv, tv]]⟩ :: R)) := by
  rw [run_vt_text]
  subst h1
  (sym => simp [Qb,Qc,Qd,Qe,Qf,Qg,Qi,Qj,Qr,Qt,Qu,Xa,X8,X9,Yd,Y1,Y5,Y7,Y9,Za,Zb,Zc,Ze,Zg,Zh,Zi,Zj,Zk,Zl,Zn,Zr,Zs,Zt,Zu,Zv,Zw,Z3,Ja,Jj,Jk,Jn,Jo,Jr,Jv,Jx,Nl,Nm,Nw,Be,q33R0.eq_1,q33R1.eq_1,q33R2.eq_1,q33R3.eq_1,q33R4.eq_1,q33R5.eq_1,q33R6.eq_1,q33R7.eq_1,c_vt_text.eq_1])
end
section
variable (G : Nat → Option (List AV)) (o : ARow) (fl str told first void asked : Bool) (mark : Int) (s : ByteArray) (step pv tv : AV) (R : List ARow) (n : Nat)
include o
theorem one_nilb (c : Int) (h1 : ¬ c = 27) : aR G FT n_vt_Parser_one [.ptr 0 0 0 0, .int .i32 c] (⟨10, 0, fl, [[.nilfn, .bool str, .bool told, .bool first, .bool void, .bool asked, .int .i32 mark, .str s, pv, tv]]⟩ :: R) = some (.data false 6 (actG (wordT c)) false, (⟨10, 0, fl, [[.nilfn, .bool str, .bool told, .bool first, .bool void, .bool asked, .int .i32 mark, .str s, pv, tv]]⟩ :: R)) := by
  rw [run_vt_Parser_one]
  have hw := ground_P G c
  (sym => simp [Qa,Qb,Qd,Qe,Qf,Qg,Qi,Qj,Qm,Qn,Qo,Qr,Qt,Qu,Q4,Q6,Q9,Xa,Xc,Xp,X9,Yr,Yt,Yv,Y1,Y5,Y7,Y9,Za,Zb,Zc,Ze,Zg,Zh,Zi,Zj,Zk,Zl,Zn,Zo,Zr,Zs,Zt,Zu,Zv,Zw,Zy,Z0,Ja,Jh,Jj,Jk,Jl,Jm,Jn,Jp,Jq,Jr,Jv,Jx,Ko,V6,Wd,We,Hh,Nm,Nx,Be,q27R0.eq_1,q27R1.eq_1,q27R2.eq_1,q27R3.eq_1,q27R4.eq_1,q27R5.eq_1,q27R6.eq_1,q27R7.eq_1,q27R8.eq_1,q27R9.eq_1,q27R10.eq_1,q27R11.eq_1,q27R12.eq_1,q27R13.eq_1,q27R14.eq_1,q27R15.eq_1,q27R16.eq_1,c_vt_Parser_one.eq_1,h1,hw])
theorem one_nil27b (c : Int) (h1 : c = 27) : aR G FT n_vt_Parser_one [.ptr 0 0 0 0, .int .i32 c] (⟨10, 0, fl, [[.nilfn, .bool false, .bool false, .bool false, .bool false, .bool false, .int .i32 0, .str ⟨#[]⟩, .data false 1 [] true, .data false 1 [] true]]⟩ :: R) = some (.data false 6 [] true, (⟨10, 0, fl, [[.fn (.func n_vt_escape) [] [], .bool false, .bool false, .bool false, .bool false, .bool false, .int .i32 0, .str ⟨#[]⟩, .data false 1 [] true, .data false 1 [] true]]⟩ :: R)) := by
  rw [run_vt_Parser_one]
  subst h1
  have he := end_no_strb G o fl false false false false 0 ⟨#[]⟩ .nilfn (.data false 1 [] true) (.data false 1 [] true) R
  (sym => simp [Qa,Qb,Qc,Qd,Qe,Qf,Qg,Qi,Qj,Ql,Qm,Qn,Qo,Qr,Qt,Qu,Qx,Qy,Q1,Q4,Q5,Q6,Q9,Xa,Xc,Xp,X8,X9,Yq,Yr,Yt,Yv,Y1,Y5,Y7,Y9,Za,Zb,Zc,Zd,Ze,Zg,Zh,Zi,Zj,Zk,Zl,Zm,Zn,Zq,Zr,Zs,Zt,Zu,Zv,Zw,Zy,Z0,Z1,Z3,Ja,Jh,Jj,Jk,Jl,Jm,Jn,Jp,Jq,Jr,Jv,Jx,J1,J2,Ko,K8,K9,Ue,Uf,Ug,Uh,Ui,Ul,Uo,Hh,Hk,Hp,Hr,Hs,Ht,Hu,Hv,Hw,Nl,No,Nw,Nx,Nz,N0,Be,q27R0.eq_1,q27R1.eq_1,q27R2.eq_1,q27R3.eq_1,q27R4.eq_1,q27R5.eq_1,q27R6.eq_1,q27R7.eq_1,q27R8.eq_1,q27R9.eq_1,q27R10.eq_1,q27R11.eq_1,q27R12.eq_1,q27R13.eq_1,q27R14.eq_1,q27R15.eq_1,q27R16.eq_1,c_vt_Parser_one.eq_1,he])
theorem one_can24b (c : Int) (h1 : c = 24) : aR G FT n_vt_Parser_one [.ptr 0 0 0 0, .int .i32 c] (⟨10, 0, fl, [[.fn (.func n) [] [], .bool str, .bool told, .bool first, .bool void, .bool asked, .int .i32 mark, .str s, pv, tv]]⟩ :: R) = some (.data false 6 (actG (wordT 24)) false, (⟨10, 0, fl, [[.nilfn, .bool false, .bool false, .bool false, .bool false, .bool false, .int .i32 0, .str ⟨#[]⟩, .data false 1 [] true, .data false 1 [] true]]⟩ :: R)) := by
  rw [run_vt_Parser_one]
  subst h1
  have hw := ground_P G 24
  (sym => simp [Qa,Qb,Qc,Qd,Qe,Qf,Qg,Qi,Qj,Qm,Qn,Qo,Qr,Qt,Qu,Qx,Q1,Q4,Q5,Q6,Q9,Xa,Xc,Xp,X8,Yr,Yt,Yv,Y1,Y5,Y7,Y9,Za,Zb,Zc,Zd,Ze,Zg,Zh,Zi,Zj,Zk,Zl,Zm,Zn,Zo,Zr,Zs,Zt,Zu,Zv,Zw,Zy,Z0,Z1,Z3,Ja,Jb,Jh,Jj,Jk,Jl,Jm,Jn,Jp,Jq,Jr,Jv,Jx,J1,J2,Kq,K8,Ue,Uf,Ug,Uh,Ui,Uj,Ul,V6,Wd,We,Hh,Hk,Hp,Hr,Ht,Hv,Hw,Nl,Nm,No,Nw,Nx,N0,Be,q27R0.eq_1,q27R1.eq_1,q27R2.eq_1,q27R3.eq_1,q27R4.eq_1,q27R5.eq_1,q27R6.eq_1,q27R7.eq_1,q27R8.eq_1,q27R9.eq_1,q27R10.eq_1,q27R11.eq_1,q27R12.eq_1,q27R13.eq_1,q27R14.eq_1,q27R15.eq_1,q27R16.eq_1,c_vt_Parser_one.eq_1,hw])
theorem one_can26b (c : Int) (h1 : c = 26) : aR G FT n_vt_Parser_one [.ptr 0 0 0 0, .int .i32 c] (⟨10, 0, fl, [[.fn (.func n) [] [], .bool str, .bool told, .bool first, .bool void, .bool asked, .int .i32 mark, .str s, pv, tv]]⟩ :: R) = some (.data false 6 (actG (wordT 26)) false, (⟨10, 0, fl, [[.nilfn, .bool false, .bool false, .bool false, .bool false, .bool false, .int .i32 0, .str ⟨#[]⟩, .data false 1 [] true, .data false 1 [] true]]⟩ :: R)) := by
  rw [run_vt_Parser_one]
  subst h1
  have hw := ground_P G 26
  (sym => simp [Qa,Qb,Qc,Qd,Qe,Qf,Qg,Qi,Qj,Qm,Qn,Qo,Qr,Qt,Qu,Qx,Q1,Q4,Q5,Q6,Q9,Xa,Xc,Xp,X8,Yr,Yt,Yv,Y1,Y5,Y7,Y9,Za,Zb,Zc,Zd,Ze,Zg,Zh,Zi,Zj,Zk,Zl,Zm,Zn,Zo,Zr,Zs,Zt,Zu,Zv,Zw,Zy,Z0,Z1,Z3,Ja,Jb,Jh,Jj,Jk,Jl,Jm,Jn,Jp,Jq,Jr,Jv,Jx,J1,J2,Kq,K8,Ue,Uf,Ug,Uh,Ui,Uj,Ul,V6,Wd,We,Hh,Hk,Hp,Hr,Ht,Hv,Hw,Nl,Nm,No,Nx,N0,Be,q27R0.eq_1,q27R1.eq_1,q27R2.eq_1,q27R3.eq_1,q27R4.eq_1,q27R5.eq_1,q27R6.eq_1,q27R7.eq_1,q27R8.eq_1,q27R9.eq_1,q27R10.eq_1,q27R11.eq_1,q27R12.eq_1,q27R13.eq_1,q27R14.eq_1,q27R15.eq_1,q27R16.eq_1,c_vt_Parser_one.eq_1,hw])
theorem one_s27b (c : Int) (h1 : c = 27) : aR G FT n_vt_Parser_one [.ptr 0 0 0 0, .int .i32 c] (⟨10, 0, fl, [[.fn (.func n) [] [], .bool false, .bool told, .bool first, .bool void, .bool asked, .int .i32 mark, .str s, pv, tv]]⟩ :: R) = some (.data false 6 [] true, (⟨10, 0, fl, [[.fn (.func n_vt_escape) [] [], .bool false, .bool false, .bool false, .bool false, .bool false, .int .i32 0, .str ⟨#[]⟩, .data false 1 [] true, .data false 1 [] true]]⟩ :: R)) := by
  rw [run_vt_Parser_one]
  subst h1
  have he := end_no_strb G o fl told first void asked mark s (.fn (.func n) [] []) pv tv R
  (sym => simp [Qa,Qb,Qc,Qd,Qe,Qf,Qg,Qi,Qj,Ql,Qm,Qn,Qo,Qr,Qt,Qu,Qx,Qy,Q1,Q4,Q5,Q6,Q9,Xa,Xc,Xp,X8,Yq,Yr,Yt,Yv,Y1,Y5,Y7,Y9,Za,Zb,Zc,Zd,Ze,Zg,Zh,Zi,Zj,Zk,Zl,Zm,Zn,Zq,Zr,Zs,Zt,Zu,Zv,Zw,Zy,Z0,Z1,Z3,Ja,Jh,Jj,Jk,Jl,Jm,Jn,Jp,Jq,Jr,Jv,Jx,J1,J2,Kq,K8,K9,Ue,Uf,Ug,Uh,Ui,Ul,Uo,Hh,Hk,Hp,Hr,Hs,Ht,Hu,Hv,Hw,Nl,No,Nx,Nz,N0,Be,q27R0.eq_1,q27R1.eq_1,q27R2.eq_1,q27R3.eq_1,q27R4.eq_1,q27R5.eq_1,q27R6.eq_1,q27R7.eq_1,q27R8.eq_1,q27R9.eq_1,q27R10.eq_1,q27R11.eq_1,q27R12.eq_1,q27R13.eq_1,q27R14.eq_1,q27R15.eq_1,q27R16.eq_1,c_vt_Parser_one.eq_1,he])
theorem one_hib (c : Int) (h1 : 160 ≤ c) : aR G FT n_vt_Parser_one [.ptr 0 0 0 0, .int .i32 c] (⟨10, 0, fl, [[.fn (.func n) [] [], .bool false, .bool told, .bool first, .bool void, .bool asked, .int .i32 mark, .str s, pv, tv]]⟩ :: R) = some (.data false 6 (actG (wordT c)) false, (⟨10, 0, fl, [[.nilfn, .bool false, .bool false, .bool false, .bool false, .bool false, .int .i32 0, .str ⟨#[]⟩, .data false 1 [] true, .data false 1 [] true]]⟩ :: R)) := by
  rw [run_vt_Parser_one]
  have hw := ground_P G c
  have h2 : ¬ c = 27 := by omega
  have h3 : ¬ c = 24 := by omega
  have h4 : ¬ c = 26 := by omega
  (sym => simp [Qa,Qb,Qc,Qd,Qe,Qf,Qg,Qi,Qj,Qm,Qn,Qo,Qr,Qt,Qu,Qx,Q1,Q4,Q5,Q6,Q9,Xa,Xc,Xp,X8,Yd,Yr,Yt,Yv,Y1,Y5,Y7,Y9,Za,Zb,Zc,Zd,Ze,Zg,Zh,Zi,Zj,Zk,Zl,Zm,Zn,Zo,Zr,Zs,Zt,Zu,Zv,Zw,Zy,Z0,Z1,Z3,Ja,Jb,Jh,Jj,Jk,Jl,Jm,Jn,Jo,Jp,Jq,Jr,Jv,Jx,J1,J2,Kq,K8,Ue,Uf,Ug,Uh,Ui,Uj,Ul,V6,Wd,We,Hh,Hi,Hk,Hp,Hr,Ht,Hv,Hw,Nl,Nm,No,Nx,N0,Be,q27R0.eq_1,q27R1.eq_1,q27R2.eq_1,q27R3.eq_1,q27R4.eq_1,q27R5.eq_1,q27R6.eq_1,q27R7.eq_1,q27R8.eq_1,q27R9.eq_1,q27R10.eq_1,q27R11.eq_1,q27R12.eq_1,q27R13.eq_1,q27R14.eq_1,q27R15.eq_1,q27R16.eq_1,c_vt_Parser_one.eq_1,h1,h2,h3,h4,hw])
theorem one_lowb (c : Int) (h1 : c < 32) (h2 : ¬ c = 27) (h3 : ¬ c = 24) (h4 : ¬ c = 26) : aR G FT n_vt_Parser_one [.ptr 0 0 0 0, .int .i32 c] (⟨10, 0, fl, [[.fn (.func n) [] [], .bool false, .bool told, .bool first, .bool void, .bool asked, .int .i32 mark, .str s, pv, tv]]⟩ :: R) = some (.data false 6 (actG (wordT c)) false, (⟨10, 0, fl, [[.fn (.func n) [] [], .bool false, .bool told, .bool first, .bool void, .bool asked, .int .i32 mark, .str s, pv, tv]]⟩ :: R)) := by
  rw [run_vt_Parser_one]
  have hw := ground_P G c
  have h5 : ¬ 160 ≤ c := by omega
  (sym => simp [Qa,Qb,Qc,Qd,Qe,Qf,Qg,Qi,Qj,Qm,Qn,Qo,Qr,Qt,Qu,Q4,Q6,Q9,Xa,Xc,Xp,X8,Ya,Yd,Yr,Yt,Yv,Y1,Y5,Y7,Y9,Za,Zb,Zc,Ze,Zg,Zh,Zi,Zj,Zk,Zl,Zn,Zo,Zr,Zs,Zt,Zu,Zv,Zw,Zy,Z0,Z3,Ja,Jb,Jh,Jj,Jk,Jl,Jm,Jn,Jp,Jq,Jr,Jv,Jx,Kq,V6,Wd,We,Hh,Hi,Nl,Nm,Nw,Nx,Be,q27R0.eq_1,q27R1.eq_1,q27R2.eq_1,q27R3.eq_1,q27R4.eq_1,q27R5.eq_1,q27R6.eq_1,q27R7.eq_1,q27R8.eq_1,q27R9.eq_1,q27R10.eq_1,q27R11.eq_1,q27R12.eq_1,q27R13.eq_1,q27R14.eq_1,q27R15.eq_1,q27R16.eq_1,c_vt_Parser_one.eq_1,h1,h2,h3,h4,h5,hw])
theorem one_delb (c : Int) (h1 : c = 127) : aR G FT n_vt_Parser_one [.ptr 0 0 0 0, .int .i32 c] (⟨10, 0, fl, [[.fn (.func n) [] [], .bool false, .bool told, .bool first, .bool void, .bool asked, .int .i32 mark, .str s, pv, tv]]⟩ :: R) = some (.data false 6 (actG (wordT 127)) false, (⟨10, 0, fl, [[.fn (.func n) [] [], .bool false, .bool told, .bool first, .bool void, .bool asked, .int .i32 mark, .str s, pv, tv]]⟩ :: R)) := by
  rw [run_vt_Parser_one]
  subst h1
  have hw := ground_P G 127
  (sym => simp [Qa,Qb,Qc,Qd,Qe,Qf,Qg,Qi,Qj,Qm,Qn,Qo,Qr,Qt,Qu,Q4,Q6,Q9,Xa,Xc,Xp,X8,Ya,Yd,Yr,Yt,Yv,Y1,Y5,Y7,Y9,Za,Zb,Zc,Ze,Zg,Zh,Zi,Zj,Zk,Zl,Zn,Zo,Zr,Zs,Zt,Zu,Zv,Zw,Zy,Z0,Z3,Ja,Jb,Jh,Jj,Jk,Jl,Jm,Jn,Jp,Jq,Jr,Jv,Jx,Kq,V6,Wd,We,Hh,Hi,Nl,Nm,Nx,Be,q27R0.eq_1,q27R1.eq_1,q27R2.eq_1,q27R3.eq_1,q27R4.eq_1,q27R5.eq_1,q27R6.eq_1,q27R7.eq_1,q27R8.eq_1,q27R9.eq_1,q27R10.eq_1,q27R11.eq_1,q27R12.eq_1,q27R13.eq_1,q27R14.eq_1,q27R15.eq_1,q27R16.eq_1,c_vt_Parser_one.eq_1,hw])
theorem one_gob (c : Int) (h1 : 32 ≤ c) (h2 : ¬ c = 127) (h3 : c < 160) (v : AV) (hx : List ARow) (he : aR G FT n [.ptr 0 0 0 0, .int .i32 c] (⟨10, 0, fl, [[.fn (.func n) [] [], .bool false, .bool told, .bool first, .bool void, .bool asked, .int .i32 mark, .str s, pv, tv]]⟩ :: R) = some (v, hx)) : aR G FT n_vt_Parser_one [.ptr 0 0 0 0, .int .i32 c] (⟨10, 0, fl, [[.fn (.func n) [] [], .bool false, .bool told, .bool first, .bool void, .bool asked, .int .i32 mark, .str s, pv, tv]]⟩ :: R) = some (v, hx) := by
  rw [run_vt_Parser_one]
  have h4 : ¬ c = 27 := by omega
  have h5 : ¬ c = 24 := by omega
  have h6 : ¬ c = 26 := by omega
  have h7 : ¬ 160 ≤ c := by omega
  have h8 : ¬ c < 32 := by omega
  (sym => simp [Qa,Qb,Qc,Qd,Qe,Qf,Qg,Qi,Qj,Qm,Qn,Qp,Qq,Qr,Qt,Qu,Q4,Q6,Q9,Xa,Xc,Xp,X8,Ya,Yd,Yr,Yt,Yv,Y1,Y5,Y7,Y9,Za,Zb,Zc,Ze,Zg,Zh,Zi,Zj,Zk,Zl,Zn,Zr,Zs,Zt,Zu,Zv,Zw,Zy,Z0,Z3,Ja,Jb,Jh,Jj,Jk,Jm,Jn,Jq,Jr,Jv,Jx,Kq,Hh,Hi,Hv,Hw,Nm,Nx,Be,q27R0.eq_1,q27R1.eq_1,q27R2.eq_1,q27R3.eq_1,q27R4.eq_1,q27R5.eq_1,q27R6.eq_1,q27R7.eq_1,q27R8.eq_1,q27R9.eq_1,q27R10.eq_1,q27R11.eq_1,q27R12.eq_1,q27R13.eq_1,q27R14.eq_1,q27R15.eq_1,q27R16.eq_1,c_vt_Parser_one.eq_1,he,h2,h4,h5,h6,h7,h8])
theorem one_strb (c : Int) (h2 : ¬ c = 27) (h3 : ¬ c = 24) (h4 : ¬ c = 26) (v : AV) (hx : List ARow) (he : aR G FT n [.ptr 0 0 0 0, .int .i32 c] (⟨10, 0, fl, [[.fn (.func n) [] [], .bool true, .bool told, .bool first, .bool void, .bool asked, .int .i32 mark, .str s, pv, tv]]⟩ :: R) = some (v, hx)) : aR G FT n_vt_Parser_one [.ptr 0 0 0 0, .int .i32 c] (⟨10, 0, fl, [[.fn (.func n) [] [], .bool true, .bool told, .bool first, .bool void, .bool asked, .int .i32 mark, .str s, pv, tv]]⟩ :: R) = some (v, hx) := by
  rw [run_vt_Parser_one]
  (sym => simp [Qa,Qb,Qc,Qd,Qe,Qf,Qg,Qi,Qj,Qm,Qn,Qp,Qq,Qr,Qt,Qu,Q4,Q6,Q9,Xa,Xc,Xp,X8,Yr,Yt,Yv,Y1,Y5,Y7,Y9,Za,Zb,Zc,Ze,Zg,Zh,Zi,Zj,Zk,Zl,Zn,Zr,Zs,Zt,Zu,Zv,Zw,Zy,Z0,Z3,Ja,Jb,Jh,Jj,Jk,Jl,Jm,Jn,Jp,Jq,Jr,Jv,Jx,Kq,Hh,Hi,Hv,Hw,Nm,Nx,Be,q27R0.eq_1,q27R1.eq_1,q27R2.eq_1,q27R3.eq_1,q27R4.eq_1,q27R5.eq_1,q27R6.eq_1,q27R7.eq_1,q27R8.eq_1,q27R9.eq_1,q27R10.eq_1,q27R11.eq_1,q27R12.eq_1,q27R13.eq_1,q27R14.eq_1,q27R15.eq_1,q27R16.eq_1,c_vt_Parser_one.eq_1,he,h2,h3,h4])
theorem one_str27b (c : Int) (h1 : c = 27) (v : AV) (rx : List ARow) (he : aR G FT n_vt_Parser_end [.ptr 0 0 0 0] (⟨10, 0, fl, [[.fn (.func n) [] [], .bool true, .bool told, .bool first, .bool void, .bool asked, .int .i32 mark, .str s, pv, tv]]⟩ :: R) = some (v, (⟨10, 0, fl, [[.fn (.func n) [] [], .bool true, .bool told, .bool first, .bool void, .bool asked, .int .i32 mark, .str s, pv, tv]]⟩ :: rx))) : aR G FT n_vt_Parser_one [.ptr 0 0 0 0, .int .i32 c] (⟨10, 0, fl, [[.fn (.func n) [] [], .bool true, .bool told, .bool first, .bool void, .bool asked, .int .i32 mark, .str s, pv, tv]]⟩ :: R) = some (v, (⟨10, 0, fl, [[.fn (.func n_vt_escape) [] [], .bool false, .bool false, .bool false, .bool false, .bool false, .int .i32 0, .str ⟨#[]⟩, .data false 1 [] true, .data false 1 [] true]]⟩ :: rx)) := by
  rw [run_vt_Parser_one]
  subst h1
  (sym => simp [Qa,Qb,Qc,Qd,Qe,Qf,Qg,Qi,Qj,Ql,Qm,Qn,Qo,Qr,Qt,Qu,Qx,Qy,Q1,Q4,Q5,Q6,Q9,Xa,Xc,Xp,X8,Yq,Yr,Yt,Yv,Y1,Y5,Y7,Y9,Za,Zb,Zc,Zd,Ze,Zg,Zh,Zi,Zj,Zk,Zl,Zm,Zn,Zq,Zr,Zs,Zt,Zu,Zv,Zw,Zy,Z0,Z1,Z3,Ja,Jh,Jj,Jk,Jl,Jm,Jn,Jp,Jq,Jr,Jv,Jx,J1,J2,Kq,K8,K9,Ue,Uf,Ug,Uh,Ui,Ul,Uo,Hh,Hk,Hp,Hr,Hs,Ht,Hu,Hv,Hw,Nl,No,Nx,Nz,N0,Be,q27R0.eq_1,q27R1.eq_1,q27R2.eq_1,q27R3.eq_1,q27R4.eq_1,q27R5.eq_1,q27R6.eq_1,q27R7.eq_1,q27R8.eq_1,q27R9.eq_1,q27R10.eq_1,q27R11.eq_1,q27R12.eq_1,q27R13.eq_1,q27R14.eq_1,q27R15.eq_1,q27R16.eq_1,c_vt_Parser_one.eq_1,he])
end
section
def canonRb : VS → Bool → List ARow
  | .nil, fl => [⟨10, 0, fl, [[.nilfn, .bool false, .bool false, .bool false, .bool false, .bool false, .int .i32 0, .str ⟨#[]⟩, .data false 1 [] true, .data false 1 [] true]]⟩]
  | .esc v s, fl => [⟨10, 0, fl, [[.fn (.func n_vt_escape) [] [], .bool false, .bool false, .bool false, .bool v, .bool false, .int .i32 0, .str s, .data false 1 [] true, .data false 1 [] true]]⟩]
  | .seq0 f v m s, fl => [⟨10, 0, fl, [[.fn (.func n_vt_sequence) [] [], .bool false, .bool false, .bool f, .bool v, .bool false, .int .i32 m, .str s, .data false 1 [] true, .data false 1 [] true]]⟩]
  | .seq1 v m s q x, _ => [⟨10, 0, false, [[.fn (.func n_vt_sequence) [] [], .bool false, .bool false, .bool false, .bool v, .bool true, .int .i32 m, .str s, .own 1 0 0 (q.length + 1) (q.length + 1), .data false 1 [] true]]⟩, ⟨1, 0, true, ints q ++ [[.int .i64 x]]⟩]
  | .txt0 t, fl => [⟨10, 0, fl, [[.fn (.func n_vt_text) [] [], .bool true, .bool t, .bool false, .bool false, .bool false, .int .i32 0, .str ⟨#[]⟩, .data false 1 [] true, .data false 1 [] true]]⟩]
  | .txt1 t ts, _ => [⟨10, 0, false, [[.fn (.func n_vt_text) [] [], .bool true, .bool t, .bool false, .bool false, .bool false, .int .i32 0, .str ⟨#[]⟩, .data false 1 [] true, .own 1 0 0 ts.length ts.length]]⟩, ⟨1, 0, true, rn ts⟩]
def Stb (o : ARow) (h : List ARow) : VS → Prop
  | .nil => ∃ fl R, h = ⟨10, 0, fl, [[.nilfn, .bool false, .bool false, .bool false, .bool false, .bool false, .int .i32 0, .str ⟨#[]⟩, .data false 1 [] true, .data false 1 [] true]]⟩ :: R
  | .esc v s => ∃ fl R, h = ⟨10, 0, fl, [[.fn (.func n_vt_escape) [] [], .bool false, .bool false, .bool false, .bool v, .bool false, .int .i32 0, .str s, .data false 1 [] true, .data false 1 [] true]]⟩ :: R
  | .seq0 f v m s => ∃ fl R, h = ⟨10, 0, fl, [[.fn (.func n_vt_sequence) [] [], .bool false, .bool false, .bool f, .bool v, .bool false, .int .i32 m, .str s, .data false 1 [] true, .data false 1 [] true]]⟩ :: R
  | .seq1 v m s q x => ∃ i g R, h = ⟨10, 0, false, [[.fn (.func n_vt_sequence) [] [], .bool false, .bool false, .bool false, .bool v, .bool true, .int .i32 m, .str s, .own i g 0 (q.length + 1) (q.length + 1), .data false 1 [] true]]⟩ :: R ∧ 1 ≤ i ∧ h[i]? = some ⟨1, g, true, ints q ++ [[.int .i64 x]]⟩
  | .txt0 t => ∃ fl R, h = ⟨10, 0, fl, [[.fn (.func n_vt_text) [] [], .bool true, .bool t, .bool false, .bool false, .bool false, .int .i32 0, .str ⟨#[]⟩, .data false 1 [] true, .data false 1 [] true]]⟩ :: R
  | .txt1 t ts => ∃ i g R, h = ⟨10, 0, false, [[.fn (.func n_vt_text) [] [], .bool true, .bool t, .bool false, .bool false, .bool false, .int .i32 0, .str ⟨#[]⟩, .data false 1 [] true, .own i g 0 ts.length ts.length]]⟩ :: R ∧ 1 ≤ i ∧ h[i]? = some ⟨1, g, true, rn ts⟩

variable (o p a : ARow) (R h : List ARow)
include o
end
section
variable (G : Nat → Option (List AV)) (o : ARow) (fl : Bool)
include o
omit o in
theorem secondb (c : Int) (h1 : 64 ≤ c) (h2 : c < 96) (R : List ARow) (o : ARow) (fl : Bool) :
    (∃ p, aR G FT n_vt_Parser_one [.ptr 0 0 0 0, .int .i32 c] (canonRb (.esc false ⟨#[]⟩) fl ++ R) = some (.data false 6 [] true, p :: R) ∧ (vtEsc false ⟨#[]⟩ c).1 = [] ∧ ∀ R', Stb o (p :: R') (vtEsc false ⟨#[]⟩ c).2) ∨
    (∃ p a, aR G FT n_vt_Parser_one [.ptr 0 0 0 0, .int .i32 c] (canonRb (.esc false ⟨#[]⟩) fl ++ R) = some (.own (R.length + 1 + 1) 0 0 1 1, p :: (R ++ [a] ++ [⟨6, 0, true, [[.int .i64 3, .int .i32 c, .int .i32 0, .str ⟨#[]⟩, .data false 1 [] true, .data false 1 [] true]]⟩])) ∧ (vtEsc false ⟨#[]⟩ c).1 = [escA c ⟨#[]⟩] ∧ ∀ R', Stb o (p :: R') (vtEsc false ⟨#[]⟩ c).2) := by
  have go := fun w hx he => one_gob G o fl false false false false 0 ⟨#[]⟩ (.data false 1 [] true) (.data false 1 [] true) R n_vt_escape c (by omega) (by omega) (by omega) w hx he
  have z : (⟨#[]⟩ : ByteArray).size = 0 := rfl
  unfold vtEsc
  rw [if_neg (by omega)]
  by_cases k1 : c = 91
  · rw [if_pos ⟨z, k1⟩]; exact .inl ⟨_, go _ _ (esc_seqb G o fl R c false ⟨#[]⟩ k1), rfl, fun R' => ⟨_, _, rfl⟩⟩
  rw [if_neg (fun h => k1 h.2)]
  by_cases k2 : c = 93
  · rw [if_pos ⟨z, k2⟩]; exact .inl ⟨_, go _ _ (esc_oscb G o fl R c false ⟨#[]⟩ k2), rfl, fun R' => ⟨_, _, rfl⟩⟩
  rw [if_neg (fun h => k2 h.2)]
  by_cases k3 : c = 80
  · rw [if_pos ⟨z, .inl k3⟩]; exact .inl ⟨_, go _ _ (esc_str80b G o fl R c false ⟨#[]⟩ k3), rfl, fun R' => ⟨_, _, rfl⟩⟩
  by_cases k4 : c = 88
  · rw [if_pos ⟨z, .inr (.inl k4)⟩]; exact .inl ⟨_, go _ _ (esc_str88b G o fl R c false ⟨#[]⟩ k4), rfl, fun R' => ⟨_, _, rfl⟩⟩
  by_cases k5 : c = 94
  · rw [if_pos ⟨z, .inr (.inr (.inl k5))⟩]; exact .inl ⟨_, go _ _ (esc_str94b G o fl R c false ⟨#[]⟩ k5), rfl, fun R' => ⟨_, _, rfl⟩⟩
  by_cases k6 : c = 95
  · rw [if_pos ⟨z, .inr (.inr (.inr k6))⟩]; exact .inl ⟨_, go _ _ (esc_str95b G o fl R c false ⟨#[]⟩ k6), rfl, fun R' => ⟨_, _, rfl⟩⟩
  rw [if_neg (by omega), if_neg (by simp)]
  exact .inr ⟨_, _, go _ _ (esc_fin0_toldb G o fl R c false ⟨#[]⟩ (by omega) k1 k2 k3 k4 k5 k6), rfl, fun R' => ⟨_, _, rfl⟩⟩
end
end Go.Proofs.Ytkkcblfoaldckaa
