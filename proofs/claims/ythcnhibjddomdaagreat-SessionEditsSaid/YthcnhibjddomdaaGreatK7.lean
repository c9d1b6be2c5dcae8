/- Parts of the proof: TokR1, Seb, Sec, Sed, See, Sef, Sf2, Seh, Sej, Seg, Sek, Sf3, Qd2, TokR2, Sem, Ee1. Conditions: as each statement says. -/
import Derived.Test.YthcnhibjddomdaaGreatK6
import Derived.Test.YthcnhibjddomdaaGreatK5
import Derived.KernelRfl
import Derived.Test.YthcnhibjddomdaaGreatK3
set_option maxRecDepth 100000
set_option maxHeartbeats 8000000
set_option linter.unusedVariables false
set_option linter.unusedSimpArgs false
set_option linter.unusedSectionVars false
namespace Go.Proofs.YthcnhibjddomdaaGreat
section
open Go
variable (G:Nat→Option (List AV))
theorem zAn (l:List Int) (b f:Bool) (x:Int) (hl:l.length<9223372036854775807):∀ (m i:Nat),i+m=l.length→
  aE G FT 0 WR ⟨[(0,.data b 1 (ints l) f),(1,.int .i64 x),(5,.int .i64 i)],[]⟩=
   if x ∈ l.drop i then some (.ret,⟨[(4,.bool true)],[]⟩) else some (.exit 0,⟨[(0,.data b 1 (ints l) f),(1,.int .i64 x),(5,.int .i64 l.length),(9,.bool false)],[]⟩):=by
 intro m
 induction m with
 | zero=>
  intro i hi
  rw [WR,zn]
  have e:l.drop i=[]:=List.drop_eq_nil_of_le (by omega)
  have ei:i=l.length:=by omega
  subst ei
  have e0:decide ((l.length:Int)<l.length)=false:=by simp
  have hln:=zw l
  rw [e,if_neg (by simp)]
  (sym=>simp [Qa,Qd,Qe,Qi,Qr,Qt,Xa,Xy,Ya,Yh,Y9,Za,Zb,Zc,Ze,Zg,Zh,Zk,Zl,Zt,Zv,Zw,Z3,Jj,Jk,Jm,Jr,Ju,Jv,Ux,U0,U4,U5,Vb,Ve,Vo,Vq,Vr,Vt,Vv,Vw,Vy,Vz,V0,Hq,Hw,H1,No,Be,zoi.eq_1,znT.eq_1,zmk.eq_1,zol.eq_1,WI.eq_1,e0,hln])
 | succ m ih=>
  intro i hi
  have ih:=ih (i+1) (by omega)
  rw [WR] at ih
  rw [WR,zn]
  have hlt:i<l.length:=by omega
  have hlt':(i:Int)<l.length:=by omega
  have e:l.drop i=l[i]::l.drop (i+1):=List.drop_eq_getElem_cons hlt
  have hw:=zH (n:=i) (by omega)
  have hg:=ints_at hlt
  have hln:=zw l
  rw [e]
  by_cases hx:l[i]=x
  ·rw [if_pos (by simp [hx])]
   (sym=>simp [Qb,Qc,Qd,Qe,Qi,Qj,Qr,Qt,Q4,Xa,Xs,Xy,X8,Ya,Yh,Ys,Yt,Yy,Y9,Za,Zb,Zc,Ze,Zg,Zh,Zk,Zl,Zt,Zv,Zw,Jj,Jk,Jl,Jn,Jp,Jr,Jt,Jv,Ux,U0,U4,U5,Vb,Ve,Vo,Vq,Vr,Vt,Vv,Vw,Vy,Vz,V0,Hh,Hq,Hw,H1,Ni,Nk,Nl,No,Be,Ma,Mb,Md,Mf,zoi.eq_1,znT.eq_1,zmk.eq_1,zol.eq_1,WI.eq_1,hlt',hg,hln,hx,hw])
  ·have hx':¬ x=l[i]:=fun h=>hx h.symm
   by_cases hm:x ∈ l.drop (i+1)
   ·rw [if_pos hm] at ih
    rw [if_pos (List.mem_cons_of_mem _ hm),← ih]
    (sym=>simp [Qc,Qd,Qe,Qi,Qj,Qr,Qt,Q4,Xa,Xs,Xy,X5,X8,Ya,Yh,Ys,Yt,Yy,Y9,Za,Zb,Zc,Ze,Zg,Zh,Zk,Zl,Zt,Zv,Zw,Z3,Jj,Jk,Jn,Jo,Jr,Js,Jv,Ux,U0,U4,U5,Vb,Ve,Vo,Vq,Vr,Vt,Vv,Vw,Vy,Vz,V0,Hh,Hq,Hw,H1,Ni,Nk,Nl,Nm,No,Be,Ma,Mb,Md,Mf,zoi.eq_1,znT.eq_1,zmk.eq_1,zol.eq_1,WI.eq_1,hlt',hg,hln,hx,hw])
   ·rw [if_neg hm] at ih
    rw [if_neg (fun h=>(List.mem_cons.1 h).elim hx' hm),← ih]
    (sym=>simp [Qc,Qd,Qe,Qi,Qj,Qr,Qt,Q4,Xa,Xs,Xy,X5,X8,Ya,Yh,Ys,Yt,Yy,Y9,Za,Zb,Zc,Ze,Zg,Zh,Zk,Zl,Zt,Zv,Zw,Z3,Jj,Jk,Jn,Jo,Jr,Js,Jv,Ux,U0,U4,U5,Vb,Ve,Vo,Vq,Vr,Vt,Vv,Vw,Vy,Vz,V0,Hh,Hq,Hw,H1,Ni,Nk,Nl,Nm,No,Be,Ma,Mb,Md,Mf,zoi.eq_1,znT.eq_1,zmk.eq_1,zol.eq_1,WI.eq_1,hlt',hg,hln,hx,hw])
theorem zzq (l:List Int) (b f:Bool) (x:Int) (hl:l.length<9223372036854775807):aP G FT Ro [.data b 1 (ints l) f,.int .i64 x]=some (.bool (decide (x ∈ l))):=by
 unfold aP
 rw [ziK]
 have key:=zAn G l b f x hl l.length 0 (by omega)
 simp only [List.drop_zero,Int.natCast_zero] at key
 by_cases h:x ∈ l
 ·rw [if_pos h] at key
  have hd:decide (x ∈ l)=true:=by simp [h]
  rw [hd]
  (sym=>simp [Qd,Qe,Qj,Qr,Y1,Y5,Y7,Y9,Za,Zb,Zc,Ze,Zg,Zh,Zi,Zj,Zk,Zl,Zm,Zr,Zs,Zt,Zu,Zv,Zw,Jj,Jk,Jl,Jn,Jp,Jv,Jx,Wk,Be,zAE.eq_1,zym.eq_1,zzB.eq_1,Tu.eq_1,key])
 ·rw [if_neg h] at key
  have hd:decide (x ∈ l)=false:=by simp [h]
  rw [hd]
  (sym=>simp [Qb,Qd,Qe,Qj,Qr,Y1,Y5,Y7,Y9,Za,Zb,Zc,Ze,Zg,Zh,Zi,Zj,Zk,Zl,Zm,Zr,Zs,Zt,Zu,Zv,Zw,Jj,Jk,Jn,Jq,Jv,Jx,Wk,Be,zAE.eq_1,zym.eq_1,zzB.eq_1,Tu.eq_1,key])
theorem znX (h:Int) (q:List Int) (b f:Bool) (hl:q.length≤1000):aP G FT VI [.agg [.int .i64 h,.data b 1 (ints q) f]]=some (.data false 1 (ints (allT h q)) false):=by
 unfold aP allT
 rw [zh5]
 by_cases h0:h=0
 ·rw [if_pos h0,yh]
  (sym=>simp [Qb,Qd,Qe,Qi,Qj,Qr,Qt,Qw,Q4,Xa,Xp,X8,Yj,Yr,Yt,Yv,Y1,Y5,Y7,Y9,Za,Zb,Zc,Ze,Zg,Zh,Zi,Zj,Zk,Zl,Zm,Zn,Zr,Zs,Zt,Zu,Zv,Zw,Zy,Z0,Jj,Jk,Jl,Jr,Jv,Jx,Ue,Uf,Ug,Ul,Wg,Hh,Hv,Nl,No,Np,Be,zwy.eq_1,zA2.eq_1,zv8.eq_1,zAI.eq_1,Tw.eq_1,h0])
 ·rw [if_neg h0,uz]
  have hln:=zw q
  have hb:(1+q.length) * 8≤140737488355328:=by omega
  have hlt:1+q.length≤1↔q.length=0:=by omega
  have tk:List.take (1+q.length) ([AV.int .i64 h]::ints q)=[AV.int .i64 h]::ints q:=List.take_of_length_le (by simp [hln];omega)
  have n1:1+q.length≤q.length+1:=by omega
  (sym=>simp [Qb,Qc,Qd,Qe,Qi,Qj,Qr,Qt,Qw,Qz,Q0,Q2,Q4,Xa,Xp,X0,X8,Yj,Yk,Yr,Yt,Yv,Y1,Y3,Y5,Y7,Y9,Za,Zb,Zc,Ze,Zg,Zh,Zi,Zj,Zk,Zl,Zm,Zn,Zr,Zs,Zt,Zu,Zv,Zw,Zx,Zy,Zz,Z0,Z3,Jj,Jk,Jr,Jv,Jx,Kv,Kx,Ua,Ub,Uc,Ud,Ue,Uf,Ug,Ul,Wf,Hh,Hi,Hk,Hl,Ho,Hq,Hs,Hu,Hv,H2,H3,H8,Nl,Nm,No,Np,Ns,Nz,N2,Be,Bg,Ml,zwy.eq_1,zA2.eq_1,zv8.eq_1,zAI.eq_1,Tw.eq_1,h0,hln,hb,hlt,tk,n1])
def zp2 (l:List Int) (i:Nat):Bool:=decide (1≤l.getD i 0)&&decide (l.getD i 0≤8)&& !decide (l.getD i 0 ∈ l.take i)
def zm8 (l:List Int):Nat→Nat→Bool
 | 0,_=>true
 | m+1,i=>zp2 l i&&zm8 l m (i+1)
theorem zun (l:List Int) (hl:l.length<9223372036854775807):∀ (m i:Nat),i+m=l.length→
  aE G FT 0 jo ⟨[(3,.data false 1 (ints l) false),(4,.int .i64 i)],[]⟩=
   if zm8 l m i=true then some (.exit 0,⟨[(3,.data false 1 (ints l) false),(4,.int .i64 l.length),(17,.bool false)],[]⟩) else some (.ret,⟨[(2,.bool false)],[]⟩):=by
 intro m
 induction m with
 | zero=>
  intro i hi
  rw [jo,zn]
  have ei:i=l.length:=by omega
  subst ei
  have e0:decide ((l.length:Int)<l.length)=false:=by simp
  have hln:=zw l
  rw [zm8,if_pos rfl]
  (sym=>simp [Qa,Qd,Qe,Qi,Qr,Qt,Xa,Xy,Ya,Yh,Y9,Za,Zb,Zc,Ze,Zg,Zh,Zk,Zl,Zt,Zv,Zw,Z3,Jj,Jk,Jm,Jr,Ju,Jv,Ux,U0,U4,U5,Vb,Ve,Vo,Vq,Vr,Vt,Vv,Vw,Vy,Vz,V0,Hq,Hw,H1,No,Be,zi5.eq_1,zjB.eq_1,zjL.eq_1,zjC.eq_1,ZK.eq_1,e0,hln])
 | succ m ih=>
  intro i hi
  have ih:=ih (i+1) (by omega)
  rw [jo] at ih
  rw [jo,zn]
  have hlt:i<l.length:=by omega
  have hlt':(i:Int)<l.length:=by omega
  have hle:i≤l.length:=by omega
  have hw:=zH (n:=i) (by omega)
  have hg:=ints_at hlt
  have hln:=zw l
  have hgd:l.getD i 0=l[i]:=by rw [List.getD_eq_getElem?_getD,List.getElem?_eq_getElem hlt];rfl
  have hH:=fun b f x=>zzq G (l.take i) b f x (by simp;omega)
  rw [← zdh] at hH
  have ok:zp2 l i=(decide (1≤l[i])&&decide (l[i]≤8)&& !decide (l[i] ∈ l.take i)):=by rw [zp2,hgd]
  rw [zm8,ok]
  generalize l[i]=x at hg hgd
  by_cases h1:x<1
  ·have h1':¬ 1≤x:=by omega
   simp only [h1',decide_false,Bool.false_and,Bool.false_eq_true,if_false]
   (sym=>simp [Qb,Qc,Qd,Qe,Qf,Qg,Qi,Qj,Qr,Qt,Qu,Q4,Xa,Xs,Xy,Ya,Yh,Ys,Yt,Yy,Y9,Za,Zb,Zc,Ze,Zg,Zh,Zk,Zl,Zt,Zv,Zw,Z3,Jb,Jj,Jk,Jl,Jn,Jp,Jr,Jt,Jv,Ux,U0,U4,U5,Vb,Ve,Vo,Vq,Vr,Vt,Vv,Vw,Vy,Vz,V0,Hh,Hq,Hw,H1,Ni,Nk,Nl,No,Nw,Be,Ma,Mb,Md,Mf,zi5.eq_1,zjB.eq_1,zjL.eq_1,zjC.eq_1,ZK.eq_1,hlt',hg,hln,h1,hw])
  ·have h1':1≤x:=by omega
   by_cases h8:8<x
   ·have h8':¬ x≤8:=by omega
    simp only [h8',decide_false,Bool.and_false,Bool.false_and,Bool.false_eq_true,if_false]
    (sym=>simp [Qb,Qc,Qd,Qe,Qf,Qg,Qi,Qj,Qr,Qt,Qu,Q4,Xa,Xs,Xy,Ya,Yc,Yh,Ys,Yt,Yy,Y9,Za,Zb,Zc,Ze,Zg,Zh,Zk,Zl,Zt,Zv,Zw,Z3,Jb,Jj,Jk,Jl,Jn,Jp,Jr,Jt,Jv,Ux,U0,U4,U5,Vb,Ve,Vo,Vq,Vr,Vt,Vv,Vw,Vy,Vz,V0,Hh,Hq,Hw,H1,Ni,Nk,Nl,Nm,No,Nw,Nx,Be,Ma,Mb,Md,Mf,zi5.eq_1,zjB.eq_1,zjL.eq_1,zjC.eq_1,ZK.eq_1,hlt',hg,hln,h1,h8,hw])
   ·have h8':x≤8:=by omega
    by_cases hm:x ∈ l.take i
    ·simp only [hm,decide_true,Bool.not_true,Bool.and_false,Bool.false_and,Bool.false_eq_true,if_false]
     have hd:decide (x ∈ l.take i)=true:=by simp [hm]
     (sym=>simp [Qb,Qc,Qd,Qe,Qf,Qg,Qi,Qj,Qm,Qn,Qo,Qr,Qt,Qu,Q4,Xa,Xl,Xm,Xn,Xs,Xy,Ya,Yc,Yh,Ys,Yt,Yy,Y9,Za,Zb,Zc,Ze,Zg,Zh,Zk,Zl,Zo,Zt,Zv,Zw,Z3,Jb,Jj,Jk,Jl,Jn,Jp,Jr,Jt,Jv,K0,K1,K3,Ux,U0,U4,U5,Vb,Ve,Vo,Vq,Vr,Vt,Vv,Vw,Vy,Vz,V0,V6,V9,Wd,We,Hh,Hq,Hs,Hw,H1,Nf,Ni,Nk,Nl,Nm,No,Nr,Nx,Nz,Be,Ma,Mb,Md,Mf,zi5.eq_1,zjB.eq_1,zjL.eq_1,zjC.eq_1,ZK.eq_1,hlt',hg,hln,h1,h8,hH,hd,hle,hw])
    ·simp only [h1',h8',hm,decide_true,decide_false,Bool.not_false,Bool.and_true,Bool.true_and]
     rw [← ih]
     have hd:decide (x ∈ l.take i)=false:=by simp [hm]
     (sym=>simp [Qc,Qd,Qe,Qf,Qg,Qi,Qj,Qm,Qn,Qo,Qr,Qt,Qu,Q4,Xa,Xl,Xm,Xn,Xs,Xy,X5,Ya,Yc,Yh,Ys,Yt,Yy,Y9,Za,Zb,Zc,Ze,Zg,Zh,Zk,Zl,Zo,Zt,Zv,Zw,Z3,Jb,Jj,Jk,Jn,Jo,Jr,Js,Jv,K0,K1,K3,Ux,U0,U4,U5,Vb,Ve,Vo,Vq,Vr,Vt,Vv,Vw,Vy,Vz,V0,V6,V9,Wd,We,Hh,Hq,Hs,Hw,H1,Nf,Ni,Nk,Nl,Nm,No,Nr,Nx,Nz,Be,Ma,Mb,Md,Mf,zi5.eq_1,zjB.eq_1,zjL.eq_1,zjC.eq_1,ZK.eq_1,hlt',hg,hln,h1,h8,hH,hd,hle,hw])
theorem zmG (l:List Int):∀ (m i:Nat),i+m=l.length→(zm8 l m i=true↔∀ k,i≤k→k<l.length→zp2 l k=true)
 | 0,i,hi=>by simp only [zm8,true_iff];intro k h1 h2;omega
 | m+1,i,hi=>by
  rw [zm8,Bool.and_eq_true,zmG l m (i+1) (by omega)]
  constructor
  ·rintro ⟨h1,h2⟩ k hk1 hk2
   by_cases e:k=i
   ·subst e;exact h1
   ·exact h2 k (by omega) hk2
  ·intro h
   exact ⟨h i (Nat.le_refl _) (by omega),fun k hk1 hk2=>h k (by omega) hk2⟩
theorem zCC (l:List Int):zm8 l l.length 0=(ZU [] l).1:=by
 rw [Bool.eq_iff_iff,zmG l l.length 0 (by omega),zbc]
 have gd:∀ k (hk:k<l.length),l.getD k 0=l[k]:=fun k hk=>by rw [List.getD_eq_getElem?_getD,List.getElem?_eq_getElem hk];rfl
 constructor
 ·intro h
  refine ⟨fun x hx=> ?_, ?_⟩
  ·obtain ⟨k,hk,rfl⟩:=List.mem_iff_getElem.1 hx
   have:=h k (by omega) hk
   simp only [zp2,gd k hk,Bool.and_eq_true,decide_eq_true_eq] at this
   exact ⟨this.1.1,this.1.2,by simp⟩
  ·rw [List.nodup_iff_pairwise_ne,List.pairwise_iff_getElem]
   intro i j hi hj hij e
   have:=h j (by omega) hj
   simp only [zp2,gd j hj,Bool.and_eq_true,Bool.not_eq_true',decide_eq_false_iff_not] at this
   exact this.2 (by rw [← e];exact List.mem_take_iff_getElem.2 ⟨i,by omega,rfl⟩)
 ·rintro ⟨h1,h2⟩ k _ hk
  have:=h1 l[k] (List.getElem_mem _)
  simp only [zp2,gd k hk,Bool.and_eq_true,decide_eq_true_eq,Bool.not_eq_true',decide_eq_false_iff_not]
  refine ⟨⟨this.1,this.2.1⟩,fun hm=> ?_⟩
  obtain ⟨i,hi,e⟩:=List.mem_take_iff_getElem.1 hm
  rw [List.nodup_iff_pairwise_ne,List.pairwise_iff_getElem] at h2
  exact h2 i k (by omega) hk (by omega) e
theorem zFt (h:Int) (q:List Int) (b f:Bool) (hl:q.length≤1000):aP G FT FR [.agg [.int .i64 h,.data b 1 (ints q) f]]=some (.bool (Yf h q)):=by
 unfold aP Yf
 rw [zin]
 by_cases h0:h=0
 ·rw [if_pos h0]
  have hln:=zw q
  cases q with
  | nil=>simp only [yh] at *;(sym=>simp [Qb,Qd,Qe,Qi,Qj,Qr,Qt,Qw,Q4,Xa,Xp,Xy,X8,Yh,Yj,Yr,Yt,Yv,Y1,Y5,Y7,Y9,Za,Zb,Zc,Ze,Zg,Zh,Zi,Zj,Zk,Zl,Zm,Zn,Zr,Zs,Zt,Zu,Zv,Zw,Zy,Z0,Jj,Jk,Jl,Jr,Jv,Jx,Ue,Uf,Ug,Ul,Wk,Hh,Hi,Hv,Nl,No,Np,Be,Bh,ztz.eq_1,zta.eq_1,zry.eq_1,zsh.eq_1,zrb.eq_1,zq7.eq_1,WE.eq_1,h0,List.isEmpty_nil])
  | cons y q=>
   have n0:¬ (((q.length+1:Nat):Int)=0):=by omega
   (sym=>simp [Qb,Qd,Qe,Qi,Qj,Qr,Qt,Qw,Q4,Xa,Xp,Xy,X8,Yh,Yj,Yr,Yt,Yv,Y1,Y5,Y7,Y9,Za,Zb,Zc,Ze,Zg,Zh,Zi,Zj,Zk,Zl,Zm,Zn,Zr,Zs,Zt,Zu,Zv,Zw,Zy,Z0,Jj,Jk,Jl,Jr,Jv,Jx,Ue,Uf,Ug,Ul,Wk,Hh,Hi,Hv,Nl,Nm,No,Np,Be,ztz.eq_1,zta.eq_1,zry.eq_1,zsh.eq_1,zrb.eq_1,zq7.eq_1,WE.eq_1,h0,hln,n0,List.isEmpty_cons])
 ·have hA:=fun b f=>znX G h q b f hl
  have key:=zun G (h::q) (by simp;omega) (h::q).length 0 (by omega)
  simp only [Int.natCast_zero] at key
  rw [zCC] at key
  have ha:allT h q=h::q:=by simp [allT,h0]
  rw [ha] at hA
  rw [if_neg h0]
  have enter:∀ st,agc 0 [3,4] st=some ⟨[(3,.data false 1 (ints (h::q)) false),(4,.int .i64 0)],[]⟩→aE G FT 0 jo st=aE G FT 0 jo ⟨[(3,.data false 1 (ints (h::q)) false),(4,.int .i64 0)],[]⟩:=fun st hst=>by
   rw [jo,zrM hst ?_]
   (sym=>simp [Y9,Za,Zb,Ze,Zk,Zl,Zv,Zw,Ux,U0,U4,U5,Vb,Ve,Vo,Vq,Vr,Vt,Vv,Vw,Vy,Vz,V0,Hq,Hw,H1,No])
  (sym=>simp [Qc,Qd,Qe,Qi,Qj,Qm,Qn,Qo,Qr,Qt,Qw,Q4,Xa,Xp,X8,Yj,Yr,Yt,Yu,Yv,Y1,Y9,Za,Zb,Zc,Ze,Zg,Zh,Zi,Zj,Zk,Zl,Zm,Zn,Zo,Zr,Zs,Zt,Zv,Zw,Zy,Z0,Z3,Jj,Jk,Jn,Jr,Jv,Ue,Uf,Ug,Ul,V3,V6,V9,Wd,We,Hh,Ho,Hq,Hs,Hv,Nm,No,Np,Be,ztz.eq_1,zta.eq_1,zry.eq_1,zsh.eq_1,zrb.eq_1,zq7.eq_1,WE.eq_1,h0,hA];tactic=>(
   rw [enter _ ?hst,key]
   case hst=>cases b<;>(sym=>simp [Y9,Za,Zb,Ze,Zk,Zl,Zv,Zw,Ux,U0,U4,U5,Vb,Ve,Vo,Vq,Vr,Vt,Vv,Vw,Vy,Vz,V0,Hp,Hw,H1,No,Nw,Nx])
   cases (ZU [] (h::q)).1 with
   | true=>(sym=>simp [Qb,Qd,Qe,Qj,Qr,Y5,Y7,Y9,Za,Zb,Zc,Ze,Zg,Zh,Zn,Zt,Zu,Zv,Zw,Jj,Jk,Jq,Jv,Jx,Wk,Be,if_true])
   | false=>(sym=>simp [Y5,Y7,Y9,Zg,Zh,Zt,Zu,Zv,Zw,Z3,Jl,Jp,Jx,Wk,if_false])))
section
variable (h1 h2:Int) (q1 q2:List Int) (b1 f1 b2 f2:Bool) (hl:q1.length=q2.length) (hb:q1.length<9223372036854775807)
include hl hb
theorem ztZ:∀ (m i:Nat),i+m=q1.length→
  aE G FT 0 YB ⟨[(2,.ptr 0 0 0 0),(3,.ptr 1 0 0 0),(5,.int .i64 i)],[⟨2,0, !b1,[[.int .i64 h1,.data b1 1 (ints q1) f1]]⟩,⟨2,0, !b2,[[.int .i64 h2,.data b2 1 (ints q2) f2]]⟩]⟩=
   if q1.drop i=q2.drop i then some (.exit 0,⟨[(2,.ptr 0 0 0 0),(3,.ptr 1 0 0 0),(5,.int .i64 q1.length),(24,.bool false)],[⟨2,0, !b1,[[.int .i64 h1,.data b1 1 (ints q1) f1]]⟩,⟨2,0, !b2,[[.int .i64 h2,.data b2 1 (ints q2) f2]]⟩]⟩)
   else some (.ret,⟨[(4,.bool false)],[⟨2,0, !b1,[[.int .i64 h1,.data b1 1 (ints q1) f1]]⟩,⟨2,0, !b2,[[.int .i64 h2,.data b2 1 (ints q2) f2]]⟩]⟩):=by
 have gc:∀ i:Int,agc 0 [2,3,5] ⟨[(2,.ptr 0 0 0 0),(3,.ptr 1 0 0 0),(5,.int .i64 i)],[⟨2,0, !b1,[[.int .i64 h1,.data b1 1 (ints q1) f1]]⟩,⟨2,0, !b2,[[.int .i64 h2,.data b2 1 (ints q2) f2]]⟩]⟩=
   some ⟨[(2,.ptr 0 0 0 0),(3,.ptr 1 0 0 0),(5,.int .i64 i)],[⟨2,0, !b1,[[.int .i64 h1,.data b1 1 (ints q1) f1]]⟩,⟨2,0, !b2,[[.int .i64 h2,.data b2 1 (ints q2) f2]]⟩]⟩:=fun i=>by
  cases b1<;>cases b2<;>(sym=>simp [Y9,Za,Zb,Ze,Zh,Zk,Zl,Zm,Zn,Zv,Zw,Zx,Zy,Zz,Z0,Z3,Ut,Ux,U0,U4,U5,U7,Vb,Ve,Vi,Vj,Vk,Vl,Vm,Vn,Vo,Vp,Vq,Vr,Vs,Vt,Vu,Vv,Vw,Vx,Vy,Vz,V0,Hh,Hi,Hp,Hu,Hv,Hw,H0,H1,H4,H5,H6,Nl,No,Nu,Nw,Nx])
 intro m
 induction m with
 | zero=>
  intro i hi
  obtain rfl:i=q1.length:=by omega
  rw [YB,zn,gc,if_pos (by rw [List.drop_length,hl,List.drop_length])]
  have h4:¬ (q1.length:Int)<q1.length:=by omega
  (sym=>simp [Qa,Qd,Qe,Qi,Qr,Qt,Q4,Xa,Xp,Xy,Ya,Yh,Yr,Yt,Yv,Y9,Za,Zb,Zc,Ze,Zg,Zh,Zt,Zv,Zw,Zy,Z0,Z3,Jj,Jk,Jm,Jr,Ju,Jv,Hh,Hi,Nm,Be,zts.eq_1,zrV.eq_1,zr5.eq_1,zsw.eq_1,UX.eq_1,h4,zw])
 | succ m ih=>
  intro i hi
  have ih:=ih (i+1) (by omega)
  have hlt:i<q1.length:=by omega
  have hlt2:i<q2.length:=by omega
  have h4:(i:Int)<q1.length:=by omega
  have g1:=ints_at hlt
  have g2:=ints_at hlt2
  have e1:q1.drop i=q1[i]::q1.drop (i+1):=List.drop_eq_getElem_cons hlt
  have e2:q2.drop i=q2[i]::q2.drop (i+1):=List.drop_eq_getElem_cons hlt2
  have hw:=zH (n:=i) (by omega)
  rw [YB] at ih
  rw [YB,zn,gc,e1,e2]
  by_cases hx:q1[i]=q2[i]
  ·simp only [List.cons.injEq,hx,true_and]
   rw [← ih]
   (sym=>simp [Qc,Qd,Qe,Qi,Qj,Qr,Qt,Q4,Xa,Xp,Xs,Xy,X5,X9,Ya,Yh,Yr,Ys,Yt,Yv,Yy,Y9,Za,Zb,Zc,Ze,Zg,Zh,Zt,Zv,Zw,Zy,Z0,Z3,Jj,Jk,Jn,Jo,Jr,Js,Jv,Hh,Hi,Ni,Nk,Nl,Nw,Be,Ma,Mb,Md,Mf,zts.eq_1,zrV.eq_1,zr5.eq_1,zsw.eq_1,UX.eq_1,h4,zw,g1,g2,hx,hw])
  ·rw [if_neg (fun h=>hx (List.cons.inj h).1)]
   (sym=>simp [Qb,Qc,Qd,Qe,Qi,Qj,Qr,Qt,Q4,Xa,Xp,Xs,Xy,X9,Ya,Yh,Yr,Ys,Yt,Yv,Yy,Y9,Za,Zb,Zc,Ze,Zg,Zh,Zt,Zv,Zw,Zy,Z0,Jj,Jk,Jl,Jn,Jp,Jr,Jt,Jv,Hh,Hi,Ni,Nk,Nl,Nm,Nx,Be,Ma,Mb,Md,Mf,zts.eq_1,zrV.eq_1,zr5.eq_1,zsw.eq_1,UX.eq_1,h4,zw,g1,g2,hx,hw])
end
theorem zFH (h1 h2:Int) (q1 q2:List Int) (b1 f1 b2 f2:Bool) (hb:q1.length<9223372036854775807):
  aP G FT IJ [.agg [.int .i64 h1,.data b1 1 (ints q1) f1],.agg [.int .i64 h2,.data b2 1 (ints q2) f2]]=some (.bool (decide (h1=h2∧q1=q2))):=by
 unfold aP
 rw [zfv]
 by_cases he:h1=h2
 ·subst he
  by_cases hl:q1.length=q2.length
  ·have key:=ztZ G h1 h1 q1 q2 b1 f1 b2 f2 hl hb q1.length 0 (by omega)
   simp only [List.drop_zero,Int.natCast_zero] at key
   have hl2:((q1.length:Int)=q2.length):=by omega
   by_cases hq:q1=q2
   ·rw [if_pos hq] at key
    have hd:decide (h1=h1∧q1=q2)=true:=by simp [hq]
    rw [hd]
    (sym=>simp [Qb,Qc,Qd,Qe,Qf,Qg,Qi,Qj,Qr,Qt,Qu,Qw,Q4,Xa,Xp,Xy,X9,Yh,Yj,Yr,Yt,Yv,Y1,Y5,Y7,Y9,Za,Zb,Zc,Ze,Zg,Zh,Zi,Zj,Zk,Zl,Zm,Zn,Zr,Zs,Zt,Zu,Zv,Zw,Zy,Z0,Z3,Jb,Jj,Jk,Jn,Jq,Jr,Jv,Jx,Ue,Uf,Ug,Ul,Wk,Hh,Hi,Hu,Hv,Nl,No,Np,Nw,Nx,Be,zne.eq_1,znl.eq_1,zl6.eq_1,zmV.eq_1,zm4.eq_1,o9.eq_1,key,zw,hl2])
   ·rw [if_neg hq] at key
    have hd:decide (h1=h1∧q1=q2)=false:=by simp [hq]
    rw [hd]
    (sym=>simp [Qc,Qd,Qe,Qf,Qg,Qi,Qj,Qr,Qt,Qu,Qw,Q4,Xa,Xp,Xy,X9,Yh,Yj,Yr,Yt,Yv,Y1,Y5,Y7,Y9,Za,Zb,Zc,Ze,Zg,Zh,Zi,Zj,Zk,Zl,Zm,Zn,Zr,Zs,Zt,Zu,Zv,Zw,Zy,Z0,Z3,Jb,Jj,Jk,Jl,Jn,Jp,Jr,Jv,Jx,Ue,Uf,Ug,Ul,Wk,Hh,Hi,Hu,Hv,Nl,No,Np,Nw,Nx,Be,zne.eq_1,znl.eq_1,zl6.eq_1,zmV.eq_1,zm4.eq_1,o9.eq_1,key,zw,hl2])
  ·have hd:decide (h1=h1∧q1=q2)=false:=by simp;intro h;exact hl (by rw [h])
   rw [hd]
   have hl2:¬ ((q1.length:Int)=q2.length):=by omega
   (sym=>simp [Qb,Qd,Qe,Qf,Qg,Qi,Qj,Qr,Qt,Qu,Qw,Q4,Xa,Xp,Xy,X9,Yh,Yj,Yr,Yt,Yv,Y1,Y5,Y7,Y9,Za,Zb,Zc,Ze,Zg,Zh,Zi,Zj,Zk,Zl,Zm,Zn,Zr,Zs,Zt,Zu,Zv,Zw,Zy,Z0,Z3,Jb,Jj,Jk,Jl,Jr,Jv,Jx,Ue,Uf,Ug,Ul,Wk,Hh,Hi,Hu,Hv,Nl,Nm,No,Np,Nw,Nx,Be,zne.eq_1,znl.eq_1,zl6.eq_1,zmV.eq_1,zm4.eq_1,o9.eq_1,zw,hl2])
 ·have hd:decide (h1=h2∧q1=q2)=false:=by simp [he]
  rw [hd]
  (sym=>simp [Qb,Qd,Qe,Qf,Qg,Qi,Qj,Qr,Qt,Qu,Qw,Q4,Xa,Xp,X9,Yj,Yr,Yt,Yv,Y1,Y5,Y7,Y9,Za,Zb,Zc,Ze,Zg,Zh,Zi,Zj,Zk,Zl,Zm,Zn,Zr,Zs,Zt,Zu,Zv,Zw,Zy,Z0,Z3,Jb,Jj,Jk,Jl,Jr,Jv,Jx,Ue,Uf,Ug,Ul,Wk,Hh,Hi,Hu,Hv,Nm,No,Np,Nw,Nx,Be,zne.eq_1,znl.eq_1,zl6.eq_1,zmV.eq_1,zm4.eq_1,o9.eq_1,he])
end
end Go.Proofs.YthcnhibjddomdaaGreat
namespace Go.Proofs.YthcnhibjddomdaaGreat
section
open Go
variable (G:Nat→Option (List AV))
def Rq (s:Ses) (x:List (Int×Int)×Int):Ses×Int:=if yj s=true then if x.2=0 then (jI s x.1 false,0) else (zS,x.2) else (zS,2)
theorem JI (l:List (Int×Int)) (id r:Int):(uT l id r).length≤8:=by
 have:∀ (f:Int→Int) (n:Nat) (k:Int),(ros f n k).length≤n:=by
  intro f n
  induction n with
  | zero=>intro k;simp [ros]
  | succ n ih=>intro k;have:=ih (k+1);rw [ros];split<;>simp<;>omega
 exact this _ 8 1
theorem zzp (l:List (Int×Int)) (id r:Int):(j3 l id r).1.length≤1000:=by
 have:=JI l id r
 unfold j3
 split
 ·split
  ·simp only;omega
  ·simp
 ·simp
theorem zA8 (s:Ses) (h:okS s) (id r:Int):aP G FT ZG [.agg (sC s),.int .i64 id,.int .i64 r]=some (.tup [.agg (sC (Rq s (j3 s.mem id r)).1),.int .i64 (Rq s (j3 s.mem id r)).2]):=by
 have hM:=zb1 G s h
 have hJ:=fun b f=>zFL G s.mem b f id r (by have:=h.1;omega)
 have hle:=zzp s.mem id r
 have a1:=zk s
 have a2:=zG s
 have a3:=zu s
 have a4:=vK s
 have a5:=Ib s
 have z:=ziq
 generalize j3 s.mem id r=x at *
 unfold aP Rq
 rw [zcN]
 cases hs:yj s with
 | false=>
  rw [if_neg (by simp)]
  simp only [z]
  (sym=>simp [Qb,Qd,Qe,Qi,Qj,Qm,Qn,Qo,Qr,Qt,Qv,Qw,Qx,Q1,Q4,Q5,Xd,Yj,Yr,Yu,Y1,Y6,Y7,Y8,Y9,Za,Zb,Zc,Zd,Ze,Zg,Zh,Zi,Zj,Zk,Zl,Zm,Zn,Zo,Zr,Zs,Zt,Zu,Zv,Zw,Zy,Z0,Z1,Jj,Jk,Jl,Jr,Jv,Jx,J1,J2,K8,Ue,Uf,Ug,Ul,V3,Wd,We,Wg,Wh,Wi,Wj,Wp,Wq,Hh,Hi,Hk,Hl,Ho,Hp,Hq,Hr,Hs,Ht,Hu,Hv,Hw,No,Nx,N0,Be,zrs.eq_1,zr6.eq_1,zrQ.eq_1,zrI.eq_1,zsq.eq_1,oG.eq_1,hM,hs,a1,a2,a3,a4,zL.eq_1])
 | true=>
  rw [if_pos rfl]
  by_cases he:x.2=0
  ·rw [if_pos he]
   have hW:=zff G s h x.1 false hle
   have d1:=zk (jI s x.1 false)
   have d2:=zG (jI s x.1 false)
   have d3:=zu (jI s x.1 false)
   have d4:∀ h,yc h (sC (jI s x.1 false))=some (sC (jI s x.1 false)):=fun h=>by unfold jI;generalize II _ 9 0=s3;simp [sC,zF,zP,yc,yn,stS]
   generalize jI s x.1 false=s4 at *
   (sym=>simp [Qb,Qc,Qd,Qe,Qi,Qj,Qm,Qn,Qo,Qr,Qt,Qv,Qw,Q4,Q5,Xd,Xp,Xw,Xx,Yj,Yr,Yt,Yu,Yv,Y1,Y6,Y7,Y8,Y9,Za,Zb,Zc,Zd,Ze,Zg,Zh,Zi,Zj,Zk,Zl,Zm,Zn,Zo,Zr,Zs,Zt,Zu,Zv,Zw,Zy,Z0,Z1,Z3,Jj,Jk,Jr,Jv,Jx,J1,J2,Ue,Uf,Ug,Ul,V3,V6,V9,Wd,We,Wh,Wi,Wj,Wp,Wq,Hh,Hi,Hk,Hl,Hp,Hr,Hs,Ht,Hu,Hv,Hw,No,Nw,Nx,N0,Be,zrs.eq_1,zr6.eq_1,zrQ.eq_1,zrI.eq_1,zsq.eq_1,oG.eq_1,hM,hs,hJ,he,hW,a1,a2,a3,a4,a5,d1,d2,d3,d4,zL.eq_1])
  ·rw [if_neg he]
   have hW:=fun L=>zlJ G s L false x.2 he
   have d1:=zk zS
   have d2:=zG zS
   have d3:=zu zS
   have d4:∀ h,yc h (sC zS)=some (sC zS):=fun h=>by simp [sC,zF,zP,yc,yn,zS]
   clear z
   generalize zS=z4 at *
   (sym=>simp [Qb,Qc,Qd,Qe,Qi,Qj,Qm,Qn,Qo,Qr,Qt,Qv,Qw,Q4,Q5,Xd,Xp,Xw,Xx,Yj,Yr,Yt,Yu,Yv,Y1,Y6,Y7,Y8,Y9,Za,Zb,Zc,Zd,Ze,Zg,Zh,Zi,Zj,Zk,Zl,Zm,Zn,Zo,Zr,Zs,Zt,Zu,Zv,Zw,Zy,Z0,Z1,Z3,Jj,Jk,Jr,Jv,Jx,J1,J2,Ue,Uf,Ug,Ul,V3,V6,V9,Wd,We,Wh,Wi,Wj,Wp,Wq,Hh,Hi,Hk,Hl,Hp,Hr,Hs,Ht,Hu,Hv,Hw,No,Nw,Nx,N0,Be,zrs.eq_1,zr6.eq_1,zrQ.eq_1,zrI.eq_1,zsq.eq_1,oG.eq_1,hM,hs,hJ,hW,a1,a2,a3,a4,a5,d1,d2,d3,d4,zL.eq_1])
theorem ztS (l:List (Int×Int)) (id:Int):(u6 l id).1.length≤1000:=by
 have:=JI l id 0
 unfold u6
 split
 ·split
  ·simp only;omega
  ·simp
 ·simp
theorem zvk (s:Ses) (h:okS s) (id:Int):aP G FT YD [.agg (sC s),.int .i64 id]=some (.tup [.agg (sC (Rq s (u6 s.mem id)).1),.int .i64 (Rq s (u6 s.mem id)).2]):=by
 have hM:=zb1 G s h
 have hJ:=fun b f=>zCo G s.mem b f id (by have:=h.1;omega)
 have hle:=ztS s.mem id
 have a1:=zk s
 have a2:=zG s
 have a3:=zu s
 have a4:=vK s
 have a5:=Ib s
 have z:=ziq
 generalize u6 s.mem id=x at *
 unfold aP Rq
 rw [zcf]
 cases hs:yj s with
 | false=>
  rw [if_neg (by simp)]
  simp only [z]
  (sym=>simp [Qb,Qd,Qe,Qi,Qj,Qm,Qn,Qo,Qr,Qt,Qv,Qw,Qx,Q1,Q4,Q5,Xd,Yj,Yr,Yu,Y1,Y6,Y7,Y8,Y9,Za,Zb,Zc,Zd,Ze,Zg,Zh,Zi,Zj,Zk,Zl,Zm,Zn,Zo,Zr,Zs,Zt,Zu,Zv,Zw,Zy,Z0,Z1,Jj,Jk,Jl,Jr,Jv,Jx,J1,J2,K8,Ue,Uf,Ug,Ul,V3,Wd,We,Wg,Wh,Wi,Wj,Wp,Wq,Hh,Hi,Hk,Hl,Ho,Hp,Hq,Hr,Hs,Ht,Hu,Hv,Hw,No,Nx,N0,Be,zrD.eq_1,zrp.eq_1,zsU.eq_1,ztq.eq_1,zr1.eq_1,jE.eq_1,hM,hs,a1,a2,a3,a4,zL.eq_1])
 | true=>
  rw [if_pos rfl]
  by_cases he:x.2=0
  ·rw [if_pos he]
   have hW:=zff G s h x.1 false hle
   have d1:=zk (jI s x.1 false)
   have d2:=zG (jI s x.1 false)
   have d3:=zu (jI s x.1 false)
   have d4:∀ h,yc h (sC (jI s x.1 false))=some (sC (jI s x.1 false)):=fun h=>by unfold jI;generalize II _ 9 0=s3;simp [sC,zF,zP,yc,yn,stS]
   generalize jI s x.1 false=s4 at *
   (sym=>simp [Qb,Qc,Qd,Qe,Qi,Qj,Qm,Qn,Qo,Qr,Qt,Qv,Qw,Q4,Q5,Xd,Xp,Xw,Xx,Yj,Yr,Yt,Yu,Yv,Y1,Y6,Y7,Y8,Y9,Za,Zb,Zc,Zd,Ze,Zg,Zh,Zi,Zj,Zk,Zl,Zm,Zn,Zo,Zr,Zs,Zt,Zu,Zv,Zw,Zy,Z0,Z1,Z3,Jj,Jk,Jr,Jv,Jx,J1,J2,Ue,Uf,Ug,Ul,V3,V6,V9,Wd,We,Wh,Wi,Wj,Wp,Wq,Hh,Hi,Hk,Hl,Hp,Hr,Hs,Ht,Hu,Hv,Hw,No,Nw,Nx,N0,Be,zrD.eq_1,zrp.eq_1,zsU.eq_1,ztq.eq_1,zr1.eq_1,jE.eq_1,hM,hs,hJ,he,hW,a1,a2,a3,a4,a5,d1,d2,d3,d4,zL.eq_1])
  ·rw [if_neg he]
   have hW:=fun L=>zlJ G s L false x.2 he
   have d1:=zk zS
   have d2:=zG zS
   have d3:=zu zS
   have d4:∀ h,yc h (sC zS)=some (sC zS):=fun h=>by simp [sC,zF,zP,yc,yn,zS]
   clear z
   generalize zS=z4 at *
   (sym=>simp [Qb,Qc,Qd,Qe,Qi,Qj,Qm,Qn,Qo,Qr,Qt,Qv,Qw,Q4,Q5,Xd,Xp,Xw,Xx,Yj,Yr,Yt,Yu,Yv,Y1,Y6,Y7,Y8,Y9,Za,Zb,Zc,Zd,Ze,Zg,Zh,Zi,Zj,Zk,Zl,Zm,Zn,Zo,Zr,Zs,Zt,Zu,Zv,Zw,Zy,Z0,Z1,Z3,Jj,Jk,Jr,Jv,Jx,J1,J2,Ue,Uf,Ug,Ul,V3,V6,V9,Wd,We,Wh,Wi,Wj,Wp,Wq,Hh,Hi,Hk,Hl,Hp,Hr,Hs,Ht,Hu,Hv,Hw,No,Nw,Nx,N0,Be,zrD.eq_1,zrp.eq_1,zsU.eq_1,ztq.eq_1,zr1.eq_1,jE.eq_1,hM,hs,hJ,hW,a1,a2,a3,a4,a5,d1,d2,d3,d4,zL.eq_1])
theorem zow (l:List (Int×Int)) (id r:Int):(yK l id r).1.length≤1000:=by
 have:=JI l id r
 unfold yK
 split
 ·split
  ·simp only;omega
  ·simp
 ·simp
theorem zqn (s:Ses) (h:okS s) (id r:Int):aP G FT ZH [.agg (sC s),.int .i64 id,.int .i64 r]=some (.tup [.agg (sC (Rq s (yK s.mem id r)).1),.int .i64 (Rq s (yK s.mem id r)).2]):=by
 have hM:=zb1 G s h
 have hJ:=fun b f=>zyc G s.mem b f id r (by have:=h.1;omega)
 have hle:=zow s.mem id r
 have a1:=zk s
 have a2:=zG s
 have a3:=zu s
 have a4:=vK s
 have a5:=Ib s
 have z:=ziq
 generalize yK s.mem id r=x at *
 unfold aP Rq
 rw [za0]
 cases hs:yj s with
 | false=>
  rw [if_neg (by simp)]
  simp only [z]
  (sym=>simp [Qb,Qd,Qe,Qi,Qj,Qm,Qn,Qo,Qr,Qt,Qv,Qw,Qx,Q1,Q4,Q5,Xd,Yj,Yr,Yu,Y1,Y6,Y7,Y8,Y9,Za,Zb,Zc,Zd,Ze,Zg,Zh,Zi,Zj,Zk,Zl,Zm,Zn,Zo,Zr,Zs,Zt,Zu,Zv,Zw,Zy,Z0,Z1,Jj,Jk,Jl,Jr,Jv,Jx,J1,J2,K8,Ue,Uf,Ug,Ul,V3,Wd,We,Wg,Wh,Wi,Wj,Wp,Wq,Hh,Hi,Hk,Hl,Ho,Hp,Hq,Hr,Hs,Ht,Hu,Hv,Hw,No,Nx,N0,Be,zrY.eq_1,ztB.eq_1,zsA.eq_1,zsp.eq_1,zq3.eq_1,uY.eq_1,hM,hs,a1,a2,a3,a4,zL.eq_1])
 | true=>
  rw [if_pos rfl]
  by_cases he:x.2=0
  ·rw [if_pos he]
   have hW:=zff G s h x.1 false hle
   have d1:=zk (jI s x.1 false)
   have d2:=zG (jI s x.1 false)
   have d3:=zu (jI s x.1 false)
   have d4:∀ h,yc h (sC (jI s x.1 false))=some (sC (jI s x.1 false)):=fun h=>by unfold jI;generalize II _ 9 0=s3;simp [sC,zF,zP,yc,yn,stS]
   generalize jI s x.1 false=s4 at *
   (sym=>simp [Qb,Qc,Qd,Qe,Qi,Qj,Qm,Qn,Qo,Qr,Qt,Qv,Qw,Q4,Q5,Xd,Xp,Xw,Xx,Yj,Yr,Yt,Yu,Yv,Y1,Y6,Y7,Y8,Y9,Za,Zb,Zc,Zd,Ze,Zg,Zh,Zi,Zj,Zk,Zl,Zm,Zn,Zo,Zr,Zs,Zt,Zu,Zv,Zw,Zy,Z0,Z1,Z3,Jj,Jk,Jr,Jv,Jx,J1,J2,Ue,Uf,Ug,Ul,V3,V6,V9,Wd,We,Wh,Wi,Wj,Wp,Wq,Hh,Hi,Hk,Hl,Hp,Hr,Hs,Ht,Hu,Hv,Hw,No,Nw,Nx,N0,Be,zrY.eq_1,ztB.eq_1,zsA.eq_1,zsp.eq_1,zq3.eq_1,uY.eq_1,hM,hs,hJ,he,hW,a1,a2,a3,a4,a5,d1,d2,d3,d4,zL.eq_1])
  ·rw [if_neg he]
   have hW:=fun L=>zlJ G s L false x.2 he
   have d1:=zk zS
   have d2:=zG zS
   have d3:=zu zS
   have d4:∀ h,yc h (sC zS)=some (sC zS):=fun h=>by simp [sC,zF,zP,yc,yn,zS]
   clear z
   generalize zS=z4 at *
   (sym=>simp [Qb,Qc,Qd,Qe,Qi,Qj,Qm,Qn,Qo,Qr,Qt,Qv,Qw,Q4,Q5,Xd,Xp,Xw,Xx,Yj,Yr,Yt,Yu,Yv,Y1,Y6,Y7,Y8,Y9,Za,Zb,Zc,Zd,Ze,Zg,Zh,Zi,Zj,Zk,Zl,Zm,Zn,Zo,Zr,Zs,Zt,Zu,Zv,Zw,Zy,Z0,Z1,Z3,Jj,Jk,Jr,Jv,Jx,J1,J2,Ue,Uf,Ug,Ul,V3,V6,V9,Wd,We,Wh,Wi,Wj,Wp,Wq,Hh,Hi,Hk,Hl,Hp,Hr,Hs,Ht,Hu,Hv,Hw,No,Nw,Nx,N0,Be,zrY.eq_1,ztB.eq_1,zsA.eq_1,zsp.eq_1,zq3.eq_1,uY.eq_1,hM,hs,hJ,hW,a1,a2,a3,a4,a5,d1,d2,d3,d4,zL.eq_1])
end
end Go.Proofs.YthcnhibjddomdaaGreat
namespace Go.Proofs.YthcnhibjddomdaaGreat
section
open Go
variable (G:Nat→Option (List AV))
abbrev Dd:=Int×List Int×Int×Int×Bool
def dC (d:Dd):List AV:=[.int .i64 d.1,.data false 1 (byt d.2.1) d.2.2.2.2,.int .i64 d.2.2.1,.int .i64 d.2.2.2.1]
def DY (k:Int) (n:Nat) (r c:Int):Bool:=
 if k=1 then decide (1≤n)&&decide (n≤16)&&decide (r=0)&&decide (c=0)
 else if k=2 then WZ r&&WZ c&&decide (n=0)
 else if k=3 then decide (n=0)&&decide (r=0)&&decide (c=0)
 else if k=4 then decide (n=0)&&decide (r=0)&&decide (c=0) else false
def UC (d:Dd):Bool:=DY d.1 d.2.1.length d.2.2.1 d.2.2.2.1
theorem zvI (n:Int) (h:List zf):aR G FT Kg [.int .i64 n] h=some (.bool (WZ n),h):=by
 unfold WZ
 rw [zej]
 by_cases h1:1≤n
 ·(sym=>simp [Qb,Qd,Qe,Qf,Qg,Qi,Qj,Qr,Qt,Qu,Xa,Yb,Yd,Y1,Y5,Y7,Y9,Za,Zb,Zc,Ze,Zg,Zh,Zi,Zj,Zk,Zl,Zr,Zs,Zt,Zu,Zv,Zw,Ja,Jj,Jk,Jv,Jx,Nl,Np,Be,zFM.eq_1,zFd.eq_1,YP.eq_1,h1])
 ·(sym=>simp [Qb,Qd,Qe,Qf,Qg,Qi,Qj,Qr,Qt,Qu,Xa,Yd,Y1,Y5,Y7,Y9,Za,Zb,Zc,Ze,Zg,Zh,Zi,Zj,Zk,Zl,Zr,Zs,Zt,Zu,Zv,Zw,Z3,Ja,Jj,Jk,Jv,Jx,Nm,Nr,Be,zFM.eq_1,zFd.eq_1,YP.eq_1,h1])
def setW (w:Nat→Int×Int) (j:Nat) (r c:Int):Nat→Int×Int:=fun n=>if n=j then (r,c) else w n
theorem zBD (w:Nat→Int×Int) {j:Nat} (h:j<9) (r c:Int):(zF w).take (j * 2)++[.int .i64 r,.int .i64 c]++(zF w).drop (j * 2+2)=zF (setW w j r c):=by
 rcases nine h with rfl | rfl | rfl | rfl | rfl | rfl | rfl | rfl | rfl<;>rfl
theorem zFR (w:Nat→Int×Int) (j:Nat) (h1:1≤j) (h8:j≤8) (r c:Int) (hm:TN w=true) (hr:WZ r=true) (hc:WZ c=true):
  aP G FT zaX [.agg (zF w),.int .i64 j,.int .i64 r,.int .i64 c]=some (.tup [.agg (zF (setW w j r c)),.int .i64 0]):=by
 have hM:=zl2 G w
 have hS:=zyB G
 have hN:=znS G j
 have hj:zcH (j:Int)=true:=by rw [zgL];omega
 have cl:=Tg w
 have cs:=zca w
 have cv:=zkn w
 have ct:List.take 18 (zF w)=zF w:=rfl
 have cd:List.drop 18 (zF w)=[]:=rfl
 have j9:(j:Int)<9:=by omega
 have q1:j * 2+2≤18:=by omega
 have k1:=zBD w (j:=j) (by omega) r c
 have dl:=Tg (setW w j r c)
 have ds:=zca (setW w j r c)
 have dt:List.take 18 (zF (setW w j r c))=zF (setW w j r c):=rfl
 have df:∀ h,yc h (zF (setW w j r c))=some (zF (setW w j r c)):=fun h=>by simp [zF,yc,yn]
 generalize zF (setW w j r c)=C2 at *
 generalize zF w=C1 at *
 unfold aP
 rw [zko]
 (sym=>simp [Qb,Qc,Qd,Qe,Qf,Qg,Qi,Qj,Qm,Qn,Qo,Qr,Qt,Qu,Qv,Qw,Qx,Qy,Q1,Q4,Q5,Xd,Xt,Yj,Yk,Yr,Yu,Yz,Y1,Y6,Y7,Y8,Y9,Za,Zb,Zc,Zd,Ze,Zg,Zh,Zi,Zj,Zk,Zl,Zm,Zn,Zo,Zr,Zs,Zt,Zu,Zv,Zw,Zy,Z0,Z1,Z3,Jb,Jj,Jk,Jr,Jv,Jx,J1,J2,K8,K9,Ue,Uf,Ug,V3,V6,Wd,We,Wh,Wi,Wj,Wp,Wq,Hh,Hi,Hk,Hl,Ho,Hp,Hr,Hs,Ht,Hu,Hv,Hw,H8,Ni,Nk,No,Nw,Nx,Nz,N0,Be,Bh,zDp.eq_1,zDW.eq_1,zDl.eq_1,zDT.eq_1,zDN.eq_1,NA.eq_1,hM,hS,hN,hm,hr,hc,hj,cl,cs,cv,ct,cd,j9,q1,k1,dl,ds,dt,df])
end
end Go.Proofs.YthcnhibjddomdaaGreat
namespace Go.Proofs.YthcnhibjddomdaaGreat
section
open Go
variable (G:Nat→Option (List AV))
def doF (k:Int):AV:=if k=1 then .fn (.func VZ) [] [.ptr 4 0 0 0,.ptr 5 0 0 0,.ptr 6 0 0 0] else if k=2 then .fn (.func VQ) [] [.ptr 4 0 0 0,.ptr 6 0 0 0] else if k=3 then .fn (.func UB) [] [.ptr 4 0 0 0] else .fn (.func UA) [] [.ptr 4 0 0 0]
def NU (s:Ses) (q:List Pc):Ses:={ s with q:=q,f3:=false }
def Po (s:Ses) (j:Nat) (r c:Int):Ses:={ s with w:=setW s.w j r c }
def Wm (s:Ses) (h:Int) (q:List Int):Ses:={ s with h:=h,tq:=q,f2:=false }
def YK (s:Ses) (j:Nat) (n:Int):Ses:={ s with k:=fun x=>if x=j then n else s.k x }
theorem zrn (s:Ses) (q:List Pc):(sC s).set 3 (.data false 3 (pcs q) false)=sC (NU s q):=rfl
theorem zCG (s:Ses) (j:Nat) (r c:Int):(sC s).take 4++zF (setW s.w j r c)++(sC s).drop 22=sC (Po s j r c):=rfl
theorem zeP (s:Ses) (h:Int) (q:List Int):(sC s).take 1++[.int .i64 h,.data false 1 (ints q) false]++(sC s).drop 3=sC (Wm s h q):=rfl
theorem zsv (s:Ses) {j:Nat} (h:j<9) (n:Int):(sC s).set (24+j) (.int .i64 n)=sC (YK s j n):=by
 rcases nine h with rfl | rfl | rfl | rfl | rfl | rfl | rfl | rfl | rfl<;>rfl
def doS (s:Ses) (j:Nat) (n:Int) (d:Dd):Ses:=
 if d.1=1 then if s.h=j then NU s (PY s.q (j,n,d.2.1,d.2.2.2.2)).1 else s
 else if d.1=2 then stS (Po s j d.2.2.1 d.2.2.2.1)
 else if d.1=3 then if wrB s.mem j=true then Wm s (RU s.h s.tq j).1 (RU s.h s.tq j).2.1 else s
 else Wm s (WA s.h s.tq j).1 (WA s.h s.tq j).2.1
end
end Go.Proofs.YthcnhibjddomdaaGreat
namespace Go.Proofs.YthcnhibjddomdaaGreat
section
open Go
variable (G:Nat→Option (List AV))
theorem zuR (s:Ses):∀ (m i:Nat),vw s m i=true→∀ j,i≤j→j<i+m→tkB s j=true:=by
 intro m
 induction m with
 | zero=>intro i _ j h1 h2;omega
 | succ m ih=>
  intro i h j h1 h2
  rw [vw,Bool.and_eq_true] at h
  by_cases e:j=i
  ·rw [e];exact h.1
  ·exact ih (i+1) h.2 j (by omega) (by omega)
theorem zZ {s:Ses} (h:yj s=true):y5 s.mem=true∧Yf s.h s.tq=true∧jG 0 s.q=true∧TN s.w=true∧ZO s=true∧(s.h=0∨wrB s.mem s.h=true)∧(∀ id ∈ s.tq,wrB s.mem id=true)∧(∀ j,j<9→tkB s j=true)∧(∀ t ∈ s.q,RJ s t=false):=by
 simp only [yj,Bool.and_eq_true,Bool.or_eq_true,decide_eq_true_eq,Bool.not_eq_true',List.any_eq_false,Bool.not_eq_true] at h
 obtain ⟨⟨⟨⟨⟨⟨⟨⟨h1,h2⟩,h3⟩,h4⟩,h5⟩,h6⟩,h7⟩,h8⟩,h9⟩:=h
 exact ⟨h1,h2,h3,h4,h5,h6,fun id hi=>by simpa using h7 id hi,fun j hj=>zuR s 9 0 h8 j (by omega) (by omega),fun t ht=>by simpa using h9 t ht⟩
theorem zdc {s:Ses} (h:yj s=true) (j:Nat) (hj:j<9):0≤s.k j∧s.k j≤1073741824:=by
 have:=(zZ h).2.2.2.2.2.2.2.1 j hj
 simp only [tkB,Bool.and_eq_true,Bool.not_eq_true',decide_eq_false_iff_not] at this
 omega
def Wo (s:Ses) (id n:Int) (d:Dd):Ses×Int:=
 if yj s=true then
  if zK s.mem id=true then
   if 1073741824≤s.k id.toNat∨¬ n=s.k id.toNat+1 then (zS,300)
   else if UC d=true then (doS (YK (cpS s) id.toNat n) id.toNat n d,0) else (zS,2)
  else (zS,6)
 else (zS,2)
theorem zGj (s:Ses) (hf:s.f1=false∧s.f2=false∧s.f3=false) (j:Nat) (n:Int) (d:Dd):(doS s j n d).f1=false∧(doS s j n d).f2=false∧(doS s j n d).f3=false:=by
 obtain ⟨h1,h2,h3⟩:=hf
 unfold doS
 split
 ·split
  ·exact ⟨h1,h2,rfl⟩
  ·exact ⟨h1,h2,h3⟩
 split
 ·exact ⟨rfl,rfl,rfl⟩
 split
 ·split
  ·exact ⟨h1,rfl,h3⟩
  ·exact ⟨h1,h2,h3⟩
 ·exact ⟨h1,rfl,h3⟩
theorem zm6 {s:Ses} (hf:s.f1=false∧s.f2=false∧s.f3=false) (h:List zf):yc h (sC s)=some (sC s):=by
 obtain ⟨h1,h2,h3⟩:=hf
 simp [sC,zF,zP,yc,yn,h1,h2,h3]
def Pb (s:Ses) (n:Int):Ses×List Pc:=if yj s=true then (NU (cpS s) (NR (cpS s).q n).1,(NR (cpS s).q n).2) else (zS,[])
theorem zuh (s:Ses) (h:okS s) (n:Int) (hn:n≤9223372036854775807):aP G FT YI [.agg (sC s),.int .i64 n]=some (.tup [.agg (sC (Pb s n).1),.data false 3 (pcs (Pb s n).2) false]):=by
 have hM:=zb1 G s h
 have a1:=zk s
 have a2:=zG s
 have a3:=zu s
 have a4:=vK s
 have a6:(sC s).drop 33=[]:=rfl
 have z:=ziq
 unfold aP Pb
 rw [zbB]
 cases hs:yj s with
 | false=>
  rw [if_neg (by simp)]
  simp only [z,zbW]
  (sym=>simp [Qb,Qd,Qe,Qi,Qj,Qm,Qn,Qo,Qr,Qt,Qv,Qw,Qx,Q1,Q4,Q5,Xd,Yj,Yr,Yu,Y1,Y6,Y7,Y8,Y9,Za,Zb,Zc,Zd,Ze,Zg,Zh,Zi,Zj,Zk,Zl,Zm,Zn,Zo,Zr,Zs,Zt,Zu,Zv,Zw,Zy,Z0,Z1,Jj,Jk,Jl,Jr,Jv,Jx,J1,J2,K8,Ue,Uf,Ug,Ul,V3,Wd,We,Wg,Wh,Wi,Wj,Wp,Wq,Hh,Hi,Hk,Hl,Ho,Hp,Hq,Hr,Hs,Ht,Hu,Hv,Hw,No,Nx,N0,Be,zyW.eq_1,zxd.eq_1,zwO.eq_1,zAN.eq_1,zyG.eq_1,zyZ.eq_1,zxp.eq_1,o7.eq_1,hM,hs,a1,a2,a3,a4,zL.eq_1])
 | true=>
  rw [if_pos rfl]
  have hC:=zfy G s h
  have hP:=fun b f=>zzS G (cpS s).q b f (zah h.2.2 (-1)) n hn
  have q:=zrn (cpS s) (NR (cpS s).q n).1
  have b3:=zer (cpS s)
  have c3:=zk (cpS s)
  have c4:=zG (cpS s)
  have c5:=zu (cpS s)
  have c6:(sC (cpS s)).drop 33=[]:=rfl
  have x1:=zk (NU (cpS s) (NR (cpS s).q n).1)
  have x2:=zG (NU (cpS s) (NR (cpS s).q n).1)
  have x3:=zu (NU (cpS s) (NR (cpS s).q n).1)
  have x4:=zm6 (s:=NU (cpS s) (NR (cpS s).q n).1) ⟨rfl,rfl,rfl⟩
  have x6:(sC (NU (cpS s) (NR (cpS s).q n).1)).drop 33=[]:=rfl
  generalize NU (cpS s) (NR (cpS s).q n).1=s3 at *
  generalize cpS s=s2 at *
  (sym=>simp [Qb,Qc,Qd,Qe,Qi,Qj,Qm,Qn,Qo,Qr,Qt,Qv,Qw,Q4,Q5,Xd,Xp,Xw,Xx,Yj,Yr,Yt,Yu,Yv,Y1,Y6,Y7,Y8,Y9,Za,Zb,Zc,Zd,Ze,Zg,Zh,Zi,Zj,Zk,Zl,Zm,Zn,Zo,Zr,Zs,Zt,Zu,Zv,Zw,Zy,Z0,Z1,Z3,Jj,Jk,Jr,Jv,Jx,J1,J2,J6,Ue,Uf,Ug,Ul,V3,V6,V9,Wd,We,Wg,Wh,Wi,Wp,Wq,Hh,Hi,Hk,Hl,Hp,Hr,Hs,Ht,Hu,Hv,Hw,No,Nw,Nx,N0,Be,zyW.eq_1,zxd.eq_1,zwO.eq_1,zAN.eq_1,zyG.eq_1,zyZ.eq_1,zxp.eq_1,o7.eq_1,hM,hs,hC,hP,q,b3,a1,a2,a3,a4,a6,c3,c4,c5,c6,x1,x2,x3,x4,x6,List.append_nil,zL.eq_1])
end
end Go.Proofs.YthcnhibjddomdaaGreat
namespace Go.Proofs.YthcnhibjddomdaaGreat
section
open Go
theorem zpx (a b:Int):a<b∨b≤a:=by omega
theorem VP {l:List (Int×Int)} (hm:y5 l=true) (id:Int):zK l id=true↔zg l id≠0:=by
 unfold zK idB
 simp only [hm,Bool.true_and,Bool.and_eq_true,decide_eq_true_eq]
 constructor
 ·rintro ⟨_,h⟩;exact h
 ·intro h
  refine ⟨⟨?_, ?_⟩,h⟩
  ·rcases zpx 0 id with h1 | h1
   ·omega
   ·exact absurd (ZW l 0 hm id h1) h
  ·rcases zpx 8 id with h1 | h1
   ·exact absurd (KZ l 0 hm id h1) h
   ·exact h1
theorem Df {l:List (Int×Int)} {id:Int} (h:zK l id=true):1≤id∧id≤8:=by
 simp only [zK,idB,Bool.and_eq_true,decide_eq_true_eq] at h
 exact h.1.2
theorem zgQ {l:List (Int×Int)} (hm:y5 l=true) (id:Int):wrB l id=true↔zg l id=2:=by
 unfold wrB
 rw [Bool.and_eq_true,decide_eq_true_eq,VP hm]
 constructor
 ·exact fun h=>h.2
 ·intro h;exact ⟨by omega,h⟩
theorem zmU:∀ (l:List (Int×Int)) (last:Int),yO last l=true→∀ id r,r≠0→((id,r) ∈ l↔zg l id=r)
 | [],_,_,id,r,hr=>by simp [zg];omega
 | m::t,last,h,id,r,hr=>by
  rw [yO,Bool.and_eq_true,vV] at h
  rw [List.mem_cons,zmU t m.1 h.2 id r hr,zg]
  by_cases e:m.1=id
  ·rw [if_pos e,ZW t m.1 h.2 id (by omega)]
   constructor
   ·rintro (h | h)
    ·rw [← h]
    ·omega
   ·intro h;left;rw [← e,← h]
  ·rw [if_neg e]
   constructor
   ·rintro (h | h)
    ·exact absurd (by rw [← h]) e
    ·exact h
   ·exact .inr
theorem zod {l:List (Int×Int)} (hm:y5 l=true) (id:Int):id ∈ zW l↔zg l id=2:=by
 unfold zW
 rw [← zmU l 0 hm id 2 (by omega),List.mem_map]
 constructor
 ·rintro ⟨⟨a,b⟩,h,rfl⟩
  rw [List.mem_filter] at h
  simp only [decide_eq_true_eq] at h
  obtain ⟨h1,rfl⟩:=h
  exact h1
 ·intro h
  exact ⟨(id,2),List.mem_filter.2 ⟨h,by simp⟩,rfl⟩
def VY (l:List (Int×Int)) (i n:Nat):Bool:=decide (i≤n)&&decide (n<9)&& !zK l n
def UG (s:Ses) (i:Nat):Ses:={ s with k:=fun n=>if VY s.mem i n=true then 0 else s.k n,w:=fun n=>if VY s.mem i n=true then (0,0) else s.w n,q:=s.q.filter fun x=> !(decide (0≤x.1)&&VY s.mem i x.1.toNat) }
theorem zvw {l:List (Int×Int)} {i:Nat} (h:zK l i=true) (n:Nat):VY l (i+1) n=VY l i n:=by
 unfold VY
 by_cases e:n=i
 ·subst e;simp [h]
 ·have:decide (i+1≤n)=decide (i≤n):=by rw [decide_eq_decide];omega
  rw [this]
theorem zCW {l:List (Int×Int)} {i:Nat} (h9:i<9) (h:zK l i=false) (n:Nat):VY l i n=(VY l (i+1) n||decide (n=i)):=by
 unfold VY
 by_cases e:n=i
 ·subst e;simp [h,h9]
 ·have:decide (i+1≤n)=decide (i≤n):=by rw [decide_eq_decide];omega
  rw [this];simp [e]
theorem ziZ {q:List Pc} (h:cpQ q=q) (p:Pc→Bool):cpQ (q.filter p)=q.filter p:=by
 have:∀ x ∈ q,cp x=x:=by
  intro x hx
  have h1:∀ (l:List Pc),l.map cp=l→∀ x ∈ l,cp x=x:=by
   intro l
   induction l with
   | nil=>intro _ x hx;simp at hx
   | cons y t ih=>
    intro h x hx
    rw [List.map_cons,List.cons.injEq] at h
    rcases List.mem_cons.1 hx with rfl | hx
    ·exact h.1
    ·exact ih h.2 x hx
  exact h1 q h x hx
 unfold cpQ
 rw [List.map_congr_left (g:=id) fun x hx=>this x (List.mem_filter.1 hx).1,List.map_id]
theorem zkR:∀ (m i:Nat) (s:Ses),i+m=9→jG 0 s.q=true→cpQ s.q=s.q→s.f3=false→II s m i=UG s i
 | 0,i,s,hi,_,_,_=>by
  have e:∀ n,VY s.mem i n=false:=fun n=>by
   unfold VY
   have:(decide (i≤n)&&decide (n<9))=false:=by simp;omega
   rw [this,Bool.false_and]
  rw [II]
  unfold UG
  simp only [e,Bool.and_false,Bool.not_false,Bool.false_eq_true,if_false]
  rw [List.filter_eq_self.2 (fun _ _=>rfl)]
 | m+1,i,s,hi,hq,hc,hf=>by
  rw [II]
  cases ht:zK s.mem i with
  | true=>
   rw [if_pos rfl,zkR m (i+1) s (by omega) hq hc hf]
   unfold UG
   simp only [zvw ht]
  | false=>
   rw [if_neg (by simp)]
   have hd:zdX s.q i=s.q.filter fun x=> !decide (x.1=(i:Int)):=by rw [zdX,if_pos hq,ziZ hc]
   have hm:(zcl s i).mem=s.mem:=rfl
   have hq':(zcl s i).q=s.q.filter fun x=> !decide (x.1=(i:Int)):=hd
   rw [zkR m (i+1) (zcl s i) (by omega) (by rw [hq'];exact zgh hq _) (by rw [hq'];exact ziZ hc _) rfl]
   unfold UG
   rw [hm,hq',List.filter_filter]
   have hab:=zCW (l:=s.mem) (i:=i) (by omega) ht
   have ek:(fun n=>if VY s.mem (i+1) n=true then (0:Int) else (zcl s i).k n)=fun n=>if VY s.mem i n=true then 0 else s.k n:=by
    funext n
    have:(zcl s i).k n=if n=i then 0 else s.k n:=rfl
    rw [this,hab n]
    by_cases e:n=i<;>simp [e]
   have ew:(fun n=>if VY s.mem (i+1) n=true then ((0,0):Int×Int) else (zcl s i).w n)=fun n=>if VY s.mem i n=true then (0,0) else s.w n:=by
    funext n
    have:(zcl s i).w n=if n=i then (0,0) else s.w n:=rfl
    rw [this,hab n]
    by_cases e:n=i<;>simp [e]
   have ef:(fun x:Pc=>(!(decide (0≤x.1)&&VY s.mem (i+1) x.1.toNat))&& !decide (x.1=(i:Int)))=fun x=> !(decide (0≤x.1)&&VY s.mem i x.1.toNat):=by
    funext x
    rw [hab]
    by_cases h0:0≤x.1
    ·have e1:decide (x.1=(i:Int))=decide (x.1.toNat=i):=by rw [decide_eq_decide];omega
     rw [e1]
     simp only [h0,decide_true,Bool.true_and,Bool.not_or]
    ·have e1:decide (x.1=(i:Int))=false:=by simp;omega
     rw [e1]
     simp [h0]
   rw [ek,ew,ef]
   simp only [zcl]
   rw [← hf]
theorem zzy:∀ (q:List Pc),YX q (-1)=0
 | []=>rfl
 | x::q=>by rw [YX,if_neg (by omega)]
theorem zjk {s:Ses} (h:jG 0 s.q=true):(cpS s).q=cpQ s.q:=by
 show (NR s.q (-1)).1=_
 rw [NR,if_pos h,zzy];rfl
theorem Ip {h:Int} {tq:List Int} {l:List (Int×Int)} (hm:Yf h tq=true):((h=0∨wrB l h=true)∧∀ id ∈ tq,wrB l id=true)↔∀ x ∈ allT h tq,wrB l x=true:=by
 have h0:=((WM h tq).1 hm).2
 unfold allT
 by_cases e:h=0
 ·rw [if_pos e,h0 e];simp [e]
 ·rw [if_neg e];simp [e]
theorem zjM (s:Ses):∀ (m i:Nat),(∀ j,i≤j→j<i+m→tkB s j=true)→vw s m i=true
 | 0,_,_=>rfl
 | m+1,i,h=>by rw [vw,h i (Nat.le_refl _) (by omega),zjM s m (i+1) fun j h1 h2=>h j (by omega) (by omega)];rfl
theorem zf4 {s:Ses} (h1:y5 s.mem=true) (h2:Yf s.h s.tq=true) (h3:jG 0 s.q=true) (h4:TN s.w=true) (h5:ZO s=true) (h6:∀ x ∈ allT s.h s.tq,wrB s.mem x=true) (h8:∀ j,j<9→tkB s j=true) (h9:∀ t ∈ s.q,RJ s t=false):yj s=true:=by
 obtain ⟨a,b⟩:=(Ip h2).2 h6
 simp only [yj,Bool.and_eq_true,Bool.or_eq_true,decide_eq_true_eq,Bool.not_eq_true',List.any_eq_false,Bool.not_eq_true]
 exact ⟨⟨⟨⟨⟨⟨⟨⟨h1,h2⟩,h3⟩,h4⟩,h5⟩,a⟩,fun id hi=>by simpa using b id hi⟩,zjM s 9 0 fun j _ h=>h8 j (by omega)⟩,fun t ht=>by simpa using h9 t ht⟩
theorem zb4 {w:Nat→Int×Int} (h:TN w=true) (j:Nat) (hj:j<9):okW w j=true:=zbk w 9 0 h j (by omega) (by omega)
theorem zhq (w:Nat→Int×Int):∀ (m i:Nat),(∀ j,i≤j→j<i+m→okW w j=true)→Wn w m i=true
 | 0,_,_=>rfl
 | m+1,i,h=>by rw [Wn,h i (Nat.le_refl _) (by omega),zhq w m (i+1) fun j h1 h2=>h j (by omega) (by omega)];rfl
theorem zeJ {w:Nat→Int×Int} (h:∀ j,j<9→okW w j=true):TN w=true:=zhq w 9 0 fun j _ hj=>h j (by omega)
def zoT (s:Ses):List Int:=(allT s.h s.tq).filter fun x=>decide (x ∈ zW s.mem)
theorem zk7 {s:Ses} (h1:y5 s.mem=true) (h2:Yf s.h s.tq=true):(stS s).h=(ofT (zoT s)).1∧(stS s).tq=(ofT (zoT s)).2:=by
 have h:Le s.h s.tq (if y5 s.mem=true then zW s.mem else [])=((ofT (zoT s)).1,(ofT (zoT s)).2,0):=by rw [if_pos h1,zyz _ h2];rfl
 exact ⟨show (Le s.h s.tq (if y5 s.mem=true then zW s.mem else [])).1=_ by rw [h],show (Le s.h s.tq (if y5 s.mem=true then zW s.mem else [])).2.1=_ by rw [h]⟩
theorem zjG {s:Ses} (h2:Yf s.h s.tq=true):zaA (zoT s):=((WM s.h s.tq).1 h2).1.filter _
theorem zCs {s:Ses} (h1:y5 s.mem=true) (h2:Yf s.h s.tq=true):allT (stS s).h (stS s).tq=zoT s:=by
 obtain ⟨a,b⟩:=zk7 h1 h2
 rw [a,b,zpq (zjG h2)]
theorem zqr {w:Nat→Int×Int} {ids:List Int} {r c:Int} (h:1≤r∧r≤24∧1≤c∧c≤40):1≤(gI w ids r c).1∧(gI w ids r c).1≤24∧1≤(gI w ids r c).2∧(gI w ids r c).2≤40:=by
 unfold gI
 split
 ·rename_i hw
  have a:=zCU hw.1 ids
  have b:=(zre w ids (zht w ids).2.1).1 (Int.le_refl _)
  have c:=(zrc w ids (zht w ids).2.2).1 (Int.le_refl _)
  omega
 ·exact h
theorem NQ (s:Ses):ZO s=true↔1≤s.r∧s.r≤24∧1≤s.c∧s.c≤40:=by
 simp only [ZO,Bool.and_eq_true,decide_eq_true_eq]
 constructor
 ·rintro ⟨⟨⟨a,b⟩,c⟩,d⟩;exact ⟨a,b,c,d⟩
 ·rintro ⟨a,b,c,d⟩;exact ⟨⟨⟨a,b⟩,c⟩,d⟩
theorem zzG {s:Ses} (h1:y5 s.mem=true) (h2:Yf s.h s.tq=true) (h3:jG 0 s.q=true) (h4:TN s.w=true) (h5:ZO s=true) (h8:∀ j,j<9→tkB s j=true) (h9:∀ t ∈ s.q,RJ s t=false):yj (stS s)=true:=by
 obtain ⟨a,b⟩:=zk7 h1 h2
 refine zf4 (s:=stS s) h1 ?_ h3 h4 ?_ ?_ h8 h9
 ·rw [a,b];exact zwT (zjG h2)
 ·rw [NQ] at h5 ⊢
  exact zqr h5
 ·rw [zCs h1 h2]
  intro x hx
  have:=(List.mem_filter.1 hx).2
  rw [decide_eq_true_eq,zod h1] at this
  exact (zgQ h1 x).2 this
end
end Go.Proofs.YthcnhibjddomdaaGreat
namespace Go.Proofs.YthcnhibjddomdaaGreat
section
open Go
variable (G:Nat→Option (List AV))
theorem zqG (s:Ses) (hl:s.mem.length<1000000) (L:List Int) (f:Bool) (hL:L.length≤2000):∀ (m i:Nat),i+m=L.length→
  aE G FT 0 VA ⟨[(1,.ptr 0 0 0 0),(3,.data false 1 (ints L) f),(4,.int .i64 i)],[⟨33,0,true,[sC s]⟩]⟩=if ((L.drop i).all fun x=>decide (zg s.mem x=2))=true then some (.exit 0,⟨[(1,.ptr 0 0 0 0),(3,.data false 1 (ints L) f),(4,.int .i64 L.length),(57,.bool false)],[⟨33,0,true,[sC s]⟩]⟩) else some (.ret,⟨[(2,.bool false)],[⟨33,0,true,[sC s]⟩]⟩):=by
 have hln:=zw L
 have b0:=Ib s
 intro m
 induction m with
 | zero=>
  intro i hi
  rw [VA,zn]
  have e:L.drop i=[]:=List.drop_eq_nil_of_le (by omega)
  obtain rfl:i=L.length:=by omega
  have e0:decide ((L.length:Int)<L.length)=false:=by simp
  rw [e,List.all_nil,if_pos rfl]
  (sym=>simp [Qa,Qd,Qe,Qi,Qr,Qt,Xa,Xy,Ya,Yh,Y9,Za,Zb,Zc,Ze,Zg,Zh,Zk,Zl,Zm,Zn,Zt,Zv,Zw,Zx,Zy,Zz,Z0,Z3,Jj,Jk,Jm,Jr,Ju,Jv,Ut,Ux,U0,U4,U5,U7,Vb,Ve,Vk,Vm,Vo,Vp,Vq,Vr,Vs,Vt,Vu,Vv,Vw,Vx,Vy,Vz,V0,Hh,Hp,Hv,Hw,H1,H5,H6,Nl,No,Nx,Be,zsy.eq_1,zrz.eq_1,zsc.eq_1,zsF.eq_1,TL.eq_1,e0,hln])
 | succ m ih=>
  intro i hi
  have hlt:i<L.length:=by omega
  have hlt':(i:Int)<L.length:=by omega
  have hw:=zH (n:=i) (by omega)
  have hg:=ints_at hlt
  have hR:=fun b f=>Ps G s.mem b f L[i] hl
  have e:L.drop i=L[i]::L.drop (i+1):=List.drop_eq_getElem_cons hlt
  have ih:=ih (i+1) (by omega)
  rw [VA] at ih
  rw [e,List.all_cons,VA,zn]
  generalize L[i]=x at *
  by_cases hx:zg s.mem x=2
  ·rw [decide_eq_true hx,Bool.true_and,← ih]
   (sym=>simp [Qc,Qd,Qe,Qi,Qj,Qm,Qn,Qo,Qr,Qt,Q4,Xa,Xp,Xs,Xy,X5,X9,Ya,Yh,Yr,Ys,Yt,Yv,Yy,Y9,Za,Zb,Zc,Ze,Zg,Zh,Zk,Zl,Zm,Zn,Zo,Zt,Zv,Zw,Zx,Zy,Zz,Z0,Z3,Jj,Jk,Jn,Jo,Jr,Js,Jv,Ut,Ux,U0,U4,U5,U7,Vb,Ve,Vk,Vm,Vo,Vp,Vq,Vr,Vs,Vt,Vu,Vv,Vw,Vx,Vy,Vz,V0,V6,V9,Wd,We,Hh,Hp,Hv,Hw,H1,H5,H6,Ni,Nk,Nl,No,Nw,Nx,Be,Ma,Mb,Md,Mf,zsy.eq_1,zrz.eq_1,zsc.eq_1,zsF.eq_1,TL.eq_1,hlt',hg,hln,hR,hx,hw,b0])
  ·rw [decide_eq_false hx,Bool.false_and,if_neg (by simp)]
   (sym=>simp [Qb,Qc,Qd,Qe,Qi,Qj,Qm,Qn,Qo,Qr,Qt,Q4,Xa,Xp,Xs,Xy,X9,Ya,Yh,Yr,Ys,Yt,Yv,Yy,Y9,Za,Zb,Zc,Ze,Zg,Zh,Zk,Zl,Zm,Zn,Zo,Zt,Zv,Zw,Zx,Zy,Zz,Z0,Z3,Jj,Jk,Jl,Jn,Jp,Jr,Jt,Jv,Ut,Ux,U0,U4,U5,U7,Vb,Ve,Vk,Vm,Vo,Vp,Vq,Vr,Vs,Vt,Vu,Vv,Vw,Vx,Vy,Vz,V0,V6,V9,Wd,We,Hh,Hp,Hv,Hw,H1,H5,H6,Ni,Nk,Nl,Nm,No,Nx,Be,Ma,Mb,Md,Mf,zsy.eq_1,zrz.eq_1,zsc.eq_1,zsF.eq_1,TL.eq_1,hlt',hg,hln,hR,hx,hw,b0])
theorem zoF (s:Ses) (hm:y5 s.mem=true):∀ (m i:Nat),i+m=9→∀ st,agc 0 [1,5] st=some ⟨[(1,.ptr 0 0 0 0),(5,.int .i64 i)],[⟨33,0,true,[sC s]⟩]⟩→
  aE G FT 0 Vf st=if vw s m i=true then some (.exit 2,⟨[(1,.ptr 0 0 0 0),(5,.int .i64 9),(69,.bool false)],[⟨33,0,true,[sC s]⟩]⟩) else some (.ret,⟨[(2,.bool false)],[⟨33,0,true,[sC s]⟩]⟩):=by
 have b0:=Ib s
 have b1:=zk s
 have hml:=NE hm
 intro m
 induction m with
 | zero=>
  intro i hi st hst
  rw [Vf,zn,hst]
  obtain rfl:i=9:=by omega
  rw [vw,if_pos rfl]
  have e:((9:Nat):Int)=9:=rfl
  (sym=>simp [Qa,Qd,Qe,Qi,Qj,Qr,Qt,Xa,Ya,Y9,Za,Zb,Zc,Ze,Zg,Zh,Zt,Zv,Zw,Z3,Jj,Jk,Jm,Jr,Ju,Jv,Nm,Be,Bh,IP.eq_1,JX.eq_1,Ih.eq_1,Ia.eq_1,IV.eq_1,uK.eq_1,e])
 | succ m ih=>
  intro i hi st hst
  have ih:=ih (i+1) (by omega)
  rw [Vf] at ih
  rw [Vf,zn,hst]
  have hi9:i<9:=by omega
  have hi9':(i:Int)<9:=by omega
  have hw:=zH (n:=i) (by omega)
  have hR:=fun b f=>Ps G s.mem b f i (by omega)
  have ka:=zlS s hi9
  have w0:(sC s)[4+i * 2]? =some (.int .i64 (s.w i).1):=by
   rcases nine hi9 with rfl | rfl | rfl | rfl | rfl | rfl | rfl | rfl | rfl<;>rfl
  have w1:(sC s)[4+i * 2+1]? =some (.int .i64 (s.w i).2):=by
   rcases nine hi9 with rfl | rfl | rfl | rfl | rfl | rfl | rfl | rfl | rfl<;>rfl
  have q1:24+i<33:=by omega
  have q2:4+i * 2<33:=by omega
  have q3:4+i * 2+1<33:=by omega
  rw [vw]
  have ht:tkB s i=(!decide (s.k i<0)&& !decide (1073741824<s.k i)&&(decide (zg s.mem i≠0)||(decide (s.k i=0)&&(decide ((s.w i).1=0)&&decide ((s.w i).2=0))))):=by
   unfold tkB;rw [IU hm]
  rw [ht]
  generalize hk:s.k i=k at *
  generalize hx:s.w i=x at *
  generalize sC s=scs at *
  have fall:∀ b,b=false→((if (b&&vw s m (i+1))=true then some (.exit 2,⟨[(1,.ptr 0 0 0 0),(5,.int .i64 9),(69,.bool false)],[⟨33,0,true,[scs]⟩]⟩) else some (.ret,⟨[(2,.bool false)],[⟨33,0,true,[scs]⟩]⟩)):Option (AEx×ASt))=some (.ret,⟨[(2,.bool false)],[⟨33,0,true,[scs]⟩]⟩):=fun b hb=>by rw [hb,Bool.false_and,if_neg (by simp)]
  have pass:∀ b,b=true→((if (b&&vw s m (i+1))=true then some (.exit 2,⟨[(1,.ptr 0 0 0 0),(5,.int .i64 9),(69,.bool false)],[⟨33,0,true,[scs]⟩]⟩) else some (.ret,⟨[(2,.bool false)],[⟨33,0,true,[scs]⟩]⟩)):Option (AEx×ASt))=(if vw s m (i+1)=true then some (.exit 2,⟨[(1,.ptr 0 0 0 0),(5,.int .i64 9),(69,.bool false)],[⟨33,0,true,[scs]⟩]⟩) else some (.ret,⟨[(2,.bool false)],[⟨33,0,true,[scs]⟩]⟩)):=fun b hb=>by rw [hb,Bool.true_and]
  by_cases k0:k<0
  ·rw [fall _ (by simp [k0])]
   (sym=>simp [Qb,Qc,Qd,Qe,Qf,Qg,Qh,Qi,Qj,Qm,Qn,Qo,Qr,Qt,Qu,Q4,Xa,Xp,Xt,X9,Ya,Yr,Yt,Yv,Yz,Y9,Za,Zb,Zc,Ze,Zg,Zh,Zo,Zt,Zv,Zw,Zy,Z0,Z3,Jb,Jj,Jk,Jl,Jn,Jp,Jr,Jt,Jv,V6,V9,Wd,We,Hh,Nc,Ni,Nk,Nl,Nw,Nz,Be,Bh,IP.eq_1,JX.eq_1,Ih.eq_1,Ia.eq_1,IV.eq_1,uK.eq_1,hi9',hR,b0,b1,ka,q1,k0])
  by_cases k1:1073741824<k
  ·rw [fall _ (by simp [k1])]
   (sym=>simp [Qb,Qc,Qd,Qe,Qf,Qg,Qh,Qi,Qj,Qm,Qn,Qo,Qr,Qt,Qu,Q4,Xa,Xp,Xt,X9,Ya,Yc,Yr,Yt,Yv,Yz,Y9,Za,Zb,Zc,Ze,Zg,Zh,Zo,Zt,Zv,Zw,Zy,Z0,Z3,Jb,Jj,Jk,Jl,Jn,Jp,Jr,Jt,Jv,V6,V9,Wd,We,Hh,Nc,Ni,Nk,Nl,Nm,Nw,Nx,Nz,Be,Bh,IP.eq_1,JX.eq_1,Ih.eq_1,Ia.eq_1,IV.eq_1,uK.eq_1,hi9',hR,b0,b1,ka,q1,k0,k1])
  by_cases hr:zg s.mem i=0
  ·by_cases k2:k=0
   ·by_cases x1:x.1=0
    ·by_cases x2:x.2=0
     ·rw [pass _ (by simp [k0,k1,hr,k2,x1,x2])]
      generalize (if vw s m (i+1)=true then _ else _:Option (AEx×ASt))=R at ih ⊢
      (sym=>simp [Qc,Qd,Qe,Qf,Qg,Qi,Qj,Qm,Qn,Qo,Qr,Qt,Qu,Q4,Xa,Xd,Xp,Xt,X5,X9,Ya,Yc,Yr,Yt,Yv,Yz,Y9,Za,Zb,Zc,Ze,Zg,Zh,Zo,Zt,Zv,Zw,Zy,Z0,Z3,Ja,Jb,Jj,Jk,Jn,Jo,Jr,Js,Jv,V6,V9,Wd,We,Hh,H9,Nc,Ni,Nk,Nl,Nm,Nw,Nx,Nz,Be,Bh,Bi,IP.eq_1,JX.eq_1,Ih.eq_1,Ia.eq_1,IV.eq_1,uK.eq_1,hi9',hR,hr,b0,b1,ka,w0,w1,q1,q2,q3,k0,k1,k2,x1,x2,hw];tactic=>(
       refine ih _ ?_
       (sym=>simp [Y9,Za,Zb,Ze,Zk,Zl,Zm,Zn,Zv,Zw,Zx,Zy,Zz,Z0,Z3,Ut,Ux,U4,U5,U7,Vb,Vk,Vm,Vo,Vp,Vq,Vr,Vs,Vt,Vu,Vv,Vw,Vx,Vy,Vz,V0,Hh,Hp,Hv,Hw,H1,H5,H6,Nl,No,Nx])))
     ·rw [fall _ (by simp [hr,x2])]
      (sym=>simp [Qb,Qc,Qd,Qe,Qf,Qg,Qi,Qj,Qm,Qn,Qo,Qr,Qt,Qu,Q4,Xa,Xd,Xp,Xt,X9,Ya,Yc,Yr,Yt,Yv,Yz,Y9,Za,Zb,Zc,Ze,Zg,Zh,Zo,Zt,Zv,Zw,Zy,Z0,Z3,Ja,Jb,Jj,Jk,Jl,Jn,Jp,Jr,Jt,Jv,V6,V9,Wd,We,Hh,H9,Nc,Ni,Nk,Nl,Nm,Nw,Nx,Nz,Be,Bh,Bi,IP.eq_1,JX.eq_1,Ih.eq_1,Ia.eq_1,IV.eq_1,uK.eq_1,hi9',hR,hr,b0,b1,ka,w0,w1,q1,q2,q3,k0,k1,k2,x1,x2])
    ·rw [fall _ (by simp [hr,x1])]
     (sym=>simp [Qb,Qc,Qd,Qe,Qf,Qg,Qi,Qj,Qm,Qn,Qo,Qr,Qt,Qu,Q4,Xa,Xd,Xp,Xt,X9,Ya,Yc,Yr,Yt,Yv,Yz,Y9,Za,Zb,Zc,Ze,Zg,Zh,Zo,Zt,Zv,Zw,Zy,Z0,Z3,Ja,Jb,Jj,Jk,Jl,Jn,Jp,Jr,Jt,Jv,V6,V9,Wd,We,Hh,H9,Nc,Ni,Nk,Nl,Nm,Nw,Nx,Nz,Be,Bh,Bi,IP.eq_1,JX.eq_1,Ih.eq_1,Ia.eq_1,IV.eq_1,uK.eq_1,hi9',hR,hr,b0,b1,ka,w0,w1,q1,q2,q3,k0,k1,k2,x1])
   ·rw [fall _ (by simp [hr,k2])]
    (sym=>simp [Qb,Qc,Qd,Qe,Qf,Qg,Qi,Qj,Qm,Qn,Qo,Qr,Qt,Qu,Q4,Xa,Xd,Xp,Xt,X9,Ya,Yc,Yr,Yt,Yv,Yz,Y9,Za,Zb,Zc,Ze,Zg,Zh,Zo,Zt,Zv,Zw,Zy,Z0,Z3,Ja,Jb,Jj,Jk,Jl,Jn,Jp,Jr,Jt,Jv,V6,V9,Wd,We,Hh,Nc,Ni,Nk,Nl,Nm,Nw,Nx,Nz,Be,Bh,IP.eq_1,JX.eq_1,Ih.eq_1,Ia.eq_1,IV.eq_1,uK.eq_1,hi9',hR,hr,b0,b1,ka,w0,w1,q1,q2,q3,k0,k1,k2])
  ·rw [pass _ (by simp [k0,k1,hr])]
   generalize (if vw s m (i+1)=true then _ else _:Option (AEx×ASt))=R at ih ⊢
   (sym=>simp [Qc,Qd,Qe,Qf,Qg,Qh,Qi,Qj,Qm,Qn,Qo,Qr,Qt,Qu,Q4,Xa,Xd,Xp,Xt,X5,X9,Ya,Yc,Yr,Yt,Yv,Yz,Y9,Za,Zb,Zc,Ze,Zg,Zh,Zo,Zt,Zv,Zw,Zy,Z0,Z3,Ja,Jb,Jj,Jk,Jn,Jo,Jr,Js,Jv,V6,V9,Wd,We,Hh,Nc,Ni,Nk,Nl,Nm,Nw,Nx,Nz,Be,Bh,IP.eq_1,JX.eq_1,Ih.eq_1,Ia.eq_1,IV.eq_1,uK.eq_1,hi9',hR,hr,b0,b1,ka,q1,k0,k1,hw];tactic=>(
    refine ih _ ?_
    (sym=>simp [Y9,Za,Zb,Ze,Zk,Zl,Zm,Zn,Zv,Zw,Zx,Zy,Zz,Z0,Z3,Ut,Ux,U4,U5,U7,Vb,Vk,Vm,Vo,Vp,Vq,Vr,Vs,Vt,Vu,Vv,Vw,Vx,Vy,Vz,V0,Hh,Hp,Hv,Hw,H1,H5,H6,Nl,No,Nx])))
theorem zot (s:Ses) (hm:y5 s.mem=true) (hq:jG 0 s.q=true) (hl:s.q.length≤1000):∀ (m i:Nat),i+m=s.q.length→∃ h',∀ st,agc 0 [1,7] st=some ⟨[(1,.ptr 0 0 0 0),(7,.int .i64 i)],[⟨33,0,true,[sC s]⟩]⟩→
  aE G FT 0 WT st=if ((s.q.drop i).any (RJ s))=true then some (.ret,⟨[(2,.bool false)],h'⟩) else some (.exit 4,⟨[(1,.ptr 0 0 0 0),(7,.int .i64 s.q.length),(120,.bool false)],[⟨33,0,true,[sC s]⟩]⟩):=by
 have b0:=Ib s
 have b1:=zk s
 have b3:=zer s
 have hln:=yB s.q
 have hml:=NE hm
 intro m
 induction m with
 | zero=>
  intro i hi
  have e:s.q.drop i=[]:=List.drop_eq_nil_of_le (by omega)
  obtain rfl:i=s.q.length:=by omega
  have e0:decide ((s.q.length:Int)<s.q.length)=false:=by simp
  refine ⟨[],fun st hst=> ?_⟩
  rw [WT,zn,hst,e,List.any_nil,if_neg (by simp)]
  (sym=>simp [Qa,Qd,Qe,Qi,Qr,Qt,Q4,Xa,Xp,Xy,Ya,Yh,Yr,Yt,Yv,Y9,Za,Zb,Zc,Ze,Zg,Zh,Zt,Zv,Zw,Zy,Z0,Z3,Jj,Jk,Jm,Jr,Ju,Jv,Hh,Be,zhH.eq_1,zh0.eq_1,zf1.eq_1,zgJ.eq_1,zgr.eq_1,VF.eq_1,e0,hln,b3])
 | succ m ih=>
  intro i hi
  obtain ⟨h',ih⟩:=ih (i+1) (by omega)
  have hlt:i<s.q.length:=by omega
  have hlt':(i:Int)<s.q.length:=by omega
  have hw:=zH (n:=i) (by omega)
  have hg:=YZ hlt
  have e:s.q.drop i=s.q[i]::s.q.drop (i+1):=List.drop_eq_getElem_cons hlt
  have hR:=fun b f=>Ps G s.mem b f s.q[i].1 (by omega)
  have hid:1≤s.q[i].1∧s.q[i].1≤8:=by
   have:=((UV s.q).1 hq).1 _ (List.getElem_mem hlt)
   simp only [pcB,VG,Bool.and_eq_true,decide_eq_true_eq] at this
   omega
  rw [WT] at ih
  rw [WT,e,List.any_cons]
  have ho:RJ s s.q[i]=(!decide (zg s.mem s.q[i].1≠0)||decide (s.k s.q[i].1.toNat<s.q[i].2.1)):=by
   unfold RJ;rw [IU hm]
  generalize hz:s.q[i]=z at *
  obtain ⟨j,hj⟩:∃ j:Nat,z.1=(j:Int):=⟨z.1.toNat,by omega⟩
  have hj9:j<9:=by omega
  have hj9':(j:Int)<9:=by omega
  have ka:=zlS s hj9
  have q1:24+j<33:=by omega
  rw [hj,Int.toNat_natCast] at ho
  rw [hj] at hg hR
  by_cases hr:zg s.mem j=0
  ·refine ⟨[⟨33,0,true,[sC s]⟩,⟨3,0,true,[[.int .i64 j,.int .i64 z.2.1,.data false 1 (byt z.2.2.1) z.2.2.2]]⟩],fun st hst=> ?_⟩
   rw [zn,hst,ho,if_pos (by simp [hr])]
   generalize sC s=scs at *
   (sym=>simp [Qb,Qc,Qd,Qe,Qf,Qg,Qi,Qj,Qm,Qn,Qo,Qr,Qt,Qu,Qv,Q4,Q5,Xa,Xp,Xs,Xy,X8,Ya,Yh,Yr,Ys,Yt,Yu,Yv,Yy,Y9,Za,Zb,Zc,Zd,Ze,Zg,Zh,Zm,Zn,Zo,Zt,Zv,Zw,Zy,Z0,Z1,Z3,Jb,Jj,Jk,Jl,Jn,Jp,Jr,Jt,Jv,J1,J2,Ue,Uf,Ug,Ul,V6,V9,Wd,We,Hh,Hi,Hk,Hl,Ho,Hp,Hq,Hr,Hs,Ht,Hu,Hv,Hw,Ni,Nk,Nl,No,Nw,Nx,N0,Be,Ma,Mb,Md,Me,Mf,zhH.eq_1,zh0.eq_1,zf1.eq_1,zgJ.eq_1,zgr.eq_1,VF.eq_1,hlt',hg,hln,b0,b1,b3,hR,hr])
  ·by_cases hc:s.k j<z.2.1
   ·refine ⟨[⟨33,0,true,[sC s]⟩,⟨3,0,true,[[.int .i64 j,.int .i64 z.2.1,.data false 1 (byt z.2.2.1) z.2.2.2]]⟩],fun st hst=> ?_⟩
    rw [zn,hst,ho,if_pos (by simp [hc])]
    generalize sC s=scs at *
    (sym=>simp [Qb,Qc,Qd,Qe,Qf,Qg,Qi,Qj,Qm,Qn,Qo,Qr,Qt,Qu,Qv,Q4,Q5,Xa,Xp,Xs,Xt,Xy,X8,Ya,Yc,Yh,Yr,Ys,Yt,Yu,Yv,Yy,Yz,Y9,Za,Zb,Zc,Zd,Ze,Zg,Zh,Zm,Zn,Zo,Zt,Zv,Zw,Zy,Z0,Z1,Z3,Jb,Jj,Jk,Jl,Jn,Jp,Jr,Jt,Jv,J1,J2,Ue,Uf,Ug,Ul,V6,V9,Wd,We,Hh,Hi,Hk,Hl,Ho,Hp,Hq,Hr,Hs,Ht,Hu,Hv,Hw,Nc,Ni,Nk,Nl,Nm,No,Nx,Nz,N0,Be,Bh,Ma,Mb,Md,Me,Mf,zhH.eq_1,zh0.eq_1,zf1.eq_1,zgJ.eq_1,zgr.eq_1,VF.eq_1,hlt',hg,hln,b0,b1,b3,hR,hr,ka,q1,hj9',hc])
   ·refine ⟨h',fun st hst=> ?_⟩
    have hb:(!decide (zg s.mem j≠0)||decide (s.k j<z.2.1))=false:=by simp [hr];omega
    rw [zn,hst,ho,hb,Bool.false_or]
    generalize (if ((s.q.drop (i+1)).any (RJ s))=true then _ else _:Option (AEx×ASt))=R at ih ⊢
    generalize sC s=scs at *
    (sym=>simp [Qc,Qd,Qe,Qf,Qg,Qi,Qj,Qm,Qn,Qo,Qr,Qt,Qu,Qv,Q4,Q5,Xa,Xp,Xs,Xt,Xy,X5,X8,Ya,Yc,Yh,Yr,Ys,Yt,Yu,Yv,Yy,Yz,Y9,Za,Zb,Zc,Zd,Ze,Zg,Zh,Zm,Zn,Zo,Zt,Zv,Zw,Zy,Z0,Z1,Z3,Jb,Jj,Jk,Jn,Jo,Jr,Js,Jv,J1,J2,Ue,Uf,Ug,Ul,V6,V9,Wd,We,Hh,Hi,Hk,Hl,Ho,Hp,Hq,Hr,Hs,Ht,Hu,Hv,Hw,Nc,Ni,Nk,Nl,Nm,No,Nx,Nz,N0,Be,Bh,Ma,Mb,Md,Me,Mf,zhH.eq_1,zh0.eq_1,zf1.eq_1,zgJ.eq_1,zgr.eq_1,VF.eq_1,hlt',hg,hln,b0,b1,b3,hR,hr,ka,q1,hj9',hc,hw];tactic=>(
     refine ih _ ?_
     (sym=>simp [Y9,Za,Zb,Ze,Zk,Zl,Zm,Zn,Zv,Zw,Zx,Zy,Zz,Z0,Z3,Ut,Ux,U4,U5,U7,Vb,Vk,Vm,Vo,Vp,Vq,Vr,Vs,Vt,Vu,Vv,Vw,Vx,Vy,Vz,V0,Hh,Hp,Hv,Hw,H1,H5,H6,Nl,No,Nx])))
theorem zye (s:Ses) (h:okS s):aP G FT TB [.agg (sC s)]=some (.bool (yj s)):=by
 obtain ⟨hl1,hl2,hl3⟩:=h
 have hM:=fun b f=>zbD G s.mem b f (by omega)
 have hT:=fun b f=>zFt G s.h s.tq b f hl2
 have hQ:=fun b f=>zv7 G s.q b f hl3
 have hW:=zml G s.w
 have hA:=fun b f=>znX G s.h s.tq b f hl2
 have e0:=Ib s
 have e3:=zer s
 have e4:=zk s
 have e7:=zG s
 have e9:=zgv s
 have f0:=zAO s
 have f2:=zsZ s
 have f3:=zrW s
 have f8:=zkn s.w
 unfold aP
 rw [zim]
 cases h1:y5 s.mem with
 | false=>simp only [yj,h1,Bool.false_and];(sym=>simp [Qb,Qd,Qe,Qf,Qg,Qi,Qj,Qm,Qn,Qo,Qr,Qt,Qu,Qw,Q4,Xd,Xp,Yj,Yr,Yt,Yv,Y1,Y5,Y7,Y9,Za,Zb,Zc,Ze,Zg,Zh,Zi,Zj,Zk,Zl,Zm,Zo,Zr,Zs,Zt,Zu,Zv,Zw,Zy,Z0,Z3,Jb,Jj,Jk,Jl,Jr,Jv,Jx,V9,Wd,We,Wk,Hh,Hv,Nw,Nx,Be,JC.eq_1,KU.eq_1,Jf.eq_1,JE.eq_1,KS.eq_1,KM.eq_1,Rc.eq_1,Ra.eq_1,y9.eq_1,hM,h1,e0,e4,e7])
 | true=>
 cases h2:Yf s.h s.tq with
 | false=>simp only [yj,h1,h2,Bool.false_and,Bool.true_and];(sym=>simp [Qb,Qd,Qe,Qf,Qg,Qi,Qj,Qm,Qn,Qo,Qr,Qt,Qu,Qw,Q4,Xd,Xp,Yj,Yr,Yt,Yu,Yv,Y1,Y5,Y7,Y9,Za,Zb,Zc,Ze,Zg,Zh,Zi,Zj,Zk,Zl,Zm,Zo,Zr,Zs,Zt,Zu,Zv,Zw,Zy,Z0,Z3,Jb,Jj,Jk,Jl,Jr,Jv,Jx,V3,V6,V9,Wd,We,Wk,Hh,Hv,Nw,Nx,Be,JC.eq_1,KU.eq_1,Jf.eq_1,JE.eq_1,KS.eq_1,KM.eq_1,Rc.eq_1,Ra.eq_1,y9.eq_1,hM,h1,hT,h2,e0,e4,e7,e9])
 | true=>
 cases h3:jG 0 s.q with
 | false=>simp only [yj,h1,h2,h3,Bool.false_and,Bool.true_and];(sym=>simp [Qb,Qd,Qe,Qf,Qg,Qi,Qj,Qm,Qn,Qo,Qr,Qt,Qu,Qw,Q4,Xd,Xp,Yj,Yr,Yt,Yu,Yv,Y1,Y5,Y7,Y9,Za,Zb,Zc,Ze,Zg,Zh,Zi,Zj,Zk,Zl,Zm,Zo,Zr,Zs,Zt,Zu,Zv,Zw,Zy,Z0,Z3,Jb,Jj,Jk,Jl,Jr,Jv,Jx,V3,V6,V9,Wd,We,Wk,Hh,Hv,Nw,Nx,Be,JC.eq_1,KU.eq_1,Jf.eq_1,JE.eq_1,KS.eq_1,KM.eq_1,Rc.eq_1,Ra.eq_1,y9.eq_1,hM,h1,hT,h2,hQ,h3,e0,e3,e4,e7,e9])
 | true=>
 cases h4:TN s.w with
 | false=>simp only [yj,h1,h2,h3,h4,Bool.false_and,Bool.true_and];(sym=>simp [Qb,Qd,Qe,Qf,Qg,Qi,Qj,Qm,Qn,Qo,Qr,Qt,Qu,Qw,Q4,Xd,Xp,Yj,Yr,Yt,Yu,Yv,Y1,Y5,Y7,Y9,Za,Zb,Zc,Ze,Zg,Zh,Zi,Zj,Zk,Zl,Zm,Zo,Zr,Zs,Zt,Zu,Zv,Zw,Zy,Z0,Z3,Jb,Jj,Jk,Jl,Jr,Jv,Jx,V3,V6,V9,Wd,We,Wk,Hh,Hv,Nw,Nx,Be,JC.eq_1,KU.eq_1,Jf.eq_1,JE.eq_1,KS.eq_1,KM.eq_1,Rc.eq_1,Ra.eq_1,y9.eq_1,hM,h1,hT,h2,hQ,h3,hW,h4,f0,f8,e0,e3,e4,e7,e9])
 | true=>
 have e2:((decide (s.h=0)||wrB s.mem s.h)&& !(s.tq.any fun id=> !wrB s.mem id))=(allT s.h s.tq).all fun x=>decide (zg s.mem x=2):=by
  rw [Bool.eq_iff_iff,Bool.and_eq_true,Bool.or_eq_true,decide_eq_true_eq,Bool.not_eq_true',List.any_eq_false,List.all_eq_true]
  have:=Ip (l:=s.mem) h2
  constructor
  ·rintro ⟨a,b⟩ x hx
   rw [decide_eq_true_eq]
   exact (zgQ h1 x).1 (this.1 ⟨a,fun id hid=>by simpa using b id hid⟩ x hx)
  ·intro hh
   obtain ⟨a,b⟩:=this.2 fun x hx=>(zgQ h1 x).2 (by simpa using hh x hx)
   exact ⟨a,fun x hx=>by simpa using b x hx⟩
 have go:yj s=(ZO s&&((allT s.h s.tq).all fun x=>decide (zg s.mem x=2))&&vw s 9 0&& !(s.q.any (RJ s))):=by
  rw [← e2]
  simp only [yj,h1,h2,h3,h4,Bool.true_and,Bool.and_assoc]
 rw [go]
 by_cases r1:s.r<1
 ·have hs:ZO s=false:=by simp [ZO];omega
  simp only [hs,Bool.false_and]
  (sym=>simp [Qb,Qd,Qe,Qf,Qg,Qi,Qj,Qm,Qn,Qo,Qr,Qt,Qu,Qw,Q4,Xa,Xd,Xp,Ya,Yj,Yr,Yt,Yu,Yv,Y1,Y5,Y7,Y9,Za,Zb,Zc,Ze,Zg,Zh,Zi,Zj,Zk,Zl,Zm,Zo,Zr,Zs,Zt,Zu,Zv,Zw,Zy,Z0,Z3,Jb,Jj,Jk,Jl,Jr,Jv,Jx,V3,V6,V9,Wd,We,Wk,Hh,Hv,Nl,Nw,Nx,Be,JC.eq_1,KU.eq_1,Jf.eq_1,JE.eq_1,KS.eq_1,KM.eq_1,Rc.eq_1,Ra.eq_1,y9.eq_1,hM,h1,hT,h2,hQ,h3,hW,h4,f0,f8,e0,e3,e4,e7,e9,f2,r1])
 by_cases r2:24<s.r
 ·have hs:ZO s=false:=by simp [ZO];omega
  simp only [hs,Bool.false_and]
  (sym=>simp [Qb,Qd,Qe,Qf,Qg,Qi,Qj,Qm,Qn,Qo,Qr,Qt,Qu,Qw,Q4,Xa,Xd,Xp,Ya,Yc,Yj,Yr,Yt,Yu,Yv,Y1,Y5,Y7,Y9,Za,Zb,Zc,Ze,Zg,Zh,Zi,Zj,Zk,Zl,Zm,Zo,Zr,Zs,Zt,Zu,Zv,Zw,Zy,Z0,Z3,Jb,Jj,Jk,Jl,Jr,Jv,Jx,V3,V6,V9,Wd,We,Wk,Hh,Hv,Nl,Nm,Nw,Nx,Be,JC.eq_1,KU.eq_1,Jf.eq_1,JE.eq_1,KS.eq_1,KM.eq_1,Rc.eq_1,Ra.eq_1,y9.eq_1,hM,h1,hT,h2,hQ,h3,hW,h4,f0,f8,e0,e3,e4,e7,e9,f2,r1,r2])
 by_cases r3:s.c<1
 ·have hs:ZO s=false:=by simp [ZO];omega
  simp only [hs,Bool.false_and]
  (sym=>simp [Qb,Qd,Qe,Qf,Qg,Qi,Qj,Qm,Qn,Qo,Qr,Qt,Qu,Qw,Q4,Xa,Xd,Xp,Ya,Yc,Yj,Yr,Yt,Yu,Yv,Y1,Y5,Y7,Y9,Za,Zb,Zc,Ze,Zg,Zh,Zi,Zj,Zk,Zl,Zm,Zo,Zr,Zs,Zt,Zu,Zv,Zw,Zy,Z0,Z3,Jb,Jj,Jk,Jl,Jr,Jv,Jx,V3,V6,V9,Wd,We,Wk,Hh,Hv,Nl,Nm,Nw,Nx,Be,JC.eq_1,KU.eq_1,Jf.eq_1,JE.eq_1,KS.eq_1,KM.eq_1,Rc.eq_1,Ra.eq_1,y9.eq_1,hM,h1,hT,h2,hQ,h3,hW,h4,f0,f8,e0,e3,e4,e7,e9,f2,f3,r1,r2,r3])
 by_cases r4:40<s.c
 ·have hs:ZO s=false:=by simp [ZO];omega
  simp only [hs,Bool.false_and]
  (sym=>simp [Qb,Qd,Qe,Qf,Qg,Qi,Qj,Qm,Qn,Qo,Qr,Qt,Qu,Qw,Q4,Xa,Xd,Xp,Ya,Yc,Yj,Yr,Yt,Yu,Yv,Y1,Y5,Y7,Y9,Za,Zb,Zc,Ze,Zg,Zh,Zi,Zj,Zk,Zl,Zm,Zo,Zr,Zs,Zt,Zu,Zv,Zw,Zy,Z0,Z3,Jb,Jj,Jk,Jl,Jr,Jv,Jx,V3,V6,V9,Wd,We,Wk,Hh,Hv,Nl,Nm,Nw,Nx,Be,JC.eq_1,KU.eq_1,Jf.eq_1,JE.eq_1,KS.eq_1,KM.eq_1,Rc.eq_1,Ra.eq_1,y9.eq_1,hM,h1,hT,h2,hQ,h3,hW,h4,f0,f8,e0,e3,e4,e7,e9,f2,f3,r1,r2,r3,r4])
 have hs:ZO s=true:=by simp [ZO];omega
 rw [hs,Bool.true_and]
 have hal:(allT s.h s.tq).length≤2000:=by unfold allT;split<;>simp;omega
 have k0:=fun f=>zqG G s (by omega) (allT s.h s.tq) f hal (allT s.h s.tq).length 0 (by omega)
 simp only [List.drop_zero,Int.natCast_zero] at k0
 cases ha:(allT s.h s.tq).all fun x=>decide (zg s.mem x=2) with
 | false=>
  simp only [ha,Bool.false_eq_true,if_false] at k0
  simp only [Bool.false_and]
  generalize sC s=scs at *
  (sym=>simp [Qc,Qd,Qe,Qf,Qg,Qi,Qj,Qm,Qn,Qo,Qr,Qt,Qu,Qw,Q4,Xa,Xd,Xp,Ya,Yc,Yj,Yr,Yt,Yu,Yv,Y1,Y5,Y7,Y9,Za,Zb,Zc,Ze,Zg,Zh,Zi,Zj,Zk,Zl,Zm,Zo,Zr,Zs,Zt,Zu,Zv,Zw,Zy,Z0,Z3,Jb,Jj,Jk,Jl,Jn,Jp,Jr,Jv,Jx,V3,V6,V9,Wd,We,Wk,Hh,Hv,Nm,Nw,Nx,Be,JC.eq_1,KU.eq_1,Jf.eq_1,JE.eq_1,KS.eq_1,KM.eq_1,Rc.eq_1,Ra.eq_1,y9.eq_1,hM,h1,hT,h2,hQ,h3,hW,h4,f0,f8,e0,e3,e4,e7,e9,f2,f3,r1,r2,r3,r4,hA,k0])
 | true=>
 simp only [ha,if_true] at k0
 rw [Bool.true_and]
 have k1:=zoF G s h1 9 0 rfl
 simp only [Int.natCast_zero] at k1
 have k1:=k1 ⟨[(1,.ptr 0 0 0 0),(5,.int .i64 0)],[⟨33,0,true,[sC s]⟩]⟩ (by (sym=>simp [Y9,Za,Zb,Ze,Zk,Zl,Zm,Zn,Zv,Zw,Zx,Zy,Zz,Z0,Z3,Ut,Ux,U4,U5,U7,Vb,Vk,Vm,Vo,Vp,Vq,Vr,Vs,Vt,Vu,Vv,Vw,Vx,Vy,Vz,V0,Hh,Hp,Hv,Hw,H1,H5,H6,Nl,No,Nx]))
 cases hb:vw s 9 0 with
 | false=>
  simp only [hb,Bool.false_eq_true,if_false] at k1
  simp only [Bool.false_and]
  generalize sC s=scs at *
  (sym=>simp [Qc,Qd,Qe,Qf,Qg,Qi,Qj,Qm,Qn,Qo,Qr,Qt,Qu,Qw,Q4,Xa,Xd,Xp,Ya,Yc,Yj,Yr,Yt,Yu,Yv,Y1,Y5,Y7,Y9,Za,Zb,Zc,Ze,Zg,Zh,Zi,Zj,Zk,Zl,Zm,Zo,Zr,Zs,Zt,Zu,Zv,Zw,Zy,Z0,Z3,Jb,Jj,Jk,Jl,Jn,Jp,Jq,Jr,Jv,Jx,V3,V6,V9,Wd,We,Wk,Hh,Hv,Nm,Nw,Nx,Be,JC.eq_1,KU.eq_1,Jf.eq_1,JE.eq_1,KS.eq_1,KM.eq_1,Rc.eq_1,Ra.eq_1,y9.eq_1,hM,h1,hT,h2,hQ,h3,hW,h4,f0,f8,e0,e3,e4,e7,e9,f2,f3,r1,r2,r3,r4,hA,k0,k1])
 | true=>
 simp only [hb,if_true] at k1
 rw [Bool.true_and]
 obtain ⟨h',k2⟩:=zot G s h1 h3 hl3.1 s.q.length 0 (by omega)
 simp only [Int.natCast_zero,List.drop_zero] at k2
 have k2:=k2 ⟨[(1,.ptr 0 0 0 0),(7,.int .i64 0)],[⟨33,0,true,[sC s]⟩]⟩ (by (sym=>simp [Y9,Za,Zb,Ze,Zk,Zl,Zm,Zn,Zv,Zw,Zx,Zy,Zz,Z0,Z3,Ut,Ux,U4,U5,U7,Vb,Vk,Vm,Vo,Vp,Vq,Vr,Vs,Vt,Vu,Vv,Vw,Vx,Vy,Vz,V0,Hh,Hp,Hv,Hw,H1,H5,H6,Nl,No,Nx]))
 cases hc:s.q.any (RJ s) with
 | true=>
  simp only [hc,if_true] at k2
  generalize sC s=scs at *
  (sym=>simp [Qc,Qd,Qe,Qf,Qg,Qi,Qj,Qm,Qn,Qo,Qr,Qt,Qu,Qw,Q4,Xa,Xd,Xp,Ya,Yc,Yj,Yr,Yt,Yu,Yv,Y1,Y5,Y7,Y9,Za,Zb,Zc,Ze,Zg,Zh,Zi,Zj,Zk,Zl,Zm,Zo,Zr,Zs,Zt,Zu,Zv,Zw,Zy,Z0,Z3,Jb,Jj,Jk,Jl,Jn,Jp,Jq,Jr,Jv,Jx,V3,V6,V9,Wd,We,Wk,Hh,Hv,Nm,Nw,Nx,Be,JC.eq_1,KU.eq_1,Jf.eq_1,JE.eq_1,KS.eq_1,KM.eq_1,Rc.eq_1,Ra.eq_1,y9.eq_1,hM,h1,hT,h2,hQ,h3,hW,h4,f0,f8,e0,e3,e4,e7,e9,f2,f3,r1,r2,r3,r4,hA,k0,k1,k2])
 | false=>
  simp only [hc,Bool.false_eq_true,if_false] at k2
  generalize sC s=scs at *
  (sym=>simp [Qb,Qc,Qd,Qe,Qf,Qg,Qi,Qj,Qm,Qn,Qo,Qr,Qt,Qu,Qw,Q4,Xa,Xd,Xp,Ya,Yc,Yj,Yr,Yt,Yu,Yv,Y1,Y5,Y7,Y9,Za,Zb,Zc,Ze,Zg,Zh,Zi,Zj,Zk,Zl,Zm,Zo,Zr,Zs,Zt,Zu,Zv,Zw,Zy,Z0,Z3,Jb,Jj,Jk,Jn,Jq,Jr,Jv,Jx,V3,V6,V9,Wd,We,Wk,Hh,Hv,Nm,Nw,Nx,Be,JC.eq_1,KU.eq_1,Jf.eq_1,JE.eq_1,KS.eq_1,KM.eq_1,Rc.eq_1,Ra.eq_1,y9.eq_1,hM,h1,hT,h2,hQ,h3,hW,h4,f0,f8,e0,e3,e4,e7,e9,f2,f3,r1,r2,r3,r4,hA,k0,k1,k2])
end
end Go.Proofs.YthcnhibjddomdaaGreat
namespace Go.Proofs.YthcnhibjddomdaaGreat
section
open Go
variable (G:Nat→Option (List AV))
theorem zuZ:aP G FT zaF []=some (.bool true):=zBS 80 (by kernel_rfl)
end
end Go.Proofs.YthcnhibjddomdaaGreat
namespace Go.Proofs.YthcnhibjddomdaaGreat
section
open Go
variable (G:Nat→Option (List AV))
def IL (s:Ses):Bool:=decide (50<s.mem.length)||decide (50<s.tq.length)||decide (80<s.q.length)||s.q.any fun x=>decide (100<x.2.2.1.length)
theorem zk4 (s:Ses) (hl:s.q.length≤80):∀ (m i:Nat),i+m=s.q.length→
  aE G FT 0 gU ⟨[(1,.ptr 0 0 0 0),(3,.int .i64 i)],[⟨33,0,true,[sC s]⟩]⟩=if ((s.q.drop i).any fun x=>decide (100<x.2.2.1.length))=true then some (.ret,⟨[(2,.bool true)],[⟨33,0,true,[sC s]⟩]⟩) else some (.exit 0,⟨[(1,.ptr 0 0 0 0),(3,.int .i64 s.q.length),(25,.bool false)],[⟨33,0,true,[sC s]⟩]⟩):=by
 have b3:=zer s
 have hln:=yB s.q
 intro m
 induction m with
 | zero=>
  intro i hi
  rw [gU,zn]
  have e:s.q.drop i=[]:=List.drop_eq_nil_of_le (by omega)
  obtain rfl:i=s.q.length:=by omega
  have e0:decide ((s.q.length:Int)<s.q.length)=false:=by simp
  rw [e,List.any_nil,if_neg (by simp)]
  (sym=>simp [Qa,Qd,Qe,Qi,Qr,Qt,Q4,Xa,Xp,Xy,Ya,Yh,Yr,Yt,Yv,Y9,Za,Zb,Zc,Ze,Zg,Zh,Zk,Zl,Zm,Zn,Zt,Zv,Zw,Zx,Zy,Zz,Z0,Z3,Jj,Jk,Jm,Jr,Ju,Jv,Ut,Ux,U4,U5,U7,Vb,Vk,Vm,Vo,Vp,Vq,Vr,Vs,Vt,Vu,Vv,Vw,Vx,Vy,Vz,V0,Hh,Hp,Hv,Hw,H1,H5,H6,Nl,No,Nx,Be,zCp.eq_1,zCb.eq_1,zCA.eq_1,zCd.eq_1,VT.eq_1,e0,hln,b3])
 | succ m ih=>
  intro i hi
  have hlt:i<s.q.length:=by omega
  have hlt':(i:Int)<s.q.length:=by omega
  have hw:=zH (n:=i) (by omega)
  have hg:=YZ hlt
  have hbl:=oI s.q[i].2.2.1
  have e:s.q.drop i=s.q[i]::s.q.drop (i+1):=List.drop_eq_getElem_cons hlt
  have ih:=ih (i+1) (by omega)
  rw [gU] at ih
  rw [e,List.any_cons,gU,zn]
  by_cases hx:100<s.q[i].2.2.1.length
  ·have hx':(100:Int)<s.q[i].2.2.1.length:=by omega
   rw [if_pos (by simp [hx])]
   (sym=>simp [Qb,Qc,Qd,Qe,Qi,Qj,Qr,Qt,Q4,Xa,Xp,Xs,Xy,Ya,Yc,Yh,Yr,Ys,Yt,Yv,Yw,Yy,Y9,Za,Zb,Zc,Ze,Zg,Zh,Zk,Zl,Zm,Zn,Zt,Zv,Zw,Zx,Zy,Zz,Z0,Z3,Jj,Jk,Jl,Jn,Jp,Jr,Jt,Jv,Ut,Ux,U4,U5,U7,Vb,Vk,Vm,Vo,Vp,Vq,Vr,Vs,Vt,Vu,Vv,Vw,Vx,Vy,Vz,V0,Hh,Hp,Hr,Hs,Hv,Hw,H1,H5,H6,Ni,Nk,Nl,No,Nx,Be,Ma,Mb,Md,Me,Mf,zCp.eq_1,zCb.eq_1,zCA.eq_1,zCd.eq_1,VT.eq_1,hlt',hg,hln,hbl,hx',b3])
  ·have hx':¬ (100:Int)<s.q[i].2.2.1.length:=by omega
   simp only [hx,decide_false,Bool.false_or]
   rw [← ih]
   (sym=>simp [Qc,Qd,Qe,Qi,Qj,Qr,Qt,Q4,Xa,Xp,Xs,Xy,X5,Ya,Yc,Yh,Yr,Ys,Yt,Yv,Yw,Yy,Y9,Za,Zb,Zc,Ze,Zg,Zh,Zk,Zl,Zm,Zn,Zt,Zv,Zw,Zx,Zy,Zz,Z0,Z3,Jj,Jk,Jn,Jo,Jr,Js,Jv,Ut,Ux,U4,U5,U7,Vb,Vk,Vm,Vo,Vp,Vq,Vr,Vs,Vt,Vu,Vv,Vw,Vx,Vy,Vz,V0,Hh,Hp,Hr,Hs,Hv,Hw,H1,H5,H6,Ni,Nk,Nl,Nm,No,Nx,Be,Ma,Mb,Md,Me,Mf,zCp.eq_1,zCb.eq_1,zCA.eq_1,zCd.eq_1,VT.eq_1,hlt',hg,hln,hbl,hx',hw,b3])
theorem zc3 (s:Ses):aP G FT Kt [.agg (sC s)]=some (.bool (IL s)):=by
 have b0:=Ib s
 have b2:=zG8 s
 have b3:=zer s
 have b4:=zk s
 have b5:=zG s
 have l1:=yM s.mem
 have l2:=zw s.tq
 have l3:=yB s.q
 have n1:(50:Int)<s.mem.length↔50<s.mem.length:=by omega
 have n2:(50:Int)<s.tq.length↔50<s.tq.length:=by omega
 have n3:(80:Int)<s.q.length↔80<s.q.length:=by omega
 unfold aP IL
 rw [zd3]
 by_cases h1:50<s.mem.length
 ·rw [decide_eq_true h1,Bool.true_or,Bool.true_or,Bool.true_or]
  (sym=>simp [Qb,Qd,Qe,Qf,Qg,Qi,Qj,Qr,Qt,Qu,Qw,Q4,Xa,Xp,Xy,Yc,Yh,Yj,Yr,Yt,Yv,Y1,Y5,Y7,Y9,Za,Zb,Zc,Ze,Zg,Zh,Zi,Zj,Zk,Zl,Zm,Zr,Zs,Zt,Zu,Zv,Zw,Zy,Z0,Z3,Jb,Jj,Jk,Jl,Jr,Jv,Jx,Wk,Hh,Hv,Nl,Nw,Be,zvy.eq_1,ztP.eq_1,zup.eq_1,zuN.eq_1,ztQ.eq_1,ji.eq_1,b0,b2,b3,b4,b5,l1,l2,l3,n1,n2,n3,h1])
 by_cases h2:50<s.tq.length
 ·rw [decide_eq_true h2,Bool.or_true,Bool.true_or,Bool.true_or]
  (sym=>simp [Qb,Qd,Qe,Qf,Qg,Qi,Qj,Qr,Qt,Qu,Qw,Q4,Xa,Xp,Xy,Yc,Yh,Yj,Yr,Yt,Yv,Y1,Y5,Y7,Y9,Za,Zb,Zc,Ze,Zg,Zh,Zi,Zj,Zk,Zl,Zm,Zr,Zs,Zt,Zu,Zv,Zw,Zy,Z0,Z3,Jb,Jj,Jk,Jl,Jr,Jv,Jx,Wk,Hh,Hv,Nl,Nm,Nw,Nx,Be,zvy.eq_1,ztP.eq_1,zup.eq_1,zuN.eq_1,ztQ.eq_1,ji.eq_1,b0,b2,b3,b4,b5,l1,l2,l3,n1,n2,n3,h1,h2])
 by_cases h3:80<s.q.length
 ·rw [decide_eq_true h3,Bool.or_true,Bool.true_or]
  (sym=>simp [Qb,Qd,Qe,Qf,Qg,Qi,Qj,Qr,Qt,Qu,Qw,Q4,Xa,Xp,Xy,Yc,Yh,Yj,Yr,Yt,Yv,Y1,Y5,Y7,Y9,Za,Zb,Zc,Ze,Zg,Zh,Zi,Zj,Zk,Zl,Zm,Zr,Zs,Zt,Zu,Zv,Zw,Zy,Z0,Z3,Jb,Jj,Jk,Jl,Jr,Jv,Jx,Wk,Hh,Hv,Nl,Nm,Nx,Be,zvy.eq_1,ztP.eq_1,zup.eq_1,zuN.eq_1,ztQ.eq_1,ji.eq_1,b0,b2,b3,b4,b5,l1,l2,l3,n1,n2,n3,h1,h2,h3])
 have key:=zk4 G s (by omega) s.q.length 0 (by omega)
 simp only [List.drop_zero,Int.natCast_zero] at key
 rw [decide_eq_false h1,decide_eq_false h2,decide_eq_false h3,Bool.false_or,Bool.false_or,Bool.false_or]
 cases hg:s.q.any fun x=>decide (100<x.2.2.1.length) with
 | true=>rw [hg,if_pos rfl] at key;(sym=>simp [Qc,Qd,Qe,Qf,Qg,Qi,Qj,Qr,Qt,Qu,Qw,Q4,Xa,Xp,Xy,Yc,Yh,Yj,Yr,Yt,Yv,Y1,Y5,Y7,Y9,Za,Zb,Zc,Ze,Zg,Zh,Zi,Zj,Zk,Zl,Zm,Zr,Zs,Zt,Zu,Zv,Zw,Zy,Z0,Z3,Jb,Jj,Jk,Jl,Jn,Jp,Jr,Jv,Jx,Wk,Hh,Hv,Nm,Nx,Be,zvy.eq_1,ztP.eq_1,zup.eq_1,zuN.eq_1,ztQ.eq_1,ji.eq_1,b0,b2,b3,b4,b5,l1,l2,l3,n1,n2,n3,h1,h2,h3,key])
 | false=>rw [hg,if_neg (by simp)] at key;(sym=>simp [Qb,Qc,Qd,Qe,Qf,Qg,Qi,Qj,Qr,Qt,Qu,Qw,Q4,Xa,Xp,Xy,Yc,Yh,Yj,Yr,Yt,Yv,Y1,Y5,Y7,Y9,Za,Zb,Zc,Ze,Zg,Zh,Zi,Zj,Zk,Zl,Zm,Zr,Zs,Zt,Zu,Zv,Zw,Zy,Z0,Z3,Jb,Jj,Jk,Jn,Jq,Jr,Jv,Jx,Wk,Hh,Hv,Nm,Nx,Be,zvy.eq_1,ztP.eq_1,zup.eq_1,zuN.eq_1,ztQ.eq_1,ji.eq_1,b0,b2,b3,b4,b5,l1,l2,l3,n1,n2,n3,h1,h2,h3,key])
theorem zqq {s:Ses} (h:IL s=false):s.mem.length≤50∧s.tq.length≤50∧s.q.length≤80∧okS s:=by
 simp only [IL,Bool.or_eq_false_iff,decide_eq_false_iff_not,List.any_eq_false,decide_eq_true_eq] at h
 obtain ⟨⟨⟨h1,h2⟩,h3⟩,h4⟩:=h
 exact ⟨by omega,by omega,by omega,by omega,by omega,by omega,fun x hx=>by have:=h4 x hx;omega⟩
end
end Go.Proofs.YthcnhibjddomdaaGreat
namespace Go.Proofs.YthcnhibjddomdaaGreat
section
open Go
theorem zsR (l:List (Int×Int)) {n:Nat} (h:n<9):VY l 0 n= !zK l n:=by simp [VY,h]
theorem zbX {s:Ses} (hs:yj s=true) (l:List (Int×Int)) (lf:Bool):jI s l lf=stS (UG (Nj s l lf) 0):=by
 have hq:=(zZ hs).2.2.1
 have e:(Nj s l lf).q=cpQ s.q:=zjk hq
 unfold jI
 rw [zkR 9 0 (Nj s l lf) rfl (by rw [e,LY];exact hq) (by rw [e];exact NK s.q) rfl]
theorem zDr {q:List Pc} (h:jG 0 q=true) {t:Pc} (ht:t ∈ q):1≤t.1∧t.1≤8∧1≤t.2.1:=by
 have:=((UV q).1 h).1 t ht
 simp only [pcB,VG,Bool.and_eq_true,decide_eq_true_eq] at this
 omega
theorem Ls (s:Ses) (j:Nat):tkB s j=true↔0≤s.k j∧s.k j≤1073741824∧(zK s.mem j=true∨(s.k j=0∧(s.w j).1=0∧(s.w j).2=0)):=by
 simp only [tkB,Bool.and_eq_true,Bool.or_eq_true,Bool.not_eq_true',decide_eq_false_iff_not,decide_eq_true_eq]
 constructor
 ·rintro ⟨⟨a,b⟩,c⟩;exact ⟨by omega,by omega,c⟩
 ·rintro ⟨a,b,c⟩;exact ⟨⟨by omega,by omega⟩,c⟩
theorem KN (s:Ses) (t:Pc):RJ s t=false↔zK s.mem t.1=true∧t.2.1≤s.k t.1.toNat:=by
 simp only [RJ,Bool.or_eq_false_iff,Bool.not_eq_false',decide_eq_false_iff_not,Int.not_lt]
theorem zC0 {s:Ses} (hs:yj s=true) {l:List (Int×Int)} (hl:y5 l=true) (lf:Bool):yj (jI s l lf)=true:=by
 obtain ⟨h1,h2,h3,h4,h5,h6,h7,h8,h9⟩:=zZ hs
 rw [zbX hs]
 have e:(Nj s l lf).q=cpQ s.q:=zjk h3
 have hq:jG 0 (UG (Nj s l lf) 0).q=true:=zgh (by rw [e,LY];exact h3) _
 refine zzG (s:=UG (Nj s l lf) 0) hl h2 hq ?_ ?_ ?_ ?_
 ·refine zeJ fun j hj=> ?_
  have hw:(UG (Nj s l lf) 0).w j=if VY l 0 j=true then (0,0) else s.w j:=rfl
  unfold okW
  rw [hw]
  split
  ·simp [zeB]
  ·exact zb4 h4 j hj
 ·rw [NQ] at h5 ⊢;exact h5
 ·intro j hj
  have hw:(UG (Nj s l lf) 0).w j=if VY l 0 j=true then (0,0) else s.w j:=rfl
  have hk:(UG (Nj s l lf) 0).k j=if VY l 0 j=true then 0 else s.k j:=rfl
  have hm:(UG (Nj s l lf) 0).mem=l:=rfl
  have:=(Ls s j).1 (h8 j hj)
  rw [Ls,hw,hk,hm,zsR l hj]
  cases ht:zK l j with
  | true=>simp;omega
  | false=>simp
 ·intro t ht
  have hm:(UG (Nj s l lf) 0).mem=l:=rfl
  have hid:=zDr hq ht
  obtain ⟨ha,hb⟩:=List.mem_filter.1 ht
  rw [e] at ha
  obtain ⟨y,hy,rfl⟩:=List.mem_map.1 ha
  have hid':1≤y.1∧y.1≤8∧1≤y.2.1:=hid
  have hb':(!(decide (0≤y.1)&&VY l 0 y.1.toNat))=true:=hb
  have hn:y.1.toNat<9:=by omega
  have hcast:((y.1.toNat:Nat):Int)=y.1:=by omega
  have h0:0≤y.1:=by omega
  rw [zsR l hn,hcast] at hb'
  simp only [h0,decide_true,Bool.true_and,Bool.not_not] at hb'
  have hk:(UG (Nj s l lf) 0).k y.1.toNat=if VY l 0 y.1.toNat=true then 0 else s.k y.1.toNat:=rfl
  rw [KN,hm]
  refine ⟨hb', ?_⟩
  show y.2.1≤(UG (Nj s l lf) 0).k y.1.toNat
  rw [hk,zsR l hn,hcast,hb']
  simp only [Bool.not_true,Bool.false_eq_true,if_false]
  exact ((KN s y).1 (h9 y hy)).2
theorem zGd {s:Ses} (hs:yj s=true):yj (cpS s)=true:=by
 obtain ⟨h1,h2,h3,h4,h5,h6,h7,h8,h9⟩:=zZ hs
 have e:=zjk h3
 refine zf4 (s:=cpS s) h1 h2 (by rw [e,LY];exact h3) h4 ?_ ((Ip h2).1 ⟨h6,h7⟩) h8 ?_
 ·rw [NQ] at h5 ⊢;exact h5
 ·intro t ht
  rw [e] at ht
  obtain ⟨y,hy,rfl⟩:=List.mem_map.1 ht
  exact h9 y hy
theorem zEQ {s:Ses} (hs:yj s=true) {j:Nat} (hj:j<9) (ht:zK s.mem j=true) (hk:s.k j<1073741824):yj (YK s j (s.k j+1))=true:=by
 obtain ⟨h1,h2,h3,h4,h5,h6,h7,h8,h9⟩:=zZ hs
 have hk':∀ n,(YK s j (s.k j+1)).k n=if n=j then s.k j+1 else s.k n:=fun _=>rfl
 have h0:=(Ls s j).1 (h8 j hj)
 refine zf4 (s:=YK s j (s.k j+1)) h1 h2 h3 h4 ?_ ((Ip h2).1 ⟨h6,h7⟩) ?_ ?_
 ·rw [NQ] at h5 ⊢;exact h5
 ·intro n hn
  have hm:(YK s j (s.k j+1)).mem=s.mem:=rfl
  have hw:(YK s j (s.k j+1)).w=s.w:=rfl
  have:=(Ls s n).1 (h8 n hn)
  rw [Ls,hk',hm,hw]
  by_cases e:n=j
  ·subst e;simp only [if_true];exact ⟨by omega,by omega,.inl ht⟩
  ·simp only [e,if_false];exact this
 ·intro t ht'
  have hm:(YK s j (s.k j+1)).mem=s.mem:=rfl
  have:=(KN s t).1 (h9 t ht')
  rw [KN,hk',hm]
  refine ⟨this.1, ?_⟩
  split
  ·rename_i e;rw [e] at this;omega
  ·exact this.2
theorem zE8 {s:Ses} (hs:yj s=true) {q:List Pc} (hq:jG 0 q=true) (ho:∀ t ∈ q,RJ s t=false):yj (NU s q)=true:=by
 obtain ⟨h1,h2,h3,h4,h5,h6,h7,h8,h9⟩:=zZ hs
 refine zf4 (s:=NU s q) h1 h2 hq h4 ?_ ((Ip h2).1 ⟨h6,h7⟩) h8 ho
 rw [NQ] at h5 ⊢;exact h5
theorem zgj {q:List Pc} (hq:jG 0 q=true) (t:Pc):(PY q t).1=if VG t.1 t.2.1 t.2.2.1.length=true∧zV q+t.2.2.1.length≤64 then cpQ q++[cp t] else cpQ q:=by
 unfold PY
 rw [if_pos hq]
 split<;>rfl
theorem zvt {q:List Pc} (hq:jG 0 q=true) (t:Pc):jG 0 (PY q t).1=true:=by
 rw [zgj hq]
 split
 ·rename_i h
  have hc:jG 0 (cpQ q)=true:=by rw [LY];exact hq
  rw [UV] at hc ⊢
  refine ⟨fun x hx=> ?_, ?_⟩
  ·rcases List.mem_append.1 hx with hx | hx
   ·exact hc.1 x hx
   ·rw [List.mem_singleton] at hx;subst hx;exact h.1
  ·rw [zcV,zgR]
   have:zV [cp t]=t.2.2.1.length:=by simp [zV,cp]
   rw [this];exact h.2
 ·rw [LY];exact hq
theorem zCn {s:Ses} (hs:yj s=true) {j:Nat} (h1:1≤j) (h8:j≤8) (ht:zK s.mem j=true) (l:List Int) (f:Bool):yj (NU s (PY s.q (j,s.k j,l,f)).1)=true:=by
 have hq:=(zZ hs).2.2.1
 have h9:=(zZ hs).2.2.2.2.2.2.2.2
 refine zE8 hs (zvt hq _) fun t htm=> ?_
 rw [zgj hq] at htm
 have key:∀ t ∈ cpQ s.q,RJ s t=false:=fun t h=>by
  obtain ⟨y,hy,rfl⟩:=List.mem_map.1 h
  exact h9 y hy
 split at htm
 ·rcases List.mem_append.1 htm with h | h
  ·exact key t h
  ·rw [List.mem_singleton] at h
   subst h
   rw [KN]
   refine ⟨ht, ?_⟩
   show s.k j≤s.k ((j:Int).toNat)
   rw [Int.toNat_natCast];exact Int.le_refl _
 ·exact key t htm
theorem zF2 {s:Ses} (hs:yj s=true) {j:Nat} (h1:1≤j) (h8:j≤8) (ht:zK s.mem j=true) {r c:Int} (hr:WZ r=true) (hc:WZ c=true):yj (stS (Po s j r c))=true:=by
 obtain ⟨g1,g2,g3,g4,g5,g6,g7,g8,g9⟩:=zZ hs
 have hw:∀ n,(Po s j r c).w n=if n=j then (r,c) else s.w n:=fun _=>rfl
 refine zzG (s:=Po s j r c) g1 g2 g3 ?_ ?_ ?_ g9
 ·refine zeJ fun n hn=> ?_
  unfold okW
  rw [hw]
  split
  ·rename_i e
   have:¬ n=0:=by omega
   simp [zeB,hr,hc,this]
  ·exact zb4 g4 n hn
 ·rw [NQ] at g5 ⊢;exact g5
 ·intro n hn
  have hm:(Po s j r c).mem=s.mem:=rfl
  have hk:(Po s j r c).k=s.k:=rfl
  have:=(Ls s n).1 (g8 n hn)
  rw [Ls,hw,hm,hk]
  refine ⟨this.1,this.2.1, ?_⟩
  by_cases e:n=j
  ·subst e;exact .inl ht
  ·rw [if_neg e];exact this.2.2
theorem zrE {s:Ses} (hs:yj s=true) {L:List Int} (hg:zaA L) (hw:∀ x ∈ L,wrB s.mem x=true):yj (Wm s (ofT L).1 (ofT L).2)=true:=by
 obtain ⟨g1,g2,g3,g4,g5,g6,g7,g8,g9⟩:=zZ hs
 refine zf4 (s:=Wm s (ofT L).1 (ofT L).2) g1 (zwT hg) g3 g4 ?_ ?_ g8 g9
 ·rw [NQ] at g5 ⊢;exact g5
 ·show ∀ x ∈ allT (ofT L).1 (ofT L).2,wrB s.mem x=true
  rw [zpq hg];exact hw
def zev (h:Int) (q:List Int) (id:Int):List Int:=if id ∈ allT h q then allT h q else allT h q++[id]
theorem zzH {h:Int} {q:List Int} {id:Int} (hm:Yf h q=true) (hn:RN id=true):(RU h q id).1=(ofT (zev h q id)).1∧(RU h q id).2.1=(ofT (zev h q id)).2:=by
 have h0:=((WM h q).1 hm).2
 have hid:=(Si id).1 hn
 have hc:Yf h q=true∧RN id=true:=⟨hm,hn⟩
 have hp:TV h q id=if h=id then 0 else if 0≤idxFrom id q 0 then idxFrom id q 0+1 else -1:=by unfold TV;rw [if_pos hc]
 unfold RU zev
 rw [if_pos hc,hp]
 by_cases e:h=0
 ·rw [if_pos e,h0 e]
  simp [allT,e,ofT]
 ·rw [if_neg e]
  have hmem:=Lc id q 0
  by_cases e2:h=id
  ·rw [if_pos e2,if_neg (by omega)]
   simp [allT,e,e2,ofT]
   subst e2
   simp [e,ofT]
  ·rw [if_neg e2]
   by_cases hi:id ∈ q
   ·rw [if_pos (hmem.2 hi),if_neg (by have:=hmem.2 hi;omega)]
    simp [allT,e,hi,ofT]
   ·have h1:=fun hx=>hi (hmem.1 hx)
    rw [if_neg h1,if_pos (by omega)]
    have e3:¬ id=h:=fun e=>e2 e.symm
    simp [allT,e,hi,e3,ofT]
theorem zt9 {h:Int} {q:List Int} {id:Int} (hm:Yf h q=true) (hn:RN id=true):zaA (zev h q id):=by
 have hg:=((WM h q).1 hm).1
 have hid:=(Si id).1 hn
 unfold zev
 split
 ·exact hg
 ·rename_i hi
  refine ⟨fun x hx=> ?_, ?_⟩
  ·rcases List.mem_append.1 hx with h | h
   ·exact hg.1 x h
   ·rw [List.mem_singleton] at h;subst h;exact hid
  ·rw [List.nodup_append]
   refine ⟨hg.2,by simp,fun x hx y hy=> ?_⟩
   rw [List.mem_singleton] at hy
   subst hy
   intro e;subst e;exact hi hx
theorem zEL {s:Ses} (hs:yj s=true) {j:Nat} (h1:1≤j) (h8:j≤8) (hw:wrB s.mem j=true):yj (Wm s (RU s.h s.tq j).1 (RU s.h s.tq j).2.1)=true:=by
 obtain ⟨g1,g2,g3,g4,g5,g6,g7,g8,g9⟩:=zZ hs
 have hn:RN (j:Int)=true:=(Si _).2 ⟨by omega,by omega⟩
 obtain ⟨e1,e2⟩:=zzH g2 hn
 have ha:=(Ip g2).1 ⟨g6,g7⟩
 rw [e1,e2]
 refine zrE hs (zt9 g2 hn) fun x hx=> ?_
 unfold zev at hx
 split at hx
 ·exact ha x hx
 ·rcases List.mem_append.1 hx with h | h
  ·exact ha x h
  ·rw [List.mem_singleton] at h;subst h;exact hw
theorem zBq {s:Ses} (hs:yj s=true) {j:Nat} (h1:1≤j) (h8:j≤8):yj (Wm s (WA s.h s.tq j).1 (WA s.h s.tq j).2.1)=true:=by
 obtain ⟨g1,g2,g3,g4,g5,g6,g7,g8,g9⟩:=zZ hs
 have hn:RN (j:Int)=true:=(Si _).2 ⟨by omega,by omega⟩
 have ha:=(Ip g2).1 ⟨g6,g7⟩
 rw [zna j g2 hn]
 exact zrE hs (((WM s.h s.tq).1 g2).1.filter _) fun x hx=>ha x (List.mem_filter.1 hx).1
theorem zFo {s:Ses} (hs:yj s=true) {j:Nat} (h1:1≤j) (h8:j≤8) (ht:zK s.mem j=true) {d:Dd} (hd:UC d=true):yj (doS s j (s.k j) d)=true:=by
 unfold doS
 split
 ·split
  ·exact zCn hs h1 h8 ht d.2.1 d.2.2.2.2
  ·exact hs
 ·rename_i k1
  split
  ·rename_i k2
   have h:=hd
   unfold UC DY at h
   rw [if_neg k1,if_pos k2] at h
   simp only [Bool.and_eq_true] at h
   exact zF2 hs h1 h8 ht h.1.1 h.1.2
  ·split
   ·split
    ·rename_i hw;exact zEL hs h1 h8 hw
    ·exact hs
   ·exact zBq hs h1 h8
theorem zuC {s:Ses} (hs:yj s=true) {id n:Int} {d:Dd} (h:(Wo s id n d).2=0):∃ j:Nat,id=j∧1≤j∧j≤8∧zK s.mem j=true∧s.k j<1073741824∧n=s.k j+1∧UC d=true∧(Wo s id n d).1=doS (YK (cpS s) j n) j n d:=by
 unfold Wo at h ⊢
 rw [if_pos hs] at h ⊢
 by_cases ht:zK s.mem id=true
 ·rw [if_pos ht] at h ⊢
  have hid:=Df ht
  obtain ⟨j,rfl⟩:∃ j:Nat,id=(j:Int):=⟨id.toNat,by omega⟩
  rw [Int.toNat_natCast] at h ⊢
  by_cases hc:1073741824≤s.k j∨¬ n=s.k j+1
  ·rw [if_pos hc] at h;simp at h
  ·rw [if_neg hc] at h ⊢
   by_cases hd:UC d=true
   ·rw [if_pos hd] at h ⊢
    have h3:s.k j<1073741824:=by rcases zpx (s.k j) 1073741824 with h | h;exact h;exact absurd (.inl h) hc
    have h4:n=s.k j+1:=by by_cases e:n=s.k j+1;exact e;exact absurd (.inr e) hc
    exact ⟨j,rfl,by omega,by omega,ht,h3,h4,hd,rfl⟩
   ·rw [if_neg hd] at h;simp at h
 ·rw [if_neg ht] at h;simp at h
theorem zs9 {s:Ses} (hs:yj s=true) {id n:Int} {d:Dd} (h:(Wo s id n d).2=0):yj (Wo s id n d).1=true:=by
 obtain ⟨j,rfl,h1,h8,ht,hk,rfl,hd,e⟩:=zuC hs h
 rw [e]
 have a:=zEQ (zGd hs) (j:=j) (by omega) ht hk
 have hkj:(YK (cpS s) j (s.k j+1)).k j=s.k j+1:=if_pos rfl
 have:=zFo a h1 h8 ht hd
 rw [show (YK (cpS s) j ((cpS s).k j+1)).k j=s.k j+1 from hkj] at this
 exact this
end
end Go.Proofs.YthcnhibjddomdaaGreat
namespace Go.Proofs.YthcnhibjddomdaaGreat
section
open Go
theorem zER {g:List AV} (h:yV [.int .u8] g):∃ x,g=[AV.int .u8 x]:=by
 obtain ⟨a,asx,rfl,ha,h2⟩:=ol h
 have:=zcc h2
 subst this
 obtain ⟨x,rfl,_⟩:=Td ha
 exact ⟨x,rfl⟩
theorem zAq {a:AV} (h:PX (.sl [.int .u8]) a):∃ l f,a=.data false 1 (byt l) f:=by
 simp only [PX] at h
 obtain ⟨es,f,rfl,hl,he⟩:=h
 obtain ⟨l,rfl,_⟩:=zch (Q:=fun _=>True) (f:=fun x=>[AV.int .u8 x]) es (fun g hg=>by obtain ⟨x,rfl⟩:=zER (he g hg);exact ⟨x,rfl,trivial⟩)
 exact ⟨l,f,rfl⟩
theorem zFF {g:List AV} (h:yV [.int .i64,.int .i64,.sl [.int .u8]] g):∃ x:Pc,g=UK x:=by
 obtain ⟨a,asx,rfl,ha,h2⟩:=ol h
 obtain ⟨b,bs,rfl,hb,h3⟩:=ol h2
 obtain ⟨c,cs,rfl,hc,h4⟩:=ol h3
 have:=zcc h4
 subst this
 obtain ⟨x,rfl,_⟩:=Td ha
 obtain ⟨y,rfl,_⟩:=Td hb
 obtain ⟨l,f,rfl⟩:=zAq hc
 exact ⟨(x,y,l,f),rfl⟩
theorem zFb {a:AV} (h:PX (.sl [.int .i64,.int .i64,.sl [.int .u8]]) a):∃ q f,a=.data false 3 (pcs q) f:=by
 simp only [PX] at h
 obtain ⟨es,f,rfl,hl,he⟩:=h
 obtain ⟨l,rfl,_⟩:=zch (Q:=fun _=>True) (f:=UK) es (fun g hg=>by obtain ⟨x,rfl⟩:=zFF (he g hg);exact ⟨x,rfl,trivial⟩)
 exact ⟨l,f,rfl⟩
theorem zEG {a:AV} (h:PX (.sl [.int .i64,.int .i64]) a):∃ l f,a=.data false 2 (mbs l) f:=by
 simp only [PX] at h
 obtain ⟨es,f,rfl,hl,he⟩:=h
 obtain ⟨l,rfl,_⟩:=zch (Q:=fun _=>True) (f:=cm) es (fun g hg=>by
  obtain ⟨x,gs,rfl,hx,h1⟩:=ol (he g hg)
  obtain ⟨y,gs,rfl,hy,h2⟩:=ol h1
  have:=zcc h2
  subst this
  obtain ⟨x,rfl,_⟩:=Td hx
  obtain ⟨y,rfl,_⟩:=Td hy
  exact ⟨(x,y),rfl,trivial⟩)
 exact ⟨l,f,rfl⟩
theorem zs5:∀ (n:Nat) (a:List AV),yV (List.replicate n (.int .i64)) a→∃ l:List Int,l.length=n∧a=l.map fun x=>.int .i64 x
 | 0,a,h=>⟨[],rfl,zcc h⟩
 | n+1,a,h=>by
  obtain ⟨x,asx,rfl,hx,h1⟩:=ol h
  obtain ⟨x,rfl,_⟩:=Td hx
  obtain ⟨l,hl,rfl⟩:=zs5 n asx h1
  exact ⟨x::l,by simp [hl],rfl⟩
theorem zF5 {a:List AV} (h:yV (.sl [.int .i64,.int .i64]::.int .i64::.sl [.int .i64]::.sl [.int .i64,.int .i64,.sl [.int .u8]]::List.replicate 29 (.int .i64)) a):∃ s:Ses,a=sC s:=by
 obtain ⟨x0,r0,rfl,h0,t0⟩:=ol h
 obtain ⟨x1,r1,rfl,h1,t1⟩:=ol t0
 obtain ⟨x2,r2,rfl,h2,t2⟩:=ol t1
 obtain ⟨x3,r3,rfl,h3,t3⟩:=ol t2
 obtain ⟨mem,f1,rfl⟩:=zEG h0
 obtain ⟨hh,rfl,_⟩:=Td h1
 obtain ⟨tq,f2,rfl,_,_⟩:=zBt h2
 obtain ⟨q,f3,rfl⟩:=zFb h3
 obtain ⟨l,hl,rfl⟩:=zs5 29 _ t3
 refine ⟨⟨mem,hh,tq,q,fun n=>(l.getD (2 * n) 0,l.getD (2 * n+1) 0),l.getD 18 0,l.getD 19 0,fun n=>l.getD (20+n) 0,f1,f2,f3⟩, ?_⟩
 match l,hl with
 | [_,_,_,_,_,_,_,_,_,_,_,_,_,_,_,_,_,_,_,_,_,_,_,_,_,_,_,_,_],_=>rfl
theorem zBI {a:List AV} (h:yV [.int .i64,.sl [.int .u8],.int .i64,.int .i64] a):∃ d:Dd,a=dC d:=by
 obtain ⟨x0,r0,rfl,h0,t0⟩:=ol h
 obtain ⟨x1,r1,rfl,h1,t1⟩:=ol t0
 obtain ⟨x2,r2,rfl,h2,t2⟩:=ol t1
 obtain ⟨x3,r3,rfl,h3,t3⟩:=ol t2
 have:=zcc t3
 subst this
 obtain ⟨k,rfl,_⟩:=Td h0
 obtain ⟨l,f,rfl⟩:=zAq h1
 obtain ⟨r,rfl,_⟩:=Td h2
 obtain ⟨c,rfl,_⟩:=Td h3
 exact ⟨(k,l,r,c,f),rfl⟩
theorem zlw {s:Ses} (hs:yj s=true):okS s:=by
 obtain ⟨g1,g2,g3,g4,g5,g6,g7,g8,g9⟩:=zZ hs
 refine ⟨by have:=NE g1;omega, ?_,zC3 g3⟩
 have hg:=((WM s.h s.tq).1 g2).1
 have h0:=((WM s.h s.tq).1 g2).2
 have key:∀ (n:Nat) (l:List Int),l.Nodup→(∀ x ∈ l,1≤x∧x≤n)→l.length≤n:=by
  intro n
  induction n with
  | zero=>
   intro l _ h
   cases l with
   | nil=>exact Nat.le_refl _
   | cons x l=>have:=h x (by simp);omega
  | succ n ih=>
   intro l hn h
   have h1:(l.filter fun x=> !decide (x=((n+1:Nat):Int))).length≤n:=ih _ (hn.filter _) fun x hx=>by
    obtain ⟨a,b⟩:=List.mem_filter.1 hx
    have:=h x a
    simp only [Bool.not_eq_true',decide_eq_false_iff_not] at b
    omega
   have h2:∀ (l:List Int) (y:Int),l.Nodup→l.length≤(l.filter fun x=> !decide (x=y)).length+1:=by
    intro l y
    induction l with
    | nil=>intro _;simp
    | cons x l ih=>
     intro hn
     rw [List.nodup_cons] at hn
     rw [List.filter_cons]
     by_cases e:x=y
     ·subst e
      rw [if_neg (by simp),List.filter_eq_self.2 (fun z hz=>by simp;intro e;exact hn.1 (e ▸ hz))]
      simp
     ·rw [if_pos (by simp [e]),List.length_cons,List.length_cons]
      have:=ih hn.2
      omega
   have:=h2 l ((n+1:Nat):Int) hn
   omega
 unfold allT at hg
 by_cases e:s.h=0
 ·rw [h0 e];simp
 ·rw [if_neg e] at hg
  have:=key 8 _ hg.2 hg.1
  rw [List.length_cons] at this
  omega
end
end Go.Proofs.YthcnhibjddomdaaGreat
namespace Go.Proofs.YthcnhibjddomdaaGreat
section
open Go
variable (G:Nat→Option (List AV))
theorem KH (a b:Ses) (h:okS a):aP G FT yN [.agg (sC a),.agg (sC b)]=some (.bool (zbv a b)):=by
 have hM:=fun b1 f1 b2 f2=>zxe G a.mem b.mem b1 f1 b2 f2 (by have:=h.1;omega)
 have hI:=fun b1 f1 b2 f2=>zFH G a.h b.h a.tq b.tq b1 f1 b2 f2 (by have:=h.2.1;omega)
 have hQ:=fun b1 f1 b2 f2=>ziP G a.q b.q b1 f1 b2 f2 h.2.2.1
 have hW:=zFx a.w b.w
 have hK:=zFc a.k b.k
 have a0:=Ib a
 have a1:=zgv a
 have a3:=zer a
 have a4:=zAO a
 have a5:=zBh a
 have a6:=zsZ a
 have a7:=zrW a
 have a8:=zk a
 have a9:=zG a
 have b0:=Ib b
 have b1:=zgv b
 have b3:=zer b
 have b4:=zAO b
 have b5:=zBh b
 have b6:=zsZ b
 have b7:=zrW b
 have b8:=zk b
 have b9:=zG b
 have h23:(decide (a.h=b.h)&&decide (a.tq=b.tq))=decide (a.h=b.h∧a.tq=b.tq):=by rw [Bool.decide_and]
 unfold aP
 have hsS:zbv a b=(decide (a.mem=b.mem)&&decide (a.h=b.h∧a.tq=b.tq)&&RF a.q b.q&&wEq a.w b.w&&decide (a.r=b.r)&&decide (a.c=b.c)&&kEq a.k b.k):=by
  unfold zbv
  rw [← h23,← Bool.and_assoc]
 rw [zf8,hsS]
 generalize decide (a.h=b.h∧a.tq=b.tq)=tt at *
 generalize sC a=sca at *
 generalize sC b=scb at *
 generalize zF a.w=cwa at *
 generalize zF b.w=cwb at *
 generalize zP a.k=cka at *
 generalize zP b.k=ckb at *
 cases h1:decide (a.mem=b.mem) with
 | false=>
  simp only [h1,Bool.false_and]
  (sym=>simp [Qb,Qd,Qe,Qf,Qg,Qi,Qj,Qm,Qn,Qo,Qr,Qt,Qu,Qw,Q4,Xp,Yj,Yr,Yt,Yv,Y1,Y5,Y7,Y9,Za,Zb,Zc,Ze,Zg,Zh,Zi,Zj,Zk,Zl,Zm,Zn,Zo,Zr,Zs,Zt,Zu,Zv,Zw,Zy,Z0,Z3,Ja,Jj,Jk,Jv,Jx,V9,Wd,We,Wk,Hh,Hi,Hu,Hv,Be,zdB.eq_1,zdy.eq_1,uO.eq_1,hM,h1,a0,a8,a9,b0,b8,b9])
 | true=>
 cases h3:tt with
 | false=>
  subst h3
  simp only [Bool.true_and,Bool.false_and]
  (sym=>simp [Qb,Qd,Qe,Qf,Qg,Qi,Qj,Qm,Qn,Qo,Qr,Qt,Qu,Qw,Q4,Xp,Yj,Yr,Yt,Yu,Yv,Y1,Y5,Y7,Y9,Za,Zb,Zc,Ze,Zg,Zh,Zi,Zj,Zk,Zl,Zm,Zn,Zo,Zr,Zs,Zt,Zu,Zv,Zw,Zy,Z0,Z3,Ja,Jj,Jk,Jv,Jx,V3,V6,V9,Wd,We,Wk,Hh,Hi,Hu,Hv,Be,zdB.eq_1,zdy.eq_1,uO.eq_1,hM,hI,h1,a0,a1,a8,a9,b0,b1,b8,b9])
 | true=>
 subst h3
 cases h4:RF a.q b.q with
 | false=>
  simp only [Bool.true_and,Bool.false_and]
  (sym=>simp [Qb,Qd,Qe,Qf,Qg,Qi,Qj,Qm,Qn,Qo,Qr,Qt,Qu,Qw,Q4,Xp,Yj,Yr,Yt,Yu,Yv,Y1,Y5,Y7,Y9,Za,Zb,Zc,Ze,Zg,Zh,Zi,Zj,Zk,Zl,Zm,Zn,Zo,Zr,Zs,Zt,Zu,Zv,Zw,Zy,Z0,Z3,Ja,Jj,Jk,Jv,Jx,V3,V6,V9,Wd,We,Wk,Hh,Hi,Hu,Hv,Be,zdB.eq_1,zdy.eq_1,uO.eq_1,hM,hI,hQ,h1,h4,a0,a1,a3,a8,a9,b0,b1,b3,b8,b9])
 | true=>
 cases h5:wEq a.w b.w with
 | false=>
  simp only [Bool.true_and,Bool.false_and]
  (sym=>simp [Qb,Qd,Qe,Qf,Qg,Qi,Qj,Qm,Qn,Qo,Qr,Qt,Qu,Qw,Q4,Xb,Xp,Yj,Yr,Yt,Yu,Yv,Y1,Y5,Y7,Y9,Za,Zb,Zc,Ze,Zg,Zh,Zi,Zj,Zk,Zl,Zm,Zn,Zo,Zr,Zs,Zt,Zu,Zv,Zw,Zy,Z0,Z3,Ja,Jh,Jj,Jk,Jv,Jx,Km,V3,V6,V9,Wd,We,Wk,Hh,Hi,Hu,Hv,Be,zdB.eq_1,zdy.eq_1,uO.eq_1,hM,hI,hQ,hW,h1,h4,h5,a0,a1,a3,a4,a8,a9,b0,b1,b3,b4,b8,b9])
 | true=>
 by_cases h6n:¬ a.r=b.r
 ·have h6':decide (a.r=b.r)=false:=by simp [h6n]
  simp only [h6',Bool.true_and,Bool.false_and]
  (sym=>simp [Qb,Qd,Qe,Qf,Qg,Qi,Qj,Qm,Qn,Qo,Qr,Qt,Qu,Qw,Q4,Xa,Xb,Xp,X8,Yj,Yr,Yt,Yu,Yv,Y1,Y5,Y7,Y9,Za,Zb,Zc,Ze,Zg,Zh,Zi,Zj,Zk,Zl,Zm,Zn,Zo,Zr,Zs,Zt,Zu,Zv,Zw,Zy,Z0,Z3,Ja,Jh,Jj,Jk,Jv,Jx,Km,V3,V6,V9,Wd,We,Wk,Hh,Hi,Hu,Hv,Nm,Be,zdB.eq_1,zdy.eq_1,uO.eq_1,hM,hI,hQ,hW,h1,h4,h5,h6n,a0,a1,a3,a4,a6,a8,a9,b0,b1,b3,b4,b6,b8,b9])
 have h6:=Decidable.not_not.1 h6n
 have h6':decide (a.r=b.r)=true:=by simp [h6]
 by_cases h7n:¬ a.c=b.c
 ·have h7':decide (a.c=b.c)=false:=by simp [h7n]
  simp only [h6',h7',Bool.true_and,Bool.false_and]
  (sym=>simp [Qb,Qd,Qe,Qf,Qg,Qi,Qj,Qm,Qn,Qo,Qr,Qt,Qu,Qw,Q4,Xa,Xb,Xp,X8,Yj,Yr,Yt,Yu,Yv,Y1,Y5,Y7,Y9,Za,Zb,Zc,Ze,Zg,Zh,Zi,Zj,Zk,Zl,Zm,Zn,Zo,Zr,Zs,Zt,Zu,Zv,Zw,Zy,Z0,Z3,Ja,Jh,Jj,Jk,Jv,Jx,Km,V3,V6,V9,Wd,We,Wk,Hh,Hi,Hu,Hv,Nl,Nm,Be,zdB.eq_1,zdy.eq_1,uO.eq_1,hM,hI,hQ,hW,h1,h4,h5,h6,h7n,a0,a1,a3,a4,a6,a7,a8,a9,b0,b1,b3,b4,b6,b7,b8,b9])
 have h7:=Decidable.not_not.1 h7n
 have h7':decide (a.c=b.c)=true:=by simp [h7]
 simp only [h6',h7',Bool.true_and]
 (sym=>simp [Qb,Qd,Qe,Qf,Qg,Qi,Qj,Qm,Qn,Qo,Qr,Qt,Qu,Qw,Q4,Xa,Xb,Xp,X8,Yj,Yr,Yt,Yu,Yv,Y1,Y5,Y7,Y9,Za,Zb,Zc,Ze,Zg,Zh,Zi,Zj,Zk,Zl,Zm,Zn,Zo,Zr,Zs,Zt,Zu,Zv,Zw,Zy,Z0,Ja,Jh,Jj,Jk,Jv,Jx,Km,V3,V6,V9,Wd,We,Wk,Hh,Hi,Hu,Hv,Nl,Be,zdB.eq_1,zdy.eq_1,uO.eq_1,hM,hI,hQ,hW,hK,h1,h4,h5,h6,h7,a0,a1,a3,a4,a5,a6,a7,a8,a9,b0,b1,b3,b4,b5,b6,b7,b8,b9])
def ym (s:Ses):Ses:={ s with q:=cpQ s.q,f1:=false,f2:=false,f3:=false }
theorem zum (s:Ses) (h:okS s):aP G FT Pf [.agg (sC s)]=some (.agg (sC (ym s))):=by
 obtain ⟨hl1,hl2,hl3⟩:=h
 have hP:=fun b f=>zCk G s.q b f hl3
 have t1:=Dm s
 have t2:=zcC s
 have t3:=zdG s
 have t4:=zm0 s
 have t5:=znv s
 have t6:=zhg s
 have t7:=LC s
 have m1:=yM s.mem
 have m2:=zw s.tq
 have n1:s.mem.length * 16≤140737488355328:=by omega
 have n2:s.tq.length * 8≤140737488355328:=by omega
 have k1:List.take s.mem.length (mbs s.mem)=mbs s.mem:=List.take_of_length_le (by omega)
 have k2:List.take s.tq.length (ints s.tq)=ints s.tq:=List.take_of_length_le (by omega)
 have e:sC (ym s)=.data false 2 (mbs s.mem) false::.int .i64 s.h::.data false 1 (ints s.tq) false::.data false 3 (pcs (cpQ s.q)) false::tl s:=rfl
 rw [e,zj8]
 generalize tl s=T at *
 unfold aP
 rw [zhr]
 (sym=>simp [Qb,Qd,Qe,Qi,Qm,Qn,Qo,Qv,Qw,Qz,Q2,Q4,Q5,Xp,X0,Yj,Yr,Yt,Yu,Yv,Y1,Y3,Y5,Y8,Y9,Za,Zb,Zc,Zd,Ze,Zg,Zh,Zi,Zj,Zk,Zl,Zm,Zn,Zo,Zr,Zs,Zt,Zu,Zv,Zw,Zx,Zy,Zz,Z0,Z1,Jj,Jk,Jv,Jx,J1,J2,J6,J7,Kv,Kx,Ua,Uc,Ue,Uf,Ug,Ul,Uq,V9,Wd,We,Wf,Wg,Wh,Wj,Wq,Hh,Hi,Hk,Hl,Ho,Hp,Hq,Hr,Hs,Ht,Hu,Hv,Hw,H2,H8,Ng,Nl,No,Nq,Ns,Nt,Nx,Nz,N0,N2,Be,Bg,Ml,zDm.eq_1,zDs.eq_1,zC9.eq_1,zD9.eq_1,zC7.eq_1,TW.eq_1,hP,t1,t2,t3,t4,t5,t6,t7,m1,m2,k1,k2,n1,n2,List.nil_append,zL.eq_1])
end
end Go.Proofs.YthcnhibjddomdaaGreat
namespace Go.Proofs.YthcnhibjddomdaaGreat
section
open Go
theorem zng:∀ (q:List Pc) (n:Int) (k:Nat),k≤q.length→0<k→((zV (q.take k):Int)≤n↔k≤YX q n)
 | [],n,k,h,h0=>by simp at h;omega
 | x::q,n,0,h,h0=>absurd h0 (Nat.lt_irrefl 0)
 | x::q,n,k+1,h,h0=>by
  have e:zV ((x::q).take (k+1))=x.2.2.1.length+zV (q.take k):=by simp [zV]
  rw [e,YX]
  by_cases hx:(x.2.2.1.length:Int)≤n
  ·rw [if_pos hx]
   by_cases hk:k=0
   ·subst hk
    have:zV (q.take 0)=0:=rfl
    omega
   ·have ih:=zng q (n - x.2.2.1.length) k (by simpa using h) (by omega)
    omega
  ·rw [if_neg hx]
   omega
variable (G:Nat→Option (List AV))
theorem zmf (q:List Pc) (b f:Bool) (n:Int) (hS:∀ k,k≤q.length→∀ b f,aP G FT Yi [.data b 3 (pcs (q.take k)) f]=some (.int .i64 (zV (q.take k):Nat))) (hl:q.length≤1000):∀ k,k≤q.length→YX q n≤k→
  (YX q n=0∧aE G FT 0 uu ⟨[(0,.data b 3 (pcs q) f),(1,.int .i64 n),(5,.int .i64 k)],[]⟩=some (.exit 0,⟨[(0,.data b 3 (pcs q) f),(1,.int .i64 n),(5,.int .i64 0),(9,.bool false)],[]⟩))∨
  aE G FT 0 uu ⟨[(0,.data b 3 (pcs q) f),(1,.int .i64 n),(5,.int .i64 k)],[]⟩=some (.ret,⟨[(4,.int .i64 (YX q n:Nat))],[]⟩):=by
 intro k
 induction k with
 | zero=>
  intro _ hp
  have h0:YX q n=0:=by omega
  refine .inl ⟨h0, ?_⟩
  rw [uu,zn]
  (sym=>simp [Qa,Qd,Qe,Qi,Qj,Qr,Qt,Xa,Yc,Y9,Za,Zb,Zc,Ze,Zg,Zh,Zk,Zl,Zt,Zv,Zw,Z3,Jj,Jk,Jm,Jr,Ju,Jv,Ux,U0,U4,U5,Vb,Ve,Vo,Vq,Vr,Vt,Vv,Vw,Vy,Vz,V0,Hq,Hw,H1,Nm,No,Be,Bh,znP.eq_1,znJ.eq_1,zmZ.eq_1,zm1.eq_1,gX.eq_1])
 | succ k ih=>
  intro hk hp
  have hln:=yB q
  have h1:(0:Int)<((k+1:Nat):Int):=by omega
  have d1:List.take (k+1) (pcs q)=pcs (q.take (k+1)):=by simp [pcs,List.map_take]
  have hle:((k+1:Nat):Int)≤q.length:=by omega
  have hle2:k+1≤q.length:=hk
  have hs:=hS (k+1) hk
  have iff:=zng q n (k+1) hk (by omega)
  have c2:(0:Int)≤((k+1:Nat):Int):=by omega
  have tn:((k+1:Nat):Int).toNat=k+1:=by omega
  by_cases hx:(zV (q.take (k+1)):Int)≤n
  ·have e:YX q n=k+1:=by have:=iff.1 hx;omega
   rw [e]
   refine .inr ?_
   rw [uu,zn]
   (sym=>simp [Qb,Qc,Qd,Qe,Qi,Qj,Qm,Qn,Qo,Qr,Qt,Xa,Xl,Xm,Xn,Yb,Yc,Y9,Za,Zb,Zc,Ze,Zg,Zh,Zk,Zl,Zo,Zt,Zv,Zw,Jj,Jk,Jl,Jn,Jp,Jr,Jt,Jv,K0,K1,K3,Ux,U0,U4,U5,Vb,Ve,Vo,Vq,Vr,Vt,Vv,Vw,Vy,Vz,V0,V9,Wd,We,Hq,Hs,Hw,H1,Nf,Ni,Nk,Nl,No,Nz,Be,znP.eq_1,znJ.eq_1,zmZ.eq_1,zm1.eq_1,gX.eq_1,h1,d1,hln,hle,hle2,hs,hx,c2,tn])
  ·have ih:=ih (by omega) (by have:=mt iff.2 hx;omega)
   have hw:IntKind.i64.wrap (((k+1:Nat):Int) - 1)=(k:Nat):=by rw [ZV _ (by omega) (by omega)];omega
   rw [uu] at ih
   rcases ih with ⟨h0,ih⟩ | ih
   ·refine .inl ⟨h0, ?_⟩
    rw [← ih,uu,zn]
    (sym=>simp [Qc,Qd,Qe,Qi,Qj,Qm,Qn,Qo,Qr,Qt,Xa,Xl,Xm,Xn,X6,Yb,Yc,Y9,Za,Zb,Zc,Ze,Zg,Zh,Zk,Zl,Zo,Zt,Zv,Zw,Z3,Jj,Jk,Jn,Jo,Jr,Js,Jv,K0,K1,K3,Ux,U0,U4,U5,Vb,Ve,Vo,Vq,Vr,Vt,Vv,Vw,Vy,Vz,V0,V9,Wd,We,Hq,Hs,Hw,H1,Nf,Ni,Nk,Nl,Nm,No,Nz,Be,znP.eq_1,znJ.eq_1,zmZ.eq_1,zm1.eq_1,gX.eq_1,h1,d1,hln,hle,hle2,hs,hx,c2,tn,hw])
   ·refine .inr ?_
    rw [← ih,uu,zn]
    (sym=>simp [Qc,Qd,Qe,Qi,Qj,Qm,Qn,Qo,Qr,Qt,Xa,Xl,Xm,Xn,X6,Yb,Yc,Y9,Za,Zb,Zc,Ze,Zg,Zh,Zk,Zl,Zo,Zt,Zv,Zw,Z3,Jj,Jk,Jn,Jo,Jr,Js,Jv,K0,K1,K3,Ux,U0,U4,U5,Vb,Ve,Vo,Vq,Vr,Vt,Vv,Vw,Vy,Vz,V0,V9,Wd,We,Hq,Hs,Hw,H1,Nf,Ni,Nk,Nl,Nm,No,Nz,Be,znP.eq_1,znJ.eq_1,zmZ.eq_1,zm1.eq_1,gX.eq_1,h1,d1,hln,hle,hle2,hs,hx,c2,tn,hw])
theorem zxH (q:List Pc) (b f:Bool) (n:Int) (hS:∀ k,k≤q.length→∀ b f,aP G FT Yi [.data b 3 (pcs (q.take k)) f]=some (.int .i64 (zV (q.take k):Nat))) (hl:q.length≤1000):aP G FT KC [.data b 3 (pcs q) f,.int .i64 n]=some (.int .i64 (YX q n:Nat)):=by
 have hln:=yB q
 have k2:=zmf G q b f n hS hl q.length (Nat.le_refl _) (zeR q n)
 unfold aP
 rw [zd7]
 rcases k2 with ⟨h0,k1⟩ | k1
 ·rw [h0]
  (sym=>simp [Qb,Qd,Qe,Qi,Qj,Qr,Xy,Yh,Y1,Y5,Y7,Y9,Za,Zb,Zc,Ze,Zg,Zh,Zi,Zj,Zk,Zl,Zm,Zr,Zs,Zt,Zu,Zv,Zw,Jj,Jk,Jn,Jq,Jv,Jx,Wj,Be,Bh,zxU.eq_1,zAF.eq_1,zy6.eq_1,YO.eq_1,hln,k1])
 ·(sym=>simp [Qd,Qe,Qi,Qj,Qr,Xy,Yh,Y1,Y5,Y7,Y9,Za,Zb,Zc,Ze,Zg,Zh,Zi,Zj,Zk,Zl,Zm,Zr,Zs,Zt,Zu,Zv,Zw,Jj,Jk,Jl,Jn,Jp,Jv,Jx,Wj,Be,zxU.eq_1,zAF.eq_1,zy6.eq_1,YO.eq_1,hln,k1])
def je (q:List Pc) (m:Int):List Pc:=q.filter fun x=> !decide (x.1=m)
theorem zu6 (a b:List Pc) (m:Int):je (a++b) m=je a m++je b m:=by unfold je;rw [List.filter_append]
theorem zqI (q:List Pc) (f:Bool) (h:okL q) (k:Int):∀ (m i:Nat),i+m=q.length→∀ (l:Nat) st,l=(je (q.take i) k).length→agc 0 [0,1,5,6] st=some ⟨[(0,.data false 3 (pcs q) f),(1,.int .i64 k),(5,.own 0 0 0 l l),(6,.int .i64 i)],[⟨3,0,true,pcs (je (q.take i) k)⟩]⟩→
  aE G FT 0 Yq st=some (.exit 0,⟨[(0,.data false 3 (pcs q) f),(1,.int .i64 k),(5,.own 0 0 0 (je q k).length (je q k).length),(6,.int .i64 q.length),(10,.bool false)],[⟨3,0,true,pcs (je q k)⟩]⟩):=by
 have hln:=yB q
 intro m
 induction m with
 | zero=>
  intro i hi l st hl hst
  rw [Yq,zn,hst]
  obtain rfl:i=q.length:=by omega
  rw [List.take_length] at hl ⊢
  subst hl
  have e0:decide ((q.length:Int)<q.length)=false:=by simp
  (sym=>simp [Qa,Qd,Qe,Qi,Qr,Qt,Xa,Xy,Ya,Yh,Y9,Za,Zb,Zc,Ze,Zg,Zh,Zt,Zv,Zw,Z3,Jj,Jk,Jm,Jr,Ju,Jv,Be,zrm.eq_1,zrO.eq_1,zsa.eq_1,zti.eq_1,UY.eq_1,e0,hln])
 | succ m ih=>
  intro i hi l st hl hst
  have hlt:i<q.length:=by omega
  have hlt':(i:Int)<q.length:=by omega
  have hw:=zH (n:=i) (by have:=h.1;omega)
  have hg:=YZ hlt
  have ih:=ih (i+1) (by omega)
  have e1:q.take (i+1)=q.take i++[q[i]]:=by rw [List.take_add_one,List.getElem?_eq_getElem hlt];rfl
  rw [e1,zu6] at ih
  have hls:l≤1000:=by
   have h1:=List.length_filter_le (fun x:Pc=> !decide (x.1=k)) (q.take i)
   have h2:=h.1
   rw [List.length_take] at h1
   unfold je at hl
   omega
  have hlo:(pcs (je (q.take i) k)).length=l:=by rw [yB,hl]
  rw [Yq] at ih
  rw [Yq,zn,hst]
  by_cases hx:q[i].1=k
  ·have e2:je [q[i]] k=[]:=by simp [je,hx]
   rw [e2,List.append_nil] at ih
   generalize pcs (je (q.take i) k)=P at ih hlo ⊢
   generalize pcs (je q k)=PQ at ih ⊢
   generalize je q k=DQ at *
   generalize q[i]=z at *
   (sym=>simp [Qc,Qd,Qe,Qi,Qj,Qr,Qt,Q4,Xa,Xp,Xs,Xy,X5,X9,Ya,Yh,Ys,Yt,Yw,Yy,Y9,Za,Zb,Zc,Ze,Zg,Zh,Zt,Zv,Zw,Z3,Jj,Jk,Jn,Jo,Jr,Js,Jv,Hh,Hs,Ni,Nk,Nl,Nw,Be,Ma,Mb,Md,Me,Mf,zrm.eq_1,zrO.eq_1,zsa.eq_1,zti.eq_1,UY.eq_1,hlt',hg,hlo,hx,hw,hln];tactic=>(
    refine ih l _ hl ?_
    (sym=>simp [Y9,Za,Zb,Ze,Zk,Zl,Zm,Zn,Zv,Zw,Zx,Zy,Zz,Z0,Z3,Us,Ux,U0,U4,U5,U6,Vb,Ve,Vk,Vm,Vo,Vp,Vq,Vr,Vs,Vt,Vu,Vv,Vw,Vx,Vy,Vz,V0,Hh,Hp,Hv,Hw,H1,H5,H6,Nl,No,Nx,hlo])))
  ·have e2:je [q[i]] k=[q[i]]:=by simp [je,hx]
   rw [e2,ND] at ih
   have e3:pcs [q[i]]=[[.int .i64 q[i].1,.int .i64 q[i].2.1,.data false 1 (byt q[i].2.2.1) q[i].2.2.2]]:=rfl
   rw [e3] at ih
   have b1:(l+1) * 40≤140737488355328:=by omega
   have n1:l+1≤l↔False:=by simp
   have tk:List.take l (pcs (je (q.take i) k))=pcs (je (q.take i) k):=List.take_of_length_le (by omega)
   have hl2:l+1=(je (q.take i) k++[q[i]]).length:=by simp [hl]
   generalize pcs (je (q.take i) k)=P at ih hlo tk ⊢
   generalize pcs (je q k)=PQ at ih ⊢
   generalize je q k=DQ at *
   generalize je (q.take i) k=DI at *
   generalize q[i]=z at *
   (sym=>simp [Qc,Qd,Qe,Qi,Qj,Qr,Qt,Qz,Q0,Q2,Q4,Xa,Xp,Xs,Xy,X0,X5,X9,Ya,Yh,Yj,Ys,Yt,Yu,Yw,Yy,Y2,Y9,Za,Zb,Zc,Ze,Zg,Zh,Zm,Zn,Zt,Zv,Zw,Zx,Zy,Zz,Z0,Jj,Jk,Jn,Jo,Jr,Js,Jv,Kv,Kx,Ua,Ub,Uc,Ud,Ue,Uf,Ug,Ul,Hh,Hi,Hk,Ho,Hq,Hs,Hu,Hv,H2,H3,H8,Ng,Nh,Ni,Nk,Nl,Nm,No,Nx,Nz,N2,Be,Bg,Ma,Mb,Md,Me,Mf,zrm.eq_1,zrO.eq_1,zsa.eq_1,zti.eq_1,UY.eq_1,hlt',hg,hlo,hx,hw,hln,b1,n1,tk];tactic=>(
    refine ih (l+1) _ hl2 ?_
    (sym=>simp [Y9,Za,Zb,Ze,Zk,Zl,Zm,Zn,Zv,Zw,Zx,Zy,Zz,Z0,Z3,Us,Ux,U0,U4,U5,U6,Vb,Ve,Vk,Vm,Vo,Vp,Vq,Vr,Vs,Vt,Vu,Vv,Vw,Vx,Vy,Vz,V0,Hh,Hp,Hv,Hw,H1,H5,H6,Nl,No,Nx,hlo,tk])))
theorem zB8 (q:List Pc) (f:Bool) (h:okL q) (k:Int):aP G FT Iz [.data false 3 (pcs q) f,.int .i64 k]=some (.data false 3 (pcs (je q k)) false):=by
 have key:=zqI G q f h k q.length 0 (by omega) 0 ⟨[(0,.data false 3 (pcs q) f),(1,.int .i64 k),(5,.own 0 0 0 0 0),(6,.int .i64 0)],[⟨3,0,true,[]⟩]⟩ rfl (by
  simp only [Int.natCast_zero,List.take_zero,show pcs (je [] k)=[] from rfl]
  (sym=>simp [Y9,Za,Zb,Ze,Zk,Zl,Zm,Zn,Zv,Zw,Zx,Zy,Zz,Z0,Z3,Us,Ux,U0,U4,U5,U6,Vb,Ve,Vk,Vm,Vo,Vp,Vq,Vr,Vs,Vt,Vu,Vv,Vw,Vx,Vy,Vz,V0,Hh,Hp,Hv,Hw,H1,H5,H6,Nl,No,Nx]))
 have hlo:(pcs (je q k)).length=(je q k).length:=yB _
 have tk:List.take (je q k).length (pcs (je q k))=pcs (je q k):=List.take_of_length_le (by omega)
 unfold aP
 rw [zhz]
 (sym=>simp [Qb,Qd,Qe,Qi,Qj,Qr,Qs,Y1,Y5,Y7,Y9,Za,Zb,Zc,Ze,Zg,Zh,Zi,Zj,Zk,Zl,Zm,Zr,Zs,Zt,Zu,Zv,Zw,Zx,Zy,Zz,Z0,Jj,Jk,Jn,Jq,Jv,Jx,Wf,Hh,Hs,Hv,H8,Ng,Nz,Be,zDE.eq_1,zEi.eq_1,zDk.eq_1,zD3.eq_1,SA.eq_1,key,hlo,tk])
end
end Go.Proofs.YthcnhibjddomdaaGreat
namespace Go.Proofs.YthcnhibjddomdaaGreat
section
open Go
variable (G:Nat→Option (List AV))
theorem zFJ (h:Int) (q:List Int) (f:Bool) (id:Int) (hl:q.length≤900):aP G FT Di [.agg [.int .i64 h,.data false 1 (ints q) f],.int .i64 id]=some (if id ∈ allT h q then NV h q else NV (ofT (allT h q++[id])).1 (ofT (allT h q++[id])).2):=by
 have hA:=fun b f=>znX G h q b f (by omega)
 have hal:(allT h q).length≤901:=by unfold allT;split<;>simp<;>omega
 have hH:=fun b f x=>zzq G (allT h q) b f x (by omega)
 unfold aP NV
 rw [zio]
 by_cases hm:id ∈ allT h q
 ·rw [if_pos hm]
  have hd:decide (id ∈ allT h q)=true:=by simp [hm]
  (sym=>simp [Qb,Qd,Qe,Qi,Qm,Qn,Qo,Qr,Qt,Qv,Qw,Q4,Q5,Yj,Yr,Yu,Y1,Y5,Y8,Y9,Za,Zb,Zc,Zd,Ze,Zg,Zh,Zi,Zj,Zk,Zl,Zm,Zn,Zo,Zr,Zs,Zt,Zu,Zv,Zw,Zy,Z0,Z1,Jj,Jk,Jl,Jr,Jv,Jx,J1,J2,Ue,Uf,Ug,Ul,V3,V6,V9,Wd,We,Wg,Wh,Wj,Wp,Wq,Hh,Hi,Hk,Hl,Ho,Hp,Hq,Hr,Hs,Ht,Hu,Hv,Hw,No,Nx,N0,Be,zr0.eq_1,ztD.eq_1,zrK.eq_1,zrt.eq_1,zrC.eq_1,VH.eq_1,hA,hH,hd])
 ·rw [if_neg hm]
  have hd:decide (id ∈ allT h q)=false:=by simp [hm]
  cases ha:allT h q with
  | nil=>
   rw [ha,yh] at hA hH
   rw [ha] at hd
   have e1:(ofT ([]++[id])).1=id:=rfl
   have e2:(ofT ([]++[id])).2=[]:=rfl
   rw [e1,e2,yh]
   (sym=>simp [Qb,Qc,Qd,Qe,Qi,Qj,Qm,Qn,Qo,Qr,Qt,Qv,Qw,Qx,Qy,Qz,Q0,Q1,Q2,Q4,Q5,Xa,Xl,Xm,Xn,Xs,Xy,X0,X8,Yg,Yj,Yk,Yo,Yr,Yt,Yu,Yx,Y1,Y2,Y3,Y5,Y8,Y9,Za,Zb,Zc,Zd,Ze,Zg,Zh,Zi,Zj,Zk,Zl,Zm,Zn,Zo,Zq,Zr,Zs,Zt,Zu,Zv,Zw,Zx,Zy,Zz,Z0,Z1,Z3,Jj,Jk,Jr,Jv,Jx,J1,J2,Kv,Kx,K0,K1,K2,K8,K9,Ua,Ub,Uc,Ud,Ue,Uf,Ug,Ul,Uq,V3,V6,V9,Wd,We,Wf,Wh,Wj,Wp,Wq,Hh,Hi,Hk,Hl,Ho,Hp,Hq,Hr,Hs,Ht,Hu,Hv,Hw,H2,H3,H8,Nl,Nm,No,Nq,Ns,Nx,Nz,N0,N2,Be,Bg,Bh,Bi,Mm,zr0.eq_1,ztD.eq_1,zrK.eq_1,zrt.eq_1,zrC.eq_1,VH.eq_1,VO,ze4.eq_1,zhF.eq_1,zfh.eq_1,zhh.eq_1,gJ.eq_1,hA,hH,hd])
  | cons y r=>
   rw [ha] at hA hH hd
   have e1:(ofT ((y::r)++[id])).1=y:=rfl
   have e2:(ofT ((y::r)++[id])).2=r++[id]:=rfl
   rw [e1,e2]
   rw [ha] at hal
   have hrl:r.length≤900:=by simpa using hal
   rw [uz] at hA hH
   have hln:=zw r
   have b1:(r.length+1) * 8≤140737488355328:=by omega
   have b2:(r.length+1+1) * 8≤140737488355328:=by omega
   have n1:r.length+1+1≤r.length+1↔False:=by simp
   have n3:¬ (((r.length+1+1:Nat):Int)=0):=by omega
   have n4:(0:Int)<((r.length+1+1:Nat):Int):=by omega
   have n5:1≤r.length+1+1:=by omega
   have n6:1+(r.length+1)=r.length+1+1:=by omega
   have n7:r.length+1+1 - 1=r.length+1:=by omega
   have tk0:List.take r.length (ints r)=ints r:=List.take_of_length_le (by rw [hln];exact Nat.le_refl _)
   have tk1:List.take (r.length+1) (ints r++[[AV.int .i64 id]])=ints r++[[AV.int .i64 id]]:=List.take_of_length_le (by simp [hln])
   have ap:ints (r++[id])=ints r++[[AV.int .i64 id]]:=by rw [uw,uz,yh]
   rw [ap]
   (sym=>simp [Qb,Qc,Qd,Qe,Qi,Qj,Qm,Qn,Qo,Qr,Qt,Qv,Qw,Qx,Qy,Qz,Q0,Q1,Q2,Q4,Q5,Xa,Xl,Xm,Xn,Xs,Xy,X0,X8,Yg,Yj,Yk,Yo,Yr,Yt,Yu,Yx,Y1,Y2,Y3,Y5,Y8,Y9,Za,Zb,Zc,Zd,Ze,Zg,Zh,Zi,Zj,Zk,Zl,Zm,Zn,Zo,Zq,Zr,Zs,Zt,Zu,Zv,Zw,Zx,Zy,Zz,Z0,Z1,Z3,Jj,Jk,Jr,Jv,Jx,J1,J2,Kv,Kx,K0,K1,K2,K8,K9,Ua,Ub,Uc,Ud,Ue,Uf,Ug,Ul,Uq,V3,V6,V9,Wd,We,Wf,Wh,Wj,Wp,Wq,Hh,Hi,Hk,Hl,Ho,Hp,Hq,Hr,Hs,Ht,Hu,Hv,Hw,Hx,H2,H3,H8,Ng,Nh,Nl,Nm,No,Nq,Ns,Nx,Nz,N0,N2,Be,Bg,Bi,Ml,Mn,Mo,Mp,Mq,zr0.eq_1,ztD.eq_1,zrK.eq_1,zrt.eq_1,zrC.eq_1,VH.eq_1,VO,ze4.eq_1,zhF.eq_1,zfh.eq_1,zhh.eq_1,gJ.eq_1,hA,hH,hd,hln,b1,b2,n1,n3,n4,n5,n6,n7,tk0,tk1])
def Ny (out:List Int):List zf:=[⟨2,0,true,[[.int .i64 0,.data false 1 [] true]]⟩,⟨1,0,true,ints out⟩]
theorem zoy (l:List Int) (id:Int) (hl:l.length≤1000):∀ (m i:Nat) (out:List Int),i+m=l.length→out.length≤i→∀ st,agc 0 [1,4,5,6,7] st=some ⟨[(1,.int .i64 id),(4,.ptr 0 0 0 0),(5,.own 1 0 0 out.length out.length),(6,.data false 1 (ints l) false),(7,.int .i64 i)],Ny out⟩→
  aE G FT 0 o6 st=some (.exit 0,⟨[(1,.int .i64 id),(4,.ptr 0 0 0 0),(5,.own 1 0 0 (out++(l.drop i).filter fun x=> !decide (x=id)).length (out++(l.drop i).filter fun x=> !decide (x=id)).length),(6,.data false 1 (ints l) false),(7,.int .i64 l.length),(13,.bool false)],Ny (out++(l.drop i).filter fun x=> !decide (x=id))⟩):=by
 intro m
 induction m with
 | zero=>
  intro i out hi ho st hst
  rw [o6,zn,hst]
  have e:l.drop i=[]:=List.drop_eq_nil_of_le (by omega)
  have ei:i=l.length:=by omega
  subst ei
  have e0:decide ((l.length:Int)<l.length)=false:=by simp
  have hln:=zw l
  rw [e,List.filter_nil,List.append_nil]
  unfold Ny
  (sym=>simp [Qa,Qd,Qe,Qi,Qr,Qt,Xa,Xy,Ya,Yh,Y9,Za,Zb,Zc,Ze,Zg,Zh,Zt,Zv,Zw,Z3,Jj,Jk,Jm,Jr,Ju,Jv,Be,zrN.eq_1,zsf.eq_1,zqZ.eq_1,zrG.eq_1,Ta.eq_1,e0,hln])
 | succ m ih=>
  intro i out hi ho st hst
  have hlt:i<l.length:=by omega
  have hlt':(i:Int)<l.length:=by omega
  have e:l.drop i=l[i]::l.drop (i+1):=List.drop_eq_getElem_cons hlt
  have hw:=zH (n:=i) (by omega)
  have hg:=ints_at hlt
  have hln:=zw l
  have hlo:=zw out
  have b1:(out.length+1) * 8≤140737488355328:=by omega
  have n1:out.length+1≤out.length↔False:=by simp
  have tk:List.take out.length (ints out)=ints out:=List.take_of_length_le (by rw [hlo];exact Nat.le_refl _)
  rw [e]
  unfold Ny at hst ⊢
  generalize l[i]=x at hg
  rw [o6,zn,hst]
  by_cases hx:¬ x=id
  ·have ih:=ih (i+1) (out++[x]) (by omega) (by simp;omega)
   unfold Ny at ih
   rw [o6,uw,uz,yh] at ih
   have ef:(x::l.drop (i+1)).filter (fun x=> !decide (x=id))=[x]++(l.drop (i+1)).filter fun x=> !decide (x=id):=by simp [hx]
   rw [ef,← List.append_assoc]
   have hla:(out++[x]).length=out.length+1:=by simp
   rw [hla] at ih
   generalize (out++[x]++(l.drop (i+1)).filter fun x=> !decide (x=id))=R at ih ⊢
   (sym=>simp [Qc,Qd,Qe,Qi,Qj,Qr,Qt,Qz,Q0,Q2,Q4,Xa,Xs,Xy,X0,X5,X9,Ya,Yh,Yk,Ys,Yt,Yy,Y2,Y9,Za,Zb,Zc,Ze,Zg,Zh,Zm,Zn,Zt,Zv,Zw,Zx,Zy,Zz,Z0,Jj,Jk,Jn,Jo,Jr,Js,Jv,Kv,Kx,Ua,Ub,Uc,Ud,Ue,Uf,Ug,Hh,Hi,Hk,Hl,Ho,Hq,Hs,Hu,Hv,H2,H3,H8,Ng,Nh,Ni,Nk,Nl,Nm,No,Nx,Nz,N2,Be,Bg,Ma,Mb,Md,Mf,zrN.eq_1,zsf.eq_1,zqZ.eq_1,zrG.eq_1,Ta.eq_1,hlt',hg,hln,hlo,hw,b1,n1,tk,hx];tactic=>(
    refine ih _ ?_
    (sym=>simp [Y9,Za,Zb,Ze,Zh,Zk,Zl,Zm,Zn,Zv,Zw,Zx,Zy,Zz,Z0,Z3,Us,Ut,Ux,U0,U4,U5,U6,U7,Vb,Ve,Vk,Vm,Vo,Vp,Vq,Vr,Vs,Vt,Vu,Vv,Vw,Vx,Vy,Vz,V0,Hh,Hi,Hp,Hu,Hv,Hw,H1,H4,H5,H6,Nl,No,Nu,Nx,hlo])))
  ·have hx2:x=id:=Classical.not_not.1 hx
   have ih:=ih (i+1) out (by omega) (by omega)
   unfold Ny at ih
   rw [o6] at ih
   have ef:(x::l.drop (i+1)).filter (fun x=> !decide (x=id))=(l.drop (i+1)).filter fun x=> !decide (x=id):=by simp [hx]
   rw [ef]
   generalize (out++(l.drop (i+1)).filter fun x=> !decide (x=id))=R at ih ⊢
   (sym=>simp [Qc,Qd,Qe,Qi,Qj,Qr,Qt,Q4,Xa,Xs,Xy,X5,X9,Ya,Yh,Ys,Yt,Yy,Y9,Za,Zb,Zc,Ze,Zg,Zh,Zt,Zv,Zw,Z3,Jj,Jk,Jn,Jo,Jr,Js,Jv,Hh,Ni,Nk,Nl,Nw,Be,Ma,Mb,Md,Mf,zrN.eq_1,zsf.eq_1,zqZ.eq_1,zrG.eq_1,Ta.eq_1,hlt',hg,hln,hlo,hw,hx2];tactic=>(
    refine ih _ ?_
    (sym=>simp [Y9,Za,Zb,Ze,Zh,Zk,Zl,Zm,Zn,Zv,Zw,Zx,Zy,Zz,Z0,Z3,Us,Ut,Ux,U0,U4,U5,U6,U7,Vb,Ve,Vk,Vm,Vo,Vp,Vq,Vr,Vs,Vt,Vu,Vv,Vw,Vx,Vy,Vz,V0,Hh,Hi,Hp,Hu,Hv,Hw,H1,H4,H5,H6,Nl,No,Nu,Nx,hlo])))
theorem zCS (h:Int) (q:List Int) (b f:Bool) (id:Int) (hl:q.length≤900):aP G FT IA [.agg [.int .i64 h,.data b 1 (ints q) f],.int .i64 id]=some (NV (ofT ((allT h q).filter fun x=> !decide (x=id))).1 (ofT ((allT h q).filter fun x=> !decide (x=id))).2):=by
 have hA:=fun b f=>znX G h q b f (by omega)
 have hal:(allT h q).length≤901:=by unfold allT;split<;>simp<;>omega
 have key:=zoy G (allT h q) id (by omega) (allT h q).length 0 [] (by omega) (by simp)
 simp only [List.drop_zero,List.nil_append] at key
 have hfl:((allT h q).filter fun x=> !decide (x=id)).length≤901:=Nat.le_trans (List.length_filter_le _ _) hal
 unfold aP NV
 rw [zfA]
 unfold Ny at key
 simp only [yh,List.length_nil,Int.natCast_zero] at key
 generalize ((allT h q).filter fun x=> !decide (x=id))=out at key hfl
 (sym=>simp [Qd,Qe,Qi,Qj,Qm,Qn,Qo,Qr,Qs,Qv,Qw,Q4,Yj,Yr,Yu,Y1,Y9,Za,Zb,Zc,Ze,Zg,Zh,Zi,Zj,Zk,Zl,Zm,Zn,Zo,Zr,Zs,Zv,Zw,Zy,Z0,Jj,Jk,Jn,Jv,Ue,Uf,Ug,Ul,V3,V6,V9,Wd,We,Hh,Ho,Hq,Hs,Hu,Hv,No,Np,Nx,Be,zDV.eq_1,zD7.eq_1,zDw.eq_1,zDY.eq_1,zDA.eq_1,TY.eq_1,hA];tactic=>(
  rw [key _ ?hst]
  case hst=>cases b<;>(sym=>simp [Y9,Za,Zb,Ze,Zh,Zk,Zl,Zm,Zn,Zv,Zw,Zx,Zy,Zz,Z0,Z3,Us,Ut,Ux,U0,U4,U5,U6,U7,Vb,Ve,Vk,Vm,Vo,Vp,Vq,Vr,Vs,Vt,Vu,Vv,Vw,Vx,Vy,Vz,V0,Hh,Hi,Hp,Hu,Hv,Hw,H1,H4,H5,H6,Nl,No,Nu,Nw,Nx])
  cases out with
  | nil=>
   have e1:(ofT []).1=0:=rfl
   have e2:(ofT []).2=[]:=rfl
   rw [e1,e2]
   (sym=>simp [Qb,Qd,Qe,Qi,Qj,Qm,Qn,Qo,Qr,Qt,Qv,Qx,Q1,Q5,Xa,Xy,X8,Yg,Yr,Yu,Y1,Y5,Y8,Y9,Za,Zb,Zc,Zd,Ze,Zg,Zh,Zi,Zj,Zk,Zl,Zm,Zn,Zq,Zr,Zs,Zt,Zu,Zv,Zw,Zy,Z0,Z1,Jj,Jk,Jl,Jq,Jr,Jv,Jx,J1,J2,K8,Ue,Uf,Ug,Ul,Wg,Wh,Wj,Wp,Wq,Hh,Hi,Hk,Hl,Ho,Hp,Hq,Hr,Hs,Ht,Hu,Hv,Hw,Nl,No,Nx,N0,Be,Bh,VO,ze4.eq_1,zhF.eq_1,zfh.eq_1,zhh.eq_1,gJ.eq_1,yh,List.length_nil])
  | cons y r=>
   have e1:(ofT (y::r)).1=y:=rfl
   have e2:(ofT (y::r)).2=r:=rfl
   rw [e1,e2]
   have hln:=zw r
   have n3:¬ (((r.length+1:Nat):Int)=0):=by omega
   have n4:(0:Int)<((r.length+1:Nat):Int):=by omega
   have n5:1≤r.length+1:=by omega
   have n6:1+r.length=r.length+1:=by omega
   have n7:r.length+1 - 1=r.length:=by omega
   have tk0:List.take r.length (ints r)=ints r:=List.take_of_length_le (by rw [hln];exact Nat.le_refl _)
   (sym=>simp [Qb,Qc,Qd,Qe,Qi,Qj,Qm,Qn,Qo,Qr,Qt,Qv,Qx,Qy,Q1,Q4,Q5,Xa,Xl,Xm,Xn,Xs,Xy,X8,Yg,Yk,Yo,Yr,Yt,Yu,Yx,Y1,Y5,Y8,Y9,Za,Zb,Zc,Zd,Ze,Zg,Zh,Zi,Zj,Zk,Zl,Zm,Zn,Zq,Zr,Zs,Zt,Zu,Zv,Zw,Zx,Zy,Zz,Z0,Z1,Z3,Jj,Jk,Jq,Jr,Jv,Jx,J1,J2,K0,K1,K2,K8,K9,Ue,Uf,Ug,Ul,Uq,Wf,Wh,Wj,Wp,Wq,Hh,Hi,Hk,Hl,Ho,Hp,Hq,Hr,Hs,Ht,Hu,Hv,Hw,Ng,Nm,No,Nq,Nx,Nz,N0,Be,Bi,VO,ze4.eq_1,zhF.eq_1,zfh.eq_1,zhh.eq_1,gJ.eq_1,uz,List.length_cons,hln,n3,n4,n5,n6,n7,tk0])))
def PU (out:List Int):List zf:=[⟨2,0,true,[[.int .i64 0,.data false 1 [] true]]⟩,⟨1,0,true,ints out⟩]
theorem zo7 (l:List Int) (ids:List Int) (bi fi:Bool) (hli:ids.length<9223372036854775807) (hl:l.length≤1000):∀ (m i:Nat) (out:List Int),i+m=l.length→out.length≤i→∀ st,agc 0 [1,4,5,6,7] st=some ⟨[(1,.data bi 1 (ints ids) fi),(4,.ptr 0 0 0 0),(5,.own 1 0 0 out.length out.length),(6,.data false 1 (ints l) false),(7,.int .i64 i)],PU out⟩→
  aE G FT 0 o5 st=some (.exit 0,⟨[(1,.data bi 1 (ints ids) fi),(4,.ptr 0 0 0 0),(5,.own 1 0 0 (out++(l.drop i).filter fun x=>decide (x ∈ ids)).length (out++(l.drop i).filter fun x=>decide (x ∈ ids)).length),(6,.data false 1 (ints l) false),(7,.int .i64 l.length),(13,.bool false)],PU (out++(l.drop i).filter fun x=>decide (x ∈ ids))⟩):=by
 intro m
 induction m with
 | zero=>
  intro i out hi ho st hst
  rw [o5,zn,hst]
  have e:l.drop i=[]:=List.drop_eq_nil_of_le (by omega)
  have ei:i=l.length:=by omega
  subst ei
  have e0:decide ((l.length:Int)<l.length)=false:=by simp
  have hln:=zw l
  rw [e,List.filter_nil,List.append_nil]
  unfold PU
  (sym=>simp [Qa,Qd,Qe,Qi,Qr,Qt,Xa,Xy,Ya,Yh,Y9,Za,Zb,Zc,Ze,Zg,Zh,Zt,Zv,Zw,Z3,Jj,Jk,Jm,Jr,Ju,Jv,Be,zsi.eq_1,zrg.eq_1,zst.eq_1,zss.eq_1,UZ.eq_1,e0,hln])
 | succ m ih=>
  intro i out hi ho st hst
  have hlt:i<l.length:=by omega
  have hlt':(i:Int)<l.length:=by omega
  have e:l.drop i=l[i]::l.drop (i+1):=List.drop_eq_getElem_cons hlt
  have hw:=zH (n:=i) (by omega)
  have hg:=ints_at hlt
  have hln:=zw l
  have hlo:=zw out
  have b1:(out.length+1) * 8≤140737488355328:=by omega
  have n1:out.length+1≤out.length↔False:=by simp
  have tk:List.take out.length (ints out)=ints out:=List.take_of_length_le (by rw [hlo];exact Nat.le_refl _)
  rw [e]
  unfold PU at hst ⊢
  generalize l[i]=x at hg
  rw [o5,zn,hst]
  have hH:=fun b f x=>zzq G ids b f x hli
  by_cases hx:x ∈ ids
  ·have hd:decide (x ∈ ids)=true:=by simp [hx]
   have ih:=ih (i+1) (out++[x]) (by omega) (by simp;omega)
   unfold PU at ih
   rw [o5,uw,uz,yh] at ih
   have ef:(x::l.drop (i+1)).filter (fun x=>decide (x ∈ ids))=[x]++(l.drop (i+1)).filter fun x=>decide (x ∈ ids):=by simp [hx]
   rw [ef,← List.append_assoc]
   have hla:(out++[x]).length=out.length+1:=by simp
   rw [hla] at ih
   generalize (out++[x]++(l.drop (i+1)).filter fun x=>decide (x ∈ ids))=R at ih ⊢
   (sym=>simp [Qc,Qd,Qe,Qi,Qj,Qm,Qn,Qo,Qr,Qt,Qz,Q0,Q2,Q4,Xa,Xs,Xy,X0,X5,Ya,Yh,Yk,Ys,Yt,Yy,Y2,Y9,Za,Zb,Zc,Ze,Zg,Zh,Zm,Zn,Zo,Zt,Zv,Zw,Zx,Zy,Zz,Z0,Jj,Jk,Jn,Jo,Jr,Js,Jv,Kv,Kx,Ua,Ub,Uc,Ud,Ue,Uf,Ug,V6,V9,Wd,We,Hh,Hi,Hk,Hl,Ho,Hq,Hs,Hu,Hv,H2,H3,H8,Ng,Nh,Ni,Nk,Nl,No,Nz,N2,Be,Bg,Ma,Mb,Md,Mf,zsi.eq_1,zrg.eq_1,zst.eq_1,zss.eq_1,UZ.eq_1,hlt',hg,hln,hlo,hw,b1,n1,tk,hH,hd];tactic=>(
    refine ih _ ?_
    (sym=>simp [Y9,Za,Zb,Ze,Zh,Zk,Zl,Zm,Zn,Zv,Zw,Zx,Zy,Zz,Z0,Z3,Us,Ut,Ux,U0,U4,U5,U6,U7,Vb,Ve,Vk,Vm,Vo,Vp,Vq,Vr,Vs,Vt,Vu,Vv,Vw,Vx,Vy,Vz,V0,Hh,Hi,Hp,Hu,Hv,Hw,H1,H4,H5,H6,Nl,No,Nu,Nx,hlo])))
  ·have hd:decide (x ∈ ids)=false:=by simp [hx]
   have ih:=ih (i+1) out (by omega) (by omega)
   unfold PU at ih
   rw [o5] at ih
   have ef:(x::l.drop (i+1)).filter (fun x=>decide (x ∈ ids))=(l.drop (i+1)).filter fun x=>decide (x ∈ ids):=by simp [hx]
   rw [ef]
   generalize (out++(l.drop (i+1)).filter fun x=>decide (x ∈ ids))=R at ih ⊢
   (sym=>simp [Qc,Qd,Qe,Qi,Qj,Qm,Qn,Qo,Qr,Qt,Q4,Xa,Xs,Xy,X5,Ya,Yh,Ys,Yt,Yy,Y9,Za,Zb,Zc,Ze,Zg,Zh,Zo,Zt,Zv,Zw,Z3,Jj,Jk,Jn,Jo,Jr,Js,Jv,V6,V9,Wd,We,Hh,Ni,Nk,Nl,Be,Ma,Mb,Md,Mf,zsi.eq_1,zrg.eq_1,zst.eq_1,zss.eq_1,UZ.eq_1,hlt',hg,hln,hlo,hw,hH,hd];tactic=>(
    refine ih _ ?_
    (sym=>simp [Y9,Za,Zb,Ze,Zh,Zk,Zl,Zm,Zn,Zv,Zw,Zx,Zy,Zz,Z0,Z3,Us,Ut,Ux,U0,U4,U5,U6,U7,Vb,Ve,Vk,Vm,Vo,Vp,Vq,Vr,Vs,Vt,Vu,Vv,Vw,Vx,Vy,Vz,V0,Hh,Hi,Hp,Hu,Hv,Hw,H1,H4,H5,H6,Nl,No,Nu,Nx,hlo])))
theorem zCr (h:Int) (q:List Int) (b f:Bool) (ids:List Int) (bi fi:Bool) (hli:ids.length<9223372036854775807) (hl:q.length≤900):aP G FT JR [.agg [.int .i64 h,.data b 1 (ints q) f],.data bi 1 (ints ids) fi]=some (NV (ofT ((allT h q).filter fun x=>decide (x ∈ ids))).1 (ofT ((allT h q).filter fun x=>decide (x ∈ ids))).2):=by
 have hA:=fun b f=>znX G h q b f (by omega)
 have hal:(allT h q).length≤901:=by unfold allT;split<;>simp<;>omega
 have key:=zo7 G (allT h q) ids bi fi hli (by omega) (allT h q).length 0 [] (by omega) (by simp)
 simp only [List.drop_zero,List.nil_append] at key
 have hfl:((allT h q).filter fun x=>decide (x ∈ ids)).length≤901:=Nat.le_trans (List.length_filter_le _ _) hal
 unfold aP NV
 rw [zfc]
 unfold PU at key
 simp only [yh,List.length_nil,Int.natCast_zero] at key
 generalize ((allT h q).filter fun x=>decide (x ∈ ids))=out at key hfl
 (sym=>simp [Qd,Qe,Qi,Qj,Qm,Qn,Qo,Qr,Qs,Qv,Qw,Q4,Yj,Yr,Yu,Y1,Y9,Za,Zb,Zc,Ze,Zg,Zh,Zi,Zj,Zk,Zl,Zm,Zn,Zo,Zr,Zs,Zv,Zw,Zy,Z0,Jj,Jk,Jn,Jv,Ue,Uf,Ug,Ul,V3,V6,V9,Wd,We,Hh,Ho,Hq,Hs,Hu,Hv,No,Np,Nx,Be,zDZ.eq_1,zDK.eq_1,zDd.eq_1,zEm.eq_1,zD2.eq_1,Sr.eq_1,hA];tactic=>(
  rw [key _ ?hst]
  case hst=>cases b<;>(sym=>simp [Y9,Za,Zb,Ze,Zh,Zk,Zl,Zm,Zn,Zv,Zw,Zx,Zy,Zz,Z0,Z3,Us,Ut,Ux,U0,U4,U5,U6,U7,Vb,Ve,Vk,Vm,Vo,Vp,Vq,Vr,Vs,Vt,Vu,Vv,Vw,Vx,Vy,Vz,V0,Hh,Hi,Hp,Hu,Hv,Hw,H1,H4,H5,H6,Nl,No,Nu,Nw,Nx])
  cases out with
  | nil=>
   have e1:(ofT []).1=0:=rfl
   have e2:(ofT []).2=[]:=rfl
   rw [e1,e2]
   (sym=>simp [Qb,Qd,Qe,Qi,Qj,Qm,Qn,Qo,Qr,Qt,Qv,Qx,Q1,Q5,Xa,Xy,X8,Yg,Yr,Yu,Y1,Y5,Y8,Y9,Za,Zb,Zc,Zd,Ze,Zg,Zh,Zi,Zj,Zk,Zl,Zm,Zn,Zq,Zr,Zs,Zt,Zu,Zv,Zw,Zy,Z0,Z1,Jj,Jk,Jl,Jq,Jr,Jv,Jx,J1,J2,K8,Ue,Uf,Ug,Ul,Wg,Wh,Wj,Wp,Wq,Hh,Hi,Hk,Hl,Ho,Hp,Hq,Hr,Hs,Ht,Hu,Hv,Hw,Nl,No,Nx,N0,Be,Bh,VO,ze4.eq_1,zhF.eq_1,zfh.eq_1,zhh.eq_1,gJ.eq_1,yh,List.length_nil])
  | cons y r=>
   have e1:(ofT (y::r)).1=y:=rfl
   have e2:(ofT (y::r)).2=r:=rfl
   rw [e1,e2]
   have hln:=zw r
   have n3:¬ (((r.length+1:Nat):Int)=0):=by omega
   have n4:(0:Int)<((r.length+1:Nat):Int):=by omega
   have n5:1≤r.length+1:=by omega
   have n6:1+r.length=r.length+1:=by omega
   have n7:r.length+1 - 1=r.length:=by omega
   have tk0:List.take r.length (ints r)=ints r:=List.take_of_length_le (by rw [hln];exact Nat.le_refl _)
   (sym=>simp [Qb,Qc,Qd,Qe,Qi,Qj,Qm,Qn,Qo,Qr,Qt,Qv,Qx,Qy,Q1,Q4,Q5,Xa,Xl,Xm,Xn,Xs,Xy,X8,Yg,Yk,Yo,Yr,Yt,Yu,Yx,Y1,Y5,Y8,Y9,Za,Zb,Zc,Zd,Ze,Zg,Zh,Zi,Zj,Zk,Zl,Zm,Zn,Zq,Zr,Zs,Zt,Zu,Zv,Zw,Zx,Zy,Zz,Z0,Z1,Z3,Jj,Jk,Jq,Jr,Jv,Jx,J1,J2,K0,K1,K2,K8,K9,Ue,Uf,Ug,Ul,Uq,Wf,Wh,Wj,Wp,Wq,Hh,Hi,Hk,Hl,Ho,Hp,Hq,Hr,Hs,Ht,Hu,Hv,Hw,Ng,Nm,No,Nq,Nx,Nz,N0,Be,Bi,VO,ze4.eq_1,zhF.eq_1,zfh.eq_1,zhh.eq_1,gJ.eq_1,uz,List.length_cons,hln,n3,n4,n5,n6,n7,tk0])))
end
end Go.Proofs.YthcnhibjddomdaaGreat
namespace Go.Proofs.YthcnhibjddomdaaGreat
section
open Go
theorem zsx {s:Ses} (hs:yj s=true) (l:List (Int×Int)) (lf:Bool):(jI s l lf).q=(cpQ s.q).filter fun x=> !(decide (0≤x.1)&&VY l 0 x.1.toNat):=by
 rw [zbX hs]
 have e:(Nj s l lf).q=cpQ s.q:=zjk (zZ hs).2.2.1
 show List.filter _ (Nj s l lf).q=_
 rw [e];rfl
theorem KG {l:List (Int×Int)} (hl:y5 l=true) {n:Nat} (h:n<9):VY l 0 n=decide (zg l n=0):=by
 rw [zsR l h]
 cases ht:zK l n with
 | true=>have:=(VP hl n).1 ht;simp [this]
 | false=>
  have:¬ zg l n≠0:=fun h=>by have:=(VP hl n).2 h;rw [ht] at this;cases this
  have:=Decidable.not_not.1 this
  simp [this]
theorem zjo {s:Ses} (hs:yj s=true) {t:Pc} (ht:t ∈ s.q):1≤t.1∧t.1≤8∧zg s.mem t.1≠0:=by
 obtain ⟨g1,g2,g3,g4,g5,g6,g7,g8,g9⟩:=zZ hs
 have:=zDr g3 ht
 exact ⟨this.1,this.2.1,(VP g1 _).1 ((KN s t).1 (g9 t ht)).1⟩
theorem zFz {s:Ses} (hs:yj s=true) {j:Nat} (h1:1≤j) (h8:j≤8) (lf:Bool):(jI s (uT s.mem j 0) lf).q=(cpQ s.q).filter fun t=> !decide (t.1=(j:Int)):=by
 have g1:=(zZ hs).1
 have m1:=jU g1 (id:=(j:Int)) (r:=0) (.inl rfl)
 rw [zsx hs]
 refine List.filter_congr fun t ht=> ?_
 obtain ⟨y,hy,rfl⟩:=List.mem_map.1 ht
 obtain ⟨a,b,c⟩:=zjo hs hy
 have hn:(cp y).1.toNat<9:=by show y.1.toNat<9;omega
 rw [KG m1 hn]
 have hc:(((cp y).1.toNat:Nat):Int)=y.1:=by show ((y.1.toNat:Nat):Int)=y.1;omega
 rw [hc,Ti _ _ _ y.1 a b]
 have h0:decide (0≤(cp y).1)=true:=by show decide (0≤y.1)=true;simp;omega
 rw [h0,Bool.true_and]
 show (!decide ((if y.1=(j:Int) then 0 else zg s.mem y.1)=0))= !decide (y.1=(j:Int))
 by_cases e:y.1=(j:Int)
 ·simp [e]
 ·rw [if_neg e];simp [e,c]
theorem zE0 {s:Ses} (hs:yj s=true) {l:List (Int×Int)} (hl:y5 l=true) (hr:∀ id,zg s.mem id≠0→zg l id≠0) (lf:Bool):(jI s l lf).q=cpQ s.q:=by
 rw [zsx hs,List.filter_eq_self]
 intro t ht
 obtain ⟨y,hy,rfl⟩:=List.mem_map.1 ht
 obtain ⟨a,b,c⟩:=zjo hs hy
 have hn:(cp y).1.toNat<9:=by show y.1.toNat<9;omega
 have hc:(((cp y).1.toNat:Nat):Int)=y.1:=by show ((y.1.toNat:Nat):Int)=y.1;omega
 rw [KG hl hn,hc]
 simp [hr _ c]
end
end Go.Proofs.YthcnhibjddomdaaGreat
namespace Go.Proofs.YthcnhibjddomdaaGreat
section
open Go
section
variable (G:Nat→Option (List AV))
def uo (l:List (Int×Int)) (r:Int):List Int:=(l.filter fun m=>decide (r=0)||decide (m.2=r)).map (·.1)
theorem zuS (l:List (Int×Int)) (b f:Bool) (r:Int) (hl:l.length<1000000):∀ (m i:Nat) (out:List Int),i+m=l.length→out.length≤i→∀ st,agc 0 [0,1,5,6] st=some ⟨[(0,.data b 2 (mbs l) f),(1,.int .i64 r),(5,.own 0 0 0 out.length out.length),(6,.int .i64 i)],[⟨1,0,true,ints out⟩]⟩→
  aE G FT 0 WL st=some (.exit 0,⟨[(0,.data b 2 (mbs l) f),(1,.int .i64 r),(5,.own 0 0 0 (out++uo (l.drop i) r).length (out++uo (l.drop i) r).length),(6,.int .i64 l.length),(10,.bool false)],[⟨1,0,true,ints (out++uo (l.drop i) r)⟩]⟩):=by
 have hln:=yM l
 intro m
 induction m with
 | zero=>
  intro i out hi ho st hst
  rw [WL,zn,hst]
  have e:l.drop i=[]:=List.drop_eq_nil_of_le (by omega)
  have ei:i=l.length:=by omega
  subst ei
  have e0:decide ((l.length:Int)<l.length)=false:=by simp
  have ew:uo [] r=[]:=rfl
  rw [e,ew,List.append_nil]
  (sym=>simp [Qa,Qd,Qe,Qi,Qr,Qt,Xa,Xy,Ya,Yh,Y9,Za,Zb,Zc,Ze,Zg,Zh,Zt,Zv,Zw,Z3,Jj,Jk,Jm,Jr,Ju,Jv,Be,zn4.eq_1,zmL.eq_1,znR.eq_1,zmS.eq_1,Vd.eq_1,e0,hln])
 | succ m ih=>
  intro i out hi ho st hst
  have hlt:i<l.length:=by omega
  have hlt':(i:Int)<l.length:=by omega
  have e:l.drop i=l[i]::l.drop (i+1):=List.drop_eq_getElem_cons hlt
  have hw:=zH (n:=i) (by omega)
  have hg:=Tf hlt
  have hlo:=zw out
  have b1:(out.length+1) * 8≤140737488355328:=by omega
  have n1:out.length+1≤out.length↔False:=by simp
  have tk:List.take out.length (ints out)=ints out:=List.take_of_length_le (by rw [hlo];exact Nat.le_refl _)
  rw [e]
  rw [WL] at ih
  rw [WL,zn,hst]
  obtain ⟨x,hx0⟩:∃ x,l[i]=x:=⟨_,rfl⟩
  rw [hx0] at hg ⊢
  by_cases hr:r=0
  ·have ih:=ih (i+1) (out++[x.1]) (by omega) (by simp;omega)
   have ew:uo (x::l.drop (i+1)) r=[x.1]++uo (l.drop (i+1)) r:=by simp [uo,hr]
   rw [ew,← List.append_assoc]
   generalize out++[x.1]++uo (l.drop (i+1)) r=R at ih ⊢
   rw [uw,uz,yh] at ih
   have hla:(out++[x.1]).length=out.length+1:=by simp
   rw [hla] at ih
   subst hr
   (sym=>simp [Qc,Qd,Qe,Qf,Qg,Qi,Qj,Qr,Qt,Qu,Qz,Q0,Q2,Q4,Xa,Xp,Xs,Xy,X0,X5,X8,Ya,Yh,Yk,Ys,Yt,Yw,Yy,Y2,Y9,Za,Zb,Zc,Ze,Zg,Zh,Zm,Zn,Zt,Zv,Zw,Zx,Zy,Zz,Z0,Z3,Jb,Jj,Jk,Jn,Jo,Jr,Js,Jv,Kv,Kx,Ua,Ub,Uc,Ud,Ue,Uf,Ug,Hh,Hi,Hk,Ho,Hq,Hs,Hu,Hv,H2,H3,H8,Ng,Nh,Ni,Nk,Nl,No,Nw,Nz,N2,Be,Bg,Ma,Mb,Md,Mf,zn4.eq_1,zmL.eq_1,znR.eq_1,zmS.eq_1,Vd.eq_1,hlt',hg,hln,hlo,hw,b1,n1,tk];tactic=>(
    refine ih _ ?_
    (sym=>simp [Y9,Za,Zb,Ze,Zk,Zl,Zm,Zn,Zv,Zw,Zx,Zy,Zz,Z0,Z3,Us,Ux,U0,U4,U5,U6,Vb,Ve,Vk,Vm,Vo,Vp,Vq,Vr,Vs,Vt,Vu,Vv,Vw,Vx,Vy,Vz,V0,Hh,Hp,Hv,Hw,H1,H5,H6,Nl,No,Nx,hlo])))
  by_cases hx:x.2=r
  ·have ih:=ih (i+1) (out++[x.1]) (by omega) (by simp;omega)
   have ew:uo (x::l.drop (i+1)) r=[x.1]++uo (l.drop (i+1)) r:=by simp [uo,hx]
   rw [ew,← List.append_assoc]
   generalize out++[x.1]++uo (l.drop (i+1)) r=R at ih ⊢
   rw [uw,uz,yh] at ih
   have hla:(out++[x.1]).length=out.length+1:=by simp
   rw [hla] at ih
   (sym=>simp [Qc,Qd,Qe,Qf,Qg,Qi,Qj,Qr,Qt,Qu,Qz,Q0,Q2,Q4,Xa,Xp,Xs,Xy,X0,X5,X8,Ya,Yh,Yk,Ys,Yt,Yw,Yy,Y2,Y9,Za,Zb,Zc,Ze,Zg,Zh,Zm,Zn,Zt,Zv,Zw,Zx,Zy,Zz,Z0,Z3,Jb,Jj,Jk,Jn,Jo,Jr,Js,Jv,Kv,Kx,Ua,Ub,Uc,Ud,Ue,Uf,Ug,Hh,Hi,Hk,Ho,Hq,Hr,Hs,Hu,Hv,H2,H3,H8,Ng,Nh,Ni,Nk,Nl,Nm,No,Nx,Nz,N2,Be,Bg,Ma,Mb,Md,Mf,zn4.eq_1,zmL.eq_1,znR.eq_1,zmS.eq_1,Vd.eq_1,hlt',hg,hln,hlo,hw,b1,n1,tk,hr,hx];tactic=>(
    refine ih _ ?_
    (sym=>simp [Y9,Za,Zb,Ze,Zk,Zl,Zm,Zn,Zv,Zw,Zx,Zy,Zz,Z0,Z3,Us,Ux,U0,U4,U5,U6,Vb,Ve,Vk,Vm,Vo,Vp,Vq,Vr,Vs,Vt,Vu,Vv,Vw,Vx,Vy,Vz,V0,Hh,Hp,Hv,Hw,H1,H5,H6,Nl,No,Nx,hlo])))
  ·have ih:=ih (i+1) out (by omega) (by omega)
   have ew:uo (x::l.drop (i+1)) r=uo (l.drop (i+1)) r:=by simp [uo,hx,hr]
   rw [ew]
   generalize out++uo (l.drop (i+1)) r=R at ih ⊢
   (sym=>simp [Qc,Qd,Qe,Qf,Qg,Qi,Qj,Qr,Qt,Qu,Q4,Xa,Xp,Xs,Xy,X5,X8,Ya,Yh,Ys,Yt,Yw,Yy,Y9,Za,Zb,Zc,Ze,Zg,Zh,Zt,Zv,Zw,Z3,Jb,Jj,Jk,Jn,Jo,Jr,Js,Jv,Hh,Hr,Hs,Ni,Nk,Nl,Nm,Nx,Be,Ma,Mb,Md,Mf,zn4.eq_1,zmL.eq_1,znR.eq_1,zmS.eq_1,Vd.eq_1,hlt',hg,hln,hlo,hw,hr,hx];tactic=>(
    refine ih _ ?_
    (sym=>simp [Y9,Za,Zb,Ze,Zk,Zl,Zm,Zn,Zv,Zw,Zx,Zy,Zz,Z0,Z3,Us,Ux,U0,U4,U5,U6,Vb,Ve,Vk,Vm,Vo,Vp,Vq,Vr,Vs,Vt,Vu,Vv,Vw,Vx,Vy,Vz,V0,Hh,Hp,Hv,Hw,H1,H5,H6,Nl,No,Nx,hlo])))
theorem zwq (l:List (Int×Int)) (b f:Bool) (r:Int) (hl:l.length<1000000):aP G FT Lh [.data b 2 (mbs l) f,.int .i64 r]=some (.data false 1 (ints (uo l r)) false):=by
 have key:=zuS G l b f r hl l.length 0 [] (by omega) (by simp) ⟨[(0,.data b 2 (mbs l) f),(1,.int .i64 r),(5,.own 0 0 0 0 0),(6,.int .i64 0)],[⟨1,0,true,[]⟩]⟩ (by rw [yh];(sym=>simp [Y9,Za,Zb,Ze,Zk,Zl,Zm,Zn,Zv,Zw,Zx,Zy,Zz,Z0,Z3,Us,Ux,U0,U4,U5,U6,Vb,Ve,Vk,Vm,Vo,Vp,Vq,Vr,Vs,Vt,Vu,Vv,Vw,Vx,Vy,Vz,V0,Hh,Hp,Hv,Hw,H1,H5,H6,Nl,No,Nx,Bh]))
 rw [List.drop_zero,List.nil_append] at key
 have hlo:=zw (uo l r)
 have tk:List.take (uo l r).length (ints (uo l r))=ints (uo l r):=List.take_of_length_le (by omega)
 unfold aP
 rw [zid]
 (sym=>simp [Qb,Qd,Qe,Qi,Qj,Qr,Qs,Y1,Y5,Y7,Y9,Za,Zb,Zc,Ze,Zg,Zh,Zi,Zj,Zk,Zl,Zm,Zr,Zs,Zt,Zu,Zv,Zw,Zx,Zy,Zz,Z0,Jj,Jk,Jn,Jq,Jv,Jx,Wf,Hh,Hs,Hv,H8,Ng,Nz,Be,zDf.eq_1,zDb.eq_1,zD6.eq_1,zEu.eq_1,Rv.eq_1,key,hlo,tk])
theorem zvA (l:List (Int×Int)):uo l 0=idsL l:=by
 unfold uo idsL
 have:(fun m:Int×Int=>decide ((0:Int)=0)||decide (m.2=0))=fun _=>true:=by funext m;simp
 rw [this,List.filter_eq_self.2 (fun _ _=>rfl)]
theorem zu9 (l:List (Int×Int)):uo l 2=zW l:=by
 unfold uo zW
 have:(fun m:Int×Int=>decide ((2:Int)=0)||decide (m.2=2))=fun m=>decide (m.2=2):=by funext m;simp
 rw [this]
def sdv (w:Nat→Int×Int) (sd:Nat) (id:Int):Int:=if sd=0 then (w id.toNat).1 else (w id.toNat).2
def KI (w:Nat→Int×Int) (sd:Nat) (n id:Int):Int:=if 0<sdv w sd id∧sdv w sd id<n then sdv w sd id else n
theorem zBN (w:Nat→Int×Int) (sd:Nat) (hsd:sd=0∨sd=1) (ids:List Int) (hid:∀ x ∈ ids,1≤x∧x≤8) (b f:Bool) (hl:ids.length<1000000):∀ (m i:Nat) (n:Int),i+m=ids.length→
  aE G FT 0 Um ⟨[(1,.data b 1 (ints ids) f),(2,.int .i64 sd),(4,.ptr 0 0 0 0),(9,.int .i64 n),(10,.int .i64 i)],[⟨18,0,true,[zF w]⟩]⟩=
   some (.exit 0,⟨[(1,.data b 1 (ints ids) f),(2,.int .i64 sd),(4,.ptr 0 0 0 0),(9,.int .i64 ((ids.drop i).foldl (KI w sd) n)),(10,.int .i64 ids.length),(15,.bool false)],[⟨18,0,true,[zF w]⟩]⟩):=by
 have hln:=zw ids
 have cl:=Tg w
 intro m
 induction m with
 | zero=>
  intro i n hi
  rw [Um,zn]
  obtain rfl:i=ids.length:=by omega
  rw [List.drop_length,List.foldl_nil]
  have e0:decide ((ids.length:Int)<ids.length)=false:=by simp
  (sym=>simp [Qa,Qd,Qe,Qi,Qr,Qt,Xa,Xy,Ya,Yh,Y9,Za,Zb,Zc,Ze,Zg,Zh,Zk,Zl,Zm,Zn,Zt,Zv,Zw,Zx,Zy,Zz,Z0,Z3,Jj,Jk,Jm,Jr,Ju,Jv,Ut,Ux,U0,U4,U5,U7,Vb,Ve,Vk,Vm,Vo,Vp,Vq,Vr,Vs,Vt,Vu,Vv,Vw,Vx,Vy,Vz,V0,Hh,Hp,Hv,Hw,H1,H5,H6,Nl,No,Nx,Be,zdU.eq_1,zdw.eq_1,zdx.eq_1,zdR.eq_1,uA.eq_1,e0,hln])
 | succ m ih=>
  intro i n hi
  have hlt:i<ids.length:=by omega
  have hlt':(i:Int)<ids.length:=by omega
  have e:ids.drop i=ids[i]::ids.drop (i+1):=List.drop_eq_getElem_cons hlt
  have hw:=zH (n:=i) (by omega)
  have hg:=ints_at hlt
  obtain ⟨x1,x8⟩:=hid _ (List.getElem_mem hlt)
  have ih:=ih (i+1) (KI w sd n ids[i]) (by omega)
  rw [e,List.foldl_cons,← ih]
  generalize ids[i]=x at *
  have p1:(0:Int)<x:=by omega
  have p2:x<9:=by omega
  have p3:(0:Int)≤x:=by omega
  have h9:x.toNat<9:=by omega
  have c0:=zB2 w h9
  have c1:=zB4 w h9
  have q1:x.toNat * 2<18:=by omega
  have q2:x.toNat * 2+1<18:=by omega
  rw [Um]
  conv=>lhs;rw [zn]
  rcases hsd with rfl | rfl
  ·have ev:sdv w 0 x=(w x.toNat).1:=rfl
   unfold KI
   rw [ev]
   generalize (w x.toNat).1=v at *
   by_cases h1:0<v
   ·by_cases h2:v<n
    ·rw [if_pos ⟨h1,h2⟩]
     (sym=>simp [Qc,Qd,Qe,Qf,Qg,Qi,Qj,Qr,Qt,Qu,Q4,Xa,Xs,Xt,Xy,X5,Ya,Yc,Yh,Yr,Ys,Yt,Yy,Yz,Y9,Za,Zb,Zc,Ze,Zg,Zh,Zk,Zl,Zm,Zn,Zt,Zv,Zw,Zx,Zy,Zz,Z0,Z3,Ja,Jj,Jk,Jn,Jo,Jr,Js,Jv,Ut,Ux,U0,U4,U5,U7,Vb,Ve,Vk,Vm,Vo,Vp,Vq,Vr,Vs,Vt,Vu,Vv,Vw,Vx,Vy,Vz,V0,Hh,Hp,Hv,Hw,H1,H5,H6,H8,H9,Ni,Nk,Nl,No,Nx,Nz,Be,Bh,Bi,Ma,Mb,Md,Mf,zdU.eq_1,zdw.eq_1,zdx.eq_1,zdR.eq_1,uA.eq_1,hlt',hg,hln,hw,p1,p2,p3,c0,c1,q1,q2,cl,h1,h2])
    ·rw [if_neg (fun h=>h2 h.2)]
     (sym=>simp [Qc,Qd,Qe,Qf,Qg,Qi,Qj,Qr,Qt,Qu,Q4,Xa,Xs,Xt,Xy,X5,Ya,Yc,Yh,Yr,Ys,Yt,Yy,Yz,Y9,Za,Zb,Zc,Ze,Zg,Zh,Zk,Zl,Zm,Zn,Zt,Zv,Zw,Zx,Zy,Zz,Z0,Z3,Ja,Jj,Jk,Jn,Jo,Jr,Js,Jv,Ut,Ux,U0,U4,U5,U7,Vb,Ve,Vk,Vm,Vo,Vp,Vq,Vr,Vs,Vt,Vu,Vv,Vw,Vx,Vy,Vz,V0,Hh,Hp,Hv,Hw,H1,H5,H6,H8,H9,Ni,Nk,Nl,Nm,No,Nx,Nz,Be,Bh,Bi,Ma,Mb,Md,Mf,zdU.eq_1,zdw.eq_1,zdx.eq_1,zdR.eq_1,uA.eq_1,hlt',hg,hln,hw,p1,p2,p3,c0,c1,q1,q2,cl,h1,h2])
   ·rw [if_neg (fun h=>h1 h.1)]
    (sym=>simp [Qc,Qd,Qe,Qf,Qg,Qi,Qj,Qr,Qt,Qu,Q4,Xa,Xs,Xt,Xy,X5,Ya,Yc,Yh,Yr,Ys,Yt,Yy,Yz,Y9,Za,Zb,Zc,Ze,Zg,Zh,Zk,Zl,Zm,Zn,Zt,Zv,Zw,Zx,Zy,Zz,Z0,Z3,Ja,Jj,Jk,Jn,Jo,Jr,Js,Jv,Ut,Ux,U0,U4,U5,U7,Vb,Ve,Vk,Vm,Vo,Vp,Vq,Vr,Vs,Vt,Vu,Vv,Vw,Vx,Vy,Vz,V0,Hh,Hp,Hv,Hw,H1,H5,H6,H8,H9,Ni,Nk,Nl,Nm,No,Nx,Nz,Be,Bh,Bi,Ma,Mb,Md,Mf,zdU.eq_1,zdw.eq_1,zdx.eq_1,zdR.eq_1,uA.eq_1,hlt',hg,hln,hw,p1,p2,p3,c0,c1,q1,q2,cl,h1])
  ·have ev:sdv w 1 x=(w x.toNat).2:=rfl
   unfold KI
   rw [ev]
   generalize (w x.toNat).2=v at *
   by_cases h1:0<v
   ·by_cases h2:v<n
    ·rw [if_pos ⟨h1,h2⟩]
     (sym=>simp [Qc,Qd,Qe,Qf,Qg,Qi,Qj,Qr,Qt,Qu,Q4,Xa,Xs,Xt,Xy,X5,Ya,Yc,Yh,Yr,Ys,Yt,Yy,Yz,Y9,Za,Zb,Zc,Ze,Zg,Zh,Zk,Zl,Zm,Zn,Zt,Zv,Zw,Zx,Zy,Zz,Z0,Z3,Ja,Jj,Jk,Jn,Jo,Jr,Js,Jv,Ut,Ux,U0,U4,U5,U7,Vb,Ve,Vk,Vm,Vo,Vp,Vq,Vr,Vs,Vt,Vu,Vv,Vw,Vx,Vy,Vz,V0,Hh,Hp,Hv,Hw,H1,H5,H6,H8,Ni,Nk,Nl,No,Nx,Nz,Be,Bh,Bi,Ma,Mb,Md,Mf,zdU.eq_1,zdw.eq_1,zdx.eq_1,zdR.eq_1,uA.eq_1,hlt',hg,hln,hw,p1,p2,p3,c0,c1,q1,q2,cl,h1,h2])
    ·rw [if_neg (fun h=>h2 h.2)]
     (sym=>simp [Qc,Qd,Qe,Qf,Qg,Qi,Qj,Qr,Qt,Qu,Q4,Xa,Xs,Xt,Xy,X5,Ya,Yc,Yh,Yr,Ys,Yt,Yy,Yz,Y9,Za,Zb,Zc,Ze,Zg,Zh,Zk,Zl,Zm,Zn,Zt,Zv,Zw,Zx,Zy,Zz,Z0,Z3,Ja,Jj,Jk,Jn,Jo,Jr,Js,Jv,Ut,Ux,U0,U4,U5,U7,Vb,Ve,Vk,Vm,Vo,Vp,Vq,Vr,Vs,Vt,Vu,Vv,Vw,Vx,Vy,Vz,V0,Hh,Hp,Hv,Hw,H1,H5,H6,H8,Ni,Nk,Nl,Nm,No,Nx,Nz,Be,Bh,Bi,Ma,Mb,Md,Mf,zdU.eq_1,zdw.eq_1,zdx.eq_1,zdR.eq_1,uA.eq_1,hlt',hg,hln,hw,p1,p2,p3,c0,c1,q1,q2,cl,h1,h2])
   ·rw [if_neg (fun h=>h1 h.1)]
    (sym=>simp [Qc,Qd,Qe,Qf,Qg,Qi,Qj,Qr,Qt,Qu,Q4,Xa,Xs,Xt,Xy,X5,Ya,Yc,Yh,Yr,Ys,Yt,Yy,Yz,Y9,Za,Zb,Zc,Ze,Zg,Zh,Zk,Zl,Zm,Zn,Zt,Zv,Zw,Zx,Zy,Zz,Z0,Z3,Ja,Jj,Jk,Jn,Jo,Jr,Js,Jv,Ut,Ux,U0,U4,U5,U7,Vb,Ve,Vk,Vm,Vo,Vp,Vq,Vr,Vs,Vt,Vu,Vv,Vw,Vx,Vy,Vz,V0,Hh,Hp,Hv,Hw,H1,H5,H6,H8,Ni,Nk,Nl,Nm,No,Nx,Nz,Be,Bh,Bi,Ma,Mb,Md,Mf,zdU.eq_1,zdw.eq_1,zdx.eq_1,zdR.eq_1,uA.eq_1,hlt',hg,hln,hw,p1,p2,p3,c0,c1,q1,q2,cl,h1])
theorem zGk (w:Nat→Int×Int) (sd:Nat) (hsd:sd=0∨sd=1) (ids:List Int) (hid:∀ x ∈ ids,1≤x∧x≤8) (b f:Bool) (hl:ids.length<1000000) (n:Int):aP G FT Rl [.agg (zF w),.data b 1 (ints ids) f,.int .i64 sd,.int .i64 n]=some (.int .i64 (ids.foldl (KI w sd) n)):=by
 have key:=zBN G w sd hsd ids hid b f hl ids.length 0 n (by omega)
 rw [List.drop_zero] at key
 simp only [Int.natCast_zero] at key
 have cl:=Tg w
 have cs:=zca w
 unfold aP
 rw [zd9]
 generalize zF w=CW at *
 (sym=>simp [Qb,Qd,Qe,Qi,Qj,Qr,Qw,Yj,Y1,Y5,Y7,Y9,Za,Zb,Zc,Ze,Zg,Zh,Zi,Zj,Zk,Zl,Zm,Zr,Zs,Zt,Zu,Zv,Zw,Jj,Jk,Jn,Jq,Jv,Jx,Wj,Hv,Be,zEj.eq_1,zEg.eq_1,zEh.eq_1,zEt.eq_1,UQ.eq_1,key,cl,cs])
def TG (w:Nat→Int×Int) (ids:List Int) (s:Bool):Bool:=s||ids.any fun id=>decide (0<(w id.toNat).1)
theorem zBY (w:Nat→Int×Int) (l0 l1:Int) (ids:List Int) (hid:∀ x ∈ ids,1≤x∧x≤8) (b f:Bool) (hl:ids.length<1000000):∀ (m i:Nat) (s:Bool),i+m=ids.length→
  aE G FT 0 VS ⟨[(1,.data b 1 (ints ids) f),(3,.ptr 0 0 0 0),(5,.ptr 1 0 0 0),(6,.ptr 2 0 0 0),(7,.bool s),(8,.int .i64 i)],[⟨18,0,true,[zF w]⟩,⟨2,0,true,[[.int .i64 l0,.int .i64 l1]]⟩,⟨2,0,true,[[.int .i64 0,.int .i64 0]]⟩]⟩=
   some (.exit 0,⟨[(1,.data b 1 (ints ids) f),(3,.ptr 0 0 0 0),(5,.ptr 1 0 0 0),(6,.ptr 2 0 0 0),(7,.bool (TG w (ids.drop i) s)),(8,.int .i64 ids.length),(12,.bool false)],[⟨18,0,true,[zF w]⟩,⟨2,0,true,[[.int .i64 l0,.int .i64 l1]]⟩,⟨2,0,true,[[.int .i64 0,.int .i64 0]]⟩]⟩):=by
 have hln:=zw ids
 have cl:=Tg w
 intro m
 induction m with
 | zero=>
  intro i s hi
  rw [VS,zn]
  obtain rfl:i=ids.length:=by omega
  rw [List.drop_length,TG,List.any_nil,Bool.or_false]
  have e0:decide ((ids.length:Int)<ids.length)=false:=by simp
  (sym=>simp [Qa,Qd,Qe,Qi,Qr,Qt,Xa,Xy,Ya,Yh,Y9,Za,Zb,Zc,Ze,Zg,Zh,Zk,Zl,Zm,Zn,Zt,Zv,Zw,Zx,Zy,Zz,Z0,Z3,Jj,Jk,Jm,Jr,Ju,Jv,Ut,Ux,Uy,U0,U4,U5,U7,Vb,Vc,Ve,Vk,Vm,Vo,Vp,Vq,Vr,Vs,Vt,Vu,Vv,Vw,Vx,Vy,Vz,V0,Hh,Hi,Hp,Hu,Hv,Hw,H1,H4,H5,H6,Nl,No,Nu,Nx,Be,zsG.eq_1,zto.eq_1,zs7.eq_1,zsY.eq_1,VM.eq_1,e0,hln])
 | succ m ih=>
  intro i s hi
  have hlt:i<ids.length:=by omega
  have hlt':(i:Int)<ids.length:=by omega
  have e:ids.drop i=ids[i]::ids.drop (i+1):=List.drop_eq_getElem_cons hlt
  have hw:=zH (n:=i) (by omega)
  have hg:=ints_at hlt
  obtain ⟨x1,x8⟩:=hid _ (List.getElem_mem hlt)
  have ih:=ih (i+1) (s||decide (0<(w ids[i].toNat).1)) (by omega)
  have et:TG w (ids[i]::ids.drop (i+1)) s=TG w (ids.drop (i+1)) (s||decide (0<(w ids[i].toNat).1)):=by rw [TG,TG,List.any_cons,Bool.or_assoc]
  rw [e,et,← ih]
  generalize ids[i]=x at *
  have p1:(0:Int)<x:=by omega
  have p2:x<9:=by omega
  have p3:(0:Int)≤x:=by omega
  have h9:x.toNat<9:=by omega
  have c0:=zB2 w h9
  have c1:=zB4 w h9
  have q1:x.toNat * 2<18:=by omega
  rw [VS]
  conv=>lhs;rw [zn]
  generalize (w x.toNat).1=v at *
  by_cases h1:0<v
  ·have h2:decide (0<v)=true:=decide_eq_true h1
   rw [h2,Bool.or_true]
   (sym=>simp [Qc,Qd,Qe,Qf,Qg,Qi,Qj,Qr,Qt,Qu,Q4,Xa,Xs,Xt,Xy,X5,Ya,Yc,Yh,Yr,Ys,Yt,Yy,Yz,Y9,Za,Zb,Zc,Ze,Zg,Zh,Zk,Zl,Zm,Zn,Zt,Zv,Zw,Zx,Zy,Zz,Z0,Z3,Ja,Jj,Jk,Jn,Jo,Jr,Js,Jv,Ut,Ux,Uy,U0,U4,U5,U7,Vb,Vc,Ve,Vk,Vm,Vo,Vp,Vq,Vr,Vs,Vt,Vu,Vv,Vw,Vx,Vy,Vz,V0,Hh,Hi,Hp,Hu,Hv,Hw,H1,H4,H5,H6,H8,H9,Ni,Nk,Nl,No,Nu,Nx,Nz,Be,Bh,Bi,Ma,Mb,Md,Mf,zsG.eq_1,zto.eq_1,zs7.eq_1,zsY.eq_1,VM.eq_1,hlt',hg,hln,hw,p1,p2,p3,c0,q1,cl,h1])
  ·have h2:decide (0<v)=false:=decide_eq_false h1
   rw [h2,Bool.or_false]
   (sym=>simp [Qc,Qd,Qe,Qf,Qg,Qi,Qj,Qr,Qt,Qu,Q4,Xa,Xs,Xt,Xy,X5,Ya,Yc,Yh,Yr,Ys,Yt,Yy,Yz,Y9,Za,Zb,Zc,Ze,Zg,Zh,Zk,Zl,Zm,Zn,Zt,Zv,Zw,Zx,Zy,Zz,Z0,Z3,Ja,Jj,Jk,Jn,Jo,Jr,Js,Jv,Ut,Ux,Uy,U0,U4,U5,U7,Vb,Vc,Ve,Vk,Vm,Vo,Vp,Vq,Vr,Vs,Vt,Vu,Vv,Vw,Vx,Vy,Vz,V0,Hh,Hi,Hp,Hu,Hv,Hw,H1,H4,H5,H6,H8,H9,Ni,Nk,Nl,Nm,No,Nu,Nx,Nz,Be,Bh,Bi,Ma,Mb,Md,Mf,zsG.eq_1,zto.eq_1,zs7.eq_1,zsY.eq_1,VM.eq_1,hlt',hg,hln,hw,p1,p2,p3,c0,q1,cl,h1])
theorem zyN (w:Nat→Int×Int) (hmw:TN w=true) (ids:List Int) (hid:∀ x ∈ ids,1≤x∧x≤8) (b f:Bool) (hl:ids.length<1000000) (l0 l1:Int):aP G FT LW [.agg (zF w),.data b 1 (ints ids) f,.agg [.int .i64 l0,.int .i64 l1]]=
  some (.agg [.int .i64 (if TG w ids false=true then ids.foldl (KI w 0) 24 else l0),.int .i64 (if TG w ids false=true then ids.foldl (KI w 1) 40 else l1)]):=by
 have key:=zBY G w l0 l1 ids hid b f hl ids.length 0 false (by omega)
 rw [List.drop_zero] at key
 simp only [Int.natCast_zero] at key
 have k0:=fun b f=>zGk G w 0 (.inl rfl) ids hid b f hl 24
 have k1:=fun b f=>zGk G w 1 (.inr rfl) ids hid b f hl 40
 have hM:=zml G w
 rw [hmw] at hM
 have cl:=Tg w
 have cs:=zca w
 have cv:=zkn w
 have z0:((0:Nat):Int)=0:=rfl
 have z1:((1:Nat):Int)=1:=rfl
 rw [z0] at k0
 rw [z1] at k1
 have ca:∀ CW:List AV,CW.length=18→CW.take 18=CW∧CW.drop 18=[]:=fun CW h=>⟨List.take_of_length_le (by omega),List.drop_eq_nil_of_le (by omega)⟩
 have c2:=(ca _ cl).1
 have c3:=(ca _ cl).2
 unfold aP
 rw [zen]
 generalize zF w=CW at *
 cases ht:TG w ids false with
 | false=>
  rw [ht] at key
  simp only [Bool.false_eq_true,if_false]
  (sym=>simp [Qb,Qd,Qe,Qf,Qg,Qi,Qj,Qr,Qt,Qu,Qv,Qw,Q4,Q5,Xd,Yj,Yr,Yu,Y1,Y5,Y8,Y9,Za,Zb,Zc,Zd,Ze,Zg,Zh,Zi,Zj,Zk,Zl,Zm,Zn,Zr,Zs,Zt,Zu,Zv,Zw,Zy,Z0,Z1,Z3,Jb,Jj,Jk,Jl,Jn,Jq,Jr,Jv,Jx,J1,J2,Ue,Uf,Ug,Wh,Wj,Wp,Wq,Hh,Hi,Hk,Hl,Ho,Hp,Hq,Hr,Hs,Ht,Hu,Hv,Hw,Hx,No,Nw,Nx,N0,Be,zzR.eq_1,zzx.eq_1,zxv.eq_1,zyi.eq_1,zwY.eq_1,zx1.eq_1,YS.eq_1,key,hM,cl,cs,cv,c2,c3])
 | true=>
  rw [ht] at key
  simp only [if_true]
  (sym=>simp [Qb,Qc,Qd,Qe,Qf,Qg,Qi,Qj,Qm,Qn,Qo,Qr,Qt,Qu,Qv,Qw,Qx,Qy,Q1,Q4,Q5,Xd,Yj,Yk,Yr,Yu,Y1,Y5,Y8,Y9,Za,Zb,Zc,Zd,Ze,Zg,Zh,Zi,Zj,Zk,Zl,Zm,Zn,Zo,Zr,Zs,Zt,Zu,Zv,Zw,Zy,Z0,Z1,Z3,Jb,Jj,Jk,Jn,Jq,Jr,Jv,Jx,J1,J2,K8,K9,Ue,Uf,Ug,V3,V6,V9,Wd,We,Wh,Wj,Wp,Wq,Hh,Hi,Hk,Hl,Ho,Hp,Hq,Hr,Hs,Ht,Hu,Hv,Hw,Hx,No,Nw,Nx,Nz,N0,Be,zzR.eq_1,zzx.eq_1,zxv.eq_1,zyi.eq_1,zwY.eq_1,zx1.eq_1,YS.eq_1,key,hM,k0,k1,cl,cs,cv,c2,c3])
theorem zpk {w:Nat→Int×Int} (hmw:TN w=true) {ids:List Int} (hid:∀ x ∈ ids,1≤x∧x≤8) (l0 l1:Int):(if TG w ids false=true then ids.foldl (KI w 0) 24 else l0)=(gI w ids l0 l1).1∧(if TG w ids false=true then ids.foldl (KI w 1) 40 else l1)=(gI w ids l0 l1).2:=by
 have main:∀ (ids:List Int),(∀ x ∈ ids,1≤x∧x≤8)→∀ (s:Bool) (r c:Int),ids.foldl (stepW w) (s,r,c)=(TG w ids s,ids.foldl (KI w 0) r,ids.foldl (KI w 1) c):=by
  intro ids
  induction ids with
  | nil=>intro _ s r c;simp [TG]
  | cons x ids ih=>
   intro hid s r c
   obtain ⟨x1,x8⟩:=hid x (by simp)
   rw [List.foldl_cons,List.foldl_cons,List.foldl_cons]
   have hk:=zb4 hmw x.toNat (by omega)
   have hm:zcH x=true:=by simp [zcH];omega
   have et:TG w (x::ids) s=TG w ids (s||decide (0<(w x.toNat).1)):=by rw [TG,TG,List.any_cons,Bool.or_assoc]
   rw [et]
   have s1:stepW w (s,r,c) x=if zcH x=true∧¬ ((w x.toNat).1=0∧(w x.toNat).2=0) then (true,min r (w x.toNat).1,min c (w x.toNat).2) else (s,r,c):=rfl
   have l0:KI w 0 r x=if 0<(w x.toNat).1∧(w x.toNat).1<r then (w x.toNat).1 else r:=rfl
   have l1:KI w 1 c x=if 0<(w x.toNat).2∧(w x.toNat).2<c then (w x.toNat).2 else c:=rfl
   rw [s1,l0,l1]
   simp only [okW] at hk
   simp only [Bool.and_eq_true,zeB,WZ,Bool.or_eq_true,decide_eq_true_eq] at hk
   obtain ⟨hk,_⟩:=hk
   by_cases hz:(w x.toNat).1=0∧(w x.toNat).2=0
   ·rw [if_neg (by simp [hz]),if_neg (by omega),if_neg (by omega),ih (fun y hy=>hid y (by simp [hy]))]
    simp [hz.1]
   ·rw [if_pos ⟨hm,hz⟩,ih (fun y hy=>hid y (by simp [hy]))]
    have h1:0<(w x.toNat).1:=by omega
    have h2:0<(w x.toNat).2:=by omega
    have m1:min r (w x.toNat).1=if 0<(w x.toNat).1∧(w x.toNat).1<r then (w x.toNat).1 else r:=by split<;>omega
    have m2:min c (w x.toNat).2=if 0<(w x.toNat).2∧(w x.toNat).2<c then (w x.toNat).2 else c:=by split<;>omega
    rw [← m1,← m2]
    simp [h1,TG]
 unfold gI zht
 rw [main ids hid]
 cases TG w ids false with
 | false=>simp
 | true=>simp [hmw]
end
section
variable (G:Nat→Option (List AV))
theorem zu5 {l:List (Int×Int)} (hm:y5 l=true):∀ x ∈ idsL l,1≤x∧x≤8:=by
 intro x hx
 obtain ⟨m,hm1,rfl⟩:=List.mem_map.1 hx
 have:=Uv l 0 hm _ hm1
 omega
theorem zad (s:Ses) (h:okS s) (h1:y5 s.mem=true) (h2:Yf s.h s.tq=true) (h4:TN s.w=true) (hq:s.tq.length≤900):aP G FT gW [.agg (sC s)]=some (.agg (sC (stS s))):=by
 obtain ⟨hl1,hl2,hl3⟩:=h
 have hIw:=fun b f=>zwq G s.mem b f 2 (by omega)
 have hIa:=fun b f=>zwq G s.mem b f 0 (by omega)
 simp only [zu9,zvA] at hIw hIa
 have hwl:(zW s.mem).length≤1000:=by
  unfold zW;rw [List.length_map];exact Nat.le_trans (List.length_filter_le _ _) hl1
 have hK:=fun b f b2 f2=>zCr G s.h s.tq b f (zW s.mem) b2 f2 (by omega) hq
 obtain ⟨eh,et⟩:=zk7 h1 h2
 unfold zoT at eh et
 have hid:=zu5 h1
 have hLe:=fun b f=>zyN G s.w h4 (idsL s.mem) hid b f (by unfold idsL;rw [List.length_map];omega) s.r s.c
 obtain ⟨l1,l2⟩:=zpk h4 hid s.r s.c
 rw [l1,l2] at hLe
 have hr:=eh
 have htq:=et
 generalize ofT ((allT s.h s.tq).filter fun x=>decide (x ∈ zW s.mem))=K at *
 simp only [NV] at hK
 have t1:=Dm s
 have t2:=zcC s
 have t3:=zdG s
 have t4:=zm0 s
 have t5:=znv s
 have t7:=LC s
 have t8:=zGt s
 have t9:=zEy s
 have u0:=zEb s
 have x0:((tl s).set 18 (.int .i64 (gI s.w (idsL s.mem) s.r s.c).1)).set 19 (.int .i64 (gI s.w (idsL s.mem) s.r s.c).2)=tl (stS s):=rfl
 have y1:((tl s).set 18 (.int .i64 (gI s.w (idsL s.mem) s.r s.c).1)).length=29:=rfl
 have y2:AV.stableL ((tl s).set 18 (.int .i64 (gI s.w (idsL s.mem) s.r s.c).1))=true:=by simp [tl,zF,zP,AV.stableL,AV.stable]
 have x1:=Dm (stS s)
 have x3:=zdG (stS s)
 have x4:=zm0 (stS s)
 have x5:=znv (stS s)
 have x7:=LC (stS s)
 have v1:=zkn s.w
 have eS:sC (stS s)=.data false 2 (mbs s.mem) false::.int .i64 (stS s).h::.data false 1 (ints (stS s).tq) false::.data false 3 (pcs s.q) false::tl (stS s):=rfl
 rw [eS,hr,htq,zj8]
 generalize (gI s.w (idsL s.mem) s.r s.c).1=L1 at *
 generalize (gI s.w (idsL s.mem) s.r s.c).2=L2 at *
 generalize tl (stS s)=T2 at *
 generalize tl s=T at *
 unfold aP
 rw [zc6]
 (sym=>simp [Qb,Qd,Qe,Qi,Qj,Qm,Qn,Qo,Qv,Qw,Qx,Qy,Q1,Q4,Q5,Xp,Xt,Yj,Yk,Yr,Yt,Yu,Yv,Yz,Y1,Y5,Y8,Y9,Za,Zb,Zc,Zd,Ze,Zg,Zh,Zi,Zj,Zk,Zl,Zm,Zn,Zo,Zr,Zs,Zt,Zu,Zv,Zw,Zy,Z0,Z1,Jj,Jk,Jv,Jx,J1,J2,J3,K8,K9,Ue,Uf,Ug,Ul,V3,V6,V9,Wd,We,Wg,Wh,Wj,Wq,Hh,Hi,Hk,Hl,Hn,Ho,Hp,Hr,Hs,Ht,Hu,Hv,Hw,No,Nx,Nz,N0,Be,Bh,Bi,zD4.eq_1,zEe.eq_1,zEl.eq_1,zDD.eq_1,zDe.eq_1,zEk.eq_1,WN.eq_1,hIw,hIa,hK,hLe,t1,t2,t3,t4,t5,t7,t8,t9,u0,v1,x0,y1,y2,x1,x3,x4,x5,x7,zL.eq_1])
def NF (s:Ses) (x:List (Int×Int)×Int):Ses×Int:=if x.2=0 then (stS { s with mem:=x.1,f1:=false },0) else (zS,x.2)
theorem zuG (s:Ses) (h:okS s) (hs:yj s=true) (hq9:s.tq.length≤900) (id r:Int):aP G FT Pj [.agg (sC s),.int .i64 id,.int .i64 r]=some (.tup [.agg (sC (NF s (j3 s.mem id r)).1),.int .i64 (NF s (j3 s.mem id r)).2]):=by
 obtain ⟨h1,h2,h3,h4,h5,h6,h7,h8,h9⟩:=zZ hs
 have hJ:=fun b f=>zBv G s.mem b f id r (by have:=h.1;omega)
 have a1:=zk s
 have a2:=zG s
 have a3:=zu s
 have a4:=vK s
 have a5:=Ib s
 have a6:(sC s).drop 33=[]:=rfl
 have z:=ziq
 have hmay:(j3 s.mem id r).2=0→y5 (j3 s.mem id r).1=true:=by
  unfold j3
  split
  ·rename_i hc
   split
   ·intro _
    have hr:=hc.2.2
    simp only [UE,Bool.or_eq_true,decide_eq_true_eq] at hr
    exact jU h1 (.inr hr)
   ·intro hx;simp at hx
  ·intro hx;simp at hx
 have hlen:(j3 s.mem id r).1.length≤1000:=by
  unfold j3
  split
  ·split
   ·have:=JI s.mem id r;simp only;omega
   ·simp
  ·simp
 generalize j3 s.mem id r=x at *
 obtain ⟨l,e⟩:=x
 simp only at hJ hmay hlen
 unfold aP NF
 rw [zfj]
 by_cases he:e=0
 ·subst he
  have hS:=zad G { s with mem:=l,f1:=false } ⟨hlen,h.2.1,h.2.2⟩ (hmay rfl) h2 h4 hq9
  have m0:(sC s).set 0 (.data false 2 (mbs l) false)=sC { s with mem:=l,f1:=false }:=rfl
  rw [if_pos rfl]
  simp only
  generalize ({ s with mem:=l,f1:=false }:Ses)=s2 at *
  have b1:=zk s2
  have b2:=zG s2
  have b3:=zu s2
  have b4:=vK s2
  have b6:(sC s2).drop 33=[]:=rfl
  have x1:=zk (stS s2)
  have x2:=zG (stS s2)
  have x3:=zu (stS s2)
  have x4:=zm6 (s:=stS s2) ⟨rfl,rfl,rfl⟩
  have x6:(sC (stS s2)).drop 33=[]:=rfl
  generalize stS s2=s3 at *
  (sym=>simp [Qb,Qc,Qd,Qe,Qi,Qj,Qm,Qn,Qo,Qr,Qt,Qv,Qw,Q4,Q5,Xa,Xp,Xw,Xx,X9,Yj,Yr,Yt,Yu,Yv,Y1,Y6,Y7,Y8,Y9,Za,Zb,Zc,Zd,Ze,Zg,Zh,Zi,Zj,Zk,Zl,Zm,Zn,Zo,Zr,Zs,Zt,Zu,Zv,Zw,Zy,Z0,Z1,Z3,Jj,Jk,Jr,Jv,Jx,J1,J2,J6,Ue,Uf,Ug,Ul,V3,V6,V9,Wd,We,Wh,Wi,Wj,Wp,Wq,Hh,Hi,Hk,Hl,Hp,Hr,Hs,Ht,Hu,Hv,Hw,Nl,No,Nw,Nx,N0,Be,zwv.eq_1,zzj.eq_1,zz2.eq_1,zAU.eq_1,zAr.eq_1,zyd.eq_1,VU.eq_1,hJ,hS,m0,a1,a2,a3,a4,a5,a6,b1,b2,b3,b4,b6,x1,x2,x3,x4,x6,List.append_nil,zL.eq_1])
 ·rw [if_neg he]
  simp only [z]
  (sym=>simp [Qb,Qd,Qe,Qi,Qj,Qm,Qn,Qo,Qr,Qt,Qv,Qw,Qx,Q1,Q4,Q5,Xa,Xp,Xw,Xx,X9,Yj,Yr,Yt,Yu,Yv,Y1,Y6,Y7,Y8,Y9,Za,Zb,Zc,Zd,Ze,Zg,Zh,Zi,Zj,Zk,Zl,Zm,Zn,Zo,Zr,Zs,Zt,Zu,Zv,Zw,Zy,Z0,Z1,Jj,Jk,Jl,Jr,Jv,Jx,J1,J2,K8,Ue,Uf,Ug,Ul,V6,V9,Wd,We,Wg,Wh,Wi,Wj,Wp,Wq,Hh,Hi,Hk,Hl,Ho,Hp,Hq,Hr,Hs,Ht,Hu,Hv,Hw,Nm,No,Nx,N0,Be,zwv.eq_1,zzj.eq_1,zz2.eq_1,zAU.eq_1,zAr.eq_1,zyd.eq_1,VU.eq_1,hJ,he,a1,a2,a3,a4,a5,a6,zL.eq_1])
theorem znf (s:Ses) (h:okS s) (hs:yj s=true) (hq9:s.tq.length≤900) (id r:Int):aP G FT TR [.agg (sC s),.int .i64 id,.int .i64 r]=some (.tup [.agg (sC (NF s (yK s.mem id r)).1),.int .i64 (NF s (yK s.mem id r)).2]):=by
 obtain ⟨h1,h2,h3,h4,h5,h6,h7,h8,h9⟩:=zZ hs
 have hJ:=fun b f=>zvC G s.mem b f id r (by have:=h.1;omega)
 have a1:=zk s
 have a2:=zG s
 have a3:=zu s
 have a4:=vK s
 have a5:=Ib s
 have a6:(sC s).drop 33=[]:=rfl
 have z:=ziq
 have hmay:(yK s.mem id r).2=0→y5 (yK s.mem id r).1=true:=by
  unfold yK
  split
  ·rename_i hc
   split
   ·intro _
    have hr:=hc.2
    simp only [UE,Bool.or_eq_true,decide_eq_true_eq] at hr
    exact jU h1 (.inr hr)
   ·intro hx;simp at hx
  ·intro hx;simp at hx
 have hlen:(yK s.mem id r).1.length≤1000:=by
  unfold yK
  split
  ·split
   ·have:=JI s.mem id r;simp only;omega
   ·simp
  ·simp
 generalize yK s.mem id r=x at *
 obtain ⟨l,e⟩:=x
 simp only at hJ hmay hlen
 unfold aP NF
 rw [zcY]
 by_cases he:e=0
 ·subst he
  have hS:=zad G { s with mem:=l,f1:=false } ⟨hlen,h.2.1,h.2.2⟩ (hmay rfl) h2 h4 hq9
  have m0:(sC s).set 0 (.data false 2 (mbs l) false)=sC { s with mem:=l,f1:=false }:=rfl
  rw [if_pos rfl]
  simp only
  generalize ({ s with mem:=l,f1:=false }:Ses)=s2 at *
  have b1:=zk s2
  have b2:=zG s2
  have b3:=zu s2
  have b4:=vK s2
  have b6:(sC s2).drop 33=[]:=rfl
  have x1:=zk (stS s2)
  have x2:=zG (stS s2)
  have x3:=zu (stS s2)
  have x4:=zm6 (s:=stS s2) ⟨rfl,rfl,rfl⟩
  have x6:(sC (stS s2)).drop 33=[]:=rfl
  generalize stS s2=s3 at *
  (sym=>simp [Qb,Qc,Qd,Qe,Qi,Qj,Qm,Qn,Qo,Qr,Qt,Qv,Qw,Q4,Q5,Xa,Xp,Xw,Xx,X9,Yj,Yr,Yt,Yu,Yv,Y1,Y6,Y7,Y8,Y9,Za,Zb,Zc,Zd,Ze,Zg,Zh,Zi,Zj,Zk,Zl,Zm,Zn,Zo,Zr,Zs,Zt,Zu,Zv,Zw,Zy,Z0,Z1,Z3,Jj,Jk,Jr,Jv,Jx,J1,J2,J6,Ue,Uf,Ug,Ul,V3,V6,V9,Wd,We,Wh,Wi,Wj,Wp,Wq,Hh,Hi,Hk,Hl,Hp,Hr,Hs,Ht,Hu,Hv,Hw,Nl,No,Nw,Nx,N0,Be,zxT.eq_1,zyu.eq_1,zze.eq_1,zAT.eq_1,zwm.eq_1,zzQ.eq_1,ZM.eq_1,hJ,hS,m0,a1,a2,a3,a4,a5,a6,b1,b2,b3,b4,b6,x1,x2,x3,x4,x6,List.append_nil,zL.eq_1])
 ·rw [if_neg he]
  simp only [z]
  (sym=>simp [Qb,Qd,Qe,Qi,Qj,Qm,Qn,Qo,Qr,Qt,Qv,Qw,Qx,Q1,Q4,Q5,Xa,Xp,Xw,Xx,X9,Yj,Yr,Yt,Yu,Yv,Y1,Y6,Y7,Y8,Y9,Za,Zb,Zc,Zd,Ze,Zg,Zh,Zi,Zj,Zk,Zl,Zm,Zn,Zo,Zr,Zs,Zt,Zu,Zv,Zw,Zy,Z0,Z1,Jj,Jk,Jl,Jr,Jv,Jx,J1,J2,K8,Ue,Uf,Ug,Ul,V6,V9,Wd,We,Wg,Wh,Wi,Wj,Wp,Wq,Hh,Hi,Hk,Hl,Ho,Hp,Hq,Hr,Hs,Ht,Hu,Hv,Hw,Nm,No,Nx,N0,Be,zxT.eq_1,zyu.eq_1,zze.eq_1,zAT.eq_1,zwm.eq_1,zzQ.eq_1,ZM.eq_1,hJ,he,a1,a2,a3,a4,a5,a6,zL.eq_1])
def zde (s:Ses) (l:List (Int×Int)) (j:Nat):Ses:={ s with mem:=l,f1:=false,w:=fun n=>if n=j then (0,0) else s.w n,k:=fun n=>if n=j then 0 else s.k n,q:=je s.q j,f3:=false }
def zgE (s:Ses) (x:List (Int×Int)×Int) (id:Int):Ses×Int:=if x.2=0 then (stS (zde s x.1 id.toNat),0) else (zS,x.2)
theorem zpO (s:Ses) (h:okS s) (hs:yj s=true) (hq9:s.tq.length≤900) (id:Int):aP G FT Rh [.agg (sC s),.int .i64 id]=some (.tup [.agg (sC (zgE s (u6 s.mem id) id).1),.int .i64 (zgE s (u6 s.mem id) id).2]):=by
 obtain ⟨h1,h2,h3,h4,h5,h6,h7,h8,h9⟩:=zZ hs
 have hJ:=fun b f=>zx0 G s.mem b f id (by have:=h.1;omega)
 have a1:=zk s
 have a2:=zG s
 have a3:=zu s
 have a4:=vK s
 have a5:=Ib s
 have a6:(sC s).drop 33=[]:=rfl
 have z:=ziq
 unfold aP
 rw [zd2]
 unfold u6 at hJ
 unfold zgE u6
 rw [if_pos h1] at hJ ⊢
 cases ht:zK s.mem id with
 | false=>
  simp only [ht,Bool.false_eq_true,if_false] at hJ
  rw [if_neg (by simp)]
  simp only [show ¬ ((6:Int)=0) by decide,if_false]
  simp only [z]
  (sym=>simp [Qb,Qd,Qe,Qi,Qj,Qm,Qn,Qo,Qr,Qt,Qv,Qw,Qx,Q1,Q4,Q5,Xa,Xp,Xw,Xx,X9,Yj,Yr,Yt,Yu,Yv,Y1,Y6,Y7,Y8,Y9,Za,Zb,Zc,Zd,Ze,Zg,Zh,Zi,Zj,Zk,Zl,Zm,Zn,Zo,Zr,Zs,Zt,Zu,Zv,Zw,Zy,Z0,Z1,Z3,Jj,Jk,Jl,Jr,Jv,Jx,J1,J2,K8,Ue,Uf,Ug,Ul,V6,V9,Wd,We,Wg,Wh,Wi,Wj,Wp,Wq,Hh,Hi,Hk,Hl,Ho,Hp,Hq,Hr,Hs,Ht,Hu,Hv,Hw,Nm,No,Nx,N0,Be,zAP.eq_1,zzt.eq_1,zAX.eq_1,zxK.eq_1,zAl.eq_1,zzC.eq_1,zAB.eq_1,zw5.eq_1,zzI.eq_1,YV.eq_1,hJ,a1,a2,a3,a4,a5,a6,zL.eq_1])
 | true=>
  simp only [ht,if_true] at hJ
  rw [if_pos rfl]
  simp only [if_true]
  have hid:idB id=true:=by simp [zK] at ht;exact ht.1.2
  obtain ⟨i1,i8⟩:1≤id∧id≤8:=by simpa [idB] using hid
  obtain ⟨j,hj⟩:∃ j:Nat,id=(j:Int):=⟨id.toNat,by omega⟩
  have hn:id.toNat=j:=by omega
  rw [hn]
  have hj9:j<9:=by omega
  have hj9':(j:Int)<9:=by omega
  have hb:24+j<33:=by omega
  have hb2:4+j * 2+2≤33:=by omega
  have hlm:y5 (uT s.mem id 0)=true:=jU h1 (.inl rfl)
  have hll:=JI s.mem id 0
  generalize uT s.mem id 0=l at *
  have hD:=fun f=>zB8 G s.q f h.2.2 j
  have hwm:TN (zde s l j).w=true:=zeJ fun n hn=>by
   have hw:(zde s l j).w n=if n=j then (0,0) else s.w n:=rfl
   unfold okW
   rw [hw]
   split
   ·simp [zeB]
   ·exact zb4 h4 n hn
  have hqk:okL (zde s l j).q:=zeI h.2.2 (List.length_filter_le _ _) (fun x hx=>(List.mem_filter.1 hx).1)
  have hS:=zad G (zde s l j) ⟨by show l.length≤1000;omega,h.2.1,hqk⟩ hlm h2 hwm hq9
  have m0:(sC s).set 0 (.data false 2 (mbs l) false)=sC { s with mem:=l,f1:=false }:=rfl
  have m1:=zrR { s with mem:=l,f1:=false } hj9
  have m2:=zr4 (zbF { s with mem:=l,f1:=false } j) hj9
  have m3:(sC (zcx (zbF { s with mem:=l,f1:=false } j) j)).set 3 (.data false 3 (pcs (je s.q j)) false)=sC (zde s l j):=rfl
  have m4:(sC (zcx (zbF { s with mem:=l,f1:=false } j) j))[3]? =some (.data false 3 (pcs s.q) s.f3):=rfl
  rw [hj] at hJ ⊢
  generalize ({ s with mem:=l,f1:=false }:Ses)=s2 at *
  have b1:=zk s2
  have b2:=zG s2
  have b3:=zk (zbF s2 j)
  have b4:=zG (zbF s2 j)
  have b5:=zk (zcx (zbF s2 j) j)
  have b6:=zG (zcx (zbF s2 j) j)
  generalize zcx (zbF s2 j) j=s3 at *
  generalize zbF s2 j=s4 at *
  have c1:=zk (zde s l j)
  have c2:=zG (zde s l j)
  have c3:=zu (zde s l j)
  have c4:=vK (zde s l j)
  have c6:(sC (zde s l j)).drop 33=[]:=rfl
  generalize zde s l j=s5 at *
  have x1:=zk (stS s5)
  have x2:=zG (stS s5)
  have x3:=zu (stS s5)
  have x4:=zm6 (s:=stS s5) ⟨rfl,rfl,rfl⟩
  have x6:(sC (stS s5)).drop 33=[]:=rfl
  generalize stS s5=s6 at *
  (sym=>simp [Qb,Qc,Qd,Qe,Qi,Qj,Qm,Qn,Qo,Qr,Qt,Qv,Qw,Qx,Qy,Q1,Q4,Q5,Xa,Xp,Xt,Xw,Xx,X9,Yj,Yk,Yr,Yt,Yu,Yv,Yz,Y1,Y6,Y7,Y8,Y9,Za,Zb,Zc,Zd,Ze,Zg,Zh,Zi,Zj,Zk,Zl,Zm,Zn,Zo,Zr,Zs,Zt,Zu,Zv,Zw,Zy,Z0,Z1,Z3,Jj,Jk,Jr,Jv,Jx,J1,J2,J3,J6,K8,K9,Ue,Uf,Ug,Ul,V3,V6,V9,Wd,We,Wh,Wi,Wj,Wp,Wq,Hh,Hi,Hk,Hl,Ho,Hp,Hr,Hs,Ht,Hu,Hv,Hw,Nc,Ni,Nk,Nl,No,Nw,Nx,Nz,N0,Be,Bh,zAP.eq_1,zzt.eq_1,zAX.eq_1,zxK.eq_1,zAl.eq_1,zzC.eq_1,zAB.eq_1,zw5.eq_1,zzI.eq_1,YV.eq_1,hJ,hD,hS,hj9',hb,hb2,m0,m1,m2,m3,m4,a1,a2,a3,a4,a5,a6,b1,b2,b3,b4,b5,b6,c1,c2,c3,c4,c6,x1,x2,x3,x4,x6,List.append_nil,zL.eq_1])
end
section
variable (G:Nat→Option (List AV))
theorem zCF (d:Dd):aP G FT JQ [.agg (dC d)]=some (.bool (UC d)):=by
 obtain ⟨k,l,r,c,f⟩:=d
 unfold dC UC
 have hl:=oI l
 simp only
 rw [← hl]
 generalize byt l=L at *
 have n1:(0:Int)<L.length↔1≤L.length:=by omega
 have n2:(L.length:Int)≤16↔L.length≤16:=by omega
 have n3:(L.length:Int)=0↔L.length=0:=by omega
 unfold aP DY WZ
 rw [zgB]
 by_cases k1:k=1
 ·subst k1
  rw [if_pos rfl]
  by_cases h1:1≤L.length<;>by_cases h2:L.length≤16<;>try omega
  all_goals by_cases r0:r=0<;>by_cases c0:c=0
  all_goals (sym=>simp [Qb,Qc,Qd,Qe,Qf,Qg,Qi,Qj,Qr,Qt,Qu,Qw,Q4,Xa,Xp,Xy,X8,X9,Yb,Yc,Yh,Yj,Yr,Yt,Yv,Y1,Y5,Y7,Y9,Za,Zb,Zc,Ze,Zg,Zh,Zi,Zj,Zk,Zl,Zm,Zn,Zr,Zs,Zt,Zu,Zv,Zw,Zy,Z0,Z3,Ja,Jb,Jj,Jk,Jl,Jr,Jv,Jx,Ue,Uf,Ug,Ul,Wk,Hh,Hi,Hv,Nl,Nm,No,Nq,Nw,Nx,Be,Dw.eq_1,FN.eq_1,DR.eq_1,FC.eq_1,Dr.eq_1,Dx.eq_1,Dy.eq_1,DK.eq_1,ve.eq_1,n1,n2,h1,h2,r0,c0])
 rw [if_neg k1]
 by_cases k2:k=2
 ·subst k2
  rw [if_pos rfl]
  by_cases r1:1≤r
  ·by_cases r2:r≤1000
   ·by_cases c1:1≤c
    ·by_cases c2:c≤1000
     ·by_cases h3:L.length=0
      ·(sym=>simp [Qb,Qd,Qe,Qf,Qg,Qi,Qj,Qr,Qt,Qu,Qw,Q4,Xa,Xp,Xy,X8,Yb,Yd,Yh,Yj,Yr,Yt,Yv,Y1,Y5,Y7,Y9,Za,Zb,Zc,Ze,Zg,Zh,Zi,Zj,Zk,Zl,Zm,Zn,Zr,Zs,Zt,Zu,Zv,Zw,Zy,Z0,Ja,Jj,Jk,Jl,Jr,Jv,Jx,Ue,Uf,Ug,Ul,Wk,Hh,Hi,Hv,Nl,No,Nx,Be,Bh,Dw.eq_1,FN.eq_1,DR.eq_1,FC.eq_1,Dr.eq_1,Dx.eq_1,Dy.eq_1,DK.eq_1,ve.eq_1,n3,r1,r2,c1,c2,h3])
      ·(sym=>simp [Qb,Qd,Qe,Qf,Qg,Qi,Qj,Qr,Qt,Qu,Qw,Q4,Xa,Xp,Xy,X8,Yb,Yd,Yh,Yj,Yr,Yt,Yv,Y1,Y5,Y7,Y9,Za,Zb,Zc,Ze,Zg,Zh,Zi,Zj,Zk,Zl,Zm,Zn,Zr,Zs,Zt,Zu,Zv,Zw,Zy,Z0,Ja,Jj,Jk,Jl,Jr,Jv,Jx,Ue,Uf,Ug,Ul,Wk,Hh,Hi,Hv,Nl,Nm,No,Nq,Nx,Be,Dw.eq_1,FN.eq_1,DR.eq_1,FC.eq_1,Dr.eq_1,Dx.eq_1,Dy.eq_1,DK.eq_1,ve.eq_1,n3,r1,r2,c1,c2,h3])
     ·(sym=>simp [Qb,Qd,Qe,Qf,Qg,Qi,Qj,Qr,Qt,Qu,Qw,Q4,Xa,Xp,X8,Yb,Yd,Yj,Yr,Yt,Yv,Y1,Y5,Y7,Y9,Za,Zb,Zc,Ze,Zg,Zh,Zi,Zj,Zk,Zl,Zm,Zn,Zr,Zs,Zt,Zu,Zv,Zw,Zy,Z0,Z3,Ja,Jj,Jk,Jl,Jr,Jv,Jx,Ue,Uf,Ug,Ul,Wk,Hh,Hi,Hv,Nl,Nm,No,Nq,Nr,Nx,Be,Dw.eq_1,FN.eq_1,DR.eq_1,FC.eq_1,Dr.eq_1,Dx.eq_1,Dy.eq_1,DK.eq_1,ve.eq_1,n3,r1,r2,c1,c2])
    ·(sym=>simp [Qb,Qd,Qe,Qf,Qg,Qi,Qj,Qr,Qt,Qu,Qw,Q4,Xa,Xp,X8,Yb,Yd,Yj,Yr,Yt,Yv,Y1,Y5,Y7,Y9,Za,Zb,Zc,Ze,Zg,Zh,Zi,Zj,Zk,Zl,Zm,Zn,Zr,Zs,Zt,Zu,Zv,Zw,Zy,Z0,Z3,Ja,Jj,Jk,Jl,Jr,Jv,Jx,Ue,Uf,Ug,Ul,Wk,Hh,Hi,Hv,Nl,Nm,No,Nq,Nr,Nx,Be,Dw.eq_1,FN.eq_1,DR.eq_1,FC.eq_1,Dr.eq_1,Dx.eq_1,Dy.eq_1,DK.eq_1,ve.eq_1,n3,r1,r2,c1])
   ·(sym=>simp [Qb,Qd,Qe,Qf,Qg,Qi,Qj,Qr,Qt,Qu,Qw,Q4,Xa,Xp,X8,Yb,Yd,Yj,Yr,Yt,Yv,Y1,Y5,Y7,Y9,Za,Zb,Zc,Ze,Zg,Zh,Zi,Zj,Zk,Zl,Zm,Zn,Zr,Zs,Zt,Zu,Zv,Zw,Zy,Z0,Z3,Ja,Jj,Jk,Jl,Jr,Jv,Jx,Ue,Uf,Ug,Ul,Wk,Hh,Hi,Hv,Nl,Nm,No,Nq,Nr,Nx,Be,Dw.eq_1,FN.eq_1,DR.eq_1,FC.eq_1,Dr.eq_1,Dx.eq_1,Dy.eq_1,DK.eq_1,ve.eq_1,n3,r1,r2])
  ·(sym=>simp [Qb,Qd,Qe,Qf,Qg,Qi,Qj,Qr,Qt,Qu,Qw,Q4,Xa,Xp,X8,Yd,Yj,Yr,Yt,Yv,Y1,Y5,Y7,Y9,Za,Zb,Zc,Ze,Zg,Zh,Zi,Zj,Zk,Zl,Zm,Zn,Zr,Zs,Zt,Zu,Zv,Zw,Zy,Z0,Z3,Ja,Jj,Jk,Jl,Jr,Jv,Jx,Ue,Uf,Ug,Ul,Wk,Hh,Hi,Hv,Nl,Nm,No,Nr,Nx,Be,Dw.eq_1,FN.eq_1,DR.eq_1,FC.eq_1,Dr.eq_1,Dx.eq_1,Dy.eq_1,DK.eq_1,ve.eq_1,n3,r1])
 rw [if_neg k2]
 by_cases k3:k=3
 ·subst k3
  rw [if_pos rfl]
  by_cases h3:L.length=0
  all_goals by_cases r0:r=0<;>by_cases c0:c=0
  all_goals (sym=>simp [Qb,Qc,Qd,Qe,Qf,Qg,Qi,Qj,Qr,Qt,Qu,Qw,Q4,Xa,Xp,Xy,X8,X9,Yh,Yj,Yr,Yt,Yv,Y1,Y5,Y7,Y9,Za,Zb,Zc,Ze,Zg,Zh,Zi,Zj,Zk,Zl,Zm,Zn,Zr,Zs,Zt,Zu,Zv,Zw,Zy,Z0,Z3,Ja,Jb,Jj,Jk,Jl,Jr,Jv,Jx,Ue,Uf,Ug,Ul,Wk,Hh,Hi,Hv,Nl,Nm,No,Nq,Nw,Nx,Be,Bh,Dw.eq_1,FN.eq_1,DR.eq_1,FC.eq_1,Dr.eq_1,Dx.eq_1,Dy.eq_1,DK.eq_1,ve.eq_1,n3,h3,r0,c0])
 rw [if_neg k3]
 by_cases k4:k=4
 ·subst k4
  rw [if_pos rfl]
  by_cases h3:L.length=0
  all_goals by_cases r0:r=0<;>by_cases c0:c=0
  all_goals (sym=>simp [Qb,Qc,Qd,Qe,Qf,Qg,Qi,Qj,Qr,Qt,Qu,Qw,Q4,Xa,Xp,Xy,X8,X9,Yh,Yj,Yr,Yt,Yv,Y1,Y5,Y7,Y9,Za,Zb,Zc,Ze,Zg,Zh,Zi,Zj,Zk,Zl,Zm,Zn,Zr,Zs,Zt,Zu,Zv,Zw,Zy,Z0,Z3,Ja,Jb,Jj,Jk,Jl,Jr,Jv,Jx,Ue,Uf,Ug,Ul,Wk,Hh,Hi,Hv,Nl,Nm,No,Nq,Nw,Nx,Be,Bh,Dw.eq_1,FN.eq_1,DR.eq_1,FC.eq_1,Dr.eq_1,Dx.eq_1,Dy.eq_1,DK.eq_1,ve.eq_1,n3,h3,r0,c0])
 rw [if_neg k4]
 by_cases r0:r=0<;>by_cases c0:c=0
 all_goals (sym=>simp [Qb,Qc,Qd,Qe,Qf,Qg,Qi,Qj,Qr,Qt,Qu,Qw,Q4,Xa,Xp,X8,X9,Yj,Yr,Yt,Yv,Y1,Y5,Y7,Y9,Za,Zb,Zc,Ze,Zg,Zh,Zi,Zj,Zk,Zl,Zm,Zn,Zr,Zs,Zt,Zu,Zv,Zw,Zy,Z0,Z3,Ja,Jb,Jj,Jk,Jl,Jr,Jv,Jx,Ue,Uf,Ug,Ul,Wk,Hh,Hi,Hv,Nl,Nm,No,Nw,Nx,Be,Dw.eq_1,FN.eq_1,DR.eq_1,FC.eq_1,Dr.eq_1,Dx.eq_1,Dy.eq_1,DK.eq_1,ve.eq_1,k1,k2,k3,k4,r0,c0])
def nf (s:Ses):Ses:={ s with f1:=false,f2:=false,f3:=false }
def JV (s:Ses) (n:Int):Ses×List Pc:=(nf (NU s (s.q.drop (YX s.q n))),s.q.take (YX s.q n))
theorem zok (s:Ses) (h:List zf):yc h (sC s)=some (sC (nf s)):=by
 simp [sC,nf,zF,zP,yc,yn]
theorem zqg (s:Ses) (h:okS s) (n:Int):aP G FT Rj [.agg (sC s),.int .i64 n]=some (.tup [.agg (sC (JV s n).1),.data false 3 (pcs (JV s n).2) false]):=by
 have hF:=fun b f=>zxH G s.q b f n (fun k _ b f=>zlD G (s.q.take k) b f (zeI h.2.2 (by simp;omega) (fun x hx=>List.mem_of_mem_take hx))) h.2.2.1
 have a1:=zk s
 have a2:=zG s
 have a3:=zu s
 have a4:=vK s
 have a5:=zer s
 have a6:(sC s).drop 33=[]:=rfl
 have hk:=zeR s.q n
 unfold aP JV
 rw [zey]
 generalize YX s.q n=k at *
 have hln:=yB s.q
 have e1:List.take k (pcs s.q)=pcs (s.q.take k):=by simp [pcs,List.map_take]
 have e2:List.drop k (pcs s.q)=pcs (s.q.drop k):=by simp [pcs,List.map_drop]
 have e3:List.take s.q.length (pcs s.q)=pcs s.q:=List.take_of_length_le (by omega)
 have tn:((k:Nat):Int).toNat=k:=by omega
 have c2:(0:Int)≤(k:Nat):=by omega
 have c3:((k:Nat):Int)≤s.q.length:=by omega
 have q:∀ f,(sC s).set 3 (.data false 3 (pcs (s.q.drop k)) f)=sC { s with q:=s.q.drop k,f3:=f }:=fun f=>rfl
 have z:∀ f,nf { s with q:=s.q.drop k,f3:=f }=nf (NU s (s.q.drop k)):=fun f=>rfl
 have x1:=fun f=>zk { s with q:=s.q.drop k,f3:=f }
 have x2:=fun f=>zG { s with q:=s.q.drop k,f3:=f }
 have x3:=fun f=>zu { s with q:=s.q.drop k,f3:=f }
 have x4:=fun f h=>zok { s with q:=s.q.drop k,f3:=f } h
 have x6:∀ f,(sC { s with q:=s.q.drop k,f3:=f }).drop 33=[]:=fun f=>rfl
 simp only [z] at x4
 (sym=>simp [Qb,Qd,Qe,Qi,Qj,Qm,Qn,Qo,Qr,Qv,Qw,Q4,Q5,Xl,Xm,Xn,Xp,Yj,Yr,Yt,Yu,Yv,Y1,Y6,Y7,Y8,Y9,Za,Zb,Zc,Zd,Ze,Zg,Zh,Zi,Zj,Zk,Zl,Zm,Zn,Zo,Zr,Zs,Zt,Zu,Zv,Zw,Zy,Z0,Z1,Jj,Jk,Jv,Jx,J1,J2,J6,K0,K1,K3,Ue,Uf,Ug,Ul,V6,V9,Wd,We,Wg,Wh,Wi,Wp,Wq,Hh,Hi,Hk,Hl,Hp,Hr,Hs,Ht,Hu,Hv,Hw,Nf,Ng,Ni,Nk,Nl,No,Nx,Nz,N0,Be,zEs.eq_1,zD0.eq_1,zEv.eq_1,zDI.eq_1,zC8.eq_1,UO.eq_1,hF,hk,hln,e1,e2,e3,tn,c2,c3,q,a1,a2,a3,a4,a5,a6,x1,x2,x3,x4,x6,List.append_nil,zL.eq_1])
def zED (s:Ses) (j:Nat) (n:Int) (d:Dd):Ses:=
 if d.1=1 then if s.h=j∧zV s.q+d.2.1.length≤64 then NU s (cpQ s.q++[((j:Int),n,d.2.1,false)]) else s
 else if d.1=2 then stS (Po s j d.2.2.1 d.2.2.2.1)
 else if d.1=3 then if zg s.mem j=2 then Wm s (ofT (zev s.h s.tq j)).1 (ofT (zev s.h s.tq j)).2 else s
 else Wm s (ofT ((allT s.h s.tq).filter fun x=> !decide (x=(j:Int)))).1 (ofT ((allT s.h s.tq).filter fun x=> !decide (x=(j:Int)))).2
def zaQ (s:Ses) (id n:Int) (d:Dd):Ses×Int:=
 if zg s.mem id=0 then (zS,6)
 else if 1073741824<n∨¬ n=s.k id.toNat+1 then (zS,300)
 else if UC d=true then (nf (zED (YK s id.toNat n) id.toNat n d),0) else (zS,2)
theorem zFZ {q:List Pc} (h:okL q):okL (cpQ q):=⟨by rw [ZT];exact h.1,fun x hx=>by obtain ⟨y,hy,rfl⟩:=List.mem_map.1 hx;exact h.2 y hy⟩
theorem zue (q:List Pc) (b f:Bool) (h:okL q):aR G FT SB [.data b 3 (pcs q) f] []=some (.own 0 0 0 q.length q.length,[⟨3,0,true,pcs (cpQ q)⟩]):=by
 have key:=zhI G q b f h q.length 0 (by omega) ⟨[(0,.data b 3 (pcs q) f),(3,.own 0 0 0 0 0),(4,.int .i64 0)],[⟨3,0,true,[]⟩]⟩ (by
  simp only [Int.natCast_zero,List.take_zero,show pcs (cpQ [])=[] from rfl]
  (sym=>simp [Y9,Za,Zb,Ze,Zk,Zl,Zm,Zn,Zv,Zw,Zx,Zy,Zz,Z0,Z3,Us,Ux,U0,U4,U5,U6,Vb,Ve,Vk,Vm,Vo,Vp,Vq,Vr,Vs,Vt,Vu,Vv,Vw,Vx,Vy,Vz,V0,Hh,Hp,Hv,Hw,H1,H5,H6,Nl,No,Nx]))
 rw [De]
 (sym=>simp [Qb,Qd,Qe,Qi,Qj,Qr,Qs,Y1,Y5,Y7,Y9,Za,Zb,Zc,Ze,Zg,Zh,Zi,Zj,Zk,Zl,Zm,Zr,Zs,Zt,Zu,Zv,Zw,Jj,Jk,Jn,Jq,Jv,Jx,Hv,Be,zxj.eq_1,zA7.eq_1,zwH.eq_1,zwc.eq_1,Ui.eq_1,key])
theorem zut (s:Ses) (h:okS s) (hs:yj s=true) (hq9:s.tq.length≤900) (id n:Int) (d:Dd) (hdl:d.2.1.length≤1000):aP G FT Pk [.agg (sC s),.int .i64 id,.int .i64 n,.agg (dC d)]=some (.tup [.agg (sC (zaQ s id n d).1),.int .i64 (zaQ s id n d).2]):=by
 obtain ⟨g1,g2,g3,g4,g5,g6,g7,g8,g9⟩:=zZ hs
 have hR:=fun b f=>Ps G s.mem b f id (by have:=h.1;omega)
 have hD:=zCF G d
 have a1:=zk s
 have a2:=zG s
 have a3:=zu s
 have a4:=vK s
 have a5:=Ib s
 have a6:(sC s).drop 33=[]:=rfl
 have b1:(dC d).length=4:=rfl
 have b2:AV.stableL (dC d)=true:=by simp [dC,AV.stableL,AV.stable]
 have b3:(dC d).take 4=dC d:=rfl
 have b4:∀ h,yE h (dC d)=some (dC d):=fun h=>by simp [dC,yE,ZC]
 have b5:(dC d)[0]? =some (.int .i64 d.1):=rfl
 have b6:(dC d)[1]? =some (.data false 1 (byt d.2.1) d.2.2.2.2):=rfl
 have b7:(dC d)[2]? =some (.int .i64 d.2.2.1):=rfl
 have b8:(dC d)[3]? =some (.int .i64 d.2.2.2.1):=rfl
 have z:=ziq
 unfold aP zaQ
 rw [zfL]
 by_cases hr0:zg s.mem id=0
 ·rw [if_pos hr0]
  rw [hr0] at hR
  simp only [z]
  generalize dC d=D at *
  (sym=>simp [Qb,Qd,Qe,Qi,Qj,Qm,Qn,Qo,Qr,Qt,Qv,Qw,Qx,Q1,Q4,Q5,Xa,Xp,X8,Yj,Yr,Yt,Yu,Yv,Y1,Y6,Y7,Y8,Y9,Za,Zb,Zc,Zd,Ze,Zg,Zh,Zi,Zj,Zk,Zl,Zm,Zn,Zo,Zr,Zs,Zt,Zu,Zv,Zw,Zy,Z0,Z1,Jj,Jk,Jl,Jr,Jv,Jx,J1,J2,K8,Ue,Uf,Ug,Ul,V6,V9,Wd,We,Wg,Wh,Wi,Wj,Wp,Wq,Hh,Hi,Hk,Hl,Ho,Hp,Hq,Hr,Hs,Ht,Hu,Hv,Hw,Hx,Nl,No,Nx,N0,Be,Lx.eq_1,LD.eq_1,Lm.eq_1,Li.eq_1,LK.eq_1,LB.eq_1,Lg.eq_1,LJ.eq_1,Lj.eq_1,Ll.eq_1,TF.eq_1,Sk.eq_1,TP.eq_1,TU.eq_1,Sn.eq_1,SE.eq_1,TJ.eq_1,TS.eq_1,TK.eq_1,Su.eq_1,TH.eq_1,SF.eq_1,yx.eq_1,hR,a1,a2,a3,a4,a5,a6,b1,b2,zL.eq_1])
 rw [if_neg hr0]
 have ht:zK s.mem id=true:=(VP g1 id).2 hr0
 obtain ⟨i1,i8⟩:=Df ht
 obtain ⟨j,hj⟩:∃ j:Nat,id=(j:Int):=⟨id.toNat,by omega⟩
 subst hj
 rw [Int.toNat_natCast]
 have hj9:j<9:=by omega
 have hj9':(j:Int)<9:=by omega
 have hb:24+j<33:=by omega
 have hka:=zlS s hj9
 have hrg:=zdc hs j hj9
 have q0:(zg s.mem j=0)↔False:=by simp [hr0]
 by_cases c1:1073741824<n
 ·rw [if_pos (.inl c1)]
  simp only [z]
  generalize dC d=D at *
  generalize zg s.mem j=ro at *
  (sym=>simp [Qb,Qc,Qd,Qe,Qf,Qg,Qi,Qj,Qm,Qn,Qo,Qr,Qt,Qu,Qv,Qw,Qx,Q1,Q4,Q5,Xa,Xp,X8,Yc,Yj,Yr,Yt,Yu,Yv,Y1,Y6,Y7,Y8,Y9,Za,Zb,Zc,Zd,Ze,Zg,Zh,Zi,Zj,Zk,Zl,Zm,Zn,Zo,Zr,Zs,Zt,Zu,Zv,Zw,Zy,Z0,Z1,Z3,Jb,Jj,Jk,Jl,Jr,Jv,Jx,J1,J2,K8,Ue,Uf,Ug,Ul,V6,V9,Wd,We,Wg,Wh,Wi,Wj,Wp,Wq,Hh,Hi,Hk,Hl,Ho,Hp,Hq,Hr,Hs,Ht,Hu,Hv,Hw,Hx,Nl,Nm,No,Nw,Nx,N0,Be,Lx.eq_1,LD.eq_1,Lm.eq_1,Li.eq_1,LK.eq_1,LB.eq_1,Lg.eq_1,LJ.eq_1,Lj.eq_1,Ll.eq_1,TF.eq_1,Sk.eq_1,TP.eq_1,TU.eq_1,Sn.eq_1,SE.eq_1,TJ.eq_1,TS.eq_1,TK.eq_1,Su.eq_1,TH.eq_1,SF.eq_1,yx.eq_1,hR,q0,hka,hj9',hb,c1,a1,a2,a3,a4,a5,a6,b1,b2,zL.eq_1])
 by_cases c2:n<1
 ·rw [if_pos (.inr (by omega))]
  simp only [z]
  generalize dC d=D at *
  generalize zg s.mem j=ro at *
  have hne:IntKind.i64.wrap (n - 1)=s.k j∨¬ IntKind.i64.wrap (n - 1)=s.k j:=Classical.em _
  generalize hv:IntKind.i64.wrap (n - 1)=v at hne
  rcases hne with hne | hne
  ·(sym=>simp [Qb,Qc,Qd,Qe,Qf,Qg,Qi,Qj,Qm,Qn,Qo,Qr,Qt,Qu,Qv,Qw,Qx,Q1,Q4,Q5,Xa,Xp,Xt,X6,X8,X9,Ya,Yc,Yj,Yr,Yt,Yu,Yv,Yz,Y1,Y6,Y7,Y8,Y9,Za,Zb,Zc,Zd,Ze,Zg,Zh,Zi,Zj,Zk,Zl,Zm,Zn,Zo,Zr,Zs,Zt,Zu,Zv,Zw,Zy,Z0,Z1,Z3,Jb,Jj,Jk,Jl,Jr,Jv,Jx,J1,J2,K8,Ue,Uf,Ug,Ul,V6,V9,Wd,We,Wg,Wh,Wi,Wj,Wp,Wq,Hh,Hi,Hk,Hl,Ho,Hp,Hq,Hr,Hs,Ht,Hu,Hv,Hw,Hx,Nc,Ni,Nk,Nl,Nm,No,Nw,Nx,Nz,N0,Be,Bh,Lx.eq_1,LD.eq_1,Lm.eq_1,Li.eq_1,LK.eq_1,LB.eq_1,Lg.eq_1,LJ.eq_1,Lj.eq_1,Ll.eq_1,TF.eq_1,Sk.eq_1,TP.eq_1,TU.eq_1,Sn.eq_1,SE.eq_1,TJ.eq_1,TS.eq_1,TK.eq_1,Su.eq_1,TH.eq_1,SF.eq_1,yx.eq_1,hR,q0,hka,hj9',hb,c1,c2,hv,hne,a1,a2,a3,a4,a5,a6,b1,b2,zL.eq_1])
  ·(sym=>simp [Qb,Qc,Qd,Qe,Qf,Qg,Qi,Qj,Qm,Qn,Qo,Qr,Qt,Qu,Qv,Qw,Qx,Q1,Q4,Q5,Xa,Xp,Xt,X6,X8,X9,Yc,Yj,Yr,Yt,Yu,Yv,Yz,Y1,Y6,Y7,Y8,Y9,Za,Zb,Zc,Zd,Ze,Zg,Zh,Zi,Zj,Zk,Zl,Zm,Zn,Zo,Zr,Zs,Zt,Zu,Zv,Zw,Zy,Z0,Z1,Z3,Jb,Jj,Jk,Jl,Jr,Jv,Jx,J1,J2,K8,Ue,Uf,Ug,Ul,V6,V9,Wd,We,Wg,Wh,Wi,Wj,Wp,Wq,Hh,Hi,Hk,Hl,Ho,Hp,Hq,Hr,Hs,Ht,Hu,Hv,Hw,Hx,Nc,Ni,Nk,Nm,No,Nw,Nx,Nz,N0,Be,Bh,Lx.eq_1,LD.eq_1,Lm.eq_1,Li.eq_1,LK.eq_1,LB.eq_1,Lg.eq_1,LJ.eq_1,Lj.eq_1,Ll.eq_1,TF.eq_1,Sk.eq_1,TP.eq_1,TU.eq_1,Sn.eq_1,SE.eq_1,TJ.eq_1,TS.eq_1,TK.eq_1,Su.eq_1,TH.eq_1,SF.eq_1,yx.eq_1,hR,q0,hka,hj9',hb,c1,c2,hv,hne,a1,a2,a3,a4,a5,a6,b1,b2,zL.eq_1])
 have hw:IntKind.i64.wrap (n - 1)=n - 1:=ZV _ (by omega) (by omega)
 by_cases c3:n=s.k j+1
 ·rw [if_neg (by omega)]
  have c4:(n - 1=s.k j)↔True:=by simp;omega
  have hk1:(d.1=1∨d.1=2∨d.1=3∨d.1=4)∨UC d=false:=by
   unfold UC DY
   by_cases e1:d.1=1
   ·simp [e1]
   by_cases e2:d.1=2
   ·simp [e2]
   by_cases e3:d.1=3
   ·simp [e3]
   by_cases e4:d.1=4
   ·simp [e4]
   simp [e1,e2,e3,e4]
  cases hd:UC d with
  | false=>
   rw [if_neg (by simp)]
   rw [hd] at hD
   simp only [z]
   generalize dC d=D at *
   generalize zg s.mem j=ro at *
   (sym=>simp [Qb,Qc,Qd,Qe,Qf,Qg,Qi,Qj,Qm,Qn,Qo,Qr,Qt,Qu,Qv,Qw,Qx,Q1,Q4,Q5,Xa,Xd,Xp,Xt,X6,X8,X9,Ya,Yc,Yj,Yr,Yt,Yu,Yv,Yz,Y1,Y6,Y7,Y8,Y9,Za,Zb,Zc,Zd,Ze,Zg,Zh,Zi,Zj,Zk,Zl,Zm,Zn,Zo,Zr,Zs,Zt,Zu,Zv,Zw,Zy,Z0,Z1,Z3,Jb,Jj,Jk,Jl,Jr,Jv,Jx,J1,J2,K8,Ue,Uf,Ug,Ul,V3,V6,V9,Wd,We,Wg,Wh,Wi,Wj,Wp,Wq,Hh,Hi,Hk,Hl,Ho,Hp,Hq,Hr,Hs,Ht,Hu,Hv,Hw,Hx,Nc,Ni,Nk,Nl,Nm,No,Nw,Nx,Nz,N0,Be,Bh,Lx.eq_1,LD.eq_1,Lm.eq_1,Li.eq_1,LK.eq_1,LB.eq_1,Lg.eq_1,LJ.eq_1,Lj.eq_1,Ll.eq_1,TF.eq_1,Sk.eq_1,TP.eq_1,TU.eq_1,Sn.eq_1,SE.eq_1,TJ.eq_1,TS.eq_1,TK.eq_1,Su.eq_1,TH.eq_1,SF.eq_1,yx.eq_1,hR,q0,hka,hj9',hb,c1,c2,c4,hw,hD,a1,a2,a3,a4,a5,a6,b1,b2,b3,b4,zL.eq_1])
  | true=>
   rw [if_pos rfl]
   rw [hd] at hD hk1
   simp only [Bool.true_eq_false,or_false] at hk1
   have kc:=zsv s hj9 n
   have hmem:(YK s j n).mem=s.mem:=rfl
   have ok2:okS (YK s j n):=h
   have f2:y5 (YK s j n).mem=true∧Yf (YK s j n).h (YK s j n).tq=true∧TN (YK s j n).w=true∧(YK s j n).tq.length≤900:=⟨g1,g2,g4,hq9⟩
   unfold zED
   rw [hmem]
   generalize YK s j n=s2 at *
   obtain ⟨m1,m2,m3,m4⟩:=f2
   have c3':=zk s2
   have c4':=zG s2
   have c5:=zu s2
   have c6:(sC s2).drop 33=[]:=rfl
   have c7:=zFa s2
   have c8:=zer s2
   have c9:=zgv s2
   have d1:=zok s2
   have d2:=zk (nf s2)
   have d3:=zG (nf s2)
   rcases hk1 with k1 | k1 | k1 | k1
   ·rw [if_pos k1]
    rw [k1] at b5
    by_cases he:s2.h=j
    ·have hZ:=fun b f=>zlD G s2.q b f ok2.2.2
     have hz:=FV s2.q ok2.2.2.2
     have hl3:=ok2.2.2.1
     have hwz:IntKind.i64.wrap ((zV s2.q:Nat)+(d.2.1.length:Nat))=((zV s2.q+d.2.1.length:Nat):Int):=by rw [ZV _ (by omega) (by omega)];omega
     have hbl:=oI d.2.1
     by_cases hx:zV s2.q+d.2.1.length≤64
     ·have hx':((zV s2.q+d.2.1.length:Nat):Int)≤64:=by omega
      rw [if_pos ⟨he,hx⟩]
      have hC:=fun b f=>zue G s2.q b f ok2.2.2
      have hlo:(pcs (cpQ s2.q)).length=s2.q.length:=by rw [yB,ZT]
      have tk:List.take s2.q.length (pcs (cpQ s2.q))=pcs (cpQ s2.q):=List.take_of_length_le (by omega)
      have b1':(s2.q.length+1) * 40≤140737488355328:=by omega
      have b2':d.2.1.length * 1≤140737488355328:=by omega
      have b3':d.2.1.length≤140737488355328:=by omega
      have n1:s2.q.length+1≤s2.q.length↔False:=by simp
      have hpl:(pcs (cpQ s2.q)++[[AV.int .i64 j,.int .i64 n,.data false 1 (byt d.2.1) false]]).length=s2.q.length+1:=by rw [List.length_append,hlo];rfl
      have tk2:List.take (s2.q.length+1) (pcs (cpQ s2.q)++[[AV.int .i64 j,.int .i64 n,.data false 1 (byt d.2.1) false]])=pcs (cpQ s2.q)++[[AV.int .i64 j,.int .i64 n,.data false 1 (byt d.2.1) false]]:=List.take_of_length_le (by omega)
      have eS:sC (nf (NU s2 (cpQ s2.q++[((j:Int),n,d.2.1,false)])))=.data false 2 (mbs s2.mem) false::.int .i64 s2.h::.data false 1 (ints s2.tq) false::.data false 3 (pcs (cpQ s2.q)++[[.int .i64 j,.int .i64 n,.data false 1 (byt d.2.1) false]]) false::tl s2:=by
       rw [zj8]
       show .data false 2 (mbs s2.mem) false::.int .i64 s2.h::.data false 1 (ints s2.tq) false::.data false 3 (pcs (cpQ s2.q++[((j:Int),n,d.2.1,false)])) false::tl s2=_
       rw [ND];rfl
      rw [eS]
      rw [zj8 s2] at kc
      have t1:=Dm s2
      have t2:=zcC s2
      have t3:=zdG s2
      have t4:=zm0 s2
      have t5:=znv s2
      have t6:=zhg s2
      have t7:=LC s2
      generalize tl s2=T at *
      generalize zV s2.q=zq at *
      generalize pcs (cpQ s2.q)=P at *
      generalize dC d=D at *
      generalize zg s.mem j=ro at *
      (sym=>simp [Qb,Qc,Qd,Qe,Qf,Qg,Qi,Qj,Qm,Qn,Qo,Qr,Qt,Qu,Qv,Qw,Qx,Qy,Qz,Q0,Q1,Q2,Q3,Q4,Q5,Xa,Xd,Xp,Xt,Xy,X0,X1,X5,X6,X8,X9,Ya,Yb,Yc,Yh,Yj,Yk,Yn,Yr,Yt,Yu,Yv,Yz,Y1,Y2,Y3,Y6,Y7,Y8,Y9,Za,Zb,Zc,Zd,Ze,Zg,Zh,Zi,Zj,Zk,Zl,Zm,Zn,Zo,Zp,Zr,Zs,Zt,Zu,Zv,Zw,Zx,Zy,Zz,Z0,Z1,Z3,Ja,Jb,Jj,Jk,Jn,Jo,Jr,Jv,Jx,J1,J2,J3,J7,Kv,Kx,Ky,K8,K9,Ua,Ub,Uc,Ud,Ue,Uf,Ug,Ul,Uq,Us,U6,Vk,Vm,Vo,Vp,Vq,Vr,Vs,Vt,Vu,Vv,Vw,Vx,V3,V6,V9,Wd,We,Wf,Wg,Wh,Wi,Wj,Wp,Wq,Wz,W5,W6,W7,Hh,Hi,Hk,Hl,Ho,Hp,Hq,Hr,Hs,Ht,Hu,Hv,Hw,Hx,Hy,Hz,H2,H3,H5,H6,H8,Nc,Ng,Nh,Ni,Nk,Nl,Nm,Nn,No,Nq,Ns,Nt,Nw,Nx,Nz,N0,N2,Be,Bg,Bh,Mk,Lx.eq_1,LD.eq_1,Lm.eq_1,Li.eq_1,LK.eq_1,LB.eq_1,Lg.eq_1,LJ.eq_1,Lj.eq_1,Ll.eq_1,TF.eq_1,Sk.eq_1,TP.eq_1,TU.eq_1,Sn.eq_1,SE.eq_1,TJ.eq_1,TS.eq_1,TK.eq_1,Su.eq_1,TH.eq_1,SF.eq_1,yx.eq_1,hR,q0,hka,hj9',hb,c1,c2,c4,hw,hD,kc,a1,a2,a3,a4,a5,a6,b1,b2,b3,b4,b5,b6,he,hZ,hwz,hbl,hx',hC,hlo,tk,b1',b2',b3',n1,hpl,tk2,t1,t2,t3,t4,t5,t6,t7,List.append_nil,zL.eq_1])
     ·have hx':¬ ((zV s2.q+d.2.1.length:Nat):Int)≤64:=by omega
      rw [if_neg (by omega)]
      generalize zV s2.q+d.2.1.length=zz at *
      generalize dC d=D at *
      generalize zg s.mem j=ro at *
      (sym=>simp [Qb,Qc,Qd,Qe,Qf,Qg,Qi,Qj,Qm,Qn,Qo,Qr,Qt,Qu,Qv,Qw,Q4,Q5,Xa,Xd,Xp,Xt,Xy,X5,X6,X8,X9,Ya,Yb,Yc,Yh,Yj,Yr,Yt,Yu,Yv,Yz,Y1,Y6,Y7,Y8,Y9,Za,Zb,Zc,Zd,Ze,Zg,Zh,Zi,Zj,Zk,Zl,Zm,Zn,Zo,Zr,Zs,Zt,Zu,Zv,Zw,Zy,Z0,Z1,Z3,Ja,Jb,Jj,Jk,Jn,Jo,Jr,Jv,Jx,J1,J2,J3,Ue,Uf,Ug,Ul,V3,V6,V9,Wd,We,Wh,Wi,Wj,Wp,Wq,Hh,Hi,Hk,Hl,Hp,Hr,Hs,Ht,Hu,Hv,Hw,Hx,Nc,Ni,Nk,Nl,Nm,No,Nw,Nx,Nz,N0,Be,Bh,Lx.eq_1,LD.eq_1,Lm.eq_1,Li.eq_1,LK.eq_1,LB.eq_1,Lg.eq_1,LJ.eq_1,Lj.eq_1,Ll.eq_1,TF.eq_1,Sk.eq_1,TP.eq_1,TU.eq_1,Sn.eq_1,SE.eq_1,TJ.eq_1,TS.eq_1,TK.eq_1,Su.eq_1,TH.eq_1,SF.eq_1,yx.eq_1,hR,q0,hka,hj9',hb,c1,c2,c4,hw,hD,kc,a1,a2,a3,a4,a5,a6,b1,b2,b3,b4,b5,b6,c3',c4',c5,c6,c7,c8,he,hZ,hwz,hbl,hx',d1,d2,d3,List.append_nil,zL.eq_1])
    ·rw [if_neg (by omega)]
     generalize dC d=D at *
     generalize zg s.mem j=ro at *
     (sym=>simp [Qb,Qc,Qd,Qe,Qf,Qg,Qi,Qj,Qm,Qn,Qo,Qr,Qt,Qu,Qv,Qw,Q4,Q5,Xa,Xd,Xp,Xt,X6,X8,X9,Ya,Yc,Yj,Yr,Yt,Yu,Yv,Yz,Y1,Y6,Y7,Y8,Y9,Za,Zb,Zc,Zd,Ze,Zg,Zh,Zi,Zj,Zk,Zl,Zm,Zn,Zo,Zr,Zs,Zt,Zu,Zv,Zw,Zy,Z0,Z1,Z3,Ja,Jb,Jj,Jk,Jn,Jo,Jr,Jv,Jx,J1,J2,J3,Ue,Uf,Ug,Ul,V3,V6,V9,Wd,We,Wh,Wi,Wj,Wp,Wq,Hh,Hi,Hk,Hl,Hp,Hr,Hs,Ht,Hu,Hv,Hw,Hx,Nc,Ni,Nk,Nl,Nm,No,Nw,Nx,Nz,N0,Be,Bh,Lx.eq_1,LD.eq_1,Lm.eq_1,Li.eq_1,LK.eq_1,LB.eq_1,Lg.eq_1,LJ.eq_1,Lj.eq_1,Ll.eq_1,TF.eq_1,Sk.eq_1,TP.eq_1,TU.eq_1,Sn.eq_1,SE.eq_1,TJ.eq_1,TS.eq_1,TK.eq_1,Su.eq_1,TH.eq_1,SF.eq_1,yx.eq_1,hR,q0,hka,hj9',hb,c1,c2,c4,hw,hD,kc,a1,a2,a3,a4,a5,a6,b1,b2,b3,b4,b5,c3',c4',c5,c6,c7,c8,he,d1,d2,d3,List.append_nil,zL.eq_1])
   ·rw [if_neg (by omega),if_pos k1]
    rw [k1] at b5
    have we:(sC s2).take (4+j * 2)++[.int .i64 d.2.2.1,.int .i64 d.2.2.2.1]++(sC s2).drop (4+j * 2+2)=sC (Po s2 j d.2.2.1 d.2.2.2.1):=by
     rcases nine hj9 with rfl | rfl | rfl | rfl | rfl | rfl | rfl | rfl | rfl<;>rfl
    have hb2:4+j * 2+2≤33:=by omega
    have hmw:TN (Po s2 j d.2.2.1 d.2.2.2.1).w=true:=by
     have hsd:=hd
     unfold UC DY at hsd
     rw [if_neg (by omega),if_pos k1] at hsd
     simp only [Bool.and_eq_true] at hsd
     refine zeJ fun m hm=> ?_
     have hwv:(Po s2 j d.2.2.1 d.2.2.2.1).w m=if m=j then (d.2.2.1,d.2.2.2.1) else s2.w m:=rfl
     unfold okW
     rw [hwv]
     split
     ·have:¬ m=0:=by omega
      simp [zeB,hsd.1.1,hsd.1.2,this]
     ·exact zb4 m3 m hm
    have hS:=zad G (Po s2 j d.2.2.1 d.2.2.2.1) ok2 m1 m2 hmw m4
    have e1:=zk (Po s2 j d.2.2.1 d.2.2.2.1)
    have e2:=zG (Po s2 j d.2.2.1 d.2.2.2.1)
    have e3:=zu (Po s2 j d.2.2.1 d.2.2.2.1)
    have e5:=vK (Po s2 j d.2.2.1 d.2.2.2.1)
    have e4:(sC (Po s2 j d.2.2.1 d.2.2.2.1)).drop 33=[]:=rfl
    generalize Po s2 j d.2.2.1 d.2.2.2.1=s3 at *
    have d1:=zok (stS s3)
    have d2:=zk (nf (stS s3))
    have d3:=zG (nf (stS s3))
    have x1:=zk (stS s3)
    have x2:=zG (stS s3)
    have x3:=zu (stS s3)
    have x4:(sC (stS s3)).drop 33=[]:=rfl
    generalize stS s3=s4 at *
    generalize dC d=D at *
    generalize zg s.mem j=ro at *
    (sym=>simp [Qb,Qc,Qd,Qe,Qf,Qg,Qi,Qj,Qm,Qn,Qo,Qr,Qt,Qu,Qv,Qw,Qx,Qy,Q1,Q4,Q5,Xa,Xd,Xp,Xt,X6,X8,X9,Ya,Yc,Yj,Yk,Yr,Yt,Yu,Yv,Yz,Y1,Y6,Y7,Y8,Y9,Za,Zb,Zc,Zd,Ze,Zg,Zh,Zi,Zj,Zk,Zl,Zm,Zn,Zo,Zr,Zs,Zt,Zu,Zv,Zw,Zy,Z0,Z1,Z3,Jb,Jj,Jk,Jn,Jo,Jr,Jv,Jx,J1,J2,J3,K8,K9,Ue,Uf,Ug,Ul,V3,V6,V9,Wd,We,Wh,Wi,Wj,Wp,Wq,Hh,Hi,Hk,Hl,Ho,Hp,Hr,Hs,Ht,Hu,Hv,Hw,Hx,Nc,Ni,Nk,Nl,Nm,No,Nw,Nx,Nz,N0,Be,Bh,Lx.eq_1,LD.eq_1,Lm.eq_1,Li.eq_1,LK.eq_1,LB.eq_1,Lg.eq_1,LJ.eq_1,Lj.eq_1,Ll.eq_1,TF.eq_1,Sk.eq_1,TP.eq_1,TU.eq_1,Sn.eq_1,SE.eq_1,TJ.eq_1,TS.eq_1,TK.eq_1,Su.eq_1,TH.eq_1,SF.eq_1,yx.eq_1,hR,q0,hka,hj9',hb,hb2,c1,c2,c4,hw,hD,kc,a1,a2,a3,a4,a5,a6,b1,b2,b3,b4,b5,b7,b8,c3',c4',c5,c6,we,hS,d1,d2,d3,e1,e2,e3,e4,e5,x1,x2,x3,x4,List.append_nil,zL.eq_1])
   ·rw [if_neg (by omega),if_neg (by omega),if_pos k1]
    rw [k1] at b5
    have hA:=fun f=>zFJ G s2.h s2.tq f j m4
    have hsame:(if (j:Int) ∈ allT s2.h s2.tq then NV s2.h s2.tq else NV (ofT (allT s2.h s2.tq++[(j:Int)])).1 (ofT (allT s2.h s2.tq++[(j:Int)])).2)=NV (ofT (zev s2.h s2.tq j)).1 (ofT (zev s2.h s2.tq j)).2:=by
     unfold zev
     split
     ·have h0:=((WM s2.h s2.tq).1 m2).2
      unfold allT
      by_cases e:s2.h=0
      ·rw [if_pos e,h0 e,e];rfl
      ·rw [if_neg e];rfl
     ·rfl
    rw [hsame] at hA
    simp only [NV] at hA
    generalize ofT (zev s2.h s2.tq j)=K at *
    have qe:=zeP s2 K.1 K.2
    have d1':=zok (Wm s2 K.1 K.2)
    have d2':=zk (nf (Wm s2 K.1 K.2))
    have d3':=zG (nf (Wm s2 K.1 K.2))
    have e1:=zk (Wm s2 K.1 K.2)
    have e2:=zG (Wm s2 K.1 K.2)
    have e3:=zu (Wm s2 K.1 K.2)
    have e4:(sC (Wm s2 K.1 K.2)).drop 33=[]:=rfl
    generalize Wm s2 K.1 K.2=s3 at *
    generalize dC d=D at *
    by_cases hr2:zg s.mem j=2
    ·rw [if_pos hr2]
     generalize zg s.mem j=ro at *
     (sym=>simp [Qb,Qc,Qd,Qe,Qf,Qg,Qi,Qj,Qm,Qn,Qo,Qr,Qt,Qu,Qv,Qw,Q4,Q5,Xa,Xd,Xp,Xt,X6,X8,X9,Ya,Yc,Yj,Yr,Yt,Yu,Yv,Yz,Y1,Y6,Y7,Y8,Y9,Za,Zb,Zc,Zd,Ze,Zg,Zh,Zi,Zj,Zk,Zl,Zm,Zn,Zo,Zr,Zs,Zt,Zu,Zv,Zw,Zy,Z0,Z1,Z3,Jb,Jj,Jk,Jn,Jo,Jr,Jv,Jx,J1,J2,J3,Ue,Uf,Ug,Ul,V3,V6,V9,Wd,We,Wh,Wi,Wj,Wp,Wq,Hh,Hi,Hk,Hl,Hp,Hr,Hs,Ht,Hu,Hv,Hw,Hx,Nc,Ni,Nk,Nl,Nm,No,Nw,Nx,Nz,N0,Be,Bh,Lx.eq_1,LD.eq_1,Lm.eq_1,Li.eq_1,LK.eq_1,LB.eq_1,Lg.eq_1,LJ.eq_1,Lj.eq_1,Ll.eq_1,TF.eq_1,Sk.eq_1,TP.eq_1,TU.eq_1,Sn.eq_1,SE.eq_1,TJ.eq_1,TS.eq_1,TK.eq_1,Su.eq_1,TH.eq_1,SF.eq_1,yx.eq_1,hR,q0,hr2,hka,hj9',hb,c1,c2,c4,hw,hD,kc,a1,a2,a3,a4,a5,a6,b1,b2,b3,b4,b5,c3',c4',c5,c6,c9,hA,qe,d1',d2',d3',e1,e2,e3,e4,List.append_nil,zL.eq_1])
    ·rw [if_neg hr2]
     generalize zg s.mem j=ro at *
     (sym=>simp [Qb,Qc,Qd,Qe,Qf,Qg,Qi,Qj,Qm,Qn,Qo,Qr,Qt,Qu,Qv,Qw,Q4,Q5,Xa,Xd,Xp,Xt,X6,X8,X9,Ya,Yc,Yj,Yr,Yt,Yu,Yv,Yz,Y1,Y6,Y7,Y8,Y9,Za,Zb,Zc,Zd,Ze,Zg,Zh,Zi,Zj,Zk,Zl,Zm,Zn,Zo,Zr,Zs,Zt,Zu,Zv,Zw,Zy,Z0,Z1,Z3,Jb,Jj,Jk,Jn,Jo,Jr,Jv,Jx,J1,J2,J3,Ue,Uf,Ug,Ul,V3,V6,V9,Wd,We,Wh,Wi,Wj,Wp,Wq,Hh,Hi,Hk,Hl,Hp,Hr,Hs,Ht,Hu,Hv,Hw,Hx,Nc,Ni,Nk,Nl,Nm,No,Nw,Nx,Nz,N0,Be,Bh,Lx.eq_1,LD.eq_1,Lm.eq_1,Li.eq_1,LK.eq_1,LB.eq_1,Lg.eq_1,LJ.eq_1,Lj.eq_1,Ll.eq_1,TF.eq_1,Sk.eq_1,TP.eq_1,TU.eq_1,Sn.eq_1,SE.eq_1,TJ.eq_1,TS.eq_1,TK.eq_1,Su.eq_1,TH.eq_1,SF.eq_1,yx.eq_1,hR,q0,hr2,hka,hj9',hb,c1,c2,c4,hw,hD,kc,a1,a2,a3,a4,a5,a6,b1,b2,b3,b4,b5,c3',c4',c5,c6,c9,d1,d2,d3,List.append_nil,zL.eq_1])
   ·rw [if_neg (by omega),if_neg (by omega),if_neg (by omega)]
    rw [k1] at b5
    have hA:=fun b f=>zCS G s2.h s2.tq b f j m4
    simp only [NV] at hA
    generalize ofT ((allT s2.h s2.tq).filter fun x=> !decide (x=(j:Int)))=K at *
    have qe:=zeP s2 K.1 K.2
    have d1':=zok (Wm s2 K.1 K.2)
    have d2':=zk (nf (Wm s2 K.1 K.2))
    have d3':=zG (nf (Wm s2 K.1 K.2))
    have e1:=zk (Wm s2 K.1 K.2)
    have e2:=zG (Wm s2 K.1 K.2)
    have e3:=zu (Wm s2 K.1 K.2)
    have e4:(sC (Wm s2 K.1 K.2)).drop 33=[]:=rfl
    generalize Wm s2 K.1 K.2=s3 at *
    generalize dC d=D at *
    generalize zg s.mem j=ro at *
    (sym=>simp [Qb,Qc,Qd,Qe,Qf,Qg,Qi,Qj,Qm,Qn,Qo,Qr,Qt,Qu,Qv,Qw,Q4,Q5,Xa,Xd,Xp,Xt,X6,X8,X9,Ya,Yc,Yj,Yr,Yt,Yu,Yv,Yz,Y1,Y6,Y7,Y8,Y9,Za,Zb,Zc,Zd,Ze,Zg,Zh,Zi,Zj,Zk,Zl,Zm,Zn,Zo,Zr,Zs,Zt,Zu,Zv,Zw,Zy,Z0,Z1,Z3,Jb,Jj,Jk,Jn,Jo,Jr,Jv,Jx,J1,J2,J3,Ue,Uf,Ug,Ul,V3,V6,V9,Wd,We,Wh,Wi,Wj,Wp,Wq,Hh,Hi,Hk,Hl,Hp,Hr,Hs,Ht,Hu,Hv,Hw,Hx,Nc,Ni,Nk,Nl,Nm,No,Nw,Nx,Nz,N0,Be,Bh,Lx.eq_1,LD.eq_1,Lm.eq_1,Li.eq_1,LK.eq_1,LB.eq_1,Lg.eq_1,LJ.eq_1,Lj.eq_1,Ll.eq_1,TF.eq_1,Sk.eq_1,TP.eq_1,TU.eq_1,Sn.eq_1,SE.eq_1,TJ.eq_1,TS.eq_1,TK.eq_1,Su.eq_1,TH.eq_1,SF.eq_1,yx.eq_1,hR,q0,hka,hj9',hb,c1,c2,c4,hw,hD,kc,a1,a2,a3,a4,a5,a6,b1,b2,b3,b4,b5,c3',c4',c5,c6,c9,hA,qe,d1',d2',d3',e1,e2,e3,e4,List.append_nil,zL.eq_1])
 ·rw [if_pos (.inr c3)]
  have c4:(n - 1=s.k j)↔False:=by simp;omega
  simp only [z]
  generalize dC d=D at *
  generalize zg s.mem j=ro at *
  (sym=>simp [Qb,Qc,Qd,Qe,Qf,Qg,Qi,Qj,Qm,Qn,Qo,Qr,Qt,Qu,Qv,Qw,Qx,Q1,Q4,Q5,Xa,Xp,Xt,X6,X8,X9,Yc,Yj,Yr,Yt,Yu,Yv,Yz,Y1,Y6,Y7,Y8,Y9,Za,Zb,Zc,Zd,Ze,Zg,Zh,Zi,Zj,Zk,Zl,Zm,Zn,Zo,Zr,Zs,Zt,Zu,Zv,Zw,Zy,Z0,Z1,Z3,Jb,Jj,Jk,Jl,Jr,Jv,Jx,J1,J2,K8,Ue,Uf,Ug,Ul,V6,V9,Wd,We,Wg,Wh,Wi,Wj,Wp,Wq,Hh,Hi,Hk,Hl,Ho,Hp,Hq,Hr,Hs,Ht,Hu,Hv,Hw,Hx,Nc,Ni,Nk,Nm,No,Nw,Nx,Nz,N0,Be,Bh,Lx.eq_1,LD.eq_1,Lm.eq_1,Li.eq_1,LK.eq_1,LB.eq_1,Lg.eq_1,LJ.eq_1,Lj.eq_1,Ll.eq_1,TF.eq_1,Sk.eq_1,TP.eq_1,TU.eq_1,Sn.eq_1,SE.eq_1,TJ.eq_1,TS.eq_1,TK.eq_1,Su.eq_1,TH.eq_1,SF.eq_1,yx.eq_1,hR,q0,hka,hj9',hb,c1,c2,c4,hw,a1,a2,a3,a4,a5,a6,b1,b2,zL.eq_1])
end
section
variable (G:Nat→Option (List AV))
def zcu (s g:Ses) (e:Int) (w:Ses) (f:Int):Bool:=if yj s=true then decide (e=f)&&zbv g w else decide (e=2)&&zbv g zS
theorem zso (s g w:Ses) (hs:okS s) (hg:okS g) (e f:Int):aP G FT yl [.agg (sC s),.agg (sC g),.int .i64 e,.agg (sC w),.int .i64 f]=some (.bool (zcu s g e w f)):=by
 have hM:=zye G s hs
 have hS:=KH G g w hg
 have hZ:=KH G g ⟨[],0,[],[],fun _=>(0,0),0,0,fun _=>0,true,true,true⟩ hg
 have hz:zbv g ⟨[],0,[],[],fun _=>(0,0),0,0,fun _=>0,true,true,true⟩=zbv g zS:=rfl
 have z:sC ⟨[],0,[],[],fun _=>(0,0),0,0,fun _=>0,true,true,true⟩=(.data false 2 [] true::.int .i64 0::.data false 1 [] true::.data false 3 [] true::.int .i64 0::.int .i64 0::.int .i64 0::.int .i64 0::.int .i64 0::.int .i64 0::.int .i64 0::.int .i64 0::.int .i64 0::.int .i64 0::.int .i64 0::.int .i64 0::.int .i64 0::.int .i64 0::.int .i64 0::.int .i64 0::.int .i64 0::.int .i64 0::.int .i64 0::.int .i64 0::.int .i64 0::.int .i64 0::.int .i64 0::.int .i64 0::.int .i64 0::.int .i64 0::.int .i64 0::.int .i64 0::.int .i64 0::[]):=rfl
 rw [z,hz] at hZ
 have s1:=zk s
 have s2:=zG s
 have s3:=zu s
 have s4:=vK s
 have g1:=zk g
 have g2:=zG g
 have g3:=zu g
 have g4:=vK g
 have w1:=zk w
 have w2:=zG w
 have w3:=zu w
 have w4:=vK w
 unfold aP zcu
 rw [ziL]
 generalize sC s=S at *
 generalize sC w=W at *
 generalize sC g=C at *
 cases h:yj s with
 | true=>
  rw [h] at hM
  rw [if_pos rfl]
  by_cases he:e=f
  ·(sym=>simp [Qb,Qc,Qd,Qe,Qf,Qg,Qi,Qj,Qm,Qn,Qo,Qr,Qt,Qu,Qw,Q4,Xa,Xd,X8,Yj,Yr,Yu,Y1,Y5,Y7,Y9,Za,Zb,Zc,Ze,Zg,Zh,Zi,Zj,Zk,Zl,Zm,Zn,Zo,Zr,Zs,Zt,Zu,Zv,Zw,Zy,Z0,Z3,Ja,Jj,Jk,Jr,Jv,Jx,V3,Wd,We,Wk,Hh,Hi,Hs,Hu,Hv,Hx,Nl,Np,Nw,Be,zoa.eq_1,znC.eq_1,zm5.eq_1,znN.eq_1,ZQ.eq_1,hM,hS,he,s1,s2,s3,s4,g1,g2,g3,g4,w1,w2,w3,w4,zL.eq_1])
  ·(sym=>simp [Qb,Qc,Qd,Qe,Qf,Qg,Qi,Qj,Qm,Qn,Qo,Qr,Qt,Qu,Qw,Q4,Xa,Xd,X8,Yj,Yr,Yu,Y1,Y5,Y7,Y9,Za,Zb,Zc,Ze,Zg,Zh,Zi,Zj,Zk,Zl,Zm,Zn,Zo,Zr,Zs,Zt,Zu,Zv,Zw,Zy,Z0,Z3,Ja,Jj,Jk,Jr,Jv,Jx,V3,Wd,We,Wk,Hh,Hs,Hu,Hv,Hx,Nm,Nr,Nw,Be,zoa.eq_1,znC.eq_1,zm5.eq_1,znN.eq_1,ZQ.eq_1,hM,hS,he,s1,s2,s3,s4,g1,g2,g3,g4,w1,w2,w3,w4,zL.eq_1])
 | false=>
  rw [h] at hM
  rw [if_neg (by simp)]
  by_cases he:e=2
  ·(sym=>simp [Qb,Qd,Qe,Qf,Qg,Qi,Qj,Qm,Qn,Qo,Qr,Qt,Qu,Qw,Qx,Q1,Q4,Xa,Xd,X8,Yj,Yr,Yu,Y1,Y5,Y7,Y9,Za,Zb,Zc,Ze,Zg,Zh,Zi,Zj,Zk,Zl,Zm,Zn,Zo,Zr,Zs,Zt,Zu,Zv,Zw,Zy,Z0,Ja,Jj,Jk,Jl,Jr,Jv,Jx,K8,V3,V6,V9,Wd,We,Wk,Hh,Hi,Hs,Hu,Hv,Hx,Nl,Np,Nx,Be,zoa.eq_1,znC.eq_1,zm5.eq_1,znN.eq_1,ZQ.eq_1,hM,hZ,he,s1,s2,s3,s4,g1,g2,g3,g4,w1,w2,w3,w4,zL.eq_1])
  ·(sym=>simp [Qb,Qd,Qe,Qf,Qg,Qi,Qj,Qm,Qn,Qo,Qr,Qt,Qu,Qw,Q4,Xa,Xd,X8,Yj,Yr,Yu,Y1,Y5,Y7,Y9,Za,Zb,Zc,Ze,Zg,Zh,Zi,Zj,Zk,Zl,Zm,Zn,Zo,Zr,Zs,Zt,Zu,Zv,Zw,Zy,Z0,Z3,Ja,Jj,Jk,Jl,Jr,Jv,Jx,V3,Wd,We,Wk,Hh,Hs,Hu,Hv,Hx,Nm,Nr,Nx,Be,zoa.eq_1,znC.eq_1,zm5.eq_1,znN.eq_1,ZQ.eq_1,hM,hZ,he,s1,s2,s3,s4,g1,g2,g3,g4,w1,w2,w3,w4,zL.eq_1])
end
section
def Alike (a b:Ses):Prop:=a.mem=b.mem∧a.h=b.h∧a.tq=b.tq∧cpQ a.q=cpQ b.q∧a.w=b.w∧a.r=b.r∧a.c=b.c∧a.k=b.k
theorem zgs:∀ {p q:List Pc},cpQ p=cpQ q→RF p q=true
 | [],[],_=>rfl
 | [],y::q,h=>by simp [cpQ] at h
 | x::p,[],h=>by simp [cpQ] at h
 | x::p,y::q,h=>by
  simp only [cpQ,List.map_cons,List.cons.injEq] at h
  have e:cp x=cp y:=h.1
  unfold cp at e
  simp only [Prod.mk.injEq] at e
  rw [RF,zgs (p:=p) (q:=q) h.2,Bool.and_true]
  simp [zxl,e.1,e.2.1,e.2.2.1,zzJ]
theorem JM {a b:Ses} (h:Alike a b):zbv a b=true:=by
 obtain ⟨e1,e2,e3,e4,e5,e6,e7,e8⟩:=h
 unfold zbv
 rw [e1,e2,e3,e5,e6,e7,e8,zgs e4,zAv fun _ _=>rfl,zwG fun _ _=>rfl]
 simp
theorem SI (a:Ses):Alike a a:=⟨rfl,rfl,rfl,rfl,rfl,rfl,rfl,rfl⟩
theorem ze3 {a b:Ses} (h:Alike a b):Alike (stS a) (stS b):=by
 obtain ⟨e1,e2,e3,e4,e5,e6,e7,e8⟩:=h
 refine ⟨e1, ?_, ?_,e4,e5, ?_, ?_,e8⟩
 all_goals simp only [stS,e1,e2,e3,e5,e6,e7]
theorem Pm (s:Ses):yj (ym s)=yj s:=by
 have e:((ym s).q.any (RJ (ym s)))=s.q.any (RJ s):=by
  show (s.q.map cp).any (RJ (ym s))=_
  rw [List.any_map]
  congr 1
 have t:∀ m i,vw (ym s) m i=vw s m i:=by
  intro m
  induction m with
  | zero=>intro i;rfl
  | succ m ih=>intro i;rw [vw,vw,ih];rfl
 unfold yj
 rw [e,t]
 show (y5 s.mem&&Yf s.h s.tq&&jG 0 (cpQ s.q)&&TN s.w&&ZO s&&_&&_&&_&&_)=_
 rw [LY];rfl
theorem zeQ {s:Ses} (hs:yj s=true) {n:Nat} (h:n<9) (hr:zg s.mem n=0):s.w n=(0,0)∧s.k n=0:=by
 have g1:=(zZ hs).1
 have:=(Ls s n).1 ((zZ hs).2.2.2.2.2.2.2.1 n h)
 rcases this.2.2 with h | h
 ·exact absurd hr ((VP g1 n).1 h)
 ·exact ⟨Prod.ext h.2.1 h.2.2,h.1⟩
theorem zqO {l:List (Int×Int)} {n:Nat} (h:VY l 0 n=true):n<9:=by
 unfold VY at h
 simp only [Bool.and_eq_true,decide_eq_true_eq] at h
 exact h.1.2
theorem zpv {s:Ses} (hs:yj s=true) {l:List (Int×Int)} (hl:y5 l=true) (hr:∀ id,zg s.mem id≠0→zg l id≠0):Alike (jI (ym s) l false) (stS { s with mem:=l,f1:=false }):=by
 have hs':yj (ym s)=true:=by rw [Pm];exact hs
 have hq:=zE0 hs' hl hr false
 rw [zbX hs'] at hq ⊢
 refine ze3 ⟨rfl,rfl,rfl, ?_, ?_,rfl,rfl, ?_⟩
 ·show cpQ (stS (UG (Nj (ym s) l false) 0)).q=cpQ s.q
  rw [hq]
  show cpQ (cpQ (cpQ s.q))=_
  rw [NK,NK]
 ·funext n
  show (if VY l 0 n=true then (0,0) else s.w n)=s.w n
  split
  ·rename_i h
   have h9:=zqO h
   rw [KG hl h9,decide_eq_true_eq] at h
   exact (zeQ hs h9 (Classical.byContradiction fun h'=>hr _ h' h)).1.symm
  ·rfl
 ·funext n
  show (if VY l 0 n=true then 0 else s.k n)=s.k n
  split
  ·rename_i h
   have h9:=zqO h
   rw [KG hl h9,decide_eq_true_eq] at h
   exact (zeQ hs h9 (Classical.byContradiction fun h'=>hr _ h' h)).2.symm
  ·rfl
theorem zoV {s:Ses} (hs:yj s=true) {j:Nat} (h1:1≤j) (h8:j≤8):Alike (jI (ym s) (uT s.mem j 0) false) (stS (zde s (uT s.mem j 0) j)):=by
 have hs':yj (ym s)=true:=by rw [Pm];exact hs
 have g1:=(zZ hs).1
 have m1:=jU g1 (id:=(j:Int)) (r:=0) (.inl rfl)
 have hq:(jI (ym s) (uT s.mem j 0) false).q=(cpQ (cpQ s.q)).filter fun t=> !decide (t.1=(j:Int)):=zFz hs' h1 h8 false
 have hab:∀ n,VY (uT s.mem j 0) 0 n=true→n=j∨(n<9∧zg s.mem n=0):=by
  intro n h
  have h9:=zqO h
  rw [KG m1 h9,decide_eq_true_eq] at h
  by_cases e:n=j
  ·exact .inl e
  ·refine .inr ⟨h9, ?_⟩
   by_cases h0:n=0
   ·subst h0;exact ZW s.mem 0 g1 _ (by omega)
   ·rw [Ti _ _ _ n (by omega) (by omega),if_neg (by omega)] at h
    exact h
 have hj:VY (uT s.mem j 0) 0 j=true:=by rw [KG m1 (by omega),Ti _ _ _ j (by omega) (by omega),if_pos rfl];simp
 rw [zbX hs'] at hq ⊢
 refine ze3 ⟨rfl,rfl,rfl, ?_, ?_,rfl,rfl, ?_⟩
 ·show cpQ (stS (UG (Nj (ym s) (uT s.mem j 0) false) 0)).q=cpQ (je s.q j)
  rw [hq,NK]
  have:(cpQ s.q).filter (fun t=> !decide (t.1=(j:Int)))=cpQ (je s.q j):=by rw [cpQ,List.filter_map];rfl
  rw [this,NK]
 ·funext n
  show (if VY (uT s.mem j 0) 0 n=true then (0,0) else s.w n)=if n=j then (0,0) else s.w n
  by_cases e:n=j
  ·rw [e,hj];simp
  ·rw [if_neg e]
   split
   ·rename_i h
    rcases hab n h with h | ⟨h9,h0⟩
    ·exact absurd h e
    ·exact (zeQ hs h9 h0).1.symm
   ·rfl
 ·funext n
  show (if VY (uT s.mem j 0) 0 n=true then 0 else s.k n)=if n=j then 0 else s.k n
  by_cases e:n=j
  ·rw [e,hj];simp
  ·rw [if_neg e]
   split
   ·rename_i h
    rcases hab n h with h | ⟨h9,h0⟩
    ·exact absurd h e
    ·exact (zeQ hs h9 h0).2.symm
   ·rfl
theorem Iy {s g w:Ses} {e:Int} (hs:yj s=true) (h:Alike g w):zcu s g e w e=true:=by
 unfold zcu;rw [if_pos hs,JM h];simp
theorem zBE {s w:Ses} {f:Int} (hs:yj s=false):zcu s zS 2 w f=true:=by
 unfold zcu;rw [hs,JM (SI zS)];simp
theorem zB9 {s:Ses} (hs:yj s=false) (x:List (Int×Int)×Int):Rq (ym s) x=(zS,2):=by
 unfold Rq;rw [Pm,hs];simp
theorem zju {s:Ses} (hs:yj s=true) {x:List (Int×Int)×Int} (hl:x.2=0→y5 x.1=true) (hr:x.2=0→∀ id,zg s.mem id≠0→zg x.1 id≠0):zcu s (Rq (ym s) x).1 (Rq (ym s) x).2 (NF s x).1 (NF s x).2=true:=by
 unfold Rq NF
 rw [Pm,hs,if_pos rfl]
 by_cases h:x.2=0
 ·rw [if_pos h,if_pos h]
  exact Iy hs (zpv hs (hl h) (hr h))
 ·rw [if_neg h,if_neg h]
  exact Iy hs (SI zS)
theorem zgw {l:List (Int×Int)} (hm:y5 l=true) {i r:Int} (hr:r≠0):∀ id,zg l id≠0→zg (uT l i r) id≠0:=by
 intro id h
 have hid:=Df ((VP hm id).2 h)
 rw [Ti _ _ _ id hid.1 hid.2]
 split
 ·exact hr
 ·exact h
theorem zqw {s:Ses} (hs:yj s=true) (id r:Int):zcu s (Rq (ym s) (j3 s.mem id r)).1 (Rq (ym s) (j3 s.mem id r)).2 (NF s (j3 s.mem id r)).1 (NF s (j3 s.mem id r)).2=true:=by
 have g1:=(zZ hs).1
 refine zju hs ?_ ?_
 all_goals
  unfold j3
  split
  ·rename_i hc
   have hr:=hc.2.2
   simp only [UE,Bool.or_eq_true,decide_eq_true_eq] at hr
   split
   ·intro _
    first
    | exact jU g1 (.inr hr)
    | exact zgw g1 (by omega)
   ·intro h;simp at h
  ·intro h;simp at h
theorem zlF {s:Ses} (hs:yj s=true) (id r:Int):zcu s (Rq (ym s) (yK s.mem id r)).1 (Rq (ym s) (yK s.mem id r)).2 (NF s (yK s.mem id r)).1 (NF s (yK s.mem id r)).2=true:=by
 have g1:=(zZ hs).1
 refine zju hs ?_ ?_
 all_goals
  unfold yK
  split
  ·rename_i hc
   have hr:=hc.2
   simp only [UE,Bool.or_eq_true,decide_eq_true_eq] at hr
   split
   ·intro _
    first
    | exact jU g1 (.inr hr)
    | exact zgw g1 (by omega)
   ·intro h;simp at h
  ·intro h;simp at h
theorem znO {s:Ses} (hs:yj s=true) (id:Int):zcu s (Rq (ym s) (u6 s.mem id)).1 (Rq (ym s) (u6 s.mem id)).2 (zgE s (u6 s.mem id) id).1 (zgE s (u6 s.mem id) id).2=true:=by
 have g1:=(zZ hs).1
 unfold Rq zgE u6
 rw [Pm,hs,if_pos rfl,if_pos g1]
 by_cases ht:zK s.mem id=true
 ·rw [if_pos ht]
  simp only [if_true]
  obtain ⟨i1,i8⟩:=Df ht
  obtain ⟨j,hj⟩:∃ j:Nat,id=(j:Int):=⟨id.toNat,by omega⟩
  subst hj
  rw [Int.toNat_natCast]
  exact Iy hs (zoV hs (by omega) (by omega))
 ·rw [if_neg ht]
  simp only [show ¬ ((6:Int)=0) by decide,if_false]
  exact Iy hs (SI zS)
theorem zqu {s:Ses} (hs:yj s=true) (id n:Int) (d:Dd):zcu s (Wo (ym s) id n d).1 (Wo (ym s) id n d).2 (zaQ s id n d).1 (zaQ s id n d).2=true:=by
 obtain ⟨g1,g2,g3,g4,g5,g6,g7,g8,g9⟩:=zZ hs
 unfold Wo zaQ
 rw [Pm,hs,if_pos rfl]
 show zcu s (if zK s.mem id=true then _ else _:Ses×Int).1 (if zK s.mem id=true then _ else _:Ses×Int).2 _ _=true
 by_cases hr:zg s.mem id=0
 ·have ht:¬ zK s.mem id=true:=fun h=>(VP g1 id).1 h hr
  rw [if_neg ht,if_pos hr]
  exact Iy hs (SI zS)
 have ht:=(VP g1 id).2 hr
 rw [if_pos ht,if_neg hr]
 have hk:(ym s).k id.toNat=s.k id.toNat:=rfl
 rw [hk]
 by_cases hn:n=s.k id.toNat+1
 ·by_cases hx:1073741824<n
  ·rw [if_pos (.inl (by omega)),if_pos (.inl hx)]
   exact Iy hs (SI zS)
  ·have n1:¬ (1073741824≤s.k id.toNat∨¬ n=s.k id.toNat+1):=by omega
   have n2:¬ (1073741824<n∨¬ n=s.k id.toNat+1):=by omega
   rw [if_neg n1,if_neg n2]
   by_cases hd:UC d=true
   ·rw [if_pos hd,if_pos hd]
    refine Iy hs ?_
    obtain ⟨i1,i8⟩:=Df ht
    obtain ⟨j,hj⟩:∃ j:Nat,id=(j:Int):=⟨id.toNat,by omega⟩
    subst hj
    rw [Int.toNat_natCast] at *
    have hrg:=zdc hs j (by omega)
    have hq2:(YK (cpS (ym s)) j n).q=cpQ s.q:=by
     show (cpS (ym s)).q=_
     rw [zjk (by show jG 0 (cpQ s.q)=true;rw [LY];exact g3)]
     exact NK s.q
    have hb:Alike (YK (cpS (ym s)) j n) (YK s j n):=⟨rfl,rfl,rfl,by rw [hq2];exact NK s.q,rfl,rfl,rfl,rfl⟩
    have hm2:(YK s j n).mem=s.mem∧(YK s j n).h=s.h∧(YK s j n).tq=s.tq∧(YK s j n).q=s.q:=⟨rfl,rfl,rfl,rfl⟩
    unfold doS zED
    generalize YK (cpS (ym s)) j n=a at *
    generalize YK s j n=b at *
    obtain ⟨e1,e2,e3,e4,e5,e6,e7,e8⟩:=hb
    have nfb:∀ x y:Ses,Alike x y→Alike x (nf y):=fun x y h=>h
    by_cases k1:d.1=1
    ·rw [if_pos k1,if_pos k1]
     apply nfb
     rw [e2]
     by_cases he:b.h=j
     ·have hp:VG (j:Int) n d.2.1.length=true:=by
       unfold UC DY at hd
       rw [if_pos k1] at hd
       simp only [Bool.and_eq_true,decide_eq_true_eq] at hd
       simp only [VG,Bool.and_eq_true,decide_eq_true_eq]
       omega
      rw [if_pos he,zgj (by rw [hq2,LY];exact g3),hq2,zgR,NK]
      by_cases hz:zV s.q+d.2.1.length≤64
      ·rw [if_pos ⟨hp,hz⟩,if_pos ⟨he,by rw [hm2.2.2.2];exact hz⟩,hm2.2.2.2]
       refine ⟨e1,e2,e3, ?_,e5,e6,e7,e8⟩
       show cpQ (cpQ s.q++[cp _])=cpQ (cpQ s.q++[_])
       simp [cpQ,cp]
      ·rw [if_neg (fun h=>hz h.2),if_neg (by rw [hm2.2.2.2];exact fun h=>hz h.2)]
       refine ⟨e1,e2,e3, ?_,e5,e6,e7,e8⟩
       show cpQ (cpQ s.q)=cpQ b.q
       rw [hm2.2.2.2,NK]
     ·rw [if_neg he,if_neg (fun h=>he h.1)]
      exact ⟨e1,e2,e3,e4,e5,e6,e7,e8⟩
    rw [if_neg k1,if_neg k1]
    by_cases k2:d.1=2
    ·rw [if_pos k2,if_pos k2]
     apply nfb
     refine ze3 ⟨e1,e2,e3,e4, ?_,e6,e7,e8⟩
     show setW a.w j d.2.2.1 d.2.2.2.1=setW b.w j d.2.2.1 d.2.2.2.1
     rw [e5]
    rw [if_neg k2,if_neg k2]
    have hnb:RN (j:Int)=true:=(Si _).2 ⟨by omega,by omega⟩
    by_cases k3:d.1=3
    ·rw [if_pos k3,if_pos k3]
     apply nfb
     rw [e1,hm2.1]
     by_cases hw:zg s.mem j=2
     ·rw [if_pos ((zgQ g1 _).2 hw),if_pos hw,e2,e3,hm2.2.1,hm2.2.2.1]
      obtain ⟨q1,q2⟩:=zzH g2 hnb
      rw [q1,q2]
      exact ⟨e1,rfl,rfl,e4,e5,e6,e7,e8⟩
     ·rw [if_neg (fun h=>hw ((zgQ g1 _).1 h)),if_neg hw]
      exact ⟨e1,e2,e3,e4,e5,e6,e7,e8⟩
    rw [if_neg k3,if_neg k3]
    apply nfb
    rw [e2,e3,hm2.2.1,hm2.2.2.1,zna j g2 hnb]
    exact ⟨e1,rfl,rfl,e4,e5,e6,e7,e8⟩
   ·rw [if_neg hd,if_neg hd]
    exact Iy hs (SI zS)
 ·rw [if_pos (.inr hn),if_pos (.inr hn)]
  exact Iy hs (SI zS)
theorem zzW {s:Ses} (hs:yj s=false) (id n:Int) (d:Dd):Wo (ym s) id n d=(zS,2):=by
 unfold Wo;rw [Pm,hs];simp
theorem zui {s:Ses} (hs:yj s=false) (n:Int):Pb (ym s) n=(zS,[]):=by
 unfold Pb;rw [Pm,hs];simp
theorem zq4:∀ (q:List Pc) (n:Int),YX (cpQ q) n=YX q n
 | [],_=>rfl
 | x::q,n=>by
  show YX (cp x::cpQ q) n=_
  rw [YX,YX]
  show (if (x.2.2.1.length:Int)≤n then YX (cpQ q) (n - x.2.2.1.length)+1 else 0)=_
  rw [zq4]
theorem znz {s:Ses} (hs:yj s=true) (n:Int):Alike (Pb (ym s) n).1 (JV s n).1∧RF (Pb (ym s) n).2 (JV s n).2=true:=by
 have g3:=(zZ hs).2.2.1
 have hq2:(cpS (ym s)).q=cpQ s.q:=by
  rw [zjk (by show jG 0 (cpQ s.q)=true;rw [LY];exact g3)]
  exact NK s.q
 have hp:NR (cpS (ym s)).q n=(cpQ (cpQ (s.q.drop (YX s.q n))),cpQ (cpQ (s.q.take (YX s.q n)))):=by
  unfold NR
  rw [hq2,LY,if_pos g3,zq4,zhR,zeX,zhR,zeX,zhR,zeX]
 unfold Pb JV
 rw [Pm,hs,if_pos rfl,hp]
 refine ⟨⟨rfl,rfl,rfl, ?_,rfl,rfl,rfl,rfl⟩,zgs ?_⟩
 ·show cpQ (cpQ (cpQ (s.q.drop (YX s.q n))))=cpQ (s.q.drop (YX s.q n))
  rw [NK,NK]
 ·show cpQ (cpQ (cpQ (s.q.take (YX s.q n))))=cpQ (s.q.take (YX s.q n))
  rw [NK,NK]
end
end
end Go.Proofs.YthcnhibjddomdaaGreat
