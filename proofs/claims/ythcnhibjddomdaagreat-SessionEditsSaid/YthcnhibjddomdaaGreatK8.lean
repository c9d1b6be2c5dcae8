/- Parts of the proof: Ee2, AmRd, Hnd, Ee3. Conditions: as each statement says. -/
import Derived.Test.YthcnhibjddomdaaGreatK7
import Derived.Test.YthcnhibjddomdaaGreatK3
import Derived.CallsIn
import Derived.ControlIn
import Derived.RangeFuncCalls
import Derived.Test.YthcnhibjddomdaaGreatK5
set_option maxRecDepth 100000
set_option maxHeartbeats 8000000
set_option linter.unusedVariables false
set_option linter.unusedSimpArgs false
set_option linter.unusedSectionVars false
namespace Go.Proofs.YthcnhibjddomdaaGreat
section
open Go
section
variable (G:Nat→Option (List AV))
def bsC (s:Ses):List AV:=[.data true 2 (mbs s.mem) s.f1,.int .i64 s.h,.data true 1 (ints s.tq) s.f2,.data true 3 (pcs s.q) s.f3]++zF s.w++[.int .i64 s.r,.int .i64 s.c]++zP s.k
def zbl (t:Pc):List AV:=[.int .i64 t.1,.int .i64 t.2.1,.data true 1 (byt t.2.2.1) t.2.2.2]
theorem IZ (s:Ses):(bsC s).length=33:=rfl
theorem zqa (s:Ses):AV.stableL (bsC s)=false:=by simp [bsC,zF,zP,AV.stableL,AV.stable]
theorem znd (s:Ses) (h:List zf):yE h (bsC s)=some (bsC s):=by simp [bsC,zF,zP,yE,ZC]
theorem Pi (s:Ses):AV.idsL (bsC s)=[]:=by simp [bsC,zF,zP,AV.idsL,AV.ids]
theorem zmY (s:Ses):(bsC s)[0]? =some (.data true 2 (mbs s.mem) s.f1):=rfl
theorem zGI (s:Ses):(bsC s)[1]? =some (.int .i64 s.h):=rfl
theorem zGZ (s:Ses):(bsC s)[2]? =some (.data true 1 (ints s.tq) s.f2):=rfl
theorem zGH (s:Ses):(bsC s)[3]? =some (.data true 3 (pcs s.q) s.f3):=rfl
theorem zEA (s:Ses):(bsC s)[22]? =some (.int .i64 s.r):=rfl
theorem zEI (s:Ses):(bsC s)[23]? =some (.int .i64 s.c):=rfl
theorem zF9 (s:Ses):((bsC s).drop 1).take 2=[.int .i64 s.h,.data true 1 (ints s.tq) s.f2]:=rfl
theorem zGS (s:Ses):((bsC s).drop 4).take 18=zF s.w:=rfl
theorem zEr (s:Ses):((bsC s).drop 24).take 9=zP s.k:=rfl
theorem Ie (s:Ses):(bsC s).take 33=bsC s:=rfl
theorem zsI (s:Ses) {j:Nat} (h:j<9):(bsC s)[24+j]? =some (.int .i64 (s.k j)):=by
 rcases nine h with rfl | rfl | rfl | rfl | rfl | rfl | rfl | rfl | rfl<;>rfl
theorem zCN (s:Ses) {j:Nat} (h:j<9):((bsC s).drop (4+j * 2)).take 2=[.int .i64 (s.w j).1,.int .i64 (s.w j).2]:=by
 rcases nine h with rfl | rfl | rfl | rfl | rfl | rfl | rfl | rfl | rfl<;>rfl
theorem zbE (s:Ses) (h:List zf) (lo off:Nat) (o:List Nat):AV.renL h lo off o (bsC s)=bsC s:=by simp [bsC,zF,zP,AV.renL,AV.ren]
theorem zjP (s:Ses) (id:Int) (hl:s.mem.length<1000000):aP G FT jQ [.agg (bsC s),.int .i64 id]=some (.bool (wrB s.mem id)):=by
 have hF:=fun b f=>Ka G s.mem b f id hl
 have e0:=zmY s
 have e1:=IZ s
 have e2:=zqa s
 have e3:=Ie s
 have e4:=Pi s
 unfold aP wrB
 rw [PZ]
 cases ht:zK s.mem id with
 | false=>
  rw [ht] at hF
  simp only [Bool.false_eq_true,if_false] at hF
  (sym=>simp [Qb,Qd,Qe,Qf,Qg,Qi,Qj,Qm,Qn,Qo,Qr,Qt,Qu,Qv,Qw,Q4,Q5,Xp,Xw,Xx,Yj,Yr,Yt,Yv,Y1,Y5,Y7,Y9,Za,Zb,Zc,Zd,Ze,Zg,Zh,Zi,Zj,Zk,Zl,Zm,Zn,Zo,Zr,Zs,Zt,Zu,Zv,Zw,Zy,Z0,Z1,Z3,Ja,Jj,Jk,Jv,Jx,J1,J2,Ue,Uf,Ug,V6,V9,Wd,We,Wk,Hh,Hi,Hk,Hl,Hp,Hr,Ht,Hu,Hv,Hw,No,Nr,N0,Be,zfk.eq_1,zg6.eq_1,zfe.eq_1,yZ.eq_1,hF,e0,e1,e2,e3,e4])
 | true=>
  rw [ht] at hF
  simp only [if_true] at hF
  by_cases h2:zg s.mem id=2
  ·(sym=>simp [Qb,Qd,Qe,Qf,Qg,Qi,Qj,Qm,Qn,Qo,Qr,Qt,Qu,Qv,Qw,Q4,Q5,Xa,Xp,Xw,Xx,X8,Yj,Yr,Yt,Yv,Y1,Y5,Y7,Y9,Za,Zb,Zc,Zd,Ze,Zg,Zh,Zi,Zj,Zk,Zl,Zm,Zn,Zo,Zr,Zs,Zt,Zu,Zv,Zw,Zy,Z0,Z1,Ja,Jj,Jk,Jv,Jx,J1,J2,Ue,Uf,Ug,V6,V9,Wd,We,Wk,Hh,Hi,Hk,Hl,Hp,Hr,Ht,Hu,Hv,Hw,Nl,No,N0,Be,zfk.eq_1,zg6.eq_1,zfe.eq_1,yZ.eq_1,hF,e0,e1,e2,e3,e4,h2])
  ·(sym=>simp [Qb,Qd,Qe,Qf,Qg,Qi,Qj,Qm,Qn,Qo,Qr,Qt,Qu,Qv,Qw,Q4,Q5,Xa,Xp,Xw,Xx,X8,Yj,Yr,Yt,Yv,Y1,Y5,Y7,Y9,Za,Zb,Zc,Zd,Ze,Zg,Zh,Zi,Zj,Zk,Zl,Zm,Zn,Zo,Zr,Zs,Zt,Zu,Zv,Zw,Zy,Z0,Z1,Ja,Jj,Jk,Jv,Jx,J1,J2,Ue,Uf,Ug,V6,V9,Wd,We,Wk,Hh,Hi,Hk,Hl,Hp,Hr,Ht,Hu,Hv,Hw,Nm,No,Nq,N0,Be,zfk.eq_1,zg6.eq_1,zfe.eq_1,yZ.eq_1,hF,e0,e1,e2,e3,e4,h2])
theorem zuE (q:List Pc) (f:Bool) (ff:Nat) (fs cs:List AV) (p:Pc→Bool) (h:List zf) (hC:vT h) (hF:∀ i ∈ AV.idsL fs++AV.idsL cs,i<h.length) (hl:q.length<1000000) (J:Pc→List zf)
  (hp:∀ x,aR G FT ff (fs++[.agg (zbl x)]++cs) h=some (.bool (p x),h++J x)):∃ e,aR G FT vk [.data true 3 (pcs q) f,.fn (.func ff) fs cs] h=some (.bool (q.any p),h++e):=by
 have hat:∀ (i:Nat) (hi:i<q.length),(pcs q)[i]? =some (UK q[i]):=fun i hi=>by simp [pcs,hi]
 have hidx:∀ (j i:Nat),i<q.length→FB ((fun _=>h) j) 3 (.data true 3 (pcs q) f) (.int .i64 i)=some ((fun i=>.dptr (zez true ((pcs q).getD i []))) i):=fun j i hi=>by
  have h4:=YZ hi
  have h5:(pcs q).getD i []=[.int .i64 q[i].1,.int .i64 q[i].2.1,.data false 1 (byt q[i].2.2.1) q[i].2.2.2]:=by rw [List.getD_eq_getElem?_getD,h4];rfl
  (sym=>simp [Yy,Zh,Ni,Nk,Ma,Mb,Md,Me,Mf,h4,h5])
 have hld:∀ (j i:Nat) (hi:i<q.length),UL ((fun _=>h) j) true 3 ((fun i=>.dptr (zez true ((pcs q).getD i []))) i)=some ((fun m=>AV.agg (zbl m)) q[i]):=fun j i hi=>by
  have h5:(pcs q).getD i []=[.int .i64 q[i].1,.int .i64 q[i].2.1,.data false 1 (byt q[i].2.2.1) q[i].2.2.2]:=by rw [List.getD_eq_getElem?_getD,YZ hi];rfl
  simp only [h5,zbl,zez,List.map_cons,List.map_nil,AV.tob]
  (sym=>simp [Ys,Yu,Zm,Zn,Ho,Hq,Hs,Nu])
 have hlen:zbi false (.data true 3 (pcs q) f)=some (.int .i64 q.length):=by
  have:=yB q
  (sym=>simp [Yh,this])
 rcases zcO p q with ⟨ha,hn⟩ | ⟨k,hk,ha,h1,h2⟩
 ·have key:=RQ G q (fun m=>AV.agg (zbl m)) (.data true 3 (pcs q) f) (fun i=>.dptr (zez true ((pcs q).getD i []))) ff fs cs (fun i=>if h:i<q.length then p q[i] else false) (fun _=>h) (fun i=>if hi:i<q.length then J q[i] else []) h.length (fun _=>rfl) (fun _=>hC) (by simp [AV.ids]) hF (by omega) hlen hidx hld (fun i hi=>by simp only [dif_pos hi];exact hp _) (fun j hj=>by simp only [dif_pos hj];exact hn j hj)
  refine ⟨[], ?_⟩
  rw [Pg G _ _ _ _ _ key,ha,List.append_nil];rfl
 ·have key:=SH G q (fun m=>AV.agg (zbl m)) (.data true 3 (pcs q) f) (fun i=>.dptr (zez true ((pcs q).getD i []))) ff fs cs (fun i=>if h:i<q.length then p q[i] else false) (fun _=>h) (fun i=>if hi:i<q.length then J q[i] else []) h.length (fun _=>rfl) (fun _=>hC) (by simp [AV.ids]) hF (by omega) hlen hidx hld k hk (fun i hi _=>by simp only [dif_pos hi];exact hp _) (by simp only [dif_pos hk];exact h1) (fun j hj=>by
   have hj':j<q.length:=by omega
   simp only [dif_pos hj'];exact h2 j hj' hj)
  have d1:decide ((0:Int)≤(k:Int))=true:=by simp
  refine ⟨J q[k], ?_⟩
  rw [Pg G _ _ _ _ _ key,ha,d1,dif_pos hk]
def bsH (s:Ses):List zf:=[⟨33,0,false,[bsC s]⟩]
theorem zhs (s:Ses):vT (bsH s):=fun r hr i hi=>by simp [bsH] at hr;subst hr;simp [zf.ids,Pi] at hi
theorem zvD (s:Ses) (hl:s.mem.length<1000000) (id:Int):aR G FT oU [.int .i64 id,.ptr 0 0 0 0] (bsH s)=some (.bool (!wrB s.mem id),bsH s):=by
 have hW:=zjP G s id hl
 have e1:=IZ s
 have e3:=Ie s
 have e4:=Pi s
 have e5:=znd s
 unfold bsH
 rw [Lb]
 (sym=>simp [Qb,Qd,Qe,Qi,Qj,Qm,Qn,Qo,Qr,Qt,Q4,Xd,Yr,Yu,Y1,Y5,Y7,Y9,Za,Zb,Zc,Ze,Zg,Zh,Zi,Zj,Zk,Zl,Zm,Zn,Zo,Zr,Zs,Zt,Zu,Zv,Zw,Zy,Z0,Jj,Jk,Jv,Jx,V3,V6,Wd,We,Hh,Hs,Be,zy8.eq_1,zxY.eq_1,oP.eq_1,hW,e1,e3,e4,e5])
theorem ziN (s:Ses) (hl:s.mem.length<1000000) (t:Pc):∃ e,aR G FT oZ [.agg (zbl t),.ptr 0 0 0 0] (bsH s)=some (.bool (RJ s t),bsH s++e):=by
 have hF:=fun b f=>Ka G s.mem b f t.1 hl
 have e0:=zmY s
 have e1:=IZ s
 have e3:=Ie s
 have e4:=Pi s
 have e5:=znd s
 have e6:=zEr s
 unfold bsH RJ zbl
 rw [NZ]
 cases ht:zK s.mem t.1 with
 | false=>
  rw [ht] at hF
  simp only [Bool.false_eq_true,if_false] at hF
  refine ⟨[⟨3,0,false,[[.int .i64 t.1,.int .i64 t.2.1,.data true 1 (byt t.2.2.1) t.2.2.2]]⟩,⟨2,0,true,[[.int .i64 0,.int .i64 0]]⟩], ?_⟩
  (sym=>simp [Qb,Qd,Qe,Qf,Qg,Qi,Qj,Qm,Qn,Qo,Qr,Qt,Qu,Qv,Qw,Q4,Q5,Xd,Xp,Xw,Xx,Yj,Yr,Yt,Yv,Y1,Y5,Y7,Y9,Za,Zb,Zc,Zd,Ze,Zg,Zh,Zi,Zj,Zk,Zl,Zm,Zn,Zo,Zr,Zs,Zt,Zu,Zv,Zw,Zy,Z0,Z1,Z3,Jb,Jj,Jk,Jv,Jx,J1,J2,Ue,Uf,Ug,Ul,V6,V9,Wd,We,Hh,Hi,Hk,Hl,Hp,Hr,Ht,Hu,Hv,Hw,No,Nq,Nt,Nw,Nx,N0,Be,zeV.eq_1,zfd.eq_1,zfB.eq_1,vJ.eq_1,hF,e0,e1,e3,e4,e5])
 | true=>
  rw [ht] at hF
  simp only [if_true] at hF
  have hid:idB t.1=true:=by simp [zK] at ht;exact ht.1.2
  obtain ⟨i1,i8⟩:1≤t.1∧t.1≤8:=by simpa [idB] using hid
  obtain ⟨j,hj⟩:∃ j:Nat,t.1=(j:Int):=⟨t.1.toNat,by omega⟩
  have hj9:j<9:=by omega
  have hj9':(j:Int)<9:=by omega
  have hka:=zsI s hj9
  have hn:t.1.toNat=j:=by omega
  rw [hn]
  rw [hj] at hF ⊢
  refine ⟨[⟨3,0,false,[[.int .i64 (j:Int),.int .i64 t.2.1,.data true 1 (byt t.2.2.1) t.2.2.2]]⟩,⟨2,0,true,[[.int .i64 (j:Int),.int .i64 (zg s.mem j)]]⟩], ?_⟩
  by_cases hc:s.k j<t.2.1
  ·(sym=>simp [Qb,Qd,Qe,Qf,Qg,Qi,Qj,Qm,Qn,Qo,Qr,Qt,Qu,Qv,Qw,Q4,Q5,Xa,Xd,Xp,Xt,Xw,Xx,Yc,Yj,Yr,Yt,Yv,Yz,Y1,Y5,Y7,Y9,Za,Zb,Zc,Zd,Ze,Zg,Zh,Zi,Zj,Zk,Zl,Zm,Zn,Zo,Zr,Zs,Zt,Zu,Zv,Zw,Zy,Z0,Z1,Z3,Jb,Jj,Jk,Jv,Jx,J1,J2,Ue,Uf,Ug,Ul,V6,V9,Wd,We,Hh,Hi,Hk,Hl,Hp,Hr,Ht,Hu,Hv,Hw,Nc,Ni,Nk,Nl,No,Nq,Ns,Nw,Nx,Nz,N0,Be,Bh,zeV.eq_1,zfd.eq_1,zfB.eq_1,vJ.eq_1,hF,e0,e1,e3,e4,e5,hj9,hj9',hka,hc])
  ·(sym=>simp [Qb,Qd,Qe,Qf,Qg,Qi,Qj,Qm,Qn,Qo,Qr,Qt,Qu,Qv,Qw,Q4,Q5,Xa,Xd,Xp,Xt,Xw,Xx,Yc,Yj,Yr,Yt,Yv,Yz,Y1,Y5,Y7,Y9,Za,Zb,Zc,Zd,Ze,Zg,Zh,Zi,Zj,Zk,Zl,Zm,Zn,Zo,Zr,Zs,Zt,Zu,Zv,Zw,Zy,Z0,Z1,Z3,Jb,Jj,Jk,Jv,Jx,J1,J2,Ue,Uf,Ug,Ul,V6,V9,Wd,We,Hh,Hi,Hk,Hl,Hp,Hr,Ht,Hu,Hv,Hw,Nc,Ni,Nk,Nm,No,Nq,Nu,Nw,Nx,Nz,N0,Be,Bh,zeV.eq_1,zfd.eq_1,zfB.eq_1,vJ.eq_1,hF,e0,e1,e3,e4,e5,hj9,hj9',hka,hc])
theorem zic (s:Ses) (hl:s.mem.length<1000000):∀ (m i:Nat),i+m=9→∃ R,
  (∀ st,agc 0 [1,67,68] st=some ⟨[(1,.ptr 0 0 0 0),(67,.agg (zP s.k)),(68,.int .i64 i)],[⟨33,0,false,[bsC s]⟩]⟩→aE G FT 0 ja st=some R)∧
  ((vw s m i=true∧R=(.exit 0,⟨[(1,.ptr 0 0 0 0),(67,.agg (zP s.k)),(68,.int .i64 9),(69,.bool false)],[⟨33,0,false,[bsC s]⟩]⟩))∨
   (vw s m i=false∧∃ h',R=(.ret,⟨[(2,.bool false)],h'⟩))):=by
 have e0:=zmY s
 have e1:=IZ s
 have e3:=Ie s
 have e4:=Pi s
 have e6:=zlK s.k
 have e5:=zbE s
 have e7:=zkY s.k
 have e8:=zla s.k
 intro m
 induction m with
 | zero=>
  intro i hi
  obtain rfl:i=9:=by omega
  have e9:((9:Nat):Int)=9:=rfl
  refine ⟨_,fun st hst=> ?_,.inl ⟨rfl,rfl⟩⟩
  rw [ja,zn,hst]
  (sym=>simp [Qa,Qd,Qe,Qi,Qj,Qt,Xa,Ya,Y9,Za,Zb,Zc,Ze,Zg,Zh,Zt,Zv,Zw,Z3,Jj,Jk,Jm,Jr,Ju,Jv,Nm,Be,Bh,Rx.eq_1,Ru.eq_1,WS.eq_1,VC.eq_1,WG.eq_1,WK.eq_1,zy.eq_1,e9,e1,e4,e5,e6,e7,e8])
 | succ m ih=>
  intro i hi
  have hi9:i<9:=by omega
  have hi9':(i:Int)<9:=by omega
  have hw:=zH (n:=i) (by omega)
  have hF:=fun b f=>Ka G s.mem b f i hl
  have hka:=zDH s.k hi9
  have hwa:=zCN s hi9
  have hb2:4+i * 2+2≤33:=by omega
  rw [ja] at ih ⊢
  rw [vw]
  have bad:∀ (x y:Int),tkB s i=false→(∀ st,agc 0 [1,67,68] st=some ⟨[(1,.ptr 0 0 0 0),(67,.agg (zP s.k)),(68,.int .i64 i)],[⟨33,0,false,[bsC s]⟩]⟩→aE G FT 0 (.loop [1,67,68] zy) st=some (.ret,⟨[(2,.bool false)],[⟨33,0,false,[bsC s]⟩,⟨2,0,true,[[.int .i64 x,.int .i64 y]]⟩]⟩))→
    ∃ R,(∀ st,agc 0 [1,67,68] st=some ⟨[(1,.ptr 0 0 0 0),(67,.agg (zP s.k)),(68,.int .i64 i)],[⟨33,0,false,[bsC s]⟩]⟩→aE G FT 0 (.loop [1,67,68] zy) st=some R)∧
     (((tkB s i&&vw s m (i+1))=true∧R=(.exit 0,⟨[(1,.ptr 0 0 0 0),(67,.agg (zP s.k)),(68,.int .i64 9),(69,.bool false)],[⟨33,0,false,[bsC s]⟩]⟩))∨
      ((tkB s i&&vw s m (i+1))=false∧∃ h',R=(.ret,⟨[(2,.bool false)],h'⟩))):=fun x y hb h=>⟨_,h,.inr ⟨by rw [hb];rfl,_,rfl⟩⟩
  have good:tkB s i=true→(∀ R,(∀ st',agc 0 [1,67,68] st'=some ⟨[(1,.ptr 0 0 0 0),(67,.agg (zP s.k)),(68,.int .i64 ((i+1:Nat):Int))],[⟨33,0,false,[bsC s]⟩]⟩→aE G FT 0 (.loop [1,67,68] zy) st'=R)→
    ∀ st,agc 0 [1,67,68] st=some ⟨[(1,.ptr 0 0 0 0),(67,.agg (zP s.k)),(68,.int .i64 i)],[⟨33,0,false,[bsC s]⟩]⟩→aE G FT 0 (.loop [1,67,68] zy) st=R)→
    ∃ R,(∀ st,agc 0 [1,67,68] st=some ⟨[(1,.ptr 0 0 0 0),(67,.agg (zP s.k)),(68,.int .i64 i)],[⟨33,0,false,[bsC s]⟩]⟩→aE G FT 0 (.loop [1,67,68] zy) st=some R)∧
     (((tkB s i&&vw s m (i+1))=true∧R=(.exit 0,⟨[(1,.ptr 0 0 0 0),(67,.agg (zP s.k)),(68,.int .i64 9),(69,.bool false)],[⟨33,0,false,[bsC s]⟩]⟩))∨
      ((tkB s i&&vw s m (i+1))=false∧∃ h',R=(.ret,⟨[(2,.bool false)],h'⟩))):=fun hb h=>by
   obtain ⟨R,i1,i2⟩:=ih (i+1) (by omega)
   exact ⟨R,h _ i1,by rw [hb,Bool.true_and];exact i2⟩
  by_cases k0:s.k i<0
  ·refine bad (if zK s.mem i=true then (i:Int) else 0) (if zK s.mem i=true then zg s.mem i else 0) (by simp [tkB,k0]) fun st hst=> ?_
   rw [zn,hst]
   (sym=>simp [Qb,Qc,Qd,Qe,Qf,Qg,Qh,Qi,Qj,Qm,Qn,Qo,Qr,Qt,Qu,Qv,Q4,Q5,Xa,Xp,Xu,Xw,Xx,Ya,Yr,Yt,Yv,Y9,Za,Zb,Zc,Zd,Ze,Zg,Zh,Zm,Zn,Zo,Zt,Zv,Zw,Zy,Z0,Z1,Z3,Jb,Jj,Jk,Jl,Jn,Jp,Jr,Jt,Jv,J1,J2,K6,Ue,Uf,Ug,V6,V9,Wd,We,Hh,Hi,Hk,Hl,Hp,Hr,Ht,Hu,Hv,Hw,Nc,Ni,Nk,Nl,No,Nw,Nz,N0,Be,Bh,Rx.eq_1,Ru.eq_1,WS.eq_1,VC.eq_1,WG.eq_1,WK.eq_1,zy.eq_1,hF,e0,e1,e3,e4,e5,e6,e7,e8,hi9,hi9',hka,k0])
  by_cases k1:1073741824<s.k i
  ·refine bad (if zK s.mem i=true then (i:Int) else 0) (if zK s.mem i=true then zg s.mem i else 0) (by simp [tkB,k1]) fun st hst=> ?_
   rw [zn,hst]
   (sym=>simp [Qb,Qc,Qd,Qe,Qf,Qg,Qh,Qi,Qj,Qm,Qn,Qo,Qr,Qt,Qu,Qv,Q4,Q5,Xa,Xp,Xu,Xw,Xx,Ya,Yc,Yr,Yt,Yv,Y9,Za,Zb,Zc,Zd,Ze,Zg,Zh,Zm,Zn,Zo,Zt,Zv,Zw,Zy,Z0,Z1,Z3,Jb,Jj,Jk,Jl,Jn,Jp,Jr,Jt,Jv,J1,J2,K6,Ue,Uf,Ug,V6,V9,Wd,We,Hh,Hi,Hk,Hl,Hp,Hr,Ht,Hu,Hv,Hw,Nc,Ni,Nk,Nl,Nm,No,Nw,Nx,Nz,N0,Be,Bh,Rx.eq_1,Ru.eq_1,WS.eq_1,VC.eq_1,WG.eq_1,WK.eq_1,zy.eq_1,hF,e0,e1,e3,e4,e5,e6,e7,e8,hi9,hi9',hka,k0,k1])
  cases ht:zK s.mem i with
  | true=>
   rw [ht] at hF
   simp only [if_true] at hF
   refine good (by simp [tkB,k0,k1,ht]) fun R hR st hst=> ?_
   rw [zn,hst]
   (sym=>simp [Qc,Qd,Qe,Qf,Qg,Qh,Qi,Qj,Qm,Qn,Qo,Qr,Qt,Qu,Qv,Q4,Q5,Xa,Xd,Xp,Xu,Xw,Xx,X5,Ya,Yc,Yr,Yt,Yv,Y9,Za,Zb,Zc,Zd,Ze,Zg,Zh,Zm,Zn,Zo,Zt,Zv,Zw,Zy,Z0,Z1,Z3,Ja,Jb,Jj,Jk,Jn,Jo,Jr,Js,Jv,J1,J2,K6,Ue,Uf,Ug,V6,V9,Wd,We,Hh,Hi,Hk,Hl,Hp,Hr,Ht,Hu,Hv,Hw,Nc,Ni,Nk,Nl,Nm,No,Nw,Nx,Nz,N0,Be,Bh,Rx.eq_1,Ru.eq_1,WS.eq_1,VC.eq_1,WG.eq_1,WK.eq_1,zy.eq_1,hF,e0,e1,e3,e4,e5,e6,e7,e8,hi9,hi9',hka,k0,k1,hw];tactic=>(
    refine hR _ ?_
    (sym=>simp [Y9,Za,Zb,Ze,Zk,Zl,Zm,Zn,Zv,Zw,Zx,Zy,Zz,Z0,Z3,Ut,Uu,Ux,U4,U5,U7,U8,Vb,Vl,Vn,Vo,Vp,Vq,Vr,Vs,Vt,Vu,Vv,Vw,Vx,Vy,Vz,V0,Hh,Hp,Hv,Hw,H0,H1,H5,H6,Nl,No,Nx,e4,e5,e6,e8])))
  | false=>
   rw [ht] at hF
   simp only [Bool.false_eq_true,if_false] at hF
   by_cases k2:s.k i=0
   ·by_cases w1:(s.w i).1=0
    ·by_cases w2:(s.w i).2=0
     ·refine good (by simp [tkB,k0,k1,ht,k2,w1,w2]) fun R hR st hst=> ?_
      rw [zn,hst]
      (sym=>simp [Qc,Qd,Qe,Qf,Qg,Qi,Qj,Qm,Qn,Qo,Qr,Qt,Qu,Qv,Qx,Q1,Q4,Q5,Xa,Xb,Xd,Xp,Xt,Xu,Xw,Xx,X5,X9,Ya,Yc,Yr,Yt,Yu,Yv,Yz,Y9,Za,Zb,Zc,Zd,Ze,Zg,Zh,Zm,Zn,Zo,Zt,Zv,Zw,Zy,Z0,Z1,Z3,Ja,Jb,Jg,Jj,Jk,Jn,Jo,Jr,Js,Jv,J1,J2,Kh,Kk,Kl,Km,K6,K8,Ue,Uf,Ug,V6,V9,Wd,We,Hh,Hi,Hk,Hl,Hp,Hr,Ht,Hu,Hv,Hw,Nc,Ni,Nk,Nl,Nm,No,Nw,Nx,Nz,N0,Be,Bh,Rx.eq_1,Ru.eq_1,WS.eq_1,VC.eq_1,WG.eq_1,WK.eq_1,zy.eq_1,hF,e0,e1,e3,e4,e5,e6,e7,e8,hi9,hi9',hka,hwa,hb2,k0,k1,k2,w1,w2,hw];tactic=>(
       refine hR _ ?_
       (sym=>simp [Y9,Za,Zb,Ze,Zk,Zl,Zm,Zn,Zv,Zw,Zx,Zy,Zz,Z0,Z3,Ut,Uu,Ux,U4,U5,U7,U8,Vb,Vl,Vn,Vo,Vp,Vq,Vr,Vs,Vt,Vu,Vv,Vw,Vx,Vy,Vz,V0,Hh,Hp,Hv,Hw,H0,H1,H5,H6,Nl,No,Nx,e4,e5,e6,e8])))
     ·refine bad 0 0 (by simp [tkB,k2,ht,w2]) fun st hst=> ?_
      rw [zn,hst]
      (sym=>simp [Qb,Qc,Qd,Qe,Qf,Qg,Qi,Qj,Qm,Qn,Qo,Qr,Qt,Qu,Qv,Qx,Q1,Q4,Q5,Xa,Xb,Xd,Xp,Xt,Xu,Xw,Xx,X9,Ya,Yc,Yr,Yt,Yu,Yv,Yz,Y9,Za,Zb,Zc,Zd,Ze,Zg,Zh,Zm,Zn,Zo,Zt,Zv,Zw,Zy,Z0,Z1,Z3,Ja,Jb,Jg,Jj,Jk,Jl,Jn,Jp,Jr,Jt,Jv,J1,J2,Kh,Kk,Kl,Km,K6,K8,Ue,Uf,Ug,V6,V9,Wd,We,Hh,Hi,Hk,Hl,Hp,Hr,Ht,Hu,Hv,Hw,Nc,Ni,Nk,Nl,Nm,No,Nq,Nw,Nx,Nz,N0,Be,Bh,Rx.eq_1,Ru.eq_1,WS.eq_1,VC.eq_1,WG.eq_1,WK.eq_1,zy.eq_1,hF,e0,e1,e3,e4,e5,e6,e7,e8,hi9,hi9',hka,hwa,hb2,k0,k1,k2,w1,w2])
    ·refine bad 0 0 (by simp [tkB,k2,ht,w1]) fun st hst=> ?_
     rw [zn,hst]
     (sym=>simp [Qb,Qc,Qd,Qe,Qf,Qg,Qi,Qj,Qm,Qn,Qo,Qr,Qt,Qu,Qv,Qx,Q1,Q4,Q5,Xa,Xb,Xd,Xp,Xt,Xu,Xw,Xx,X9,Ya,Yc,Yr,Yt,Yu,Yv,Yz,Y9,Za,Zb,Zc,Zd,Ze,Zg,Zh,Zm,Zn,Zo,Zt,Zv,Zw,Zy,Z0,Z1,Z3,Ja,Jb,Jg,Jj,Jk,Jl,Jn,Jp,Jr,Jt,Jv,J1,J2,Kh,Kk,Kl,Km,K6,K8,Ue,Uf,Ug,V6,V9,Wd,We,Hh,Hi,Hk,Hl,Hp,Hr,Ht,Hu,Hv,Hw,Nc,Ni,Nk,Nl,Nm,No,Nr,Nw,Nx,Nz,N0,Be,Bh,Rx.eq_1,Ru.eq_1,WS.eq_1,VC.eq_1,WG.eq_1,WK.eq_1,zy.eq_1,hF,e0,e1,e3,e4,e5,e6,e7,e8,hi9,hi9',hka,hwa,hb2,k0,k1,k2,w1])
   ·refine bad 0 0 (by simp [tkB,k2,ht]) fun st hst=> ?_
    rw [zn,hst]
    (sym=>simp [Qb,Qc,Qd,Qe,Qf,Qg,Qi,Qj,Qm,Qn,Qo,Qr,Qt,Qu,Qv,Q4,Q5,Xa,Xd,Xp,Xu,Xw,Xx,X9,Ya,Yc,Yr,Yt,Yv,Y9,Za,Zb,Zc,Zd,Ze,Zg,Zh,Zm,Zn,Zo,Zt,Zv,Zw,Zy,Z0,Z1,Z3,Ja,Jb,Jj,Jk,Jl,Jn,Jp,Jr,Jt,Jv,J1,J2,K6,Ue,Uf,Ug,V6,V9,Wd,We,Hh,Hi,Hk,Hl,Hp,Hr,Ht,Hu,Hv,Hw,Nc,Ni,Nk,Nl,Nm,No,Nw,Nx,Nz,N0,Be,Bh,Rx.eq_1,Ru.eq_1,WS.eq_1,VC.eq_1,WG.eq_1,WK.eq_1,zy.eq_1,hF,e0,e1,e3,e4,e5,e6,e7,e8,hi9,hi9',hka,k0,k1,k2])
theorem zva (s:Ses) (h:okS s):aP G FT jM [.agg (bsC s)]=some (.bool (yj s)):=by
 obtain ⟨hl1,hl2,hl3⟩:=h
 have hl:s.mem.length<1000000:=by omega
 have hM:=fun b f=>za7 G s.mem b f hl
 have hT:=fun b f=>zjN G s.h s.tq b f hl2
 have hQ:=fun b f=>zfC G s.q hl3 b f
 have hW:=zl2 G s.w
 have hWr:=zjP G s s.h hl
 have hI:=fun b f=>zkb G s.tq b f oU [] [.ptr 0 0 0 0] (fun id=> !wrB s.mem id) (bsH s) (zhs s) (by simp [AV.idsL,AV.ids,bsH]) (by omega) (fun x=>zvD G s hl x)
 have hP:=fun f=>zuE G s.q f oZ [] [.ptr 0 0 0 0] (RJ s) (bsH s) (zhs s) (by simp [AV.idsL,AV.ids,bsH]) (by have:=hl3.1;omega) (fun x=>Classical.choose (ziN G s hl x)) (fun x=>Classical.choose_spec (ziN G s hl x))
 obtain ⟨e,hP⟩:=hP s.f3
 obtain ⟨R,k1,k2⟩:=zic G s hl 9 0 (by omega)
 have e0:=zmY s
 have e1:=zGI s
 have e2:=zGZ s
 have e3:=zGH s
 have e4:=IZ s
 have e5:=Ie s
 have e6:=Pi s
 have e7:=zqa s
 have g1:=zbE s
 have e8:=znd s
 have e9:=zF9 s
 have f0:=zGS s
 have f1:=zEr s
 have f2:=zEA s
 have f3:=zEI s
 have f4:=zlK s.k
 have f5:=zkY s.k
 have f6:=zla s.k
 have f7:=Tg s.w
 have f8:=zkn s.w
 simp only [Int.natCast_zero] at k1
 have k1:=k1 ⟨[(1,.ptr 0 0 0 0),(67,.agg (zP s.k)),(68,.int .i64 0)],[⟨33,0,false,[bsC s]⟩]⟩ (by (sym=>simp [Y9,Za,Zb,Ze,Zk,Zl,Zm,Zn,Zv,Zw,Zx,Zy,Zz,Z0,Z3,Ut,Uu,Ux,U4,U5,U7,U8,Vb,Vl,Vn,Vo,Vp,Vq,Vr,Vs,Vt,Vu,Vv,Vw,Vx,Vy,Vz,V0,Hh,Hp,Hv,Hw,H0,H1,H5,H6,Nl,No,Nx,e6,g1,f4,f6]))
 unfold bsH at hI hP
 unfold aP
 rw [Ff]
 cases h1:y5 s.mem with
 | false=>simp only [yj,h1,Bool.false_and];(sym=>simp [Qb,Qd,Qe,Qf,Qg,Qi,Qj,Qm,Qn,Qo,Qr,Qt,Qu,Qw,Q4,Xd,Xp,Yj,Yr,Yt,Yv,Y1,Y5,Y7,Y9,Za,Zb,Zc,Ze,Zg,Zh,Zi,Zj,Zk,Zl,Zm,Zo,Zr,Zs,Zt,Zu,Zv,Zw,Zy,Z0,Z3,Jb,Jj,Jk,Jl,Jr,Jv,Jx,V9,Wd,We,Wk,Hh,Hv,Nw,Nx,Be,oq.eq_1,ow.eq_1,jZ.eq_1,og.eq_1,oh.eq_1,j6.eq_1,oF.eq_1,oH.eq_1,uq.eq_1,zA.eq_1,g1,hM,h1,e0,e4,e5,e7])
 | true=>
 cases h2:Yf s.h s.tq with
 | false=>simp only [yj,h1,h2,Bool.false_and,Bool.true_and];(sym=>simp [Qb,Qd,Qe,Qf,Qg,Qi,Qj,Qm,Qn,Qo,Qr,Qt,Qu,Qw,Q4,Xd,Xp,Yj,Yr,Yt,Yu,Yv,Y1,Y5,Y7,Y9,Za,Zb,Zc,Ze,Zg,Zh,Zi,Zj,Zk,Zl,Zm,Zo,Zr,Zs,Zt,Zu,Zv,Zw,Zy,Z0,Z3,Jb,Jj,Jk,Jl,Jr,Jv,Jx,V3,V6,V9,Wd,We,Wk,Hh,Hv,Nw,Nx,Be,oq.eq_1,ow.eq_1,jZ.eq_1,og.eq_1,oh.eq_1,j6.eq_1,oF.eq_1,oH.eq_1,uq.eq_1,zA.eq_1,g1,hM,h1,hT,h2,e0,e4,e5,e7,e9])
 | true=>
 cases h3:jG 0 s.q with
 | false=>simp only [yj,h1,h2,h3,Bool.false_and,Bool.true_and];(sym=>simp [Qb,Qd,Qe,Qf,Qg,Qi,Qj,Qm,Qn,Qo,Qr,Qt,Qu,Qw,Q4,Xd,Xp,Yj,Yr,Yt,Yu,Yv,Y1,Y5,Y7,Y9,Za,Zb,Zc,Ze,Zg,Zh,Zi,Zj,Zk,Zl,Zm,Zo,Zr,Zs,Zt,Zu,Zv,Zw,Zy,Z0,Z3,Jb,Jj,Jk,Jl,Jr,Jv,Jx,V3,V6,V9,Wd,We,Wk,Hh,Hv,Nw,Nx,Be,oq.eq_1,ow.eq_1,jZ.eq_1,og.eq_1,oh.eq_1,j6.eq_1,oF.eq_1,oH.eq_1,uq.eq_1,zA.eq_1,g1,hM,h1,hT,h2,hQ,h3,e0,e3,e4,e5,e7,e9])
 | true=>
 cases h4:TN s.w with
 | false=>simp only [yj,h1,h2,h3,h4,Bool.false_and,Bool.true_and];(sym=>simp [Qb,Qd,Qe,Qf,Qg,Qi,Qj,Qm,Qn,Qo,Qr,Qt,Qu,Qw,Q4,Xd,Xp,Yj,Yr,Yt,Yu,Yv,Y1,Y5,Y7,Y9,Za,Zb,Zc,Ze,Zg,Zh,Zi,Zj,Zk,Zl,Zm,Zo,Zr,Zs,Zt,Zu,Zv,Zw,Zy,Z0,Z3,Jb,Jj,Jk,Jl,Jr,Jv,Jx,V3,V6,V9,Wd,We,Wk,Hh,Hv,Nw,Nx,Be,oq.eq_1,ow.eq_1,jZ.eq_1,og.eq_1,oh.eq_1,j6.eq_1,oF.eq_1,oH.eq_1,uq.eq_1,zA.eq_1,g1,hM,h1,hT,h2,hQ,h3,hW,h4,f0,f8,e0,e3,e4,e5,e7,e9])
 | true=>
 have go:yj s=(ZO s&&(decide (s.h=0)||wrB s.mem s.h)&& !(s.tq.any fun id=> !wrB s.mem id)&&vw s 9 0&& !(s.q.any (RJ s))):=by simp only [yj,h1,h2,h3,h4,Bool.true_and]
 rw [go]
 by_cases r1:s.r<1
 ·have hs:ZO s=false:=by simp [ZO];omega
  simp only [hs,Bool.false_and]
  (sym=>simp [Qb,Qc,Qd,Qe,Qf,Qg,Qi,Qj,Qm,Qn,Qo,Qr,Qt,Qu,Qw,Q4,Xa,Xd,Xp,Ya,Yj,Yr,Yt,Yu,Yv,Y1,Y5,Y7,Y9,Za,Zb,Zc,Ze,Zg,Zh,Zi,Zj,Zk,Zl,Zm,Zo,Zr,Zs,Zt,Zu,Zv,Zw,Zy,Z0,Z3,Jb,Jj,Jk,Jl,Jr,Jv,Jx,V3,V6,V9,Wd,We,Wk,Hh,Hv,Nl,Nw,Nx,Be,oq.eq_1,ow.eq_1,jZ.eq_1,og.eq_1,oh.eq_1,j6.eq_1,oF.eq_1,oH.eq_1,uq.eq_1,zA.eq_1,g1,hM,h1,hT,h2,hQ,h3,hW,h4,f0,f8,e0,e3,e4,e5,e6,g1,e7,e9,f2,r1])
 by_cases r2:24<s.r
 ·have hs:ZO s=false:=by simp [ZO];omega
  simp only [hs,Bool.false_and]
  (sym=>simp [Qb,Qc,Qd,Qe,Qf,Qg,Qi,Qj,Qm,Qn,Qo,Qr,Qt,Qu,Qw,Q4,Xa,Xd,Xp,Ya,Yc,Yj,Yr,Yt,Yu,Yv,Y1,Y5,Y7,Y9,Za,Zb,Zc,Ze,Zg,Zh,Zi,Zj,Zk,Zl,Zm,Zo,Zr,Zs,Zt,Zu,Zv,Zw,Zy,Z0,Z3,Jb,Jj,Jk,Jl,Jr,Jv,Jx,V3,V6,V9,Wd,We,Wk,Hh,Hv,Nl,Nm,Nw,Nx,Be,oq.eq_1,ow.eq_1,jZ.eq_1,og.eq_1,oh.eq_1,j6.eq_1,oF.eq_1,oH.eq_1,uq.eq_1,zA.eq_1,g1,hM,h1,hT,h2,hQ,h3,hW,h4,f0,f8,e0,e3,e4,e5,e6,g1,e7,e9,f2,r1,r2])
 by_cases r3:s.c<1
 ·have hs:ZO s=false:=by simp [ZO];omega
  simp only [hs,Bool.false_and]
  (sym=>simp [Qb,Qc,Qd,Qe,Qf,Qg,Qi,Qj,Qm,Qn,Qo,Qr,Qt,Qu,Qw,Q4,Xa,Xd,Xp,Ya,Yc,Yj,Yr,Yt,Yu,Yv,Y1,Y5,Y7,Y9,Za,Zb,Zc,Ze,Zg,Zh,Zi,Zj,Zk,Zl,Zm,Zo,Zr,Zs,Zt,Zu,Zv,Zw,Zy,Z0,Z3,Jb,Jj,Jk,Jl,Jr,Jv,Jx,V3,V6,V9,Wd,We,Wk,Hh,Hv,Nl,Nm,Nw,Nx,Be,oq.eq_1,ow.eq_1,jZ.eq_1,og.eq_1,oh.eq_1,j6.eq_1,oF.eq_1,oH.eq_1,uq.eq_1,zA.eq_1,g1,hM,h1,hT,h2,hQ,h3,hW,h4,f0,f8,e0,e3,e4,e5,e6,g1,e7,e9,f2,f3,r1,r2,r3])
 by_cases r4:40<s.c
 ·have hs:ZO s=false:=by simp [ZO];omega
  simp only [hs,Bool.false_and]
  (sym=>simp [Qb,Qc,Qd,Qe,Qf,Qg,Qi,Qj,Qm,Qn,Qo,Qr,Qt,Qu,Qw,Q4,Xa,Xd,Xp,Ya,Yc,Yj,Yr,Yt,Yu,Yv,Y1,Y5,Y7,Y9,Za,Zb,Zc,Ze,Zg,Zh,Zi,Zj,Zk,Zl,Zm,Zo,Zr,Zs,Zt,Zu,Zv,Zw,Zy,Z0,Z3,Jb,Jj,Jk,Jl,Jr,Jv,Jx,V3,V6,V9,Wd,We,Wk,Hh,Hv,Nl,Nm,Nw,Nx,Be,oq.eq_1,ow.eq_1,jZ.eq_1,og.eq_1,oh.eq_1,j6.eq_1,oF.eq_1,oH.eq_1,uq.eq_1,zA.eq_1,g1,hM,h1,hT,h2,hQ,h3,hW,h4,f0,f8,e0,e3,e4,e5,e6,g1,e7,e9,f2,f3,r1,r2,r3,r4])
 have hs:ZO s=true:=by simp [ZO];omega
 rw [hs,Bool.true_and]
 have hb:(decide (s.h=0)||wrB s.mem s.h)=false∨(s.h=0∨s.h≠0∧wrB s.mem s.h=true):=by
  by_cases h0:s.h=0
  ·exact .inr (.inl h0)
  ·cases hw:wrB s.mem s.h with
   | true=>exact .inr (.inr ⟨h0,rfl⟩)
   | false=>left;simp [h0]
 rcases hb with hb | hb
 ·have h0:¬ s.h=0:=by intro h;simp [h] at hb
  have hw:wrB s.mem s.h=false:=by simpa [h0] using hb
  simp only [hb,Bool.false_and]
  (sym=>simp [Qb,Qc,Qd,Qe,Qf,Qg,Qi,Qj,Qm,Qn,Qo,Qr,Qt,Qu,Qw,Q4,Xa,Xd,Xp,X9,Ya,Yc,Yj,Yr,Yt,Yu,Yv,Y1,Y5,Y7,Y9,Za,Zb,Zc,Ze,Zg,Zh,Zi,Zj,Zk,Zl,Zm,Zo,Zr,Zs,Zt,Zu,Zv,Zw,Zy,Z0,Z3,Ja,Jb,Jj,Jk,Jl,Jr,Jv,Jx,V3,V6,V9,Wd,We,Wk,Hh,Hs,Hv,Nm,Nw,Nx,Be,oq.eq_1,ow.eq_1,jZ.eq_1,og.eq_1,oh.eq_1,j6.eq_1,oF.eq_1,oH.eq_1,uq.eq_1,zA.eq_1,g1,hM,h1,hT,h2,hQ,h3,hW,h4,f0,f8,e0,e1,e3,e4,e5,e6,e7,e8,e9,f2,f3,r1,r2,r3,r4,hWr,h0,hw])
 ·have hbt:(decide (s.h=0)||wrB s.mem s.h)=true:=by rcases hb with h | ⟨_,h⟩<;>simp [h]
  rw [hbt,Bool.true_and]
  cases ha:s.tq.any fun id=> !wrB s.mem id with
  | true=>
   simp only [Bool.not_true,Bool.false_and]
   rcases hb with h0 | ⟨h0,hw⟩
   ·have hT0:=hT
    have h20:=h2
    rw [h0] at h20
    simp only [h0] at hT0
    (sym=>simp [Qb,Qc,Qd,Qe,Qf,Qg,Qi,Qj,Qm,Qn,Qo,Qr,Qt,Qu,Qw,Q4,Xa,Xd,Xj,Xp,X9,Ya,Yc,Yj,Yr,Yt,Yu,Yv,Y1,Y5,Y7,Y9,Za,Zb,Zc,Ze,Zg,Zh,Zi,Zj,Zk,Zl,Zm,Zo,Zq,Zr,Zs,Zt,Zu,Zv,Zw,Zy,Z0,Z3,Ja,Jb,Jj,Jk,Jl,Jr,Jv,Jx,V3,V6,V9,Wd,We,Wk,Hh,Hv,Nl,Nm,Nw,Nx,Be,oq.eq_1,ow.eq_1,jZ.eq_1,og.eq_1,oh.eq_1,j6.eq_1,oF.eq_1,oH.eq_1,uq.eq_1,zA.eq_1,g1,hM,h1,hT0,h20,hQ,h3,hW,h4,f0,f8,e0,e1,e2,e3,e4,e5,e6,e7,e8,e9,f2,f3,r1,r2,r3,r4,hWr,h0,hI,ha])
   ·(sym=>simp [Qb,Qc,Qd,Qe,Qf,Qg,Qi,Qj,Qm,Qn,Qo,Qr,Qt,Qu,Qw,Q4,Xa,Xd,Xj,Xp,X9,Ya,Yc,Yj,Yr,Yt,Yu,Yv,Y1,Y5,Y7,Y9,Za,Zb,Zc,Ze,Zg,Zh,Zi,Zj,Zk,Zl,Zm,Zo,Zq,Zr,Zs,Zt,Zu,Zv,Zw,Zy,Z0,Z3,Ja,Jb,Jj,Jk,Jl,Jr,Jv,Jx,V3,V6,V9,Wd,We,Wk,Hh,Hs,Hv,Nm,Nw,Nx,Be,oq.eq_1,ow.eq_1,jZ.eq_1,og.eq_1,oh.eq_1,j6.eq_1,oF.eq_1,oH.eq_1,uq.eq_1,zA.eq_1,g1,hM,h1,hT,h2,hQ,h3,hW,h4,f0,f8,e0,e1,e2,e3,e4,e5,e6,e7,e8,e9,f2,f3,r1,r2,r3,r4,hWr,h0,hw,hI,ha])
  | false=>
   simp only [Bool.not_false,Bool.true_and]
   rcases k2 with ⟨hk,rfl⟩ | ⟨hk,h',rfl⟩
   ·rw [hk,Bool.true_and]
    rcases hb with h0 | ⟨h0,hw⟩
    ·have hT0:=hT
     have h20:=h2
     rw [h0] at h20
     simp only [h0] at hT0
     (sym=>simp [Qb,Qc,Qd,Qe,Qf,Qg,Qi,Qj,Qm,Qn,Qo,Qr,Qt,Qu,Qw,Q4,Xa,Xd,Xj,Xp,X9,Ya,Yc,Yj,Yr,Yt,Yu,Yv,Y1,Y5,Y7,Y9,Za,Zb,Zc,Ze,Zg,Zh,Zi,Zj,Zk,Zl,Zm,Zo,Zq,Zr,Zs,Zt,Zu,Zv,Zw,Zy,Z0,Z3,Ja,Jb,Jj,Jk,Jn,Jq,Jr,Jv,Jx,V3,V6,V9,Wd,We,Wk,Hh,Hu,Hv,Nl,Nm,Nw,Nx,Be,oq.eq_1,ow.eq_1,jZ.eq_1,og.eq_1,oh.eq_1,j6.eq_1,oF.eq_1,oH.eq_1,uq.eq_1,zA.eq_1,g1,hM,h1,hT0,h20,hQ,h3,hW,h4,f0,f1,f5,f8,e0,e1,e2,e3,e4,e5,e6,e7,e8,e9,f2,f3,r1,r2,r3,r4,hWr,h0,hI,ha,k1,hP])
    ·(sym=>simp [Qb,Qc,Qd,Qe,Qf,Qg,Qi,Qj,Qm,Qn,Qo,Qr,Qt,Qu,Qw,Q4,Xa,Xd,Xj,Xp,X9,Ya,Yc,Yj,Yr,Yt,Yu,Yv,Y1,Y5,Y7,Y9,Za,Zb,Zc,Ze,Zg,Zh,Zi,Zj,Zk,Zl,Zm,Zo,Zq,Zr,Zs,Zt,Zu,Zv,Zw,Zy,Z0,Z3,Ja,Jb,Jj,Jk,Jn,Jq,Jr,Jv,Jx,V3,V6,V9,Wd,We,Wk,Hh,Hs,Hu,Hv,Nm,Nw,Nx,Be,oq.eq_1,ow.eq_1,jZ.eq_1,og.eq_1,oh.eq_1,j6.eq_1,oF.eq_1,oH.eq_1,uq.eq_1,zA.eq_1,g1,hM,h1,hT,h2,hQ,h3,hW,h4,f0,f1,f5,f8,e0,e1,e2,e3,e4,e5,e6,e7,e8,e9,f2,f3,r1,r2,r3,r4,hWr,h0,hw,hI,ha,k1,hP])
   ·simp only [hk,Bool.false_and]
    rcases hb with h0 | ⟨h0,hw⟩
    ·have hT0:=hT
     have h20:=h2
     rw [h0] at h20
     simp only [h0] at hT0
     (sym=>simp [Qc,Qd,Qe,Qf,Qg,Qi,Qj,Qm,Qn,Qo,Qr,Qt,Qu,Qw,Q4,Xa,Xd,Xj,Xp,X9,Ya,Yc,Yj,Yr,Yt,Yu,Yv,Y1,Y5,Y7,Y9,Za,Zb,Zc,Ze,Zg,Zh,Zi,Zj,Zk,Zl,Zm,Zo,Zq,Zr,Zs,Zt,Zu,Zv,Zw,Zy,Z0,Z3,Ja,Jb,Jj,Jk,Jl,Jn,Jp,Jr,Jv,Jx,V3,V6,V9,Wd,We,Wk,Hh,Hv,Nl,Nm,Nw,Nx,Be,oq.eq_1,ow.eq_1,jZ.eq_1,og.eq_1,oh.eq_1,j6.eq_1,oF.eq_1,oH.eq_1,uq.eq_1,zA.eq_1,g1,hM,h1,hT0,h20,hQ,h3,hW,h4,f0,f1,f5,f8,e0,e1,e2,e3,e4,e5,e6,e7,e8,e9,f2,f3,r1,r2,r3,r4,hWr,h0,hI,ha,k1])
    ·(sym=>simp [Qc,Qd,Qe,Qf,Qg,Qi,Qj,Qm,Qn,Qo,Qr,Qt,Qu,Qw,Q4,Xa,Xd,Xj,Xp,X9,Ya,Yc,Yj,Yr,Yt,Yu,Yv,Y1,Y5,Y7,Y9,Za,Zb,Zc,Ze,Zg,Zh,Zi,Zj,Zk,Zl,Zm,Zo,Zq,Zr,Zs,Zt,Zu,Zv,Zw,Zy,Z0,Z3,Ja,Jb,Jj,Jk,Jl,Jn,Jp,Jr,Jv,Jx,V3,V6,V9,Wd,We,Wk,Hh,Hs,Hv,Nm,Nw,Nx,Be,oq.eq_1,ow.eq_1,jZ.eq_1,og.eq_1,oh.eq_1,j6.eq_1,oF.eq_1,oH.eq_1,uq.eq_1,zA.eq_1,g1,hM,h1,hT,h2,hQ,h3,hW,h4,f0,f1,f5,f8,e0,e1,e2,e3,e4,e5,e6,e7,e8,e9,f2,f3,r1,r2,r3,r4,hWr,h0,hw,hI,ha,k1])
end
section
variable (G:Nat→Option (List AV))
theorem zoc (s:Ses) (h:okS s):aP G FT jP [.agg (bsC s)]=some (.agg (sC (cpS s))):=by
 obtain ⟨hl1,hl2,hl3⟩:=h
 have hC:=fun b f=>Rp G b f s.mem (by omega)
 have hI:=fun b f=>zdP G b f s.tq (by omega)
 have hP:=fun b f=>zzS G s.q b f hl3 (-1) (by omega)
 have t1:=Dm s
 have t2:=zcC s
 have t3:=zdG s
 have t4:=zm0 s
 have t5:=znv s
 have t6:=zhg s
 have t7:=LC s
 have m1:=yM s.mem
 have m2:=zw s.tq
 have k1:List.take s.mem.length (mbs s.mem)=mbs s.mem:=List.take_of_length_le (by omega)
 have k2:List.take s.tq.length (ints s.tq)=ints s.tq:=List.take_of_length_le (by omega)
 have e:sC (cpS s)=.data false 2 (mbs s.mem) false::.int .i64 s.h::.data false 1 (ints s.tq) false::.data false 3 (pcs (NR s.q (-1)).1) false::tl s:=rfl
 rw [e]
 have e0:bsC s=.data true 2 (mbs s.mem) s.f1::.int .i64 s.h::.data true 1 (ints s.tq) s.f2::.data true 3 (pcs s.q) s.f3::tl s:=rfl
 rw [e0]
 generalize tl s=T at *
 unfold aP
 rw [PR]
 (sym=>simp [Qb,Qd,Qe,Qi,Qj,Qm,Qn,Qo,Qr,Qv,Qw,Q4,Q5,Xp,Xw,Xx,Yj,Yr,Yt,Yu,Yv,Y1,Y5,Y8,Y9,Za,Zb,Zc,Zd,Ze,Zg,Zh,Zi,Zj,Zk,Zl,Zm,Zn,Zo,Zp,Zr,Zs,Zt,Zu,Zv,Zw,Zx,Zy,Zz,Z0,Z1,Z3,Jj,Jk,Jv,Jx,J1,J2,J6,J7,Ue,Uf,Ug,Ul,Uq,Us,U6,Vk,Vm,Vo,Vp,Vq,Vr,Vs,Vt,Vu,Vv,Vw,Vx,V6,V9,Wd,We,Wf,Wg,Wh,Wj,Wq,Wz,W5,W6,W7,Hh,Hi,Hk,Hl,Ho,Hp,Hr,Hs,Ht,Hu,Hv,Hw,Hy,Hz,H5,H6,H8,Ng,Nl,No,Nq,Nt,Nw,Nx,Nz,N0,Be,zw8.eq_1,zz0.eq_1,zwM.eq_1,zxo.eq_1,jR.eq_1,hC,hI,hP,t1,t2,t3,t4,t5,t6,t7,m1,m2,k1,k2,zL.eq_1])
def bdC (d:Dd):List AV:=[.int .i64 d.1,.data true 1 (byt d.2.1) d.2.2.2.2,.int .i64 d.2.2.1,.int .i64 d.2.2.2.1]
theorem zrv (k:Int) (L:List (List AV)) (f:Bool) (r c:Int):aP G FT DJ [.agg [.int .i64 k,.data true 1 L f,.int .i64 r,.int .i64 c]]=some (.bool (DY k L.length r c)):=by
 have hS:=zvI G
 have n1:(1:Int)≤L.length↔1≤L.length:=by omega
 have n2:(L.length:Int)≤16↔L.length≤16:=by omega
 have n3:(L.length:Int)=0↔L.length=0:=by omega
 have s0:WZ 0=false:=by decide
 unfold aP DY
 rw [ziG]
 by_cases k1:k=1
 ·subst k1
  rw [if_pos rfl]
  by_cases h1:1≤L.length<;>by_cases h2:L.length≤16<;>try omega
  all_goals by_cases r0:r=0<;>by_cases c0:c=0
  all_goals (sym=>simp [Qb,Qd,Qe,Qf,Qg,Qi,Qj,Ql,Qr,Qt,Qu,Qw,Q4,Xa,Xd,Xp,Xy,X8,X9,Yb,Yd,Yh,Yj,Yr,Yt,Yv,Y1,Y5,Y7,Y9,Za,Zb,Zc,Ze,Zg,Zh,Zi,Zj,Zk,Zl,Zm,Zn,Zr,Zs,Zt,Zu,Zv,Zw,Zy,Z0,Z3,Ja,Jb,Jj,Jk,Jl,Jn,Jp,Jr,Jv,Jx,Ue,Uf,Ug,Ul,Wk,Hh,Hi,Hv,Nl,Nm,No,Nq,Nw,Nx,Be,zhK.eq_1,zhT.eq_1,zga.eq_1,zhA.eq_1,zgD.eq_1,zgV.eq_1,zgI.eq_1,zhj.eq_1,zgS.eq_1,zgp.eq_1,FM.eq_1,FW.eq_1,vS.eq_1,hS,n1,n2,h1,h2,r0,c0])
 rw [if_neg k1]
 by_cases k2:k=2
 ·subst k2
  rw [if_pos rfl]
  by_cases r0:r=0
  ·by_cases c0:c=0
   ·(sym=>simp [Qb,Qd,Qe,Qf,Qg,Qi,Qj,Ql,Qm,Qn,Qp,Qq,Qr,Qt,Qu,Qw,Q4,Xa,Xp,X8,X9,Yj,Yr,Yt,Yv,Y1,Y5,Y7,Y9,Za,Zb,Zc,Ze,Zg,Zh,Zi,Zj,Zk,Zl,Zm,Zn,Zr,Zs,Zt,Zu,Zv,Zw,Zy,Z0,Z3,Ja,Jb,Jj,Jk,Jl,Jn,Jp,Jr,Jv,Jx,Ue,Uf,Ug,Ul,Wk,Hh,Hi,Hv,Hw,Nl,Nm,No,Nq,Nr,Nw,Nx,Be,zhK.eq_1,zhT.eq_1,zga.eq_1,zhA.eq_1,zgD.eq_1,zgV.eq_1,zgI.eq_1,zhj.eq_1,zgS.eq_1,zgp.eq_1,FM.eq_1,FW.eq_1,vS.eq_1,hS,s0,r0,c0])
   ·(sym=>simp [Qb,Qd,Qe,Qf,Qg,Qi,Qj,Ql,Qm,Qn,Qp,Qq,Qr,Qt,Qu,Qw,Q4,Xa,Xp,X8,X9,Yj,Yr,Yt,Yv,Y1,Y5,Y7,Y9,Za,Zb,Zc,Ze,Zg,Zh,Zi,Zj,Zk,Zl,Zm,Zn,Zr,Zs,Zt,Zu,Zv,Zw,Zy,Z0,Z3,Ja,Jb,Jj,Jk,Jl,Jn,Jp,Jr,Jv,Jx,Ue,Uf,Ug,Ul,Wk,Hh,Hi,Hv,Hw,Nl,Nm,No,Nq,Nr,Nw,Nx,Be,zhK.eq_1,zhT.eq_1,zga.eq_1,zhA.eq_1,zgD.eq_1,zgV.eq_1,zgI.eq_1,zhj.eq_1,zgS.eq_1,zgp.eq_1,FM.eq_1,FW.eq_1,vS.eq_1,hS,s0,r0,c0])
  ·cases hr:WZ r with
   | false=>(sym=>simp [Qb,Qd,Qe,Qf,Qg,Qi,Qj,Ql,Qm,Qn,Qp,Qq,Qr,Qt,Qu,Qw,Q4,Xa,Xp,X8,X9,Yj,Yr,Yt,Yv,Y1,Y5,Y7,Y9,Za,Zb,Zc,Ze,Zg,Zh,Zi,Zj,Zk,Zl,Zm,Zn,Zr,Zs,Zt,Zu,Zv,Zw,Zy,Z0,Z3,Ja,Jb,Jj,Jk,Jl,Jn,Jp,Jr,Jv,Jx,Ue,Uf,Ug,Ul,Wk,Hh,Hi,Hv,Hw,Nl,Nm,No,Nq,Nr,Nw,Nx,Be,zhK.eq_1,zhT.eq_1,zga.eq_1,zhA.eq_1,zgD.eq_1,zgV.eq_1,zgI.eq_1,zhj.eq_1,zgS.eq_1,zgp.eq_1,FM.eq_1,FW.eq_1,vS.eq_1,hS,r0,hr])
   | true=>
    cases hc:WZ c with
    | false=>(sym=>simp [Qb,Qd,Qe,Qf,Qg,Qi,Qj,Ql,Qm,Qn,Qp,Qq,Qr,Qt,Qu,Qw,Q4,Xa,Xp,X8,X9,Yj,Yr,Yt,Yv,Y1,Y5,Y7,Y9,Za,Zb,Zc,Ze,Zg,Zh,Zi,Zj,Zk,Zl,Zm,Zn,Zr,Zs,Zt,Zu,Zv,Zw,Zy,Z0,Z3,Ja,Jb,Jj,Jk,Jl,Jn,Jp,Jr,Jv,Jx,Ue,Uf,Ug,Ul,Wk,Hh,Hi,Hv,Hw,Nl,Nm,No,Nq,Nr,Nw,Nx,Be,zhK.eq_1,zhT.eq_1,zga.eq_1,zhA.eq_1,zgD.eq_1,zgV.eq_1,zgI.eq_1,zhj.eq_1,zgS.eq_1,zgp.eq_1,FM.eq_1,FW.eq_1,vS.eq_1,hS,r0,hr,hc])
    | true=>
     by_cases h3:L.length=0
     ·(sym=>simp [Qb,Qd,Qe,Qf,Qg,Qi,Qj,Ql,Qm,Qn,Qp,Qq,Qr,Qt,Qu,Qw,Q4,Xa,Xp,Xy,X8,X9,Yh,Yj,Yr,Yt,Yv,Y1,Y5,Y7,Y9,Za,Zb,Zc,Ze,Zg,Zh,Zi,Zj,Zk,Zl,Zm,Zn,Zr,Zs,Zt,Zu,Zv,Zw,Zy,Z0,Z3,Ja,Jb,Jj,Jk,Jl,Jn,Jp,Jr,Jv,Jx,Ue,Uf,Ug,Ul,Wk,Hh,Hi,Hv,Hw,Nl,Nm,No,Nq,Nw,Nx,Be,Bh,zhK.eq_1,zhT.eq_1,zga.eq_1,zhA.eq_1,zgD.eq_1,zgV.eq_1,zgI.eq_1,zhj.eq_1,zgS.eq_1,zgp.eq_1,FM.eq_1,FW.eq_1,vS.eq_1,hS,r0,hr,hc,n3,h3])
     ·(sym=>simp [Qb,Qd,Qe,Qf,Qg,Qi,Qj,Ql,Qm,Qn,Qp,Qq,Qr,Qt,Qu,Qw,Q4,Xa,Xp,Xy,X8,X9,Yh,Yj,Yr,Yt,Yv,Y1,Y5,Y7,Y9,Za,Zb,Zc,Ze,Zg,Zh,Zi,Zj,Zk,Zl,Zm,Zn,Zr,Zs,Zt,Zu,Zv,Zw,Zy,Z0,Z3,Ja,Jb,Jj,Jk,Jl,Jn,Jp,Jr,Jv,Jx,Ue,Uf,Ug,Ul,Wk,Hh,Hi,Hv,Hw,Nl,Nm,No,Nq,Nw,Nx,Be,zhK.eq_1,zhT.eq_1,zga.eq_1,zhA.eq_1,zgD.eq_1,zgV.eq_1,zgI.eq_1,zhj.eq_1,zgS.eq_1,zgp.eq_1,FM.eq_1,FW.eq_1,vS.eq_1,hS,r0,hr,hc,n3,h3])
 rw [if_neg k2]
 by_cases k3:k=3
 ·subst k3
  rw [if_pos rfl]
  by_cases h3:L.length=0
  all_goals by_cases r0:r=0<;>by_cases c0:c=0
  all_goals (sym=>simp [Qb,Qc,Qd,Qe,Qf,Qg,Qi,Qj,Ql,Qr,Qt,Qu,Qw,Q4,Xa,Xd,Xp,Xy,X8,X9,Yh,Yj,Yr,Yt,Yv,Y1,Y5,Y7,Y9,Za,Zb,Zc,Ze,Zg,Zh,Zi,Zj,Zk,Zl,Zm,Zn,Zr,Zs,Zt,Zu,Zv,Zw,Zy,Z0,Z3,Ja,Jb,Jj,Jk,Jl,Jn,Jp,Jr,Jv,Jx,Ue,Uf,Ug,Ul,Wk,Hh,Hi,Hv,Nl,Nm,No,Nq,Nw,Nx,Be,Bh,zhK.eq_1,zhT.eq_1,zga.eq_1,zhA.eq_1,zgD.eq_1,zgV.eq_1,zgI.eq_1,zhj.eq_1,zgS.eq_1,zgp.eq_1,FM.eq_1,FW.eq_1,vS.eq_1,hS,n3,h3,r0,c0])
 rw [if_neg k3]
 by_cases k4:k=4
 ·subst k4
  rw [if_pos rfl]
  by_cases h3:L.length=0
  all_goals by_cases r0:r=0<;>by_cases c0:c=0
  all_goals (sym=>simp [Qb,Qd,Qe,Qf,Qg,Qi,Qj,Ql,Qr,Qt,Qu,Qw,Q4,Xa,Xd,Xp,Xy,X8,X9,Yh,Yj,Yr,Yt,Yv,Y1,Y5,Y7,Y9,Za,Zb,Zc,Ze,Zg,Zh,Zi,Zj,Zk,Zl,Zm,Zn,Zr,Zs,Zt,Zu,Zv,Zw,Zy,Z0,Z3,Ja,Jb,Jj,Jk,Jl,Jn,Jp,Jr,Jv,Jx,Ue,Uf,Ug,Ul,Wk,Hh,Hi,Hv,Nl,Nm,No,Nq,Nw,Nx,Be,Bh,zhK.eq_1,zhT.eq_1,zga.eq_1,zhA.eq_1,zgD.eq_1,zgV.eq_1,zgI.eq_1,zhj.eq_1,zgS.eq_1,zgp.eq_1,FM.eq_1,FW.eq_1,vS.eq_1,hS,n3,h3,r0,c0])
 rw [if_neg k4]
 by_cases r0:r=0<;>by_cases c0:c=0
 all_goals (sym=>simp [Qb,Qc,Qd,Qe,Qf,Qg,Qi,Qj,Ql,Qr,Qt,Qu,Qw,Q4,Xa,Xp,X8,X9,Yj,Yr,Yt,Yv,Y1,Y5,Y7,Y9,Za,Zb,Zc,Ze,Zg,Zh,Zi,Zj,Zk,Zl,Zm,Zn,Zr,Zs,Zt,Zu,Zv,Zw,Zy,Z0,Z3,Jb,Jj,Jk,Jn,Jo,Jr,Jv,Jx,Ue,Uf,Ug,Ul,Wk,Hh,Hi,Hv,Nl,Nm,No,Nq,Nw,Nx,Be,zhK.eq_1,zhT.eq_1,zga.eq_1,zhA.eq_1,zgD.eq_1,zgV.eq_1,zgI.eq_1,zhj.eq_1,zgS.eq_1,zgp.eq_1,FM.eq_1,FW.eq_1,vS.eq_1,hS,k1,k2,k3,k4,r0,c0])
theorem zo8 (d:Dd) (h:UC d=true) (E0:List AV) (i0:AV.idsL E0=[]) (r0:∀ (h:List zf) (lo off:Nat) (o:List Nat),AV.renL h lo off o E0=E0) (e2 e3 e4 e5:List (List AV)):aR G FT Ld [.agg [.int .i64 0,.own 7 0 0 1 1]] [⟨33,0,false,[E0]⟩,⟨4,0,false,[bdC d]⟩,⟨33,0,true,e2⟩,⟨2,0,true,e3⟩,⟨1,0,true,e4⟩,⟨1,0,true,e5⟩,⟨4,0,false,[bdC d]⟩,⟨4,0,false,[bdC d]⟩]=
  some (.bool true,[⟨33,0,false,[E0]⟩,⟨4,0,false,[bdC d]⟩,⟨33,0,true,e2⟩,⟨2,0,true,e3⟩,⟨1,0,true,e4⟩,⟨1,0,true,e5⟩,⟨4,0,false,[bdC d]⟩,⟨4,0,false,[bdC d]⟩,⟨2,0,false,[[.int .i64 0,.own 7 0 0 1 1]]⟩]):=by
 have hD:=zrv G d.1 (byt d.2.1) d.2.2.2.2 d.2.2.1 d.2.2.2.1
 rw [oI] at hD
 have hd:DY d.1 d.2.1.length d.2.2.1 d.2.2.2.1=true:=h
 have hw1:IntKind.i64.wrap 1=1:=by decide
 have hw2:IntKind.i64.wrap 1073741823=1073741823:=by decide
 unfold bdC
 rw [zaz]
 (sym=>simp [Qa,Qb,Qc,Qd,Qe,Qf,Qg,Qi,Qj,Ql,Qm,Qn,Qo,Qp,Qq,Qr,Qt,Qu,Qw,Q4,Xa,Xd,Xp,Xs,Xy,X5,X6,Ya,Yc,Yd,Yg,Yj,Yr,Yt,Yu,Yv,Yx,Y1,Y5,Y7,Y9,Za,Zb,Zc,Ze,Zg,Zh,Zi,Zj,Zk,Zl,Zm,Zn,Zo,Zq,Zr,Zs,Zt,Zu,Zv,Zw,Zx,Zy,Z0,Z3,Jb,Jj,Jk,Jm,Jn,Jo,Jq,Jr,Js,Ju,Jv,Jx,Ue,Uf,Ug,Ul,Uq,Us,Uw,Ux,U0,U4,U5,U6,Va,Vb,Ve,Vi,Vj,Vk,Vl,Vm,Vn,Vo,Vp,Vq,Vr,Vt,Vv,Vw,Vy,Vz,V0,V3,V6,V9,Wd,We,Hh,Hi,Ho,Hp,Hq,Hs,Hu,Hv,Hw,H0,H1,Nl,Nm,No,Nq,Nw,Nx,Nz,Be,Bh,Bi,zE3.eq_1,zE4.eq_1,zF7.eq_1,zE6.eq_1,Tv.eq_1,Fq,zFA.eq_1,zFK.eq_1,YR.eq_1,YG,zz1.eq_1,zAm.eq_1,yD.eq_1,UD,zoB.eq_1,zpS.eq_1,zpF.eq_1,zpn.eq_1,zqN.eq_1,zo3.eq_1,zqs.eq_1,zoL.eq_1,vz.eq_1,oD.eq_1,i0,r0,hD,hw2,hd,hw1,j4.eq_1,zn])
theorem znn (d:Dd) (h:UC d=false) (E0:List AV) (i0:AV.idsL E0=[]) (r0:∀ (h:List zf) (lo off:Nat) (o:List Nat),AV.renL h lo off o E0=E0) (e2 e3 e4 e5:List (List AV)):aR G FT Ld [.agg [.int .i64 0,.own 7 0 0 1 1]] [⟨33,0,false,[E0]⟩,⟨4,0,false,[bdC d]⟩,⟨33,0,true,e2⟩,⟨2,0,true,e3⟩,⟨1,0,true,e4⟩,⟨1,0,true,e5⟩,⟨4,0,false,[bdC d]⟩,⟨4,0,false,[bdC d]⟩]=
  some (.bool false,[⟨33,0,false,[E0]⟩,⟨4,0,false,[bdC d]⟩,⟨33,0,true,e2⟩,⟨2,0,true,e3⟩,⟨1,0,true,e4⟩,⟨1,0,true,e5⟩,⟨4,0,false,[bdC d]⟩,⟨4,0,false,[bdC d]⟩,⟨2,0,false,[[.int .i64 0,.own 7 0 0 1 1]]⟩,⟨4,0,false,[bdC d]⟩]):=by
 have hD:=zrv G d.1 (byt d.2.1) d.2.2.2.2 d.2.2.1 d.2.2.2.1
 rw [oI] at hD
 have hd:DY d.1 d.2.1.length d.2.2.1 d.2.2.2.1=false:=h
 have hw2:IntKind.i64.wrap 1073741823=1073741823:=by decide
 unfold bdC
 rw [zaz]
 (sym=>simp [Qb,Qc,Qd,Qe,Qf,Qg,Qi,Qj,Ql,Qm,Qn,Qo,Qp,Qq,Qr,Qt,Qu,Qw,Q4,Xa,Xd,Xp,Xs,Xy,X6,Ya,Yc,Yd,Yg,Yj,Yr,Yt,Yu,Yv,Yx,Y1,Y5,Y7,Y9,Za,Zb,Zc,Ze,Zg,Zh,Zi,Zj,Zk,Zl,Zm,Zn,Zo,Zq,Zr,Zs,Zt,Zu,Zv,Zw,Zx,Zy,Z0,Z3,Jb,Jj,Jk,Jl,Jn,Jp,Jr,Jt,Jv,Jx,Ue,Uf,Ug,Ul,Uq,Us,Uw,Ux,U0,U4,U5,U6,Va,Vb,Ve,Vi,Vj,Vk,Vl,Vm,Vn,Vo,Vp,Vq,Vr,Vt,Vv,Vw,Vy,Vz,V0,V3,V6,V9,Wd,We,Hh,Hi,Ho,Hq,Hs,Hu,Hv,Hw,H0,H1,Nl,Nm,No,Nq,Nw,Nx,Nz,Be,Bh,Bi,zE3.eq_1,zE4.eq_1,zF7.eq_1,zE6.eq_1,Tv.eq_1,Fq,zFA.eq_1,zFK.eq_1,YR.eq_1,YG,zz1.eq_1,zAm.eq_1,yD.eq_1,UD,zoB.eq_1,zpS.eq_1,zpF.eq_1,zpn.eq_1,zqN.eq_1,zo3.eq_1,zqs.eq_1,zoL.eq_1,vz.eq_1,oD.eq_1,i0,r0,hD,hw2,hd,j4.eq_1,zn])
def gB (E0:List AV) (e2 e3:List (List AV)) (id n:Int) (d:Dd):List zf:=[⟨33,0,false,[E0]⟩,⟨4,0,false,[bdC d]⟩,⟨33,0,true,e2⟩,⟨2,0,true,e3⟩,⟨1,0,true,[[.int .i64 id]]⟩,⟨1,0,true,[[.int .i64 n]]⟩,⟨4,0,false,[bdC d]⟩,⟨4,0,false,[bdC d]⟩,⟨2,0,false,[[.int .i64 0,.own 7 0 0 1 1]]⟩]
def zcT (E0:List AV) (e2 e3:List (List AV)) (d:Dd):List zf:=[⟨33,0,false,[E0]⟩,⟨4,0,false,[bdC d]⟩,⟨33,0,true,e2⟩,⟨2,0,true,e3⟩]
theorem zp7 (d:Dd) (hd:UC d=true) (id n:Int) (E0:List AV) (i0:AV.idsL E0=[]) (r0:∀ (h:List zf) (lo off:Nat) (o:List Nat),AV.renL h lo off o E0=E0) (e2 e3:List (List AV)):aR G FT TD [.int .i64 id,.int .i64 n,.agg (bdC d)] (zcT E0 e2 e3 d)=some (doF d.1,gB E0 e2 e3 id n d):=by
 obtain ⟨dk,dt,dr,dk2,df⟩:=d
 have hM:=fun e4 e5=>zo8 G (dk,dt,dr,dk2,df) hd E0 i0 r0 e2 e3 e4 e5
 have hsd:AV.stableL (bdC (dk,dt,dr,dk2,df))=false:=by simp [bdC,AV.stableL,AV.stable]
 unfold bdC at hM hsd
 unfold zcT gB doF bdC
 simp only at hM hsd ⊢
 rw [KJ]
 by_cases k1:dk=1
 ·subst k1;rw [if_pos rfl];(sym=>simp [Qb,Qc,Qd,Qe,Qi,Qj,Qm,Qn,Qo,Qr,Qt,Qw,Qx,Qy,Qz,Q0,Q1,Q2,Q4,Xa,Xd,Xj,Xp,X8,Yj,Yk,Yo,Yr,Yt,Yu,Yv,Y1,Y5,Y7,Y9,Za,Zb,Zc,Ze,Zg,Zh,Zi,Zj,Zk,Zl,Zm,Zn,Zq,Zr,Zs,Zt,Zu,Zv,Zw,Zy,Z0,Z3,Jj,Jk,Jl,Jn,Jp,Jr,Jv,Jx,J1,K8,K9,Ua,Ub,Uc,Ud,Ue,Uf,Ug,Ul,Hh,Hi,Hk,Ho,Hp,Hq,Hr,Hs,Ht,Hu,Hv,Hw,Hx,H2,H3,Nl,No,Nq,Nw,Nz,Be,zjW.eq_1,zji.eq_1,zjb.eq_1,ziS.eq_1,zjm.eq_1,zj5.eq_1,zjf.eq_1,ziQ.eq_1,ziX.eq_1,zjO.eq_1,zdg.eq_1,uG.eq_1,i0,r0,hM,hsd])
 rw [if_neg k1]
 by_cases k2:dk=2
 ·subst k2;rw [if_pos rfl];(sym=>simp [Qb,Qc,Qd,Qe,Qi,Qj,Qm,Qn,Qo,Qr,Qt,Qw,Qx,Qy,Qz,Q0,Q1,Q2,Q4,Xa,Xd,Xj,Xp,X8,Yj,Yk,Yo,Yr,Yt,Yu,Yv,Y1,Y5,Y7,Y9,Za,Zb,Zc,Ze,Zg,Zh,Zi,Zj,Zk,Zl,Zm,Zn,Zq,Zr,Zs,Zt,Zu,Zv,Zw,Zy,Z0,Z3,Jj,Jk,Jl,Jn,Jp,Jr,Jv,Jx,J1,K8,K9,Ua,Ub,Uc,Ud,Ue,Uf,Ug,Ul,Hh,Hi,Hk,Ho,Hp,Hq,Hr,Hs,Ht,Hu,Hv,Hw,Hx,H2,H3,Nl,Nm,No,Nq,Nw,Nz,Be,zjW.eq_1,zji.eq_1,zjb.eq_1,ziS.eq_1,zjm.eq_1,zj5.eq_1,zjf.eq_1,ziQ.eq_1,ziX.eq_1,zjO.eq_1,zdg.eq_1,uG.eq_1,i0,r0,hM,hsd,k1])
 rw [if_neg k2]
 by_cases k3:dk=3
 ·subst k3;rw [if_pos rfl];(sym=>simp [Qb,Qc,Qd,Qe,Qi,Qj,Qm,Qn,Qo,Qr,Qt,Qw,Qx,Qy,Qz,Q0,Q1,Q2,Q4,Xa,Xd,Xj,Xp,X8,Yj,Yk,Yo,Yr,Yt,Yu,Yv,Y1,Y5,Y7,Y9,Za,Zb,Zc,Ze,Zg,Zh,Zi,Zj,Zk,Zl,Zm,Zn,Zq,Zr,Zs,Zt,Zu,Zv,Zw,Zy,Z0,Z3,Jj,Jk,Jl,Jn,Jp,Jr,Jv,Jx,J1,K8,K9,Ua,Ub,Uc,Ud,Ue,Uf,Ug,Ul,Hh,Hi,Hk,Ho,Hp,Hq,Hr,Hs,Ht,Hu,Hv,Hw,Hx,H2,H3,Nl,Nm,No,Nq,Nw,Nz,Be,zjW.eq_1,zji.eq_1,zjb.eq_1,ziS.eq_1,zjm.eq_1,zj5.eq_1,zjf.eq_1,ziQ.eq_1,ziX.eq_1,zjO.eq_1,zdg.eq_1,uG.eq_1,i0,r0,hM,hsd,k1,k2])
 rw [if_neg k3]
 (sym=>simp [Qb,Qc,Qd,Qe,Qi,Qj,Qm,Qn,Qo,Qr,Qt,Qw,Qx,Qy,Qz,Q0,Q1,Q2,Q4,Xa,Xd,Xj,Xp,X8,Yj,Yk,Yo,Yr,Yt,Yu,Yv,Y1,Y5,Y7,Y9,Za,Zb,Zc,Ze,Zg,Zh,Zi,Zj,Zk,Zl,Zm,Zn,Zq,Zr,Zs,Zt,Zu,Zv,Zw,Zy,Z0,Z3,Jj,Jk,Jn,Jo,Jr,Jv,Jx,J1,K8,K9,Ua,Ub,Uc,Ud,Ue,Uf,Ug,Ul,Hh,Hi,Hk,Ho,Hp,Hq,Hr,Hs,Ht,Hu,Hv,Hw,Hx,H2,H3,Nm,No,Nq,Nw,Nz,Be,zjW.eq_1,zji.eq_1,zjb.eq_1,ziS.eq_1,zjm.eq_1,zj5.eq_1,zjf.eq_1,ziQ.eq_1,ziX.eq_1,zjO.eq_1,zdg.eq_1,uG.eq_1,i0,r0,hM,hsd,k1,k2,k3])
theorem zoj (d:Dd) (hd:UC d=false) (id n:Int) (E0:List AV) (i0:AV.idsL E0=[]) (r0:∀ (h:List zf) (lo off:Nat) (o:List Nat),AV.renL h lo off o E0=E0) (e2 e3:List (List AV)):aR G FT TD [.int .i64 id,.int .i64 n,.agg (bdC d)] (zcT E0 e2 e3 d)=some (.nilfn,gB E0 e2 e3 id n d++[⟨4,0,false,[bdC d]⟩]):=by
 have hM:=fun e4 e5=>znn G d hd E0 i0 r0 e2 e3 e4 e5
 have hsd:AV.stableL (bdC d)=false:=by simp [bdC,AV.stableL,AV.stable]
 unfold bdC at hM hsd
 unfold zcT gB bdC
 rw [KJ]
 (sym=>simp [Qb,Qd,Qe,Qi,Qj,Qm,Qn,Qo,Qr,Qt,Qw,Qx,Qy,Qz,Q0,Q1,Q2,Q4,Xd,Yj,Yk,Yo,Yr,Yu,Y1,Y5,Y7,Y9,Za,Zb,Zc,Ze,Zg,Zh,Zi,Zj,Zk,Zl,Zm,Zn,Zq,Zr,Zs,Zt,Zu,Zv,Zw,Zy,Z0,Jj,Jk,Jl,Jr,Jv,Jx,J1,K8,K9,Ua,Ub,Uc,Ud,Ue,Uf,Ug,Ul,Hh,Hi,Hk,Ho,Hp,Hq,Hr,Hs,Ht,Hu,Hv,Hw,Hx,H2,H3,No,Nq,Nw,Nx,Nz,Be,zjW.eq_1,zji.eq_1,zjb.eq_1,ziS.eq_1,zjm.eq_1,zj5.eq_1,zjf.eq_1,ziQ.eq_1,ziX.eq_1,zjO.eq_1,zdg.eq_1,uG.eq_1,i0,r0,hM,hsd])
theorem zAK (s:Ses) (hs:okS s) (j:Nat) (n:Int) (d:Dd) (hl:d.2.1.length≤1000) (E0:List AV) (i0:AV.idsL E0=[]) (r0:∀ (h:List zf) (lo off:Nat) (o:List Nat),AV.renL h lo off o E0=E0) (e2 e3:List (List AV)):∃ e,
  aR G FT VZ [.agg (sC s),.ptr 4 0 0 0,.ptr 5 0 0 0,.ptr 6 0 0 0] (gB E0 e2 e3 j n d)=some (.agg (sC (if s.h=j then NU s (PY s.q (j,n,d.2.1,d.2.2.2.2)).1 else s)),gB E0 e2 e3 j n d++e):=by
 have hP:=fun b f=>zFu G s.q (j,n,d.2.1,d.2.2.2.2) b f hs.2.2 hl true
 simp only at hP
 have a1:=zk s
 have a2:=zG s
 have a3:=zu s
 have a0:(sC s).drop 33=[]:=rfl
 have b1:=zFa s
 have b3:=zer s
 have q:=zrn s (PY s.q (j,n,d.2.1,d.2.2.2.2)).1
 have c1:=zk (NU s (PY s.q (j,n,d.2.1,d.2.2.2.2)).1)
 have c2:=zG (NU s (PY s.q (j,n,d.2.1,d.2.2.2.2)).1)
 have c3:=zu (NU s (PY s.q (j,n,d.2.1,d.2.2.2.2)).1)
 have c0:(sC (NU s (PY s.q (j,n,d.2.1,d.2.2.2.2)).1)).drop 33=[]:=rfl
 unfold gB bdC
 rw [za5]
 generalize hx:NU s (PY s.q (j,n,d.2.1,d.2.2.2.2)).1=s2 at *
 by_cases he:s.h=j
 ·rw [if_pos he]
  refine ⟨[⟨33,0,true,[sC s2]⟩,⟨33,0,true,[sC s2]⟩], ?_⟩
  (sym=>simp [Qb,Qd,Qe,Qi,Qm,Qn,Qo,Qr,Qt,Qv,Qw,Qx,Qy,Q1,Q4,Q5,Xa,Xp,Xw,Xx,X8,Yj,Yk,Yn,Yr,Yt,Yu,Yv,Y1,Y5,Y8,Y9,Za,Zb,Zc,Zd,Ze,Zg,Zh,Zi,Zj,Zk,Zl,Zm,Zn,Zo,Zr,Zs,Zt,Zu,Zv,Zw,Zy,Z0,Z1,Jj,Jk,Jr,Jv,Jx,J1,J2,J6,K8,K9,Ue,Uf,Ug,Ul,V3,V6,V9,Wd,We,Hh,Hi,Hk,Hl,Ho,Hp,Hr,Hs,Ht,Hu,Hv,Hw,Nl,No,Nx,Nz,N0,Be,zAM.eq_1,zBa.eq_1,zy4.eq_1,zwk.eq_1,jT.eq_1,i0,r0,hP,he,a0,a1,a2,a3,b1,b3,q,c0,c1,c2,c3,List.append_nil,zL.eq_1])
 ·rw [if_neg he]
  refine ⟨[⟨33,0,true,[sC s]⟩,⟨33,0,true,[sC s]⟩], ?_⟩
  (sym=>simp [Qb,Qc,Qd,Qe,Qi,Qt,Qv,Qw,Q4,Q5,Xa,Xp,X8,Yj,Yr,Yt,Yu,Yv,Y1,Y5,Y8,Y9,Za,Zb,Zc,Zd,Ze,Zg,Zh,Zi,Zj,Zk,Zl,Zm,Zn,Zr,Zs,Zt,Zu,Zv,Zw,Zy,Z0,Z1,Z3,Jj,Jk,Jr,Jv,Jx,J1,J2,Ue,Uf,Ug,Ul,Hh,Hi,Hk,Hl,Hp,Hr,Hs,Ht,Hu,Hv,Hw,Nm,No,Nx,N0,Be,zAM.eq_1,zBa.eq_1,zy4.eq_1,zwk.eq_1,jT.eq_1,i0,r0,he,a0,a1,a2,a3,b1,b3,List.append_nil,zL.eq_1])
theorem zwh (s:Ses) (hs:okS s) (hm:TN s.w=true) (j:Nat) (h1:1≤j) (h8:j≤8) (n:Int) (d:Dd) (hd:UC d=true) (hk:d.1=2) (E0:List AV) (i0:AV.idsL E0=[]) (r0:∀ (h:List zf) (lo off:Nat) (o:List Nat),AV.renL h lo off o E0=E0) (e2 e3:List (List AV)):∃ e,
  aR G FT VQ [.agg (sC s),.ptr 4 0 0 0,.ptr 6 0 0 0] (gB E0 e2 e3 j n d)=some (.agg (sC (stS (Po s j d.2.2.1 d.2.2.2.1))),gB E0 e2 e3 j n d++e):=by
 have hd':WZ d.2.2.1=true∧WZ d.2.2.2.1=true:=by
  have h:=hd
  unfold UC DY at h
  rw [hk] at h
  rw [if_neg (by omega),if_pos rfl] at h
  simp only [Bool.and_eq_true] at h
  exact h.1
 have hW:=zFR G s.w j h1 h8 d.2.2.1 d.2.2.2.1 hm hd'.1 hd'.2
 have hS:=zjt G (Po s j d.2.2.1 d.2.2.2.1) hs
 have a1:=zk s
 have a2:=zG s
 have a3:=zu s
 have a0:(sC s).drop 33=[]:=rfl
 have a4:=zAO s
 have q:=zCG s j d.2.2.1 d.2.2.2.1
 have v1:=zkn s.w
 have v2:=Tg (setW s.w j d.2.2.1 d.2.2.2.1)
 have v3:=zca (setW s.w j d.2.2.1 d.2.2.2.1)
 have c1:=zk (Po s j d.2.2.1 d.2.2.2.1)
 have c3:=zu (Po s j d.2.2.1 d.2.2.2.1)
 have c4:=vK (Po s j d.2.2.1 d.2.2.2.1)
 generalize Po s j d.2.2.1 d.2.2.2.1=s2 at *
 generalize zF (setW s.w j d.2.2.1 d.2.2.2.1)=C2 at *
 have x1:=zk (stS s2)
 have x2:=zG (stS s2)
 have x3:=zu (stS s2)
 have x0:(sC (stS s2)).drop 33=[]:=rfl
 generalize stS s2=s3 at *
 unfold gB bdC
 rw [zaN]
 refine ⟨[⟨33,0,true,[sC s2]⟩,⟨33,0,true,[sC s3]⟩], ?_⟩
 (sym=>simp [Qb,Qd,Qe,Qi,Qm,Qn,Qo,Qr,Qv,Qw,Q4,Q5,Xp,Xw,Xx,Yj,Yr,Yt,Yu,Yv,Y1,Y5,Y8,Y9,Za,Zb,Zc,Zd,Ze,Zg,Zh,Zi,Zj,Zk,Zl,Zm,Zn,Zo,Zr,Zs,Zt,Zu,Zv,Zw,Zy,Z0,Z1,Jj,Jk,Jv,Jx,J1,J2,Ue,Uf,Ug,Ul,V3,V6,Wd,We,Hh,Hi,Hk,Hl,Hp,Hr,Hs,Ht,Hu,Hv,Hw,No,Nx,N0,Be,zEx.eq_1,zEf.eq_1,zDa.eq_1,ZI.eq_1,i0,r0,hW,hS,a0,a1,a2,a3,a4,q,v1,v2,v3,c1,c3,c4,x0,x1,x2,x3,List.append_nil,zL.eq_1])
theorem zwx (s:Ses) (hs:okS s) (j:Nat) (n:Int) (d:Dd) (E0:List AV) (i0:AV.idsL E0=[]) (r0:∀ (h:List zf) (lo off:Nat) (o:List Nat),AV.renL h lo off o E0=E0) (e2 e3:List (List AV)):∃ e,
  aR G FT UB [.agg (sC s),.ptr 4 0 0 0] (gB E0 e2 e3 j n d)=some (.agg (sC (if wrB s.mem j=true then Wm s (RU s.h s.tq j).1 (RU s.h s.tq j).2.1 else s)),gB E0 e2 e3 j n d++e):=by
 have hA:=fun b f=>zHj G s.h s.tq b f j hs.2.1
 have hWr:=zg0 G s j (by have:=hs.1;omega)
 have a1:=zk s
 have a2:=zG s
 have a3:=zu s
 have a0:(sC s).drop 33=[]:=rfl
 have a4:=zgv s
 have a5:=vK s
 have q:=zeP s (RU s.h s.tq j).1 (RU s.h s.tq j).2.1
 have c1:=zk (Wm s (RU s.h s.tq j).1 (RU s.h s.tq j).2.1)
 have c2:=zG (Wm s (RU s.h s.tq j).1 (RU s.h s.tq j).2.1)
 have c3:=zu (Wm s (RU s.h s.tq j).1 (RU s.h s.tq j).2.1)
 have c0:(sC (Wm s (RU s.h s.tq j).1 (RU s.h s.tq j).2.1)).drop 33=[]:=rfl
 simp only [NV] at hA
 generalize Wm s (RU s.h s.tq j).1 (RU s.h s.tq j).2.1=s2 at *
 unfold gB bdC
 rw [zbg]
 by_cases hw:wrB s.mem j=true
 ·rw [if_pos hw]
  refine ⟨[⟨33,0,true,[sC s2]⟩,⟨33,0,true,[sC s2]⟩], ?_⟩
  (sym=>simp [Qb,Qd,Qe,Qi,Qm,Qn,Qo,Qr,Qt,Qv,Qw,Q4,Q5,Xp,Xw,Xx,Yj,Yr,Yt,Yu,Yv,Y1,Y5,Y8,Y9,Za,Zb,Zc,Zd,Ze,Zg,Zh,Zi,Zj,Zk,Zl,Zm,Zn,Zo,Zr,Zs,Zt,Zu,Zv,Zw,Zy,Z0,Z1,Jj,Jk,Jr,Jv,Jx,J1,J2,Ue,Uf,Ug,Ul,V3,V6,V9,Wd,We,Hh,Hi,Hk,Hl,Hp,Hr,Hs,Ht,Hu,Hv,Hw,No,Nx,N0,Be,zAs.eq_1,zz9.eq_1,zAJ.eq_1,zw9.eq_1,jS.eq_1,i0,r0,hA,hWr,hw,a0,a1,a2,a3,a4,a5,q,c0,c1,c2,c3,List.append_nil,zL.eq_1])
 ·rw [if_neg hw]
  have hw':wrB s.mem j=false:=by simpa using hw
  refine ⟨[⟨33,0,true,[sC s]⟩,⟨33,0,true,[sC s]⟩], ?_⟩
  (sym=>simp [Qb,Qc,Qd,Qe,Qi,Qm,Qn,Qo,Qt,Qv,Qw,Q4,Q5,Yj,Yr,Yt,Yu,Y1,Y5,Y8,Y9,Za,Zb,Zc,Zd,Ze,Zg,Zh,Zi,Zj,Zk,Zl,Zm,Zn,Zo,Zr,Zs,Zt,Zu,Zv,Zw,Zy,Z0,Z1,Z3,Jj,Jk,Jr,Jv,Jx,J1,J2,Ue,Uf,Ug,Ul,V3,V6,Wd,We,Hh,Hi,Hk,Hl,Hp,Hr,Hs,Ht,Hu,Hv,Hw,No,Nx,N0,Be,zAs.eq_1,zz9.eq_1,zAJ.eq_1,zw9.eq_1,jS.eq_1,i0,r0,hWr,hw',a0,a1,a2,a3,a4,a5,List.append_nil,zL.eq_1])
theorem zAQ (s:Ses) (hs:okS s) (j:Nat) (n:Int) (d:Dd) (E0:List AV) (i0:AV.idsL E0=[]) (r0:∀ (h:List zf) (lo off:Nat) (o:List Nat),AV.renL h lo off o E0=E0) (e2 e3:List (List AV)):∃ e,
  aR G FT UA [.agg (sC s),.ptr 4 0 0 0] (gB E0 e2 e3 j n d)=some (.agg (sC (Wm s (WA s.h s.tq j).1 (WA s.h s.tq j).2.1)),gB E0 e2 e3 j n d++e):=by
 have hA:=fun b f=>zFB G s.h s.tq b f j hs.2.1
 have a1:=zk s
 have a2:=zG s
 have a3:=zu s
 have a0:(sC s).drop 33=[]:=rfl
 have a4:=zgv s
 have q:=zeP s (WA s.h s.tq j).1 (WA s.h s.tq j).2.1
 have c1:=zk (Wm s (WA s.h s.tq j).1 (WA s.h s.tq j).2.1)
 have c2:=zG (Wm s (WA s.h s.tq j).1 (WA s.h s.tq j).2.1)
 have c3:=zu (Wm s (WA s.h s.tq j).1 (WA s.h s.tq j).2.1)
 have c0:(sC (Wm s (WA s.h s.tq j).1 (WA s.h s.tq j).2.1)).drop 33=[]:=rfl
 simp only [NV] at hA
 generalize Wm s (WA s.h s.tq j).1 (WA s.h s.tq j).2.1=s2 at *
 unfold gB bdC
 rw [zaZ]
 refine ⟨[⟨33,0,true,[sC s2]⟩,⟨33,0,true,[sC s2]⟩], ?_⟩
 (sym=>simp [Qb,Qd,Qe,Qi,Qm,Qn,Qo,Qr,Qv,Qw,Q4,Q5,Xp,Xw,Xx,Yj,Yr,Yt,Yu,Yv,Y1,Y5,Y8,Y9,Za,Zb,Zc,Zd,Ze,Zg,Zh,Zi,Zj,Zk,Zl,Zm,Zn,Zo,Zr,Zs,Zt,Zu,Zv,Zw,Zy,Z0,Z1,Jj,Jk,Jv,Jx,J1,J2,Ue,Uf,Ug,Ul,V3,V6,V9,Wd,We,Hh,Hi,Hk,Hl,Hp,Hr,Hs,Ht,Hu,Hv,Hw,No,Nx,N0,Be,zDQ.eq_1,zDo.eq_1,zEp.eq_1,ZA.eq_1,i0,r0,hA,a0,a1,a2,a3,a4,q,c0,c1,c2,c3,List.append_nil,zL.eq_1])
theorem zw6 (s:Ses) (hs:okS s) (hm:TN s.w=true) (j:Nat) (h1:1≤j) (h8:j≤8) (n:Int) (d:Dd) (hd:UC d=true) (hl:d.2.1.length≤1000) (E0:List AV) (i0:AV.idsL E0=[]) (r0:∀ (h:List zf) (lo off:Nat) (o:List Nat),AV.renL h lo off o E0=E0) (e2 e3:List (List AV)):∃ f cs e,doF d.1=.fn (.func f) [] cs∧
  aR G FT f (.agg (sC s)::cs) (gB E0 e2 e3 j n d)=some (.agg (sC (doS s j n d)),gB E0 e2 e3 j n d++e):=by
 unfold doF doS
 by_cases k1:d.1=1
 ·rw [if_pos k1,if_pos k1]
  obtain ⟨e,h⟩:=zAK G s hs j n d hl E0 i0 r0 e2 e3
  exact ⟨_,_,e,rfl,h⟩
 rw [if_neg k1,if_neg k1]
 by_cases k2:d.1=2
 ·rw [if_pos k2,if_pos k2]
  obtain ⟨e,h⟩:=zwh G s hs hm j h1 h8 n d hd k2 E0 i0 r0 e2 e3
  exact ⟨_,_,e,rfl,h⟩
 rw [if_neg k2,if_neg k2]
 by_cases k3:d.1=3
 ·rw [if_pos k3,if_pos k3]
  obtain ⟨e,h⟩:=zwx G s hs j n d E0 i0 r0 e2 e3
  exact ⟨_,_,e,rfl,h⟩
 rw [if_neg k3,if_neg k3]
 obtain ⟨e,h⟩:=zAQ G s hs j n d E0 i0 r0 e2 e3
 exact ⟨_,_,e,rfl,h⟩
end
section
variable (G:Nat→Option (List AV))
theorem zpc (s:Ses) (h:List zf) (lo off:Nat) (o:List Nat):AV.renL h lo off o (sC s)=sC s:=by simp [sC,zF,zP,AV.renL,AV.ren]
theorem zvJ (s:Ses) (h:okS s) (id n:Int) (d:Dd) (hdl:d.2.1.length≤1000):aP G FT vI [.agg (bsC s),.int .i64 id,.int .i64 n,.agg (bdC d)]=some (.tup [.agg (sC (Wo s id n d).1),.int .i64 (Wo s id n d).2]):=by
 have hM:=zva G s h
 have hF:=fun b f=>Ka G s.mem b f id (by have:=h.1;omega)
 have a1:=IZ s
 have a2:=zqa s
 have a3:=Ie s
 have a4:=znd s
 have a5:=zmY s
 have a6:(bsC s).drop 33=[]:=rfl
 have b1:(bdC d).length=4:=rfl
 have u1:=Pi s
 have u2:=zbE s
 have u3:AV.idsL (bdC d)=[]:=by simp [bdC,AV.idsL,AV.ids]
 have u4:∀ (h:List zf) (lo off:Nat) (o:List Nat),AV.renL h lo off o (bdC d)=bdC d:=fun h lo off o=>by simp [bdC,AV.renL,AV.ren]
 have b2:AV.stableL (bdC d)=false:=by simp [bdC,AV.stableL,AV.stable]
 have b3:(bdC d).take 4=bdC d:=rfl
 have b4:∀ h,yE h (bdC d)=some (bdC d):=fun h=>by simp [bdC,yE,ZC]
 have z:=ziq
 unfold aP Wo
 rw [zdd]
 cases hs:yj s with
 | false=>
  rw [if_neg (by simp)]
  simp only [z]
  generalize bdC d=D at *
  (sym=>simp [Qb,Qd,Qe,Qi,Qj,Qm,Qn,Qo,Qr,Qt,Qv,Qw,Qx,Q1,Q4,Q5,Xd,Yj,Yr,Yu,Y1,Y6,Y7,Y8,Y9,Za,Zb,Zc,Zd,Ze,Zg,Zh,Zi,Zj,Zk,Zl,Zm,Zn,Zo,Zr,Zs,Zt,Zu,Zv,Zw,Zy,Z0,Z1,Jj,Jk,Jl,Jr,Jv,Jx,J1,J2,K8,Ue,Uf,Ug,Ul,V3,Wd,We,Wg,Wh,Wi,Wj,Wp,Wq,Hh,Hi,Hk,Hl,Ho,Hp,Hq,Hr,Hs,Ht,Hu,Hv,Hw,Hx,No,Nx,N0,Be,zfJ.eq_1,zhU.eq_1,zh2.eq_1,zfp.eq_1,zfH.eq_1,zgP.eq_1,ze6.eq_1,zh1.eq_1,zfm.eq_1,ze5.eq_1,za3.eq_1,zaJ.eq_1,zbq.eq_1,za2.eq_1,uf.eq_1,u1,u2,u3,u4,hM,hs,a1,a2,a3,a4,b1,b2,zL.eq_1])
 | true=>
  rw [if_pos rfl]
  cases ht:zK s.mem id with
  | false=>
   rw [ht] at hF
   simp only [Bool.false_eq_true,if_false] at hF
   rw [if_neg (by simp)]
   simp only [z]
   generalize bdC d=D at *
   (sym=>simp [Qb,Qc,Qd,Qe,Qi,Qj,Qm,Qn,Qo,Qr,Qt,Qv,Qw,Qx,Q1,Q4,Q5,Xd,Xp,Xw,Xx,Yj,Yr,Yt,Yu,Yv,Y1,Y6,Y7,Y8,Y9,Za,Zb,Zc,Zd,Ze,Zg,Zh,Zi,Zj,Zk,Zl,Zm,Zn,Zo,Zr,Zs,Zt,Zu,Zv,Zw,Zy,Z0,Z1,Z3,Jj,Jk,Jl,Jr,Jv,Jx,J1,J2,K8,Ue,Uf,Ug,Ul,V3,V6,V9,Wd,We,Wg,Wh,Wi,Wj,Wp,Wq,Hh,Hi,Hk,Hl,Ho,Hp,Hq,Hr,Hs,Ht,Hu,Hv,Hw,Hx,No,Nw,Nx,N0,Be,zfJ.eq_1,zhU.eq_1,zh2.eq_1,zfp.eq_1,zfH.eq_1,zgP.eq_1,ze6.eq_1,zh1.eq_1,zfm.eq_1,ze5.eq_1,za3.eq_1,zaJ.eq_1,zbq.eq_1,za2.eq_1,uf.eq_1,u1,u2,u3,u4,hM,hs,hF,a1,a2,a3,a4,a5,b1,b2,zL.eq_1])
  | true=>
   rw [ht] at hF
   simp only [if_true] at hF
   rw [if_pos rfl]
   have hid:idB id=true:=by simp [zK] at ht;exact ht.1.2
   obtain ⟨i1,i8⟩:1≤id∧id≤8:=by simpa [idB] using hid
   obtain ⟨j,hj⟩:∃ j:Nat,id=(j:Int):=⟨id.toNat,by omega⟩
   have hn:id.toNat=j:=by omega
   rw [hn]
   rw [hj] at hF
   rw [hj]
   have hj9:j<9:=by omega
   have hj9':(j:Int)<9:=by omega
   have hb:24+j<33:=by omega
   have hka:=zsI s hj9
   have hr:=zdc hs j hj9
   have hw:IntKind.i64.wrap (s.k j+1)=s.k j+1:=ZV _ (by omega) (by omega)
   by_cases c1:1073741824≤s.k j
   ·rw [if_pos (.inl c1)]
    simp only [z]
    generalize bdC d=D at *
    (sym=>simp [Qb,Qc,Qd,Qe,Qf,Qg,Qi,Qj,Qm,Qn,Qo,Qr,Qt,Qu,Qv,Qw,Qx,Q1,Q4,Q5,Xa,Xd,Xp,Xt,Xw,Xx,Yd,Yj,Yr,Yt,Yu,Yv,Yz,Y1,Y6,Y7,Y8,Y9,Za,Zb,Zc,Zd,Ze,Zg,Zh,Zi,Zj,Zk,Zl,Zm,Zn,Zo,Zr,Zs,Zt,Zu,Zv,Zw,Zy,Z0,Z1,Z3,Jb,Jj,Jk,Jl,Jr,Jv,Jx,J1,J2,K8,Ue,Uf,Ug,Ul,V3,V6,V9,Wd,We,Wg,Wh,Wi,Wj,Wp,Wq,Hh,Hi,Hk,Hl,Ho,Hp,Hq,Hr,Hs,Ht,Hu,Hv,Hw,Hx,Nc,Ni,Nk,Nl,No,Nw,Nx,Nz,N0,Be,Bh,zfJ.eq_1,zhU.eq_1,zh2.eq_1,zfp.eq_1,zfH.eq_1,zgP.eq_1,ze6.eq_1,zh1.eq_1,zfm.eq_1,ze5.eq_1,za3.eq_1,zaJ.eq_1,zbq.eq_1,za2.eq_1,uf.eq_1,u1,u2,u3,u4,hM,hs,hF,hka,hj9',hb,c1,a1,a2,a3,a4,a5,b1,b2,zL.eq_1])
   by_cases c2:n=s.k j+1
   ·rw [if_neg (by rintro (h | h);exact c1 h;exact h c2)]
    cases hd:UC d with
    | false=>
     rw [if_neg (by simp)]
     have hD:=fun e2 e3=>zoj G d hd j n (bsC s) (Pi s) (zbE s) e2 e3
     simp only [zcT,gB] at hD
     simp only [z]
     generalize bdC d=D at *
     rw [c2] at hD ⊢
     (sym=>simp [Qb,Qc,Qd,Qe,Qf,Qg,Qi,Qj,Qm,Qn,Qo,Qr,Qt,Qu,Qv,Qw,Qx,Q1,Q4,Q5,Xa,Xc,Xd,Xp,Xt,Xw,Xx,X5,X9,Yd,Yj,Yr,Yt,Yu,Yv,Yz,Y1,Y6,Y7,Y8,Y9,Za,Zb,Zc,Zd,Ze,Zg,Zh,Zi,Zj,Zk,Zl,Zm,Zn,Zo,Zq,Zr,Zs,Zt,Zu,Zv,Zw,Zy,Z0,Z1,Z3,Jb,Jh,Jj,Jk,Jl,Jr,Jv,Jx,J1,J2,Ko,K8,Ue,Uf,Ug,Ul,V3,V6,V9,Wd,We,Wg,Wh,Wi,Wj,Wp,Wq,Hh,Hi,Hk,Hl,Ho,Hp,Hq,Hr,Hs,Ht,Hu,Hv,Hw,Hx,Nc,Ni,Nk,Nl,Nm,No,Nw,Nx,Nz,N0,Be,Bh,zfJ.eq_1,zhU.eq_1,zh2.eq_1,zfp.eq_1,zfH.eq_1,zgP.eq_1,ze6.eq_1,zh1.eq_1,zfm.eq_1,ze5.eq_1,za3.eq_1,zaJ.eq_1,zbq.eq_1,za2.eq_1,uf.eq_1,u1,u2,u3,u4,hM,hs,hF,hka,hj9',hb,c1,hw,hD,a1,a2,a3,a4,a5,b1,b2,b3,b4,zL.eq_1])
    | true=>
     rw [if_pos rfl]
     have hD:=fun e2 e3=>zp7 G d hd j n (bsC s) (Pi s) (zbE s) e2 e3
     simp only [zcT,gB] at hD
     have hC:=zoc G s h
     have ok2:okS (cpS s):=⟨h.1,h.2.1,zah h.2.2 (-1)⟩
     have w2:TN (YK (cpS s) j n).w=true:=(zZ hs).2.2.2.1
     have hR:=fun e2 e3=>zw6 G (YK (cpS s) j n) ok2 w2 j (by omega) (by omega) n d hd hdl (sC (YK (cpS s) j n)) (DC _) (zpc _) e2 e3
     have kc:=zsv (cpS s) hj9 n
     have c3:=zk (cpS s)
     have c4:=zG (cpS s)
     have c5:=zu (cpS s)
     have c6:(sC (cpS s)).drop 33=[]:=rfl
     have w3:=DC (cpS s)
     have w4:=zpc (cpS s)
     have w5:=DC (YK (cpS s) j n)
     have w6:=zpc (YK (cpS s) j n)
     have g1:=zk (YK (cpS s) j n)
     have g3:=zu (YK (cpS s) j n)
     have hfd:=zGj (YK (cpS s) j n) ⟨rfl,rfl,rfl⟩ j n d
     have x4:=zm6 hfd
     generalize YK (cpS s) j n=s2 at *
     have x1:=zk (doS s2 j n d)
     have x2:=zG (doS s2 j n d)
     have x3:=zu (doS s2 j n d)
     have x6:(sC (doS s2 j n d)).drop 33=[]:=rfl
     obtain ⟨f,cs,e,k1,k2⟩:=hR [(.data false 2 [] true::.int .i64 0::.data false 1 [] true::.data false 3 [] true::.int .i64 0::.int .i64 0::.int .i64 0::.int .i64 0::.int .i64 0::.int .i64 0::.int .i64 0::.int .i64 0::.int .i64 0::.int .i64 0::.int .i64 0::.int .i64 0::.int .i64 0::.int .i64 0::.int .i64 0::.int .i64 0::.int .i64 0::.int .i64 0::.int .i64 0::.int .i64 0::.int .i64 0::.int .i64 0::.int .i64 0::.int .i64 0::.int .i64 0::.int .i64 0::.int .i64 0::.int .i64 0::.int .i64 0::[])] [[.int .i64 j,.int .i64 (zg s.mem j)]]
     simp only [gB] at k2
     rw [k1] at hD
     generalize doS s2 j n d=s3 at *
     generalize bdC d=D at *
     have c2':n≠s.k j+1↔False:=by simp [c2]
     rw [c2] at *
     (sym=>simp [Qb,Qc,Qd,Qe,Qf,Qg,Qi,Qj,Qm,Qn,Qo,Qp,Qq,Qr,Qt,Qu,Qv,Qw,Q4,Q5,Xa,Xc,Xd,Xp,Xt,Xw,Xx,X5,X9,Yd,Yj,Yr,Yt,Yu,Yv,Yz,Y1,Y6,Y7,Y8,Y9,Za,Zb,Zc,Zd,Ze,Zg,Zh,Zi,Zj,Zk,Zl,Zm,Zn,Zo,Zq,Zr,Zs,Zt,Zu,Zv,Zw,Zy,Z0,Z1,Z3,Jb,Jh,Jj,Jk,Jr,Jv,Jx,J1,J2,J3,Kq,Ue,Uf,Ug,Ul,V3,V6,V9,Wd,We,Wh,Wi,Wj,Wp,Wq,Hh,Hi,Hk,Hl,Hp,Hr,Hs,Ht,Hu,Hv,Hw,Hx,Nc,Ni,Nk,Nl,Nm,No,Nw,Nx,Nz,N0,Be,Bh,zfJ.eq_1,zhU.eq_1,zh2.eq_1,zfp.eq_1,zfH.eq_1,zgP.eq_1,ze6.eq_1,zh1.eq_1,zfm.eq_1,ze5.eq_1,za3.eq_1,zaJ.eq_1,zbq.eq_1,za2.eq_1,uf.eq_1,u1,u2,u3,u4,hM,hs,hF,hka,hj9',hb,c1,hw,hD,hC,kc,k2,a1,a2,a3,a4,a5,a6,b1,b2,b3,b4,c3,c4,c5,c6,w3,w4,w5,w6,g1,g3,x1,x2,x3,x4,x6,List.append_nil,zL.eq_1])
   ·rw [if_pos (.inr c2)]
    simp only [z]
    generalize bdC d=D at *
    (sym=>simp [Qb,Qc,Qd,Qe,Qf,Qg,Qi,Qj,Qm,Qn,Qo,Qr,Qt,Qu,Qv,Qw,Qx,Q1,Q4,Q5,Xa,Xd,Xp,Xt,Xw,Xx,X5,X9,Yd,Yj,Yr,Yt,Yu,Yv,Yz,Y1,Y6,Y7,Y8,Y9,Za,Zb,Zc,Zd,Ze,Zg,Zh,Zi,Zj,Zk,Zl,Zm,Zn,Zo,Zr,Zs,Zt,Zu,Zv,Zw,Zy,Z0,Z1,Z3,Jb,Jj,Jk,Jl,Jr,Jv,Jx,J1,J2,K8,Ue,Uf,Ug,Ul,V3,V6,V9,Wd,We,Wg,Wh,Wi,Wj,Wp,Wq,Hh,Hi,Hk,Hl,Ho,Hp,Hq,Hr,Hs,Ht,Hu,Hv,Hw,Hx,Nc,Ni,Nk,Nm,No,Nw,Nx,Nz,N0,Be,Bh,zfJ.eq_1,zhU.eq_1,zh2.eq_1,zfp.eq_1,zfH.eq_1,zgP.eq_1,ze6.eq_1,zh1.eq_1,zfm.eq_1,ze5.eq_1,za3.eq_1,zaJ.eq_1,zbq.eq_1,za2.eq_1,uf.eq_1,u1,u2,u3,u4,hM,hs,hF,hka,hj9',hb,c1,c2,hw,a1,a2,a3,a4,a5,b1,b2,zL.eq_1])
end
end
end Go.Proofs.YthcnhibjddomdaaGreat
namespace Go.Proofs.YthcnhibjddomdaaGreat
section
open Go
variable [FrB]
end
end Go.Proofs.YthcnhibjddomdaaGreat
namespace Go.Proofs.YthcnhibjddomdaaGreat
section
open Go Go.RowKit
abbrev frI (B:Nat):FrB:=⟨fun b=>B≤b⟩
abbrev noR:Rho:=fun _=>none
abbrev noO:Nat→Prop:=fun _=>False
abbrev Bel (w w':World):Prop:=UF w noO w' noO
theorem Bel.of {w w':World} {O:Nat→Prop} (A:UF w noO w' O):Bel w w':=⟨A.os,A.tape,A.output,A.size,A.same,fun _ h=>h.elim⟩
theorem uj.re {I J:FrB} {w:World} {X:Nat→Prop} (hJ:∀ b,b<w.heap.size→J.fr b→I.fr b) {v:AV} {x:Value} (h: @uj I w X v x): @uj J w X v x:=by
 induction h with
 | int k n=>exact .int k n
 | bool b=>exact .bool b
 | str s=>exact .str s
 | nilfn=>exact .nilfn
 | nilptr=>exact .nilptr
 | agg cs vs hl h1 _ ih=>exact .agg cs vs hl h1 ih
 | tup cs vs hl _ ih=>exact .tup cs vs hl ih
 | fn f asx bs xs ys h1 h2 _ _ i1 i2=>exact .fn f asx bs xs ys h1 h2 i1 i2
 | data0 k full a cap hf=>exact .data0 k full a cap hf
 | data k es full b off cap val h1 h2 h3 hX hb hc _ ht ih=>exact .data k es full b off cap val h1 h2 h3 hX hb hc ih (fun hf=>ht (hJ b hb hf))
mutual
def zhJ:AV→AV
 | .data false k es f=>.data true k es f
 | .dptr cs=>.dptr (cs.map (AV.tob true))
 | .agg cs=>.agg (zxP cs)
 | v=>v
def zxP:List AV→List AV
 | []=>[]
 | v::vs=>zhJ v::zxP vs
end
theorem zhx:∀ cs,zxP cs=cs.map zhJ
 | []=>by simp [zxP]
 | v::cs=>by rw [zxP,zhx cs];rfl
def AV.dry:AV→Bool
 | .int _ _ | .bool _ | .str _ | .nilfn | .nilptr | .data .. | .dptr _=>true
 | .agg cs=>cs.all fun c=>match c with
  | .int _ _ | .bool _ | .str _ | .nilfn | .nilptr | .data .. =>true
  | _=>false
 | _=>false
theorem PL {I J:FrB} {w:World} {S:Nat→Prop} (hJ:∀ b,b<w.heap.size→J.fr b→I.fr b) {v:AV} {x:Value} (hd:match v with | .int _ _ | .bool _ | .str _ | .nilfn | .nilptr | .data .. =>true | _=>false) (h: @zB I noR w noO noO v x): @zB J noR w S noO (zhJ v) x:=by
 cases v with
 | int k n=>obtain rfl:= @jc I _ _ _ _ _ _ _ h;exact .s (.int _ _)
 | bool b=>obtain rfl:= @TI I _ _ _ _ _ _ h;exact .s (.bool _)
 | str s=>obtain rfl:= @Rf I _ _ _ _ _ _ h;exact .s (.str _)
 | nilfn=>obtain rfl:= @DW I _ _ _ _ _ h;exact .s .nilfn
 | nilptr=>obtain rfl:= @Jc I _ _ _ _ _ h;exact .s .nilptr
 | data bo k es full=>
  obtain ⟨a,cap,rfl,h1,h2,h3,h4⟩:= @oK I _ _ _ _ _ _ _ _ _ h
  have e:zhJ (.data bo k es full)=.data true k es full:=by cases bo<;>simp [zhJ]
  rw [e]
  refine @NL J _ _ _ _ _ _ _ _ _ _ h1 h2 h3 (h4.imp id ?_)
  rintro ⟨b,off,val,q1,q2,_,q4,q5,q6⟩
  exact ⟨b,off,val,q1,q2,(fun h=>by cases h),q4,q5,fun e j g c hg hc=>((q6 e j g c hg hc).re hJ).mono fun b hb=>hb.elim (fun h=>by cases h.1) (fun h=>.inr h)⟩
 | _=>simp at hd
theorem zCz {I J:FrB} {w:World} {S:Nat→Prop} (hJ:∀ b,b<w.heap.size→J.fr b→I.fr b) {v:AV} {x:Value} (hd:v.dry=true) (h: @zB I noR w noO noO v x): @zB J noR w S noO (zhJ v) x:=by
 cases v with
 | dptr cs=>
  obtain ⟨b,off,val,rfl,h1,h2,h3,h4⟩:= @WB I _ _ _ _ _ _ h
  rw [zhJ]
  refine @zB.dptr J _ _ _ _ _ b off val h1 h2 (fun j hj=>h3 j (by simpa using hj)) fun j c hj=> ?_
  rw [List.getElem?_map] at hj
  obtain ⟨c0,hc,rfl⟩:=ze.1 hj
  have hb:=h4 j c0 hc
  generalize val j=y at hb
  cases hb with
  | s hs=>exact @ztC J _ _ _ true _ _ ((uj.re hJ hs).mono fun b hb=>hb.imp (fun h=>by cases h.1) id)
  | bor0 k full a cap hf=>exact .bor0 k full a cap hf
  | bor k es full b off cap val h1 h2 h3 h4 h5 h6 h7=>exact .bor k es full b off cap val h1 h2 h3 h4 h5 h6 fun e j g c hg hc=>(h7 e j g c hg hc).re hJ
  | unk y=>exact .unk y
 | agg cs=>
  obtain ⟨vs,rfl,h1,h2,h3⟩:= @IX I _ _ _ _ _ _ h
  rw [zhJ]
  simp only [AV.dry,List.all_eq_true] at hd
  refine @zB.agg J _ _ _ _ _ vs (by rw [zhx,List.length_map];exact h1) h2 fun i c v hc hv=> ?_
  rw [zhx,List.getElem?_map] at hc
  obtain ⟨c0,hc0,rfl⟩:=ze.1 hc
  have:=hd c0 (List.mem_of_getElem? hc0)
  exact PL hJ (by cases c0<;>simp_all) (h3 i c0 v hc0 hv)
 | int k n=>exact PL hJ rfl h
 | bool b=>exact PL hJ rfl h
 | str s=>exact PL hJ rfl h
 | nilfn=>exact PL hJ rfl h
 | nilptr=>exact PL hJ rfl h
 | data bo k es full=>exact PL hJ rfl h
 | _=>simp [AV.dry] at hd
theorem zjc {I J:FrB} {w:World} {S:Nat→Prop} (hJ:∀ b,b<w.heap.size→J.fr b→I.fr b) {v:AV} {x:Value} (hs:v.stable=true) (h: @zB I noR w S noO v x): @zB J noR w noO noO v x:=
 @zB.s J _ _ _ _ _ _ (((@PH I _ _ _ _ _ _ h hs).re hJ).mono fun b hb=>hb.elim False.elim False.elim)
def Dry (I:FrB) (S:Nat→Prop) (env:yF) (a:Act) (w:World):Prop:=∀ s v,look env s=some v→∃ x,a.tmps[s]? =some x∧ @zB I noR w S noO v x
def zFS (h:List zf):yF→Option yF
 | []=>some []
 | (s,v)::r=>(ZC h v).bind fun v'=>(zFS h r).bind fun r'=>some ((s,v')::r')
theorem zjg {h:List zf}:∀ {env env':yF},zFS h env=some env'→∀ s v',look env' s=some v'→∃ v,look env s=some v∧ZC h v=some v'
 | [],env',he,s,v',hl=>by cases he;cases hl
 | (k,v)::r,env',he,s,v',hl=>by
  obtain ⟨v1,h1,he⟩:=za.1 he
  obtain ⟨r1,h2,he⟩:=za.1 he
  cases he
  simp only [look] at hl ⊢
  by_cases e:k=s
  ·rw [if_pos e] at hl ⊢
   cases hl
   exact ⟨v,rfl,h1⟩
  ·rw [if_neg e] at hl ⊢
   exact zjg h2 s v' hl
theorem zCt {I:FrB} {ρ:Rho} {w:World} {S O:Nat→Prop} {h:List zf} (H: @Heap I ρ w S O h) {v v':AV} {x:Value} (hv: @zB I ρ w S O v x) (hw:ZC h v=some v'): @zB I noR w S noO v' x:=
 @Iw I _ _ _ _ _ _ _ _ (fun b hb=>hb.elim (fun h=>.inl (.inl h)) False.elim) (fun b hb=>hb) (@zhM I _ _ _ _ _ H v _ _ hv hw)
theorem Dry.mono {I:FrB} {S:Nat→Prop} {env:yF} {a a':Act} {w w':World} (k:Dry I S env a w) (A:Bel w w') (ht:∀ s v,look env s=some v→a'.tmps[s]? =a.tmps[s]?):Dry I S env a' w':=fun s v hl=>by
 obtain ⟨x,h1,h2⟩:=k s v hl
 exact ⟨x,(ht s v hl).trans h1, @zB.advX I _ _ _ _ _ _ _ _ _ h2 (.refl _) A⟩
def Wet (I:FrB) (S:Nat→Prop) (w0:World) (st:ASt) (a:Act) (w:World):Prop:=∃ ρ O,UF w0 noO w O∧ @Heap I ρ w S O st.h∧ @Rel I (fun _=>none) ρ w S O st.env a
theorem Dry.wet {I:FrB} {S:Nat→Prop} {env:yF} {a:Act} {w:World} (k:Dry I S env a w) (hS:∀ b,S b→b<w.heap.size):Wet I S w ⟨env,[]⟩ a w:=
 ⟨noR,noO,UF.refl w noO,⟨fun id g pl h=>(nomatch h),fun id id' g g' p p' h=>(nomatch h),fun b hb=>hb.elim (hS b) False.elim,fun _ hb=>hb.elim⟩,⟨k,fun g cs h=>(nomatch h)⟩⟩
theorem Wet.dry {I:FrB} {S:Nat→Prop} {w0:World} {st:ASt} {a:Act} {w:World} (k:Wet I S w0 st a w) {env':yF} (he:zFS st.h st.env=some env'):Dry I S env' a w∧Bel w0 w:=by
 obtain ⟨ρ,O,A,H,R⟩:=k
 refine ⟨fun s v' hl=> ?_,.of A⟩
 obtain ⟨v,h1,h2⟩:=zjg he s v' hl
 obtain ⟨x,h3,h4⟩:=R.env s v h1
 exact ⟨x,h3,zCt H h4 h2⟩
theorem Wet.part {I:FrB} {P:Program} {F:Nat→Option Dj} (hm:P.follows .mixedOrders=true) (hE: @zax I P (fun _=>none) F) {S:Nat→Prop} {st:ASt} {N:Nat} {c:Code} {ac:zt} {r:AEx×ASt} {Q:Exit→Act→World→Prop} {a:Act} {w0 w:World}
  (k:Wet I S w0 st a w) (hz:a.tmps.size=N∧a.defers=[]) (hr:aE (fun _=>none) F 0 ac st=some r) (hc:jK P N c ac=true)
  (hQ:∀ a' w',Wet I S w0 r.2 a' w'→a'.tmps.size=N∧a'.defers=[]→Kept (Fe c) a a'→Q (zaV r.1) a' w'):c.wp P Q a w:=by
 obtain ⟨n,hn⟩:=(vU (fun _=>none) F).1 hr
 obtain ⟨ρ,O,A,H,R⟩:=k
 refine (@zmd I P (fun _=>none) F hm hE n).1 N 0 c ac _ r hn hc ([],N) ρ w S O Q a w ⟨ρ,O,UF.refl w O,fun id hid=>absurd hid (Nat.not_lt_zero _),fun id hid=>absurd hid (Nat.not_lt_zero _),H,R,Nat.le_of_eq hz.1.symm,⟨hz.2,hz.1⟩,Nat.zero_le _⟩ ?_
 rintro a' w' ⟨ρ',O',k'⟩ hk
 exact hQ a' w' ⟨ρ',O',A.trans k'.adv,k'.heap,k'.rel⟩ ⟨k'.def0.2,k'.def0.1⟩ hk
theorem Wet.agc {I:FrB} {S:Nat→Prop} {w0:World} {st st':ASt} {a:Act} {w:World} {live:List Nat} (k:Wet I S w0 st a w) (hg:agc 0 live st=some st'):Wet I S w0 st' a w:=by
 obtain ⟨ρ,O,A,H,R⟩:=k
 obtain ⟨ρ2,h1,h2,h3,h4⟩:= @zyf I _ _ _ _ _ _ _ _ _ _ _ H R (Nat.zero_le _) hg
 exact ⟨ρ2,O,A,h1,h2⟩
theorem Dry.keep {I:FrB} {S:Nat→Prop} {env:yF} {a:Act} {w:World} (k:Dry I S env a w) (live:List Nat):Dry I S (uy live env) a w:=fun s v hs=>k s v (by
 rw [PV] at hs
 split at hs
 ·exact hs
 ·cases hs)
theorem zzw (e1 e2:yF) (s:Nat):look (e1++e2) s=(look e1 s).or (look e2 s):=by
 induction e1 with
 | nil=>rfl
 | cons p r ih=>
  obtain ⟨k,v⟩:=p
  rw [List.cons_append]
  simp only [look]
  by_cases h:k=s
  ·rw [if_pos h,if_pos h];rfl
  ·rw [if_neg h,if_neg h,ih]
theorem Dry.app {I:FrB} {S:Nat→Prop} {e1 e2:yF} {a:Act} {w:World} (k1:Dry I S e1 a w) (k2:Dry I S e2 a w):Dry I S (e1++e2) a w:=fun s v hs=>by
 rw [zzw] at hs
 cases h:look e1 s with
 | none=>rw [h] at hs;exact k2 s v hs
 | some u=>rw [h] at hs;cases hs;exact k1 s _ h
theorem zae:∀ {env:yF} {s:Nat} {v:AV},look env s=some v→(s,v) ∈ env
 | [],_,_,h=>by cases h
 | (k,u)::r,s,v,h=>by
  simp only [look] at h
  split at h
  ·rename_i e;cases h;subst e;exact List.mem_cons_self ..
  ·exact List.mem_cons_of_mem _ (zae h)
theorem Dry.bor {I J:FrB} {S:Nat→Prop} {env:yF} {a:Act} {w:World} (k:Dry I noO env a w) (hJ:∀ b,b<w.heap.size→J.fr b→I.fr b) (hd:(env.all fun p=>p.2.dry)=true):Dry J S (env.map fun p=>(p.1,zhJ p.2)) a w:=fun s v hs=>by
 have main:∀ env:yF,look (env.map fun p=>(p.1,zhJ p.2)) s=(look env s).map zhJ:=fun env=>by
  induction env with
  | nil=>rfl
  | cons p r ih=>
   obtain ⟨k,v⟩:=p
   rw [List.map_cons]
   simp only [look]
   split
   ·rfl
   ·exact ih
 rw [main] at hs
 obtain ⟨u,hu,rfl⟩:=ze.1 hs
 obtain ⟨x,h1,h2⟩:=k s u hu
 exact ⟨x,h1,zCz hJ (List.all_eq_true.1 hd _ (zae hu)) h2⟩
theorem Dry.back {I J:FrB} {S:Nat→Prop} {env:yF} {a:Act} {w:World} (k:Dry I S env a w) (hJ:∀ b,b<w.heap.size→J.fr b→I.fr b) (hd:(env.all fun p=>p.2.stable)=true):Dry J noO env a w:=fun s v hs=>by
 obtain ⟨x,h1,h2⟩:=k s v hs
 exact ⟨x,h1,zjc hJ (List.all_eq_true.1 hd _ (zae hs)) h2⟩
theorem UW {c:Code} {a a':Act} (hk:Kept (Fe c) a a') (L:List Nat) (h:(L.all fun s=> !(Fe c).contains s)=true):∀ s ∈ L,a'.tmps[s]? =a.tmps[s]? :=fun s hs=>hk s (by
 have:=List.all_eq_true.1 h s hs
 simpa using this)
theorem Dry.on {I:FrB} {S:Nat→Prop} {env:yF} {a a':Act} {w w':World} (k:Dry I S env a w) (A:Bel w w') {L:List Nat} (ht:∀ s ∈ L,a'.tmps[s]? =a.tmps[s]?) (hL:(env.all fun p=>L.contains p.1)=true):Dry I S env a' w':=
 k.mono A fun s v hl=>ht s (by simpa using List.all_eq_true.1 hL _ (zae hl))
theorem kept_trans {a b c:Act} {L:List Nat} (h:∀ s ∈ L,b.tmps[s]? =a.tmps[s]?) (k:∀ s ∈ L,c.tmps[s]? =b.tmps[s]?):∀ s ∈ L,c.tmps[s]? =a.tmps[s]? :=fun s hs=>(k s hs).trans (h s hs)
theorem Bel.trans {u v w:World} (h:Bel u v) (k:Bel v w):Bel u w:=UF.trans h k
end
end Go.Proofs.YthcnhibjddomdaaGreat
namespace Go.Proofs.YthcnhibjddomdaaGreat
section
open Go
section
abbrev zGr:zt:=.region zEY false [1,2,3,5,6,10]
abbrev zGK:zt:=.seq (.region zGf false [1,2,3,5,6,10,38]) (.cond (.slot 38) (.seq (.region zFW false [12]) .ret) .skip)
abbrev zu1:zt:=.seq (.region zxB false [1,2,3,5,6,10,46]) (.cond (.slot 46) (.seq (.region zxh false [12]) .ret) .skip)
abbrev zGu:zt:=.region zF4 false [1,2,3,5,6,10,13]
abbrev zGy:zt:=.region zFy false [1,2,3,5,6,10,13,14,15]
abbrev zGO:zt:=.region zEH false [1,2,3,5,6,10,13,14,15,16,17]
abbrev zHq:zt:=.region zE1 false [1,2,3,5,6,10,13,14,15,16,17,18,19]
abbrev zGE:zt:=.region zFv false [1,2,3,5,6,10,13,14,15,16,17,18,19,20,21]
abbrev zG5:zt:=.region zwa false [1,2,3,5,6,10,13,14,15,16,17,18,19,20,21,22,23]
abbrev zGp:zt:=.seq (.region zyq false [1,2,3,5,6,10,13,14,15,16,17,18,19,20,21,22,23,86]) (.cond (.slot 86) (.seq (.region zA9 false [12]) .ret) .skip)
abbrev zsW:zt:=.seq (.region zsg false [1,2,3,5,6,10,13,14,15,16,17,18,19,20,21,22,23,89]) (.cond (.slot 89) (.seq (.region zsm false [6,14,15,16,17,18,19,20,21,22,23,24]) (.seq (.region ztG false [12]) .ret)) .skip)
abbrev zD1:zt:=.region zyS false [1,2,3,5,6,10,13,14,15,16,17,18,19,20,21,22,23,25,26]
abbrev zDn:zt:=.region zwN false [1,2,3,5,6,10,13,14,15,16,17,18,19,20,21,22,23,25,26,27,28]
abbrev zDR:zt:=.region zwS false [1,3,5,6,10,13,14,15,16,17,18,19,20,21,22,23,25,26,27,28,29,30]
abbrev zDG:zt:=.region zAp false [5,6,13,14,15,16,17,18,19,20,21,22,23,25,26,27,28,29,30,31,32]
abbrev zDU:zt:=.region zvV false [6,13,14,15,16,17,18,19,20,21,22,23,25,26,27,28,29,30,31,32,33,34]
abbrev zDi:zt:=.seq (.region zwb false [6,13,20,206]) (.cond (.slot 206) (.seq (.region zz6 false [12]) .ret) .skip)
abbrev zDB:zt:=.region zAo false [12]
abbrev zT:List AV:=(.data false 2 [] true::.int .i64 0::.data false 1 [] true::.data false 3 [] true::.int .i64 0::.int .i64 0::.int .i64 0::.int .i64 0::.int .i64 0::.int .i64 0::.int .i64 0::.int .i64 0::.int .i64 0::.int .i64 0::.int .i64 0::.int .i64 0::.int .i64 0::.int .i64 0::.int .i64 0::.int .i64 0::.int .i64 0::.int .i64 0::.int .i64 0::.int .i64 0::.int .i64 0::.int .i64 0::.int .i64 0::.int .i64 0::.int .i64 0::.int .i64 0::.int .i64 0::.int .i64 0::.int .i64 0::[])
section
variable (G:Nat→Option (List AV)) (s own a b c x y a1 b1 c1 x1 y1:Ses) (d:Dd) (id role num n ea eb ec ex fa fb fc fx:Int) (out out1:List Pc)
theorem zHg:aE G FT 0 zGr ⟨[(0,.agg (sC s)),(1,.int .i64 id),(2,.int .i64 role),(3,.int .i64 num),(4,.agg (dC d)),(5,.int .i64 n)],[]⟩=some (.normal,⟨[(1,.int .i64 id),(2,.int .i64 role),(3,.int .i64 num),(5,.int .i64 n),(6,.ptr 0 0 0 0),(10,.ptr 1 0 0 0)],[⟨33,0,true,[sC s]⟩,⟨4,0,true,[dC d]⟩]⟩):=by
 unfold zGr
 have us1:=zk s
 have us2:=zG s
 have us3:=zu s
 have us4:=vK s
 have ud1:(dC d).length=4:=rfl
 have ud2:AV.stableL (dC d)=true:=by simp [dC,AV.stableL,AV.stable]
 have ud3:(dC d).take 4=dC d:=rfl
 have ud4:∀ h,yE h (dC d)=some (dC d):=fun h=>by simp [dC,yE,ZC]
 have ud5:((dC d).drop 1)[0]? =some (.data false 1 (byt d.2.1) d.2.2.2.2):=rfl
 generalize sC s=Ss at *
 generalize dC d=Sd at *
 (sym=>simp [Qd,Qe,Qi,Qj,Qr,Qw,Yj,Y9,Za,Zb,Zc,Ze,Zg,Zh,Zm,Zn,Zv,Zw,Jv,Hu,Hv,Be,zEY.eq_1,us1,us2,us3,us4,ud1,ud2,ud3,ud4,ud5])
theorem zHw:aE G FT 0 zGK ⟨[(1,.int .i64 id),(2,.int .i64 role),(3,.int .i64 num),(5,.int .i64 n),(6,.dptr (sC s)),(10,.dptr (dC d))],[]⟩=some (.normal,⟨[(1,.int .i64 id),(2,.int .i64 role),(3,.int .i64 num),(5,.int .i64 n),(6,.dptr (sC s)),(10,.dptr (dC d)),(38,.bool false)],[]⟩):=by
 unfold zGK
 have hk:=zuZ G
 (sym=>simp [Qc,Qd,Qe,Qi,Qm,Qo,Qt,Xd,Y9,Za,Zb,Zc,Ze,Zg,Zh,Zo,Zt,Zv,Zw,Z3,Jj,Jk,Jr,Jv,Wd,Nw,Be,zGf.eq_1,zFW.eq_1,hk])
theorem zEZ (hg:IL s=true):aE G FT 0 zu1 ⟨[(1,.int .i64 id),(2,.int .i64 role),(3,.int .i64 num),(5,.int .i64 n),(6,.dptr (sC s)),(10,.dptr (dC d))],[]⟩=some (.ret,⟨[(12,.bool true)],[]⟩):=by
 unfold zu1
 have us1:=zk s
 have us2:=zG s
 have us3:=zu s
 have us4:=vK s
 have ud1:(dC d).length=4:=rfl
 have ud2:AV.stableL (dC d)=true:=by simp [dC,AV.stableL,AV.stable]
 have ud3:(dC d).take 4=dC d:=rfl
 have ud4:∀ h,yE h (dC d)=some (dC d):=fun h=>by simp [dC,yE,ZC]
 have ud5:((dC d).drop 1)[0]? =some (.data false 1 (byt d.2.1) d.2.2.2.2):=rfl
 have hG:=zc3 G s
 generalize sC s=Ss at *
 generalize dC d=Sd at *
 (sym=>simp [Qb,Qd,Qe,Qf,Qg,Qi,Qj,Qm,Qn,Qo,Qr,Qt,Qu,Q4,Ys,Yu,Y9,Za,Zb,Zc,Ze,Zg,Zh,Zo,Zt,Zv,Zw,Z3,Jb,Jj,Jk,Jr,Jv,V3,Wd,We,Hs,Nw,Be,zxB.eq_1,zxh.eq_1,hg,hG,us1,us2,us3,us4,ud1,ud2,ud3,ud4,ud5])
theorem zGa (hg:IL s=false) (hd:100<d.2.1.length):aE G FT 0 zu1 ⟨[(1,.int .i64 id),(2,.int .i64 role),(3,.int .i64 num),(5,.int .i64 n),(6,.dptr (sC s)),(10,.dptr (dC d))],[]⟩=some (.ret,⟨[(12,.bool true)],[]⟩):=by
 unfold zu1
 have us1:=zk s
 have us2:=zG s
 have us3:=zu s
 have us4:=vK s
 have ud1:(dC d).length=4:=rfl
 have ud2:AV.stableL (dC d)=true:=by simp [dC,AV.stableL,AV.stable]
 have ud3:(dC d).take 4=dC d:=rfl
 have ud4:∀ h,yE h (dC d)=some (dC d):=fun h=>by simp [dC,yE,ZC]
 have ud5:((dC d).drop 1)[0]? =some (.data false 1 (byt d.2.1) d.2.2.2.2):=rfl
 have hG:=zc3 G s
 have hl:=oI d.2.1
 have hd2:(100:Int)<d.2.1.length:=by omega
 generalize sC s=Ss at *
 generalize dC d=Sd at *
 (sym=>simp [Qb,Qd,Qe,Qf,Qg,Qi,Qj,Qm,Qn,Qo,Qr,Qt,Qu,Q4,Xa,Xp,Xy,Yc,Yh,Ys,Yt,Yu,Yw,Y9,Za,Zb,Zc,Ze,Zg,Zh,Zo,Zt,Zv,Zw,Z3,Jb,Jj,Jk,Jr,Jv,V3,Wd,We,Hs,Nl,Nx,Be,zxB.eq_1,zxh.eq_1,hg,hG,hl,hd2,us1,us2,us3,us4,ud1,ud2,ud3,ud4,ud5])
theorem zEW (hg:IL s=false) (hd:¬ 100<d.2.1.length):aE G FT 0 zu1 ⟨[(1,.int .i64 id),(2,.int .i64 role),(3,.int .i64 num),(5,.int .i64 n),(6,.dptr (sC s)),(10,.dptr (dC d))],[]⟩=some (.normal,⟨[(1,.int .i64 id),(2,.int .i64 role),(3,.int .i64 num),(5,.int .i64 n),(6,.dptr (sC s)),(10,.dptr (dC d)),(46,.bool false)],[]⟩):=by
 unfold zu1
 have us1:=zk s
 have us2:=zG s
 have us3:=zu s
 have us4:=vK s
 have ud1:(dC d).length=4:=rfl
 have ud2:AV.stableL (dC d)=true:=by simp [dC,AV.stableL,AV.stable]
 have ud3:(dC d).take 4=dC d:=rfl
 have ud4:∀ h,yE h (dC d)=some (dC d):=fun h=>by simp [dC,yE,ZC]
 have ud5:((dC d).drop 1)[0]? =some (.data false 1 (byt d.2.1) d.2.2.2.2):=rfl
 have hG:=zc3 G s
 have hl:=oI d.2.1
 have hd2:¬ (100:Int)<d.2.1.length:=by omega
 generalize sC s=Ss at *
 generalize dC d=Sd at *
 (sym=>simp [Qc,Qd,Qe,Qf,Qg,Qi,Qj,Qm,Qn,Qo,Qr,Qt,Qu,Q4,Xa,Xp,Xy,Yc,Yh,Ys,Yt,Yu,Yw,Y9,Za,Zb,Zc,Ze,Zg,Zh,Zo,Zt,Zv,Zw,Z3,Jb,Jj,Jk,Jr,Jv,V3,Wd,We,Hs,Nm,Nx,Be,zxB.eq_1,zxh.eq_1,hg,hG,hl,hd2,us1,us2,us3,us4,ud1,ud2,ud3,ud4,ud5])
theorem zHe (hC:aP G FT Pf [.agg (sC s)]=some (.agg (sC own))):aE G FT 0 zGu ⟨[(1,.int .i64 id),(2,.int .i64 role),(3,.int .i64 num),(5,.int .i64 n),(6,.dptr (sC s)),(10,.dptr (dC d))],[]⟩=some (.normal,⟨[(1,.int .i64 id),(2,.int .i64 role),(3,.int .i64 num),(5,.int .i64 n),(6,.dptr (sC s)),(10,.dptr (dC d)),(13,.ptr 0 0 0 0)],[⟨33,0,true,[sC own]⟩]⟩):=by
 unfold zGu
 have us1:=zk s
 have us2:=zG s
 have us3:=zu s
 have us4:=vK s
 have uown1:=zk own
 have uown2:=zG own
 have uown3:=zu own
 have uown4:=vK own
 generalize sC s=Ss at *
 generalize sC own=Sown at *
 (sym=>simp [Qd,Qe,Qi,Qm,Qn,Qo,Qv,Q4,Q5,Ys,Yu,Y9,Za,Zb,Zc,Zd,Ze,Zg,Zh,Zm,Zn,Zo,Zv,Zw,Zy,Z0,Z1,Jv,J1,J2,Ue,Uf,Ug,Ul,V3,Wd,We,Hh,Hk,Hp,Hr,Hs,Ht,Hv,Hw,No,Nx,N0,Be,zF4.eq_1,hC,us1,us2,us3,us4,uown1,uown2,uown3,uown4,zL.eq_1])
theorem zG1 (hC:aP G FT ZG [.agg (sC own),.int .i64 id,.int .i64 role]=some (.tup [.agg (sC a),.int .i64 ea])):aE G FT 0 zGy ⟨[(1,.int .i64 id),(2,.int .i64 role),(3,.int .i64 num),(5,.int .i64 n),(6,.dptr (sC s)),(10,.dptr (dC d)),(13,.dptr (sC own))],[]⟩=some (.normal,⟨[(1,.int .i64 id),(2,.int .i64 role),(3,.int .i64 num),(5,.int .i64 n),(6,.dptr (sC s)),(10,.dptr (dC d)),(13,.dptr (sC own)),(14,.ptr 0 0 0 0),(15,.int .i64 ea)],[⟨33,0,true,[sC a]⟩]⟩):=by
 unfold zGy
 have uown1:=zk own
 have uown2:=zG own
 have uown3:=zu own
 have uown4:=vK own
 have ua1:=zk a
 have ua2:=zG a
 have ua3:=zu a
 have ua4:=vK a
 generalize sC own=Sown at *
 generalize sC a=Sa at *
 (sym=>simp [Qd,Qe,Qi,Qm,Qn,Qo,Qr,Qv,Q4,Q5,Xw,Xx,Ys,Yu,Y9,Za,Zb,Zc,Zd,Ze,Zg,Zh,Zm,Zn,Zo,Zv,Zw,Zy,Z0,Z1,Jv,J1,J2,Ue,Uf,Ug,Ul,V3,V6,Wd,We,Hh,Hi,Hk,Hp,Hr,Hs,Ht,Hv,Hw,No,Nx,N0,Be,zFy.eq_1,hC,uown1,uown2,uown3,uown4,ua1,ua2,ua3,ua4,zL.eq_1])
theorem zHf (hC:aP G FT YD [.agg (sC own),.int .i64 id]=some (.tup [.agg (sC b),.int .i64 eb])):aE G FT 0 zGO ⟨[(1,.int .i64 id),(2,.int .i64 role),(3,.int .i64 num),(5,.int .i64 n),(6,.dptr (sC s)),(10,.dptr (dC d)),(13,.dptr (sC own)),(14,.dptr (sC a)),(15,.int .i64 ea)],[]⟩=some (.normal,⟨[(1,.int .i64 id),(2,.int .i64 role),(3,.int .i64 num),(5,.int .i64 n),(6,.dptr (sC s)),(10,.dptr (dC d)),(13,.dptr (sC own)),(14,.dptr (sC a)),(15,.int .i64 ea),(16,.ptr 0 0 0 0),(17,.int .i64 eb)],[⟨33,0,true,[sC b]⟩]⟩):=by
 unfold zGO
 have uown1:=zk own
 have uown2:=zG own
 have uown3:=zu own
 have uown4:=vK own
 have ub1:=zk b
 have ub2:=zG b
 have ub3:=zu b
 have ub4:=vK b
 generalize sC own=Sown at *
 generalize sC b=Sb at *
 (sym=>simp [Qd,Qe,Qi,Qm,Qn,Qo,Qr,Qv,Q4,Q5,Xw,Xx,Ys,Yu,Y9,Za,Zb,Zc,Zd,Ze,Zg,Zh,Zm,Zn,Zo,Zv,Zw,Zy,Z0,Z1,Jv,J1,J2,Ue,Uf,Ug,Ul,V3,V6,Wd,We,Hh,Hi,Hk,Hp,Hr,Hs,Ht,Hv,Hw,No,Nx,N0,Be,zEH.eq_1,hC,uown1,uown2,uown3,uown4,ub1,ub2,ub3,ub4,zL.eq_1])
theorem zGM (hC:aP G FT ZH [.agg (sC own),.int .i64 id,.int .i64 role]=some (.tup [.agg (sC c),.int .i64 ec])):aE G FT 0 zHq ⟨[(1,.int .i64 id),(2,.int .i64 role),(3,.int .i64 num),(5,.int .i64 n),(6,.dptr (sC s)),(10,.dptr (dC d)),(13,.dptr (sC own)),(14,.dptr (sC a)),(15,.int .i64 ea),(16,.dptr (sC b)),(17,.int .i64 eb)],[]⟩=some (.normal,⟨[(1,.int .i64 id),(2,.int .i64 role),(3,.int .i64 num),(5,.int .i64 n),(6,.dptr (sC s)),(10,.dptr (dC d)),(13,.dptr (sC own)),(14,.dptr (sC a)),(15,.int .i64 ea),(16,.dptr (sC b)),(17,.int .i64 eb),(18,.ptr 0 0 0 0),(19,.int .i64 ec)],[⟨33,0,true,[sC c]⟩]⟩):=by
 unfold zHq
 have uown1:=zk own
 have uown2:=zG own
 have uown3:=zu own
 have uown4:=vK own
 have uc1:=zk c
 have uc2:=zG c
 have uc3:=zu c
 have uc4:=vK c
 generalize sC own=Sown at *
 generalize sC c=Sc at *
 (sym=>simp [Qd,Qe,Qi,Qm,Qn,Qo,Qr,Qv,Q4,Q5,Xw,Xx,Ys,Yu,Y9,Za,Zb,Zc,Zd,Ze,Zg,Zh,Zm,Zn,Zo,Zv,Zw,Zy,Z0,Z1,Jv,J1,J2,Ue,Uf,Ug,Ul,V3,V6,Wd,We,Hh,Hi,Hk,Hp,Hr,Hs,Ht,Hv,Hw,No,Nx,N0,Be,zE1.eq_1,hC,uown1,uown2,uown3,uown4,uc1,uc2,uc3,uc4,zL.eq_1])
theorem zGm (hC:aP G FT vI [.agg (bsC own),.int .i64 id,.int .i64 num,.agg (bdC d)]=some (.tup [.agg (sC x),.int .i64 ex])):aE G FT 0 zGE ⟨[(1,.int .i64 id),(3,.int .i64 num),(10,.dptr (bdC d)),(13,.dptr (bsC own))],[]⟩=some (.normal,⟨[(1,.int .i64 id),(3,.int .i64 num),(10,.dptr (bdC d)),(13,.dptr (bsC own)),(20,.ptr 0 0 0 0),(21,.int .i64 ex)],[⟨33,0,true,[sC x]⟩]⟩):=by
 unfold zGE
 have lk:∀ k,look [] k=none:=fun _=>rfl
 have p1:=IZ own
 have p3:=Ie own
 have p4:=znd own
 have q1:(bdC d).length=4:=rfl
 have q3:(bdC d).take 4=bdC d:=rfl
 have q4:∀ h,yE h (bdC d)=some (bdC d):=fun h=>by simp [bdC,yE,ZC]
 have x1:=zk x
 have x2:=zG x
 have x3:=zu x
 have x4:=vK x
 generalize sC x=Sx at *
 generalize bsC own=So at *
 generalize bdC d=Sd at *
 (sym=>simp [Qd,Qe,Qi,Qm,Qn,Qo,Qr,Qv,Q4,Q5,Xw,Xx,Ys,Yu,Y9,Za,Zb,Zc,Zd,Ze,Zf,Zg,Zh,Zm,Zn,Zo,Zv,Zw,Zy,Z0,Z1,Jv,J1,J2,Ue,Uf,Ug,Ul,V3,V6,Wd,We,Hh,Hi,Hk,Hp,Hr,Hs,Ht,Hv,Hw,No,Nx,N0,Be,zFv.eq_1,lk,hC,p1,p3,p4,q1,q3,q4,x1,x2,x3,x4,zL.eq_1])
theorem zHh (hC:aP G FT YI [.agg (sC own),.int .i64 n]=some (.tup [.agg (sC y),.data false 3 (pcs out) false])):aE G FT 0 zG5 ⟨[(1,.int .i64 id),(2,.int .i64 role),(3,.int .i64 num),(5,.int .i64 n),(6,.dptr (sC s)),(10,.dptr (dC d)),(13,.dptr (sC own)),(14,.dptr (sC a)),(15,.int .i64 ea),(16,.dptr (sC b)),(17,.int .i64 eb),(18,.dptr (sC c)),(19,.int .i64 ec),(20,.dptr (sC x)),(21,.int .i64 ex)],[]⟩=some (.normal,⟨[(1,.int .i64 id),(2,.int .i64 role),(3,.int .i64 num),(5,.int .i64 n),(6,.dptr (sC s)),(10,.dptr (dC d)),(13,.dptr (sC own)),(14,.dptr (sC a)),(15,.int .i64 ea),(16,.dptr (sC b)),(17,.int .i64 eb),(18,.dptr (sC c)),(19,.int .i64 ec),(20,.dptr (sC x)),(21,.int .i64 ex),(22,.ptr 0 0 0 0),(23,.data false 3 (pcs out) false)],[⟨33,0,true,[sC y]⟩]⟩):=by
 unfold zG5
 have uown1:=zk own
 have uown2:=zG own
 have uown3:=zu own
 have uown4:=vK own
 have uy1:=zk y
 have uy2:=zG y
 have uy3:=zu y
 have uy4:=vK y
 generalize sC own=Sown at *
 generalize sC y=Sy at *
 (sym=>simp [Qd,Qe,Qi,Qm,Qn,Qo,Qr,Qv,Q4,Q5,Xw,Xx,Ys,Yu,Y9,Za,Zb,Zc,Zd,Ze,Zg,Zh,Zm,Zn,Zo,Zv,Zw,Zy,Z0,Z1,Jv,J1,J2,Ue,Uf,Ug,Ul,V3,V6,Wd,We,Hh,Hi,Hk,Hp,Hr,Hs,Ht,Hv,Hw,No,Nx,N0,Be,zwa.eq_1,hC,uown1,uown2,uown3,uown4,uy1,uy2,uy3,uy4,zL.eq_1])
theorem zHy (hC:aP G FT yN [.agg (sC own),.agg (sC s)]=some (.bool true)):aE G FT 0 zGp ⟨[(1,.int .i64 id),(2,.int .i64 role),(3,.int .i64 num),(5,.int .i64 n),(6,.dptr (sC s)),(10,.dptr (dC d)),(13,.dptr (sC own)),(14,.dptr (sC a)),(15,.int .i64 ea),(16,.dptr (sC b)),(17,.int .i64 eb),(18,.dptr (sC c)),(19,.int .i64 ec),(20,.dptr (sC x)),(21,.int .i64 ex),(22,.dptr (sC y)),(23,.data false 3 (pcs out) false)],[]⟩=some (.normal,⟨[(1,.int .i64 id),(2,.int .i64 role),(3,.int .i64 num),(5,.int .i64 n),(6,.dptr (sC s)),(10,.dptr (dC d)),(13,.dptr (sC own)),(14,.dptr (sC a)),(15,.int .i64 ea),(16,.dptr (sC b)),(17,.int .i64 eb),(18,.dptr (sC c)),(19,.int .i64 ec),(20,.dptr (sC x)),(21,.int .i64 ex),(22,.dptr (sC y)),(23,.data false 3 (pcs out) false),(86,.bool false)],[]⟩):=by
 unfold zGp
 have us1:=zk s
 have us2:=zG s
 have us3:=zu s
 have us4:=vK s
 have uown1:=zk own
 have uown2:=zG own
 have uown3:=zu own
 have uown4:=vK own
 generalize sC s=Ss at *
 generalize sC own=Sown at *
 (sym=>simp [Qc,Qd,Qe,Qi,Qm,Qn,Qo,Qt,Q4,Xd,Ys,Yu,Y9,Za,Zb,Zc,Ze,Zg,Zh,Zo,Zt,Zv,Zw,Z3,Jj,Jk,Jr,Jv,V3,Wd,We,Hs,Nw,Be,zyq.eq_1,zA9.eq_1,hC,us1,us2,us3,us4,uown1,uown2,uown3,uown4])
theorem zC2 (hC:aP G FT TB [.agg (sC s)]=some (.bool true)):aE G FT 0 zsW ⟨[(1,.int .i64 id),(2,.int .i64 role),(3,.int .i64 num),(5,.int .i64 n),(6,.dptr (sC s)),(10,.dptr (dC d)),(13,.dptr (sC own)),(14,.dptr (sC a)),(15,.int .i64 ea),(16,.dptr (sC b)),(17,.int .i64 eb),(18,.dptr (sC c)),(19,.int .i64 ec),(20,.dptr (sC x)),(21,.int .i64 ex),(22,.dptr (sC y)),(23,.data false 3 (pcs out) false)],[]⟩=some (.normal,⟨[(1,.int .i64 id),(2,.int .i64 role),(3,.int .i64 num),(5,.int .i64 n),(6,.dptr (sC s)),(10,.dptr (dC d)),(13,.dptr (sC own)),(14,.dptr (sC a)),(15,.int .i64 ea),(16,.dptr (sC b)),(17,.int .i64 eb),(18,.dptr (sC c)),(19,.int .i64 ec),(20,.dptr (sC x)),(21,.int .i64 ex),(22,.dptr (sC y)),(23,.data false 3 (pcs out) false),(89,.bool false)],[]⟩):=by
 unfold zsW
 have us1:=zk s
 have us2:=zG s
 have us3:=zu s
 have us4:=vK s
 generalize sC s=Ss at *
 (sym=>simp [Qc,Qd,Qe,Qi,Qm,Qn,Qo,Qt,Q4,Xd,Ys,Yu,Y9,Za,Zb,Zc,Ze,Zg,Zh,Zo,Zt,Zv,Zw,Z3,Jj,Jk,Jr,Jv,V3,Wd,We,Hs,Nw,Be,zsg.eq_1,zsm.eq_1,ztG.eq_1,hC,us1,us2,us3,us4,zL.eq_1])
theorem zCV (hC:aP G FT TB [.agg (sC s)]=some (.bool false)) (h1:aP G FT yl [.agg (sC s),.agg (sC a),.int .i64 ea,.agg zT,.int .i64 0]=some (.bool true)) (h2:aP G FT yl [.agg (sC s),.agg (sC b),.int .i64 eb,.agg zT,.int .i64 0]=some (.bool true)) (h3:aP G FT yl [.agg (sC s),.agg (sC c),.int .i64 ec,.agg zT,.int .i64 0]=some (.bool true)) (h4:aP G FT yl [.agg (sC s),.agg (sC x),.int .i64 ex,.agg zT,.int .i64 0]=some (.bool true)) (h5:aP G FT yN [.agg (sC y),.agg zT]=some (.bool true)) (h6:out=[]):aE G FT 0 zsW ⟨[(1,.int .i64 id),(2,.int .i64 role),(3,.int .i64 num),(5,.int .i64 n),(6,.dptr (sC s)),(10,.dptr (dC d)),(13,.dptr (sC own)),(14,.dptr (sC a)),(15,.int .i64 ea),(16,.dptr (sC b)),(17,.int .i64 eb),(18,.dptr (sC c)),(19,.int .i64 ec),(20,.dptr (sC x)),(21,.int .i64 ex),(22,.dptr (sC y)),(23,.data false 3 (pcs out) false)],[]⟩=some (.ret,⟨[(12,.bool true)],[⟨33,0,true,[zT]⟩]⟩):=by
 unfold zsW
 have us1:=zk s
 have us2:=zG s
 have us3:=zu s
 have us4:=vK s
 have ua1:=zk a
 have ua2:=zG a
 have ua3:=zu a
 have ua4:=vK a
 have ub1:=zk b
 have ub2:=zG b
 have ub3:=zu b
 have ub4:=vK b
 have uc1:=zk c
 have uc2:=zG c
 have uc3:=zu c
 have uc4:=vK c
 have ux1:=zk x
 have ux2:=zG x
 have ux3:=zu x
 have ux4:=vK x
 have uy1:=zk y
 have uy2:=zG y
 have uy3:=zu y
 have uy4:=vK y
 subst h6
 generalize sC s=Ss at *
 generalize sC a=Sa at *
 generalize sC b=Sb at *
 generalize sC c=Sc at *
 generalize sC x=Sx at *
 generalize sC y=Sy at *
 (sym=>simp [Qb,Qd,Qe,Qf,Qg,Qi,Qj,Qm,Qn,Qo,Qr,Qt,Qu,Qv,Qx,Q1,Q4,Q5,Xa,Xd,Xy,X8,Yh,Yr,Ys,Yu,Y9,Za,Zb,Zc,Zd,Ze,Zg,Zh,Zm,Zn,Zo,Zt,Zv,Zw,Zy,Z0,Z1,Ja,Jj,Jk,Jr,Jv,J1,J2,K8,Ue,Uf,Ug,Ul,V3,V6,V9,Wd,We,Hh,Hk,Ho,Hp,Hq,Hr,Hs,Ht,Hv,Hw,Nl,No,Nx,N0,Be,Bh,zsg.eq_1,zsm.eq_1,ztG.eq_1,hC,h1,h2,h3,h4,h5,zbW,us1,us2,us3,us4,ua1,ua2,ua3,ua4,ub1,ub2,ub3,ub4,uc1,uc2,uc3,uc4,ux1,ux2,ux3,ux4,uy1,uy2,uy3,uy4,zL.eq_1])
theorem zEO (hC:aP G FT Pj [.agg (sC s),.int .i64 id,.int .i64 role]=some (.tup [.agg (sC a1),.int .i64 fa])):aE G FT 0 zD1 ⟨[(1,.int .i64 id),(2,.int .i64 role),(3,.int .i64 num),(5,.int .i64 n),(6,.dptr (sC s)),(10,.dptr (dC d)),(13,.dptr (sC own)),(14,.dptr (sC a)),(15,.int .i64 ea),(16,.dptr (sC b)),(17,.int .i64 eb),(18,.dptr (sC c)),(19,.int .i64 ec),(20,.dptr (sC x)),(21,.int .i64 ex),(22,.dptr (sC y)),(23,.data false 3 (pcs out) false)],[]⟩=some (.normal,⟨[(1,.int .i64 id),(2,.int .i64 role),(3,.int .i64 num),(5,.int .i64 n),(6,.dptr (sC s)),(10,.dptr (dC d)),(13,.dptr (sC own)),(14,.dptr (sC a)),(15,.int .i64 ea),(16,.dptr (sC b)),(17,.int .i64 eb),(18,.dptr (sC c)),(19,.int .i64 ec),(20,.dptr (sC x)),(21,.int .i64 ex),(22,.dptr (sC y)),(23,.data false 3 (pcs out) false),(25,.ptr 0 0 0 0),(26,.int .i64 fa)],[⟨33,0,true,[sC a1]⟩]⟩):=by
 unfold zD1
 have us1:=zk s
 have us2:=zG s
 have us3:=zu s
 have us4:=vK s
 have ua11:=zk a1
 have ua12:=zG a1
 have ua13:=zu a1
 have ua14:=vK a1
 generalize sC s=Ss at *
 generalize sC a1=Sa1 at *
 (sym=>simp [Qd,Qe,Qi,Qm,Qn,Qo,Qr,Qv,Q4,Q5,Xw,Xx,Ys,Yu,Y9,Za,Zb,Zc,Zd,Ze,Zg,Zh,Zm,Zn,Zo,Zv,Zw,Zy,Z0,Z1,Jv,J1,J2,Ue,Uf,Ug,Ul,V3,V6,Wd,We,Hh,Hi,Hk,Hp,Hr,Hs,Ht,Hv,Hw,No,Nx,N0,Be,zyS.eq_1,hC,us1,us2,us3,us4,ua11,ua12,ua13,ua14,zL.eq_1])
theorem zGg (hC:aP G FT Rh [.agg (sC s),.int .i64 id]=some (.tup [.agg (sC b1),.int .i64 fb])):aE G FT 0 zDn ⟨[(1,.int .i64 id),(2,.int .i64 role),(3,.int .i64 num),(5,.int .i64 n),(6,.dptr (sC s)),(10,.dptr (dC d)),(13,.dptr (sC own)),(14,.dptr (sC a)),(15,.int .i64 ea),(16,.dptr (sC b)),(17,.int .i64 eb),(18,.dptr (sC c)),(19,.int .i64 ec),(20,.dptr (sC x)),(21,.int .i64 ex),(22,.dptr (sC y)),(23,.data false 3 (pcs out) false),(25,.dptr (sC a1)),(26,.int .i64 fa)],[]⟩=some (.normal,⟨[(1,.int .i64 id),(2,.int .i64 role),(3,.int .i64 num),(5,.int .i64 n),(6,.dptr (sC s)),(10,.dptr (dC d)),(13,.dptr (sC own)),(14,.dptr (sC a)),(15,.int .i64 ea),(16,.dptr (sC b)),(17,.int .i64 eb),(18,.dptr (sC c)),(19,.int .i64 ec),(20,.dptr (sC x)),(21,.int .i64 ex),(22,.dptr (sC y)),(23,.data false 3 (pcs out) false),(25,.dptr (sC a1)),(26,.int .i64 fa),(27,.ptr 0 0 0 0),(28,.int .i64 fb)],[⟨33,0,true,[sC b1]⟩]⟩):=by
 unfold zDn
 have us1:=zk s
 have us2:=zG s
 have us3:=zu s
 have us4:=vK s
 have ub11:=zk b1
 have ub12:=zG b1
 have ub13:=zu b1
 have ub14:=vK b1
 generalize sC s=Ss at *
 generalize sC b1=Sb1 at *
 (sym=>simp [Qd,Qe,Qi,Qm,Qn,Qo,Qr,Qv,Q4,Q5,Xw,Xx,Ys,Yu,Y9,Za,Zb,Zc,Zd,Ze,Zg,Zh,Zm,Zn,Zo,Zv,Zw,Zy,Z0,Z1,Jv,J1,J2,Ue,Uf,Ug,Ul,V3,V6,Wd,We,Hh,Hi,Hk,Hp,Hr,Hs,Ht,Hv,Hw,No,Nx,N0,Be,zwN.eq_1,hC,us1,us2,us3,us4,ub11,ub12,ub13,ub14,zL.eq_1])
theorem zEV (hC:aP G FT TR [.agg (sC s),.int .i64 id,.int .i64 role]=some (.tup [.agg (sC c1),.int .i64 fc])):aE G FT 0 zDR ⟨[(1,.int .i64 id),(2,.int .i64 role),(3,.int .i64 num),(5,.int .i64 n),(6,.dptr (sC s)),(10,.dptr (dC d)),(13,.dptr (sC own)),(14,.dptr (sC a)),(15,.int .i64 ea),(16,.dptr (sC b)),(17,.int .i64 eb),(18,.dptr (sC c)),(19,.int .i64 ec),(20,.dptr (sC x)),(21,.int .i64 ex),(22,.dptr (sC y)),(23,.data false 3 (pcs out) false),(25,.dptr (sC a1)),(26,.int .i64 fa),(27,.dptr (sC b1)),(28,.int .i64 fb)],[]⟩=some (.normal,⟨[(1,.int .i64 id),(3,.int .i64 num),(5,.int .i64 n),(6,.dptr (sC s)),(10,.dptr (dC d)),(13,.dptr (sC own)),(14,.dptr (sC a)),(15,.int .i64 ea),(16,.dptr (sC b)),(17,.int .i64 eb),(18,.dptr (sC c)),(19,.int .i64 ec),(20,.dptr (sC x)),(21,.int .i64 ex),(22,.dptr (sC y)),(23,.data false 3 (pcs out) false),(25,.dptr (sC a1)),(26,.int .i64 fa),(27,.dptr (sC b1)),(28,.int .i64 fb),(29,.ptr 0 0 0 0),(30,.int .i64 fc)],[⟨33,0,true,[sC c1]⟩]⟩):=by
 unfold zDR
 have us1:=zk s
 have us2:=zG s
 have us3:=zu s
 have us4:=vK s
 have uc11:=zk c1
 have uc12:=zG c1
 have uc13:=zu c1
 have uc14:=vK c1
 generalize sC s=Ss at *
 generalize sC c1=Sc1 at *
 (sym=>simp [Qd,Qe,Qi,Qm,Qn,Qo,Qr,Qv,Q4,Q5,Xw,Xx,Ys,Yu,Y9,Za,Zb,Zc,Zd,Ze,Zg,Zh,Zm,Zn,Zo,Zv,Zw,Zy,Z0,Z1,Jv,J1,J2,Ue,Uf,Ug,Ul,V3,V6,Wd,We,Hh,Hi,Hk,Hp,Hr,Hs,Ht,Hv,Hw,No,Nx,N0,Be,zwS.eq_1,hC,us1,us2,us3,us4,uc11,uc12,uc13,uc14,zL.eq_1])
theorem zFr (hC:aP G FT Pk [.agg (sC s),.int .i64 id,.int .i64 num,.agg (dC d)]=some (.tup [.agg (sC x1),.int .i64 fx])):aE G FT 0 zDG ⟨[(1,.int .i64 id),(3,.int .i64 num),(5,.int .i64 n),(6,.dptr (sC s)),(10,.dptr (dC d)),(13,.dptr (sC own)),(14,.dptr (sC a)),(15,.int .i64 ea),(16,.dptr (sC b)),(17,.int .i64 eb),(18,.dptr (sC c)),(19,.int .i64 ec),(20,.dptr (sC x)),(21,.int .i64 ex),(22,.dptr (sC y)),(23,.data false 3 (pcs out) false),(25,.dptr (sC a1)),(26,.int .i64 fa),(27,.dptr (sC b1)),(28,.int .i64 fb),(29,.dptr (sC c1)),(30,.int .i64 fc)],[]⟩=some (.normal,⟨[(5,.int .i64 n),(6,.dptr (sC s)),(13,.dptr (sC own)),(14,.dptr (sC a)),(15,.int .i64 ea),(16,.dptr (sC b)),(17,.int .i64 eb),(18,.dptr (sC c)),(19,.int .i64 ec),(20,.dptr (sC x)),(21,.int .i64 ex),(22,.dptr (sC y)),(23,.data false 3 (pcs out) false),(25,.dptr (sC a1)),(26,.int .i64 fa),(27,.dptr (sC b1)),(28,.int .i64 fb),(29,.dptr (sC c1)),(30,.int .i64 fc),(31,.ptr 0 0 0 0),(32,.int .i64 fx)],[⟨33,0,true,[sC x1]⟩]⟩):=by
 unfold zDG
 have us1:=zk s
 have us2:=zG s
 have us3:=zu s
 have us4:=vK s
 have ux11:=zk x1
 have ux12:=zG x1
 have ux13:=zu x1
 have ux14:=vK x1
 have ud1:(dC d).length=4:=rfl
 have ud2:AV.stableL (dC d)=true:=by simp [dC,AV.stableL,AV.stable]
 have ud3:(dC d).take 4=dC d:=rfl
 have ud4:∀ h,yE h (dC d)=some (dC d):=fun h=>by simp [dC,yE,ZC]
 have ud5:((dC d).drop 1)[0]? =some (.data false 1 (byt d.2.1) d.2.2.2.2):=rfl
 generalize sC s=Ss at *
 generalize sC x1=Sx1 at *
 generalize dC d=Sd at *
 (sym=>simp [Qd,Qe,Qi,Qm,Qn,Qo,Qr,Qv,Q4,Q5,Xw,Xx,Ys,Yu,Y9,Za,Zb,Zc,Zd,Ze,Zg,Zh,Zm,Zn,Zo,Zv,Zw,Zy,Z0,Z1,Jv,J1,J2,Ue,Uf,Ug,Ul,V3,V6,Wd,We,Hh,Hi,Hk,Hp,Hr,Hs,Ht,Hv,Hw,No,Nx,N0,Be,zAp.eq_1,hC,us1,us2,us3,us4,ux11,ux12,ux13,ux14,ud1,ud2,ud3,ud4,ud5,zL.eq_1])
theorem zE7 (hC:aP G FT Rj [.agg (sC s),.int .i64 n]=some (.tup [.agg (sC y1),.data false 3 (pcs out1) false])):aE G FT 0 zDU ⟨[(5,.int .i64 n),(6,.dptr (sC s)),(13,.dptr (sC own)),(14,.dptr (sC a)),(15,.int .i64 ea),(16,.dptr (sC b)),(17,.int .i64 eb),(18,.dptr (sC c)),(19,.int .i64 ec),(20,.dptr (sC x)),(21,.int .i64 ex),(22,.dptr (sC y)),(23,.data false 3 (pcs out) false),(25,.dptr (sC a1)),(26,.int .i64 fa),(27,.dptr (sC b1)),(28,.int .i64 fb),(29,.dptr (sC c1)),(30,.int .i64 fc),(31,.dptr (sC x1)),(32,.int .i64 fx)],[]⟩=some (.normal,⟨[(6,.dptr (sC s)),(13,.dptr (sC own)),(14,.dptr (sC a)),(15,.int .i64 ea),(16,.dptr (sC b)),(17,.int .i64 eb),(18,.dptr (sC c)),(19,.int .i64 ec),(20,.dptr (sC x)),(21,.int .i64 ex),(22,.dptr (sC y)),(23,.data false 3 (pcs out) false),(25,.dptr (sC a1)),(26,.int .i64 fa),(27,.dptr (sC b1)),(28,.int .i64 fb),(29,.dptr (sC c1)),(30,.int .i64 fc),(31,.dptr (sC x1)),(32,.int .i64 fx),(33,.ptr 0 0 0 0),(34,.data false 3 (pcs out1) false)],[⟨33,0,true,[sC y1]⟩]⟩):=by
 unfold zDU
 have us1:=zk s
 have us2:=zG s
 have us3:=zu s
 have us4:=vK s
 have uy11:=zk y1
 have uy12:=zG y1
 have uy13:=zu y1
 have uy14:=vK y1
 generalize sC s=Ss at *
 generalize sC y1=Sy1 at *
 (sym=>simp [Qd,Qe,Qi,Qm,Qn,Qo,Qr,Qv,Q4,Q5,Xw,Xx,Ys,Yu,Y9,Za,Zb,Zc,Zd,Ze,Zg,Zh,Zm,Zn,Zo,Zv,Zw,Zy,Z0,Z1,Jv,J1,J2,Ue,Uf,Ug,Ul,V3,V6,Wd,We,Hh,Hi,Hk,Hp,Hr,Hs,Ht,Hv,Hw,No,Nx,N0,Be,zvV.eq_1,hC,us1,us2,us3,us4,uy11,uy12,uy13,uy14,zL.eq_1])
theorem zF8 (h1:aP G FT yl [.agg (sC s),.agg (sC a),.int .i64 ea,.agg (sC a1),.int .i64 fa]=some (.bool true)) (h2:aP G FT yl [.agg (sC s),.agg (sC b),.int .i64 eb,.agg (sC b1),.int .i64 fb]=some (.bool true)) (h3:aP G FT yl [.agg (sC s),.agg (sC c),.int .i64 ec,.agg (sC c1),.int .i64 fc]=some (.bool true)) (h4:aP G FT yl [.agg (sC s),.agg (sC x),.int .i64 ex,.agg (sC x1),.int .i64 fx]=some (.bool true)) (h5:aP G FT yN [.agg (sC y),.agg (sC y1)]=some (.bool true)) (h6:∀ b1 f1 b2 f2,aP G FT VN [.data b1 3 (pcs out) f1,.data b2 3 (pcs out1) f2]=some (.bool true)):aE G FT 0 zDi ⟨[(6,.dptr (sC s)),(13,.dptr (sC own)),(14,.dptr (sC a)),(15,.int .i64 ea),(16,.dptr (sC b)),(17,.int .i64 eb),(18,.dptr (sC c)),(19,.int .i64 ec),(20,.dptr (sC x)),(21,.int .i64 ex),(22,.dptr (sC y)),(23,.data false 3 (pcs out) false),(25,.dptr (sC a1)),(26,.int .i64 fa),(27,.dptr (sC b1)),(28,.int .i64 fb),(29,.dptr (sC c1)),(30,.int .i64 fc),(31,.dptr (sC x1)),(32,.int .i64 fx),(33,.dptr (sC y1)),(34,.data false 3 (pcs out1) false)],[]⟩=some (.normal,⟨[(6,.dptr (sC s)),(13,.dptr (sC own)),(20,.dptr (sC x)),(206,.bool false)],[]⟩):=by
 unfold zDi
 have us1:=zk s
 have us2:=zG s
 have us3:=zu s
 have us4:=vK s
 have ua1:=zk a
 have ua2:=zG a
 have ua3:=zu a
 have ua4:=vK a
 have ub1:=zk b
 have ub2:=zG b
 have ub3:=zu b
 have ub4:=vK b
 have uc1:=zk c
 have uc2:=zG c
 have uc3:=zu c
 have uc4:=vK c
 have ux1:=zk x
 have ux2:=zG x
 have ux3:=zu x
 have ux4:=vK x
 have uy1:=zk y
 have uy2:=zG y
 have uy3:=zu y
 have uy4:=vK y
 have ua11:=zk a1
 have ua12:=zG a1
 have ua13:=zu a1
 have ua14:=vK a1
 have ub11:=zk b1
 have ub12:=zG b1
 have ub13:=zu b1
 have ub14:=vK b1
 have uc11:=zk c1
 have uc12:=zG c1
 have uc13:=zu c1
 have uc14:=vK c1
 have ux11:=zk x1
 have ux12:=zG x1
 have ux13:=zu x1
 have ux14:=vK x1
 have uy11:=zk y1
 have uy12:=zG y1
 have uy13:=zu y1
 have uy14:=vK y1
 generalize sC s=Ss at *
 generalize sC a=Sa at *
 generalize sC b=Sb at *
 generalize sC c=Sc at *
 generalize sC x=Sx at *
 generalize sC y=Sy at *
 generalize sC a1=Sa1 at *
 generalize sC b1=Sb1 at *
 generalize sC c1=Sc1 at *
 generalize sC x1=Sx1 at *
 generalize sC y1=Sy1 at *
 (sym=>simp [Qc,Qd,Qe,Qf,Qg,Qi,Qm,Qn,Qo,Qr,Qt,Qu,Q4,Xd,Ys,Yu,Y9,Za,Zb,Zc,Ze,Zg,Zh,Zo,Zt,Zv,Zw,Z3,Jb,Jj,Jk,Jr,Jv,V3,V6,V9,Wd,We,Hs,Nw,Nx,Be,zwb.eq_1,zz6.eq_1,h1,h2,h3,h4,h5,h6,us1,us2,us3,us4,ua1,ua2,ua3,ua4,ub1,ub2,ub3,ub4,uc1,uc2,uc3,uc4,ux1,ux2,ux3,ux4,uy1,uy2,uy3,uy4,ua11,ua12,ua13,ua14,ub11,ub12,ub13,ub14,uc11,uc12,uc13,uc14,ux11,ux12,ux13,ux14,uy11,uy12,uy13,uy14])
theorem zFV (hC:aP G FT yN [.agg (sC own),.agg (sC s)]=some (.bool true)):aE G FT 0 (.seq zDB .ret) ⟨[(6,.dptr (sC s)),(13,.dptr (sC own))],[]⟩=some (.ret,⟨[(12,.bool true)],[]⟩):=by
 unfold zDB
 have us1:=zk s
 have us2:=zG s
 have us3:=zu s
 have us4:=vK s
 have uown1:=zk own
 have uown2:=zG own
 have uown3:=zu own
 have uown4:=vK own
 generalize sC s=Ss at *
 generalize sC own=Sown at *
 (sym=>simp [Qb,Qd,Qe,Qi,Qm,Qn,Qo,Qr,Q4,Ys,Yu,Y9,Za,Zb,Zc,Ze,Zg,Zh,Zo,Zv,Zw,Jj,Jk,Jv,V3,Wd,We,Hs,Be,zAo.eq_1,hC,us1,us2,us3,us4,uown1,uown2,uown3,uown4])
end
end
section
open Go.RowKit Go.Shelf
def Sz (t:Array Value) (n:Nat):Prop:=t.size=n
theorem RG {t:Array Value} {i n:Nat} {v:Value}:Sz (t.setIfInBounds i v) n↔Sz t n:=by simp [Sz]
theorem gz {t:Array Value} {i j:Nat} {v:Value} (h:i≠j):(t.setIfInBounds i v)[j]? =t[j]? :=Array.getElem?_setIfInBounds_ne h
theorem SN {t:Array Value} {i:Nat} {v:Value} (h:Sz t 239) (hi:i<239):(t.setIfInBounds i v)[i]? =some v:=Array.getElem?_setIfInBounds_self_of_lt (by rw [h];exact hi)
attribute [local go_sem] gz SN RG
theorem zmH {W:World} {p q:Addr} {x v:Value} (hq:W.cell? q=some x):(p=q∧(W.setCell p v).cell? q=some v)∨(W.setCell p v).cell? q=some x:=by
 by_cases h:p=q
 ·subst h
  refine .inl ⟨rfl, ?_⟩
  apply World.cell?_setCell_same
  exact hq
 ·right
  rw [← hq]
  apply World.cell?_setCell_other
  exact h
structure zas (B:Nat) (w W:World):Prop where
 os:W.os=w.os
 tape:W.tape=w.tape
 output:W.output=w.output
 size:w.heap.size≤W.heap.size
 same:∀ k,k<B→W.heap[k]? =w.heap[k]?
theorem zas.refl (B:Nat) (w:World):zas B w w:=⟨rfl,rfl,rfl,Nat.le_refl _,fun _ _=>rfl⟩
theorem zas.set {B:Nat} {w W:World} (k:zas B w W) {tb o:Nat} (hb:B≤tb) (v:Value):zas B w (W.setCell ⟨tb,o,none⟩ v):=
 ⟨k.os,k.tape,k.output,by rw [World.size_setCell];exact k.size,fun i hi=>(Below.heap_setCell W ⟨tb,o,none⟩ v i (fun e=>by have e2:i=tb:=e;omega)).trans (k.same i hi)⟩
structure XAt (B:Nat) (W:World) (bx ox n m:Nat) (qa ma:Option Addr) (qc mc:Nat) (tx:Nat→Option Addr) (tc ln:Nat→Nat):Prop where
 bq:W.cell? ⟨bx,ox+3,none⟩=some (.slice qa n qc)
 bm:W.cell? ⟨bx,ox,none⟩=some (.slice ma m mc)
 hd:∀ e,e<n→∃ qb qo,qa=some ⟨qb,qo,none⟩∧W.cell? ⟨qb,qo+e * 3+2,none⟩=some (.slice (tx e) (ln e) (tc e))
 txt:∀ e,e<n→0<ln e∧∃ tb to v,tx e=some ⟨tb,to,none⟩∧B≤tb∧W.cell? ⟨tb,to,none⟩=some (.int .u8 v)∧W.frozen? ⟨tb,to,none⟩=false
 mbr:∀ e,e<m→∃ mb mo v,ma=some ⟨mb,mo,none⟩∧B≤mb∧W.cell? ⟨mb,mo+e * 2,none⟩=some (.int .i64 v)∧W.frozen? ⟨mb,mo+e * 2,none⟩=false
section
variable {B:Nat} {W:World} {bx ox n m:Nat} {qa ma:Option Addr} {qc mc:Nat} {tx:Nat→Option Addr} {tc ln:Nat→Nat}
theorem XAt.set (T:XAt B W bx ox n m qa ma qc mc tx tc ln) {p:Addr} {k:IntKind} {v:Int} (hp:W.cell? p=some (.int k v)) (v':Int):XAt B (W.setCell p (.int k v')) bx ox n m qa ma qc mc tx tc ln:=by
 have sl:∀ {q:Addr} {a:Option Addr} {l c:Nat},W.cell? q=some (.slice a l c)→(W.setCell p (.int k v')).cell? q=some (.slice a l c):=fun {q a l c} hq=>by
  rcases zmH (p:=p) (v:=.int k v') hq with ⟨e,_⟩ | h
  ·subst e;rw [hp] at hq;cases hq
  ·exact h
 have it:∀ {q:Addr} {k':IntKind} {u:Int},W.cell? q=some (.int k' u)→∃ u',(W.setCell p (.int k v')).cell? q=some (.int k' u'):=fun {q k' u} hq=>by
  rcases zmH (p:=p) (v:=.int k v') hq with ⟨e,h⟩ | h
  ·subst e;rw [hp] at hq;cases hq;exact ⟨_,h⟩
  ·exact ⟨_,h⟩
 refine ⟨sl T.bq,sl T.bm,fun e he=> ?_,fun e he=> ?_,fun e he=> ?_⟩
 ·obtain ⟨qb,qo,h1,h2⟩:=T.hd e he
  exact ⟨qb,qo,h1,sl h2⟩
 ·obtain ⟨h0,tb,to,u,h1,h2,h3,h4⟩:=T.txt e he
  obtain ⟨u',h⟩:=it h3
  exact ⟨h0,tb,to,u',h1,h2,h,by rw [World.frozen?_setCell];exact h4⟩
 ·obtain ⟨mb,mo,u,h1,h2,h3,h4⟩:=T.mbr e he
  obtain ⟨u',h⟩:=it h3
  exact ⟨mb,mo,u',h1,h2,h,by rw [World.frozen?_setCell];exact h4⟩
end
abbrev zyL:Code:=Code.region 23 #[{ dst:=some 35,op:=Op.assign (Operand.const (Value.int IntKind.i64 0)),type:=3,pos:= "law.go:93",after:= #[],guard:=none }] false
abbrev zx9:Code:=Code.region 24 #[{ dst:=some 207,op:=Op.move (Operand.tmp 35),type:=3,pos:= "law.go:93",after:= #[],guard:=none },{ dst:=some 208,op:=Op.fieldAddr 32 (Operand.tmp 20) 2,type:=0,pos:= "law.go:93",after:= #[],guard:=none },{ dst:=some 209,op:=Op.load 26 (Operand.tmp 208),type:=26,pos:= "law.go:93",after:= #[{ on:=1,ground:=Ground.data }],guard:=none },{ dst:=some 210,op:=Op.call { callee:=Callee.builtin Builtin.len,args:= #[Operand.tmp 209],argTypes:= #[26] },type:=3,pos:= "law.go:93",after:= #[{ on:=2,ground:=Ground.data }],guard:=none },{ dst:=some 211,op:=Op.binOp BinOp.lss 3 (Operand.tmp 207) (Operand.tmp 210) 3,type:=4,pos:= "law.go:93",after:= #[{ on:=0,ground:=Ground.data },{ on:=3,ground:=Ground.data }],guard:=none }] false
abbrev zwW:Code:=Code.region 26 #[{ dst:=some 214,op:=Op.fieldAddr 32 (Operand.tmp 20) 2,type:=0,pos:= "law.go:94",after:= #[],guard:=none },{ dst:=some 215,op:=Op.load 26 (Operand.tmp 214),type:=26,pos:= "law.go:94",after:= #[{ on:=0,ground:=Ground.data }],guard:=none },{ dst:=some 216,op:=Op.move (Operand.tmp 35),type:=3,pos:= "law.go:94",after:= #[],guard:=none },{ dst:=some 217,op:=Op.indexAddr 26 (Operand.tmp 215) (Operand.tmp 216),type:=0,pos:= "law.go:94",after:= #[{ on:=1,ground:=Ground.data },{ on:=2,ground:=Ground.data }],guard:=none },{ dst:=some 218,op:=Op.fieldAddr 52 (Operand.tmp 217) 2,type:=0,pos:= "law.go:94",after:= #[{ on:=3,ground:=Ground.data }],guard:=none },{ dst:=some 219,op:=Op.load 35 (Operand.tmp 218),type:=35,pos:= "law.go:94",after:= #[{ on:=4,ground:=Ground.data }],guard:=none },{ dst:=some 220,op:=Op.indexAddr 35 (Operand.tmp 219) (Operand.const (Value.int IntKind.i64 0)),type:=0,pos:= "law.go:94",after:= #[{ on:=5,ground:=Ground.data }],guard:=none },{ dst:=some 221,op:=Op.load 5 (Operand.tmp 220),type:=5,pos:= "law.go:94",after:= #[{ on:=6,ground:=Ground.data }],guard:=none },{ dst:=some 222,op:=Op.binOp BinOp.add 5 (Operand.tmp 221) (Operand.const (Value.int IntKind.u8 1)) 5,type:=5,pos:= "law.go:94",after:= #[{ on:=7,ground:=Ground.data }],guard:=none },{ dst:=some 223,op:=Op.indexAddr 35 (Operand.tmp 219) (Operand.const (Value.int IntKind.i64 0)),type:=0,pos:= "law.go:94",after:= #[{ on:=5,ground:=Ground.data },{ on:=0,ground:=Ground.phase },{ on:=1,ground:=Ground.phase },{ on:=2,ground:=Ground.phase },{ on:=3,ground:=Ground.phase },{ on:=4,ground:=Ground.phase },{ on:=5,ground:=Ground.phase },{ on:=6,ground:=Ground.phase },{ on:=7,ground:=Ground.phase },{ on:=8,ground:=Ground.phase }],guard:=none },{ dst:=none,op:=Op.store 5 (Operand.tmp 223) (Operand.tmp 222),type:=0,pos:= "law.go:94",after:= #[{ on:=9,ground:=Ground.data },{ on:=8,ground:=Ground.data },{ on:=0,ground:=Ground.phase },{ on:=1,ground:=Ground.phase },{ on:=2,ground:=Ground.phase },{ on:=3,ground:=Ground.phase },{ on:=4,ground:=Ground.phase },{ on:=5,ground:=Ground.phase },{ on:=6,ground:=Ground.phase },{ on:=7,ground:=Ground.phase },{ on:=8,ground:=Ground.phase }],guard:=none }] false
abbrev zyU:Code:=Code.region 25 #[{ dst:=some 212,op:=Op.move (Operand.tmp 35),type:=3,pos:= "law.go:93",after:= #[],guard:=none },{ dst:=some 213,op:=Op.binOp BinOp.add 3 (Operand.tmp 212) (Operand.const (Value.int IntKind.i64 1)) 3,type:=3,pos:= "law.go:93",after:= #[{ on:=0,ground:=Ground.data }],guard:=none },{ dst:=some 35,op:=Op.assign (Operand.tmp 213),type:=3,pos:= "law.go:93",after:= #[{ on:=1,ground:=Ground.data },{ on:=0,ground:=Ground.phase },{ on:=1,ground:=Ground.phase }],guard:=none }] false
abbrev zyr:Code:=Code.region 27 #[{ dst:=some 36,op:=Op.assign (Operand.const (Value.int IntKind.i64 0)),type:=3,pos:= "law.go:96",after:= #[],guard:=none }] false
abbrev zwE:Code:=Code.region 28 #[{ dst:=some 224,op:=Op.move (Operand.tmp 36),type:=3,pos:= "law.go:96",after:= #[],guard:=none },{ dst:=some 225,op:=Op.fieldAddr 32 (Operand.tmp 20) 0,type:=0,pos:= "law.go:96",after:= #[],guard:=none },{ dst:=some 226,op:=Op.load 22 (Operand.tmp 225),type:=22,pos:= "law.go:96",after:= #[{ on:=1,ground:=Ground.data }],guard:=none },{ dst:=some 227,op:=Op.call { callee:=Callee.builtin Builtin.len,args:= #[Operand.tmp 226],argTypes:= #[22] },type:=3,pos:= "law.go:96",after:= #[{ on:=2,ground:=Ground.data }],guard:=none },{ dst:=some 228,op:=Op.binOp BinOp.lss 3 (Operand.tmp 224) (Operand.tmp 227) 3,type:=4,pos:= "law.go:96",after:= #[{ on:=0,ground:=Ground.data },{ on:=3,ground:=Ground.data }],guard:=none }] false
abbrev zAc:Code:=Code.region 30 #[{ dst:=some 231,op:=Op.fieldAddr 32 (Operand.tmp 20) 0,type:=0,pos:= "law.go:97",after:= #[],guard:=none },{ dst:=some 232,op:=Op.load 22 (Operand.tmp 231),type:=22,pos:= "law.go:97",after:= #[{ on:=0,ground:=Ground.data }],guard:=none },{ dst:=some 233,op:=Op.move (Operand.tmp 36),type:=3,pos:= "law.go:97",after:= #[],guard:=none },{ dst:=some 234,op:=Op.indexAddr 22 (Operand.tmp 232) (Operand.tmp 233),type:=0,pos:= "law.go:97",after:= #[{ on:=1,ground:=Ground.data },{ on:=2,ground:=Ground.data },{ on:=0,ground:=Ground.phase },{ on:=1,ground:=Ground.phase },{ on:=2,ground:=Ground.phase }],guard:=none },{ dst:=some 235,op:=Op.fieldAddr 54 (Operand.tmp 234) 0,type:=0,pos:= "law.go:97",after:= #[{ on:=3,ground:=Ground.data },{ on:=0,ground:=Ground.phase },{ on:=1,ground:=Ground.phase },{ on:=2,ground:=Ground.phase }],guard:=none },{ dst:=none,op:=Op.store 3 (Operand.tmp 235) (Operand.const (Value.int IntKind.i64 77)),type:=0,pos:= "law.go:97",after:= #[{ on:=4,ground:=Ground.data },{ on:=0,ground:=Ground.phase },{ on:=1,ground:=Ground.phase },{ on:=2,ground:=Ground.phase }],guard:=none }] false
abbrev zxE:Code:=Code.region 29 #[{ dst:=some 229,op:=Op.move (Operand.tmp 36),type:=3,pos:= "law.go:96",after:= #[],guard:=none },{ dst:=some 230,op:=Op.binOp BinOp.add 3 (Operand.tmp 229) (Operand.const (Value.int IntKind.i64 1)) 3,type:=3,pos:= "law.go:96",after:= #[{ on:=0,ground:=Ground.data }],guard:=none },{ dst:=some 36,op:=Op.assign (Operand.tmp 230),type:=3,pos:= "law.go:96",after:= #[{ on:=1,ground:=Ground.data },{ on:=0,ground:=Ground.phase },{ on:=1,ground:=Ground.phase }],guard:=none }] false
abbrev zGC:Code:=.seq (.seq zx9 (.cond (.tmp 211) .skip (.exit 0))) (.seq (.block 1 zwW) zyU)
abbrev zHn:Code:=.seq (.seq zwE (.cond (.tmp 228) .skip (.exit 2))) (.seq (.block 3 zAc) zxE)
abbrev zEo:Code:=.seq zyL (.block 0 (.loop zGC))
abbrev zDc:Code:=.seq zyr (.block 2 (.loop zHn))
structure FrX (t:Array Value) (z6 z13:Option Value) (bx ox s:Nat) (i:Nat):Prop where
 sz:Sz t 239
 t6:t[6]? =z6
 t13:t[13]? =z13
 t20:t[20]? =some (.pointer (some ⟨bx,ox,none⟩))
 ti:t[s]? =some (.int .i64 i)
theorem FrX.set {t:Array Value} {z6 z13:Option Value} {bx ox s i k:Nat} {v:Value} (F:FrX t z6 z13 bx ox s i) (hs:s≤36) (hk:37≤k):FrX (t.setIfInBounds k v) z6 z13 bx ox s i:=
 ⟨RG.2 F.sz,(gz (by omega)).trans F.t6,(gz (by omega)).trans F.t13,(gz (by omega)).trans F.t20,(gz (by omega)).trans F.ti⟩
section
variable {B:Nat} {W:World} {bx ox n m:Nat} {qa ma:Option Addr} {qc mc:Nat} {tx:Nat→Option Addr} {tc ln:Nat→Nat} {z6 z13:Option Value} {i:Nat} {Q:Exit→Act→World→Prop} {t:Array Value}
theorem zy7 (F:FrX t z6 z13 bx ox 35 i) (hb:W.cell? ⟨bx,ox+3,none⟩=some (.slice qa n qc))
  (hQ:∀ t',FrX t' z6 z13 bx ox 35 i→t'[211]? =some (.bool (decide (i<n)))→Q .normal { tmps:=t',defers:=[] } W):zx9.wp Tryz.prog Q { tmps:=t,defers:=[] } W:=by
 have hs:=F.sz
 have h20:=F.t20
 have hti:=F.ti
 have ed:decide ((i:Int)<n)=decide (i<n):=by rw [decide_eq_decide];omega
 unfold zx9
 go_wp2
 refine hQ _ ?_ ?_
 ·repeat refine FrX.set ?_ (by decide) (by decide)
  exact F
 ·rw [SN (by simpa only [RG] using hs) (by decide)]
theorem zAS (F:FrX t z6 z13 bx ox 36 i) (hb:W.cell? ⟨bx,ox,none⟩=some (.slice ma m mc))
  (hQ:∀ t',FrX t' z6 z13 bx ox 36 i→t'[228]? =some (.bool (decide (i<m)))→Q .normal { tmps:=t',defers:=[] } W):zwE.wp Tryz.prog Q { tmps:=t,defers:=[] } W:=by
 have hs:=F.sz
 have h20:=F.t20
 have hti:=F.ti
 have ed:decide ((i:Int)<m)=decide (i<m):=by rw [decide_eq_decide];omega
 unfold zwE
 go_wp2
 refine hQ _ ?_ ?_
 ·repeat refine FrX.set ?_ (by decide) (by decide)
  exact F
 ·rw [SN (by simpa only [RG] using hs) (by decide)]
theorem zFl {qb qo tb to l c:Nat} {v:Int} (F:FrX t z6 z13 bx ox 35 i) (hi:i<n) (hb:W.cell? ⟨bx,ox+3,none⟩=some (.slice (some ⟨qb,qo,none⟩) n qc)) (c2:W.cell? ⟨qb,qo+i * 3+2,none⟩=some (.slice (some ⟨tb,to,none⟩) l c)) (hj:0<l) (ct:W.cell? ⟨tb,to,none⟩=some (.int .u8 v)) (hf:W.frozen? ⟨tb,to,none⟩=false)
  (hQ:∀ t' v',FrX t' z6 z13 bx ox 35 i→Q .normal { tmps:=t',defers:=[] } (W.setCell ⟨tb,to,none⟩ (.int .u8 v'))):zwW.wp Tryz.prog Q { tmps:=t,defers:=[] } W:=by
 have hs:=F.sz
 have h20:=F.t20
 have hti:=F.ti
 unfold zwW
 go_wp2
 repeat refine FrX.set ?_ (by decide) (by decide)
 exact F
theorem zFk {mb mo:Nat} {v:Int} (F:FrX t z6 z13 bx ox 36 i) (hi:i<m) (hb:W.cell? ⟨bx,ox,none⟩=some (.slice (some ⟨mb,mo,none⟩) m mc)) (ct:W.cell? ⟨mb,mo+i * 2,none⟩=some (.int .i64 v)) (hf:W.frozen? ⟨mb,mo+i * 2,none⟩=false)
  (hQ:∀ t' v',FrX t' z6 z13 bx ox 36 i→Q .normal { tmps:=t',defers:=[] } (W.setCell ⟨mb,mo+i * 2,none⟩ (.int .i64 v'))):zAc.wp Tryz.prog Q { tmps:=t,defers:=[] } W:=by
 have hs:=F.sz
 have h20:=F.t20
 have hti:=F.ti
 unfold zAc
 go_wp2
 repeat refine FrX.set ?_ (by decide) (by decide)
 exact F
theorem zF3 (F:FrX t z6 z13 bx ox 35 i) (hi:i≤100000)
  (hQ:∀ t',FrX t' z6 z13 bx ox 35 (i+1)→Q .normal { tmps:=t',defers:=[] } W):zyU.wp Tryz.prog Q { tmps:=t,defers:=[] } W:=by
 have hs:=F.sz
 have hti:=F.ti
 unfold zyU
 go_wp2
 refine ⟨?_, ?_, ?_, ?_, ?_⟩
 ·simpa only [RG] using hs
 ·repeat rw [gz (by decide)]
  exact F.t6
 ·repeat rw [gz (by decide)]
  exact F.t13
 ·repeat rw [gz (by decide)]
  exact F.t20
 ·rw [SN (by simpa only [RG] using hs) (by decide)]
  rfl
theorem zFI (F:FrX t z6 z13 bx ox 36 i) (hi:i≤100000)
  (hQ:∀ t',FrX t' z6 z13 bx ox 36 (i+1)→Q .normal { tmps:=t',defers:=[] } W):zxE.wp Tryz.prog Q { tmps:=t,defers:=[] } W:=by
 have hs:=F.sz
 have hti:=F.ti
 unfold zxE
 go_wp2
 refine ⟨?_, ?_, ?_, ?_, ?_⟩
 ·simpa only [RG] using hs
 ·repeat rw [gz (by decide)]
  exact F.t6
 ·repeat rw [gz (by decide)]
  exact F.t13
 ·repeat rw [gz (by decide)]
  exact F.t20
 ·rw [SN (by simpa only [RG] using hs) (by decide)]
  rfl
theorem zFw (hs:Sz t 239) (h20:t[20]? =some (.pointer (some ⟨bx,ox,none⟩)))
  (hQ:∀ t',FrX t' t[6]? t[13]? bx ox 35 0→Q .normal { tmps:=t',defers:=[] } W):zyL.wp Tryz.prog Q { tmps:=t,defers:=[] } W:=by
 unfold zyL
 go_wp2
 refine ⟨?_, ?_, ?_, ?_, ?_⟩
 ·simpa only [RG] using hs
 ·repeat rw [gz (by decide)]
 ·repeat rw [gz (by decide)]
 ·repeat rw [gz (by decide)]
  exact h20
 ·rw [SN (by simpa only [RG] using hs) (by decide)]
  rfl
theorem zFT (hs:Sz t 239) (h20:t[20]? =some (.pointer (some ⟨bx,ox,none⟩)))
  (hQ:∀ t',FrX t' t[6]? t[13]? bx ox 36 0→Q .normal { tmps:=t',defers:=[] } W):zyr.wp Tryz.prog Q { tmps:=t,defers:=[] } W:=by
 unfold zyr
 go_wp2
 refine ⟨?_, ?_, ?_, ?_, ?_⟩
 ·simpa only [RG] using hs
 ·repeat rw [gz (by decide)]
 ·repeat rw [gz (by decide)]
 ·repeat rw [gz (by decide)]
  exact h20
 ·rw [SN (by simpa only [RG] using hs) (by decide)]
  rfl
end
section
variable {B:Nat} {w:World} {bx ox n m:Nat} {qa ma:Option Addr} {qc mc:Nat} {tx:Nat→Option Addr} {tc ln:Nat→Nat} {z6 z13:Option Value}
theorem zzK (hn:n≤100000) (Q:Exit→Act→World→Prop) (hQ:∀ t W,FrX t z6 z13 bx ox 35 n→XAt B W bx ox n m qa ma qc mc tx tc ln→zas B w W→Q (.exit 0) { tmps:=t,defers:=[] } W):
  ∀ (k i:Nat) (t:Array Value) (W:World),i+k=n→FrX t z6 z13 bx ox 35 i→XAt B W bx ox n m qa ma qc mc tx tc ln→zas B w W→Code.rounds Tryz.prog zGC Q (k+1) { tmps:=t,defers:=[] } W:=by
 intro k
 induction k with
 | zero=>
  intro i t W hi F T K
  obtain rfl:i=n:=by omega
  rw [rounds_succ]
  refine wp_seq (wp_seq (zy7 F T.bq fun t' F' h=> ?_))
  exact wp_cond_false (by simp only [Act.eval,Array.getD_eq_getD_getElem?,h];simp) (wp_exit (hQ t' W F' T K))
 | succ k ih=>
  intro i t W hi F T K
  have hlt:i<n:=by omega
  obtain ⟨qb,qo,e1,e2⟩:=T.hd i hlt
  obtain ⟨h0,tb,to,v,e3,e4,e5,e6⟩:=T.txt i hlt
  have hb:=T.bq
  rw [rounds_succ]
  refine wp_seq (wp_seq (zy7 F hb fun t' F' h=> ?_))
  refine wp_cond_true (by simp only [Act.eval,Array.getD_eq_getD_getElem?,h];simp [hlt]) (wp_skip ?_)
  rw [e1] at hb
  rw [e3] at e2
  refine wp_seq (wp_block (zFl F' hlt hb e2 h0 e5 e6 fun t2 v2 F2=> ?_))
  exact zF3 F2 (by omega) fun t3 F3=>ih (i+1) t3 _ (by omega) F3 (T.set e5 v2) (K.set e4 _)
theorem zGc (hm:m≤100000) (Q:Exit→Act→World→Prop) (hQ:∀ t W,FrX t z6 z13 bx ox 36 m→XAt B W bx ox n m qa ma qc mc tx tc ln→zas B w W→Q (.exit 2) { tmps:=t,defers:=[] } W):
  ∀ (k i:Nat) (t:Array Value) (W:World),i+k=m→FrX t z6 z13 bx ox 36 i→XAt B W bx ox n m qa ma qc mc tx tc ln→zas B w W→Code.rounds Tryz.prog zHn Q (k+1) { tmps:=t,defers:=[] } W:=by
 intro k
 induction k with
 | zero=>
  intro i t W hi F T K
  obtain rfl:i=m:=by omega
  rw [rounds_succ]
  refine wp_seq (wp_seq (zAS F T.bm fun t' F' h=> ?_))
  exact wp_cond_false (by simp only [Act.eval,Array.getD_eq_getD_getElem?,h];simp) (wp_exit (hQ t' W F' T K))
 | succ k ih=>
  intro i t W hi F T K
  have hlt:i<m:=by omega
  obtain ⟨mb,mo,v,e1,e2,e3,e4⟩:=T.mbr i hlt
  have hb:=T.bm
  rw [rounds_succ]
  refine wp_seq (wp_seq (zAS F hb fun t' F' h=> ?_))
  refine wp_cond_true (by simp only [Act.eval,Array.getD_eq_getD_getElem?,h];simp [hlt]) (wp_skip ?_)
  rw [e1] at hb
  refine wp_seq (wp_block (zFk F' hlt hb e3 e4 fun t2 v2 F2=> ?_))
  exact zFI F2 (by omega) fun t3 F3=>ih (i+1) t3 _ (by omega) F3 (T.set e3 v2) (K.set e2 _)
theorem zCR {t:Array Value} {Q:Exit→Act→World→Prop} {c:Code} (hs:Sz t 239) (h20:t[20]? =some (.pointer (some ⟨bx,ox,none⟩))) (T:XAt B w bx ox n m qa ma qc mc tx tc ln) (hn:n≤100000) (hm:m≤100000)
  (hQ:∀ t' W,Sz t' 239→t'[6]? =t[6]? →t'[13]? =t[13]? →zas B w W→c.wp Tryz.prog Q { tmps:=t',defers:=[] } W):(Code.seq zEo (.seq zDc c)).wp Tryz.prog Q { tmps:=t,defers:=[] } w:=by
 refine wp_seq (wp_seq (zFw hs h20 fun t1 F1=> ?_))
 refine wp_block (wp_loop_rounds (n+1) (zzK (B:=B) (w:=w) hn _ (fun t2 W2 F2 T2 K2=> ?_) n 0 t1 w (by omega) F1 T (.refl _ _)))
 refine wp_seq (wp_seq (zFT F2.sz F2.t20 fun t3 F3=> ?_))
 refine wp_block (wp_loop_rounds (m+1) (zGc (B:=B) (w:=w) hm _ (fun t4 W4 F4 T4 K4=> ?_) m 0 t3 W2 (by omega) F3 T2 K2))
 exact hQ t4 W4 F4.sz (F4.t6.trans F2.t6) (F4.t13.trans F2.t13) K4
end
end
section
open Go.RowKit
abbrev S' (B:Nat):Nat→Prop:=fun b=>b<B
theorem thaw {w:World} {b o:Nat} {v:Value} (ht:IQ w b) (hc:w.cell? ⟨b,o,none⟩=some v):w.frozen? ⟨b,o,none⟩=false:=by
 simp only [World.frozen?]
 split
 ·rename_i c2' el lo hi hb
  have hlt:o<c2'.size:=by
   rw [cell_of_row w b _ c2' el _ hb] at hc
   exact (Array.getElem?_eq_some_iff.1 hc).1
  have:=ht _ _ _ _ hb o hlt
  simp only [Bool.and_eq_false_iff,decide_eq_false_iff_not]
  by_cases h:lo≤o
  ·exact .inr fun h2=>this ⟨h,h2⟩
  ·exact .inl h
 ·rfl
theorem zHN {B:Nat} {a:Act} {w:World} {x:Ses} (k:Dry (frI B) (S' B) [(20,.dptr (sC x))] a w) (hp:∀ y ∈ x.q,0<y.2.2.1.length):
  ∃ (bx ox:Nat) (qa ma:Option Addr) (qc mc:Nat) (tx:Nat→Option Addr) (tc ln:Nat→Nat),a.tmps[20]? =some (.pointer (some ⟨bx,ox,none⟩))∧XAt B w bx ox x.q.length x.mem.length qa ma qc mc tx tc ln:=by
 letI:FrB:=frI B
 obtain ⟨v,h20,r20⟩:=k 20 _ rfl
 obtain ⟨bx,ox,val,rfl,_,hbx,hc,hr⟩:=WB r20
 have bd:∀ {b:Nat},¬ (S' B b∨noO b)→B≤b:=fun {b} h=>Nat.le_of_not_lt fun h'=>h (.inl h')
 have c0:=(hc 0 (by rw [zk];omega)).1
 have c3:=(hc 3 (by rw [zk];omega)).1
 have r0:=hr 0 _ (Ib x)
 have r3:=hr 3 _ (zer x)
 rw [Nat.add_zero] at c0
 have M:∃ ma mc,val 0=.slice ma x.mem.length mc∧∀ e,e<x.mem.length→∃ mb mo v,ma=some ⟨mb,mo,none⟩∧B≤mb∧w.cell? ⟨mb,mo+e * 2,none⟩=some (.int .i64 v)∧w.frozen? ⟨mb,mo+e * 2,none⟩=false:=by
  have hln:=yM x.mem
  generalize val 0=z at r0
  generalize hes:mbs x.mem=es at r0 hln
  cases r0 with
  | s r=>
   cases r with
   | data0 _ _ a c h=>
    simp only [List.length_nil] at hln
    exact ⟨a,c,by rw [← hln],fun e he=>by omega⟩
   | data _ _ _ b off c tv q1 q2 q3 q4 q5 q6 q7 q8=>
    refine ⟨_,c,by rw [hln],fun e he=> ?_⟩
    subst hes
    obtain ⟨s1,s2⟩:=q6 e 0 (by omega) (by omega)
    have s3:=q7 e 0 _ _ (Tf he) rfl
    rw [Nat.add_zero] at s1
    generalize tv e 0=u at s1 s3
    cases s3
    exact ⟨b,off,_,rfl,bd q4,s1,thaw (q8 (bd q4)) s1⟩
 have Qq:∃ (qa:Option Addr) (qc:Nat) (tx:Nat→Option Addr) (tc ln:Nat→Nat),val 3=.slice qa x.q.length qc∧(∀ e,e<x.q.length→∃ qb qo,qa=some ⟨qb,qo,none⟩∧w.cell? ⟨qb,qo+e * 3+2,none⟩=some (.slice (tx e) (ln e) (tc e)))∧
   (∀ e,e<x.q.length→0<ln e∧∃ tb to v,tx e=some ⟨tb,to,none⟩∧B≤tb∧w.cell? ⟨tb,to,none⟩=some (.int .u8 v)∧w.frozen? ⟨tb,to,none⟩=false):=by
  have hln:=yB x.q
  generalize val 3=z at r3
  generalize hes:pcs x.q=es at r3 hln
  cases r3 with
  | s r=>
   cases r with
   | data0 _ _ a c h=>
    simp only [List.length_nil] at hln
    exact ⟨a,c,fun _=>none,fun _=>0,fun _=>0,by rw [← hln],fun e he=>by omega,fun e he=>by omega⟩
   | data _ _ _ b off c tv q1 q2 q3 q4 q5 q6 q7 q8=>
    subst hes
    refine ⟨_,c,fun e=>match tv e 2 with | .slice a _ _=>a | _=>none,fun e=>match tv e 2 with | .slice _ _ c=>c | _=>0,fun e=>match tv e 2 with | .slice _ l _=>l | _=>0,by rw [hln],fun e he=> ?_,fun e he=> ?_⟩
    ·obtain ⟨s1,s2⟩:=q6 e 2 (by omega) (by omega)
     have s3:=q7 e 2 _ _ (YZ he) rfl
     refine ⟨b,off,rfl, ?_⟩
     obtain ⟨a',c',hu,_⟩:=oK (ρ:=noR) (S:=S' B) (O:=noO) (zB.s s3)
     rw [Nat.add_assoc,s1]
     simp only [hu]
    ·have s3:=q7 e 2 _ _ (YZ he) rfl
     have h0:=hp _ (List.getElem_mem he)
     have hbl:=oI x.q[e].2.2.1
     obtain ⟨a',c',hu,_,_,_,hd⟩:=oK (ρ:=noR) (S:=S' B) (O:=noO) (zB.s s3)
     rcases hd with hd | ⟨tb,to,ev,rfl,_,p4,p5,p6,p7⟩
     ·rw [hd] at hbl;simp only [List.length_nil] at hbl;omega
     obtain ⟨p4,p8⟩:=p4 rfl
     have hB:B≤tb:=Nat.le_of_not_lt p4
     obtain ⟨s1,s2⟩:=p6 0 0 (by omega) (by omega)
     have s4:=p7 0 0 _ _ (show (byt x.q[e].2.2.1)[0]? =some [.int .u8 x.q[e].2.2.1[0]] by simp [byt,h0]) rfl
     simp only [Nat.zero_mul,Nat.add_zero] at s1
     generalize ev 0 0=u at s1 s4
     cases s4
     refine ⟨by simp only [hu];omega,tb,to,x.q[e].2.2.1[0],by simp only [hu],hB,s1,thaw (p8 hB) s1⟩
 obtain ⟨ma,mc,m1,m2⟩:=M
 obtain ⟨qa,qc,tx,tc,ln,p1,p2,p3⟩:=Qq
 rw [m1] at c0
 rw [p1] at c3
 exact ⟨bx,ox,qa,ma,qc,mc,tx,tc,ln,h20,⟨c3,c0,p2,p3,m2⟩⟩
theorem zCa {w:World} {b o:Nat} {v:Value} (h:w.cell? ⟨b,o,none⟩=some v):b<w.heap.size:=by
 rcases Nat.lt_or_ge b w.heap.size with h1 | h1
 ·exact h1
 ·have:w.heap[b]? =none:=Array.getElem?_eq_none h1
  simp [World.cell?,this] at h
theorem XAt.on {B:Nat} {w W:World} {bx ox n m:Nat} {qa ma:Option Addr} {qc mc:Nat} {tx:Nat→Option Addr} {tc ln:Nat→Nat} (T:XAt B w bx ox n m qa ma qc mc tx tc ln) (A:Bel w W):XAt B W bx ox n m qa ma qc mc tx tc ln:=by
 have hb:∀ {b o:Nat} {v:Value},w.cell? ⟨b,o,none⟩=some v→W.heap[b]? =w.heap[b]? :=fun {b o v} h=>A.same b (zCa h) (fun h=>h)
 have cl:∀ {b o:Nat} {v:Value},w.cell? ⟨b,o,none⟩=some v→W.cell? ⟨b,o,none⟩=some v:=fun {b o v} h=>(World.cell?_of_block (hb h)).trans h
 have fz:∀ {b o:Nat} {v:Value},w.cell? ⟨b,o,none⟩=some v→w.frozen? ⟨b,o,none⟩=false→W.frozen? ⟨b,o,none⟩=false:=fun {b o v} h hf=>by
  have:=hb h
  simp only [World.frozen?] at hf ⊢
  rw [this];exact hf
 refine ⟨cl T.bq,cl T.bm,fun e he=> ?_,fun e he=> ?_,fun e he=> ?_⟩
 ·obtain ⟨qb,qo,h1,h2⟩:=T.hd e he
  exact ⟨qb,qo,h1,cl h2⟩
 ·obtain ⟨h0,tb,to,u,h1,h2,h3,h4⟩:=T.txt e he
  exact ⟨h0,tb,to,u,h1,h2,cl h3,fz h3 h4⟩
 ·obtain ⟨mb,mo,u,h1,h2,h3,h4⟩:=T.mbr e he
  exact ⟨mb,mo,u,h1,h2,cl h3,fz h3 h4⟩
theorem ztJ {I J:FrB} {w:World} {S:Nat→Prop} (hJ:∀ b,b<w.heap.size→J.fr b→I.fr b) {cs:List AV} {x:Value} (hs:AV.stableL cs=true) (h: @zB I noR w S noO (.dptr cs) x): @zB J noR w noO noO (.dptr cs) x:=by
 obtain ⟨b,off,val,rfl,h1,h2,h3,h4⟩:= @WB I _ _ _ _ _ _ h
 refine @zB.dptr J _ _ _ _ _ b off val h1 h2 h3 fun j c hj=> ?_
 have hb:=h4 j c hj
 have hst:c.stable=true:=by
  have:∀ cs:List AV,AV.stableL cs=true→∀ c ∈ cs,c.stable=true:=by
   intro cs
   induction cs with
   | nil=>intro _ c hc;simp at hc
   | cons y t ih=>
    intro h c hc
    simp only [AV.stableL,Bool.and_eq_true] at h
    rcases List.mem_cons.1 hc with rfl | hc
    ·exact h.1
    ·exact ih h.2 c hc
  exact this cs hs c (List.mem_of_getElem? hj)
 generalize val j=y at hb
 cases hb with
 | s hr=>exact @zan.s J _ _ _ _ _ ((uj.re hJ hr).mono fun b hb=>hb.elim (fun h=>h.elim) (fun h=>h.elim))
 | bor0 k full a cap hf=>simp [AV.stable] at hst
 | bor k es full b off cap val q1 q2 q3 q4 q5 q6 q7=>simp [AV.stable] at hst
 | unk y=>simp [AV.stable] at hst
theorem zwd {s:Ses} (id n:Int) (d:Dd):∀ y ∈ (Wo s id n d).1.q,0<y.2.2.1.length:=by
 cases hs:yj s with
 | false=>unfold Wo;rw [hs];simp [zS]
 | true=>
  by_cases h2:(Wo s id n d).2=0
  ·have ho:=zs9 hs h2
   intro y hy
   have:=((UV _).1 (zZ ho).2.2.1).1 y hy
   simp only [pcB,VG,Bool.and_eq_true,decide_eq_true_eq] at this
   omega
  ·have:(Wo s id n d).1=zS:=by
    unfold Wo at h2 ⊢
    rw [hs,if_pos rfl] at h2 ⊢
    split at h2
    ·rename_i h
     rw [if_pos h]
     split at h2
     ·rename_i h;rw [if_pos h]
     ·rename_i h
      rw [if_neg h]
      split at h2
      ·simp at h2
      ·rename_i h;rw [if_neg h]
    ·rename_i h;rw [if_neg h]
   rw [this];simp [zS]
theorem zi6:okS zS:=⟨by simp [zS],by simp [zS],by simp [zS],fun x hx=>by simp [zS] at hx⟩
theorem zxc {s:Ses} (id n:Int) (d:Dd):okS (Wo s id n d).1:=by
 by_cases hz:(Wo s id n d).1=zS
 ·rw [hz];exact zi6
 cases hs:yj s with
 | false=>exact absurd (by unfold Wo;rw [hs];simp) hz
 | true=>
  by_cases h2:(Wo s id n d).2=0
  ·exact zlw (zs9 hs h2)
  ·refine absurd ?_ hz
   unfold Wo at h2 ⊢
   rw [hs,if_pos rfl] at h2 ⊢
   split at h2
   ·rename_i h
    rw [if_pos h]
    split at h2
    ·rename_i h;rw [if_pos h]
    ·rename_i h
     rw [if_neg h]
     split at h2
     ·simp at h2
     ·rename_i h;rw [if_neg h]
   ·rename_i h;rw [if_neg h]
theorem zlV {s:Ses} {x:List (Int×Int)×Int} (h:x.2=0→y5 x.1=true):okS (Rq s x).1:=by
 unfold Rq
 cases hs:yj s with
 | false=>simp;exact zi6
 | true=>
  rw [if_pos rfl]
  split
  ·rename_i h0;exact zlw (zC0 hs (h h0) false)
  ·exact zi6
theorem zvp {s:Ses} (n:Int):okS (Pb s n).1∧(Pb s n).2.length≤1000:=by
 unfold Pb
 cases hs:yj s with
 | false=>simp;exact zi6
 | true=>
  rw [if_pos rfl]
  have h:=zlw hs
  have h2:=zah (zah h.2.2 (-1)) n
  refine ⟨⟨h.1,h.2.1,h2⟩, ?_⟩
  show (NR (cpS s).q n).2.length≤1000
  have h3:=(zah h.2.2 (-1)).1
  unfold NR
  split
  ·simp only [ZT,List.length_take];exact Nat.le_trans (Nat.min_le_right _ _) h3
  ·simp
end
section
open Go.RowKit
def zrX:Nat→Code→Code
 | 0,c=>c
 | n+1,.seq _ b=>zrX n b
 | _,c=>c
def cs2:Code→Code | .seq _ b=>b | c=>c
noncomputable def zpM:Code:=(Tryz.f3.body).getD .skip
theorem zDu:sC ⟨[],0,[],[],fun _=>(0,0),0,0,fun _=>0,true,true,true⟩=zT:=rfl
theorem zGx {G:Nat→Option (List AV)} {s g:Ses} {e:Int} (hs:okS s) (hm:yj s=false) (h:g=zS) (he:e=2):aP G FT yl [.agg (sC s),.agg (sC g),.int .i64 e,.agg zT,.int .i64 0]=some (.bool true):=by
 subst h he
 rw [← zDu,zso G s zS _ hs zi6,zBE hm]
theorem zr8 {G:Nat→Option (List AV)} {s g w:Ses} {e f:Int} (hs:okS s) (hg:okS g) (h:zcu s g e w f=true):aP G FT yl [.agg (sC s),.agg (sC g),.int .i64 e,.agg (sC w),.int .i64 f]=some (.bool true):=by
 rw [zso G s g w hs hg,h]
theorem zCP {s:Ses} (h:okS s):okS (ym s):=⟨h.1,h.2.1,zFZ h.2.2⟩
theorem zlE {l:List (Int×Int)} {id r:Int}:(j3 l id r).2=0→y5 (j3 l id r).1=true:=by
 unfold j3
 split
 ·rename_i hc
  split
  ·intro _
   have hr:=hc.2.2
   simp only [UE,Bool.or_eq_true,decide_eq_true_eq] at hr
   exact jU hc.1 (.inr hr)
  ·intro hx;simp at hx
 ·intro hx;simp at hx
theorem zgo {l:List (Int×Int)} {id r:Int}:(yK l id r).2=0→y5 (yK l id r).1=true:=by
 unfold yK
 split
 ·rename_i hc
  split
  ·intro _
   have hr:=hc.2
   simp only [UE,Bool.or_eq_true,decide_eq_true_eq] at hr
   exact jU hc.1 (.inr hr)
  ·intro hx;simp at hx
 ·intro hx;simp at hx
theorem zh9 {l:List (Int×Int)} {id:Int}:(u6 l id).2=0→y5 (u6 l id).1=true:=by
 unfold u6
 split
 ·rename_i hc
  split
  ·intro _;exact jU hc (.inl rfl)
  ·intro hx;simp at hx
 ·intro hx;simp at hx
theorem zyY (s:Ses) (id role num:Int) (d:Dd) (n:Int) (hn:n≤9223372036854775807) (w:World) (x0 x1 x2 x3 x4 x5:Value)
  (hargs:WO (@zB bs0 noR w noO noO) [.agg (sC s),.int .i64 id,.int .i64 role,.int .i64 num,.agg (dC d),.int .i64 n] [x0,x1,x2,x3,x4,x5]):
  Calls Tryz.prog 3 #[x0,x1,x2,x3,x4,x5] w fun e w'=>e=.returned (.bool true)∧Below w.heap.size w w':=by
 refine calls_of_wp Tryz.func3 rfl ?_
 have hn':Tryz.f3.ntmps=239:=Tryz.ntmps3
 rw [hn']
 have hz:(#[x0,x1,x2,x3,x4,x5]++Array.replicate (239 - #[x0,x1,x2,x3,x4,x5].size) undef:Array Value).size=239:=by simp
 have t0:(#[x0,x1,x2,x3,x4,x5]++Array.replicate (239 - #[x0,x1,x2,x3,x4,x5].size) undef:Array Value)[0]? =some x0:=by simp [Array.getElem?_append]
 have t1:(#[x0,x1,x2,x3,x4,x5]++Array.replicate (239 - #[x0,x1,x2,x3,x4,x5].size) undef:Array Value)[1]? =some x1:=by simp [Array.getElem?_append]
 have t2:(#[x0,x1,x2,x3,x4,x5]++Array.replicate (239 - #[x0,x1,x2,x3,x4,x5].size) undef:Array Value)[2]? =some x2:=by simp [Array.getElem?_append]
 have t3:(#[x0,x1,x2,x3,x4,x5]++Array.replicate (239 - #[x0,x1,x2,x3,x4,x5].size) undef:Array Value)[3]? =some x3:=by simp [Array.getElem?_append]
 have t4:(#[x0,x1,x2,x3,x4,x5]++Array.replicate (239 - #[x0,x1,x2,x3,x4,x5].size) undef:Array Value)[4]? =some x4:=by simp [Array.getElem?_append]
 have t5:(#[x0,x1,x2,x3,x4,x5]++Array.replicate (239 - #[x0,x1,x2,x3,x4,x5].size) undef:Array Value)[5]? =some x5:=by simp [Array.getElem?_append]
 generalize (#[x0,x1,x2,x3,x4,x5]++Array.replicate (239 - #[x0,x1,x2,x3,x4,x5].size) undef:Array Value)=tm at hz t0 t1 t2 t3 t4 t5
 have k0:Dry bs0 noO [(0,.agg (sC s)),(1,.int .i64 id),(2,.int .i64 role),(3,.int .i64 num),(4,.agg (dC d)),(5,.int .i64 n)] { tmps:=tm,defers:=[] } w:=by
  intro k v hs
  simp only [look] at hs
  split at hs
  ·rename_i e;cases hs;subst e;exact ⟨x0,t0,hargs.2 0 _ _ rfl rfl⟩
  split at hs
  ·rename_i e;cases hs;subst e;exact ⟨x1,t1,hargs.2 1 _ _ rfl rfl⟩
  split at hs
  ·rename_i e;cases hs;subst e;exact ⟨x2,t2,hargs.2 2 _ _ rfl rfl⟩
  split at hs
  ·rename_i e;cases hs;subst e;exact ⟨x3,t3,hargs.2 3 _ _ rfl rfl⟩
  split at hs
  ·rename_i e;cases hs;subst e;exact ⟨x4,t4,hargs.2 4 _ _ rfl rfl⟩
  split at hs
  ·rename_i e;cases hs;subst e;exact ⟨x5,t5,hargs.2 5 _ _ rfl rfl⟩
  ·cases hs
 have hE:∀ I:FrB, @zax I Tryz.prog (fun _=>none) FT:=fun I=> @zHr I _
 have S0:∀ (w:World) b,noO b→b<w.heap.size:=fun w b h=>h.elim
 have z0:(({ tmps:=tm,defers:=[] }:Act).tmps.size=239∧({ tmps:=tm,defers:=[] }:Act).defers=[]):=⟨hz,rfl⟩
 clear hargs t0 t1 t2 t3 t4 t5 hz
 generalize ({ tmps:=tm,defers:=[] }:Act)=a0 at k0 z0
 have ret:∀ (a':Act) (w':World) (I:FrB) (S:Nat→Prop) (w0:World) (hh:List zf),Wet I S w0 ⟨[(12,.bool true)],hh⟩ a' w'→a'.tmps.size=239∧a'.defers=[]→Bel w w0→bodyPost Tryz.prog Tryz.f3 (fun e w'=>e=.returned (.bool true)∧Below w.heap.size w w') .ret a' w':=by
  intro a' w' I S w0 hh k z' B
  obtain ⟨ρ,O,A,H,R⟩:=k
  have A':Bel w w':=B.trans (.of A)
  obtain ⟨v,hv,hrv⟩:= @zf3 I _ _ _ _ _ _ _ Tryz.f3 [.slot 12] _ (.bool true) H R (by kernel_rfl) rfl
  obtain rfl:= @TI I _ _ _ _ _ _ hrv
  exact ⟨z'.2,_,hv,rfl,⟨A'.os,A'.tape,A'.output,A'.size,fun b hb=>A'.same b hb (fun h=>h)⟩⟩
 refine wp_seq ((k0.wet (S0 w)).part ZP (hE bs0) z0 (zHg (fun _=>none) s d id role num n) (by kernel_rfl) fun a1 w1 q1 z1 p1=> ?_)
 obtain ⟨k1,b1⟩:=q1.dry (env':=[(1,.int .i64 id),(2,.int .i64 role),(3,.int .i64 num),(5,.int .i64 n),(6,.dptr (sC s)),(10,.dptr (dC d))]) rfl
 have c1:=b1
 refine wp_seq ((k1.wet (S0 w1)).part ZP (hE bs0) z1 (zHw (fun _=>none) s d id role num n) (by kernel_rfl) fun a2 w2 q2 z2 p2=> ?_)
 obtain ⟨k2,b2⟩:=q2.dry (env':=[(1,.int .i64 id),(2,.int .i64 role),(3,.int .i64 num),(5,.int .i64 n),(6,.dptr (sC s)),(10,.dptr (dC d))]++[(38,.bool false)]) rfl
 have k2:Dry bs0 noO [(1,.int .i64 id),(2,.int .i64 role),(3,.int .i64 num),(5,.int .i64 n),(6,.dptr (sC s)),(10,.dptr (dC d))] a2 w2:=k2.keep [1,2,3,5,6,10]
 have c2:=c1.trans b2
 by_cases hg:IL s=true
 ·refine wp_seq ((k2.wet (S0 w2)).part ZP (hE bs0) z2 (zEZ (fun _=>none) s d id role num n hg) (by kernel_rfl) fun aR wR qR zR pR=> ?_)
  exact ret aR wR _ _ _ _ qR zR c2
 have hg:IL s=false:=by simpa using hg
 by_cases hd:100<d.2.1.length
 ·refine wp_seq ((k2.wet (S0 w2)).part ZP (hE bs0) z2 (zGa (fun _=>none) s d id role num n hg hd) (by kernel_rfl) fun aR wR qR zR pR=> ?_)
  exact ret aR wR _ _ _ _ qR zR c2
 obtain ⟨hl1,hl2,hl3,hs⟩:=zqq hg
 have hdl:d.2.1.length≤1000:=by omega
 have hc:=zCP hs
 have hq9:s.tq.length≤900:=by omega
 refine wp_seq ((k2.wet (S0 w2)).part ZP (hE bs0) z2 (zEW (fun _=>none) s d id role num n hg hd) (by kernel_rfl) fun a3 w3 q3 z3 p3=> ?_)
 obtain ⟨k3,b3⟩:=q3.dry (env':=[(1,.int .i64 id),(2,.int .i64 role),(3,.int .i64 num),(5,.int .i64 n),(6,.dptr (sC s)),(10,.dptr (dC d))]++[(46,.bool false)]) rfl
 have k3:Dry bs0 noO [(1,.int .i64 id),(2,.int .i64 role),(3,.int .i64 num),(5,.int .i64 n),(6,.dptr (sC s)),(10,.dptr (dC d))] a3 w3:=k3.keep [1,2,3,5,6,10]
 have c3:=c2.trans b3
 refine wp_seq ((k3.wet (S0 w3)).part ZP (hE bs0) z3 (zHe (fun _=>none) s (ym s) d id role num n (zum _ s hs)) (by kernel_rfl) fun a4 w4 q4 z4 p4=> ?_)
 obtain ⟨k4,b4⟩:=q4.dry (env':=[(1,.int .i64 id),(2,.int .i64 role),(3,.int .i64 num),(5,.int .i64 n),(6,.dptr (sC s)),(10,.dptr (dC d)),(13,.dptr (sC (ym s)))]) rfl
 have c4:=c3.trans b4
 obtain ⟨a,ea,hA⟩:∃ a ea,Rq (ym s) (j3 s.mem id role)=(a,ea):=⟨_,_,rfl⟩
 obtain ⟨b,eb,hB⟩:∃ b eb,Rq (ym s) (u6 s.mem id)=(b,eb):=⟨_,_,rfl⟩
 obtain ⟨c,ec,hC⟩:∃ c ec,Rq (ym s) (yK s.mem id role)=(c,ec):=⟨_,_,rfl⟩
 obtain ⟨x,ex,hX⟩:∃ x ex,Wo (ym s) id num d=(x,ex):=⟨_,_,rfl⟩
 obtain ⟨y,out,hY⟩:∃ y out,Pb (ym s) n=(y,out):=⟨_,_,rfl⟩
 have jA:=zA8 (fun _=>none) (ym s) hc id role
 have jB:=zvk (fun _=>none) (ym s) hc id
 have jC:=zqn (fun _=>none) (ym s) hc id role
 have jX:=zvJ (fun _=>none) (ym s) hc id num d hdl
 have jY:=zuh (fun _=>none) (ym s) hc n hn
 rw [show j3 (ym s).mem id role=j3 s.mem id role from rfl,hA] at jA
 rw [show u6 (ym s).mem id=u6 s.mem id from rfl,hB] at jB
 rw [show yK (ym s).mem id role=yK s.mem id role from rfl,hC] at jC
 rw [hX] at jX
 rw [hY] at jY
 have oA:okS a:=by have:=zlV (s:=ym s) (zlE (l:=s.mem) (id:=id) (r:=role));rw [hA] at this;exact this
 have oB:okS b:=by have:=zlV (s:=ym s) (zh9 (l:=s.mem) (id:=id));rw [hB] at this;exact this
 have oC:okS c:=by have:=zlV (s:=ym s) (zgo (l:=s.mem) (id:=id) (r:=role));rw [hC] at this;exact this
 have oX:okS x:=by have:=zxc (s:=ym s) id num d;rw [hX] at this;exact this
 have oY:okS y∧out.length≤1000:=by have:=zvp (s:=ym s) n;rw [hY] at this;exact this
 have hpos:∀ y ∈ x.q,0<y.2.2.1.length:=by have:=zwd (s:=ym s) id num d;rw [hX] at this;exact this
 refine wp_seq ((k4.wet (S0 w4)).part ZP (hE bs0) z4 (zG1 (fun _=>none) s (ym s) a d id role num n ea jA) (by kernel_rfl) fun a5 w5 q5 z5 p5=> ?_)
 obtain ⟨k5,b5⟩:=q5.dry (env':=[(1,.int .i64 id),(2,.int .i64 role),(3,.int .i64 num),(5,.int .i64 n),(6,.dptr (sC s)),(10,.dptr (dC d)),(13,.dptr (sC (ym s))),(14,.dptr (sC a)),(15,.int .i64 ea)]) rfl
 have c5:=c4.trans b5
 refine wp_seq ((k5.wet (S0 w5)).part ZP (hE bs0) z5 (zHf (fun _=>none) s (ym s) a b d id role num n ea eb jB) (by kernel_rfl) fun a6 w6 q6 z6 p6=> ?_)
 obtain ⟨k6,b6⟩:=q6.dry (env':=[(1,.int .i64 id),(2,.int .i64 role),(3,.int .i64 num),(5,.int .i64 n),(6,.dptr (sC s)),(10,.dptr (dC d)),(13,.dptr (sC (ym s))),(14,.dptr (sC a)),(15,.int .i64 ea),(16,.dptr (sC b)),(17,.int .i64 eb)]) rfl
 have c6:=c5.trans b6
 refine wp_seq ((k6.wet (S0 w6)).part ZP (hE bs0) z6 (zGM (fun _=>none) s (ym s) a b c d id role num n ea eb ec jC) (by kernel_rfl) fun a7 w7 q7 z7 p7=> ?_)
 obtain ⟨k7,b7⟩:=q7.dry (env':=[(1,.int .i64 id),(2,.int .i64 role),(3,.int .i64 num),(5,.int .i64 n),(6,.dptr (sC s)),(10,.dptr (dC d)),(13,.dptr (sC (ym s))),(14,.dptr (sC a)),(15,.int .i64 ea),(16,.dptr (sC b)),(17,.int .i64 eb),(18,.dptr (sC c)),(19,.int .i64 ec)]) rfl
 have c7:=c6.trans b7
 obtain ⟨B,hBw⟩:∃ B,B=w7.heap.size:=⟨_,rfl⟩
 have hJ:∀ b,b<w7.heap.size→(frI B).fr b→bs0.fr b:=fun b hb (h:B≤b)=>by omega
 have hS:∀ b,S' B b→b<w7.heap.size:=fun b (hb:b<B)=>by omega
 have kI:Dry (frI B) (S' B) [(1,.int .i64 id),(3,.int .i64 num),(10,.dptr (bdC d)),(13,.dptr (bsC (ym s)))] a7 w7:=(k7.bor (J:=frI B) (S:=S' B) hJ rfl).keep [1,3,10,13]
 refine wp_seq ((kI.wet hS).part ZP (hE (frI B)) z7 (zGm (fun _=>none) (ym s) x d id num ex jX) (by kernel_rfl) fun a8 w8 q8 z8 p8=> ?_)
 obtain ⟨kX,b8⟩:=q8.dry (env':=[(1,.int .i64 id),(3,.int .i64 num),(10,.dptr (bdC d)),(13,.dptr (bsC (ym s))),(20,.dptr (sC x)),(21,.int .i64 ex)]) rfl
 have c8:=c7.trans b8
 have kX:Dry (frI B) (S' B) [(20,.dptr (sC x)),(21,.int .i64 ex)] a8 w8:=kX.keep [20,21]
 obtain ⟨bx,ox,qa,ma,qc,mc,tx,tc,ln,h20,T⟩:=zHN (x:=x) (kX.keep [20]) hpos
 have kx:Dry bs0 noO [(20,.dptr (sC x)),(21,.int .i64 ex)] a8 w8:=by
  intro k v hv
  obtain ⟨u,e1,e2⟩:=kX k v hv
  simp only [look] at hv
  split at hv
  ·cases hv;exact ⟨u,e1,ztJ (J:=bs0) (fun b hb (h:False)=>h.elim) (zG x) e2⟩
  split at hv
  ·cases hv;exact ⟨u,e1,zjc (J:=bs0) (fun b hb (h:False)=>h.elim) rfl e2⟩
  ·cases hv
 have ke:=UW p8 [1,2,3,5,6,10,13,14,15,16,17,18,19] (by kernel_rfl)
 have k8:Dry bs0 noO [(1,.int .i64 id),(2,.int .i64 role),(3,.int .i64 num),(5,.int .i64 n),(6,.dptr (sC s)),(10,.dptr (dC d)),(13,.dptr (sC (ym s))),(14,.dptr (sC a)),(15,.int .i64 ea),(16,.dptr (sC b)),(17,.int .i64 eb),(18,.dptr (sC c)),(19,.int .i64 ec),(20,.dptr (sC x)),(21,.int .i64 ex)] a8 w8:=(k7.on b8 ke rfl).app kx
 refine wp_seq ((k8.wet (S0 w8)).part ZP (hE bs0) z8 (zHh (fun _=>none) s (ym s) a b c x y d id role num n ea eb ec ex out jY) (by kernel_rfl) fun a9 w9 q9 z9 p9=> ?_)
 obtain ⟨k9,b9⟩:=q9.dry (env':=[(1,.int .i64 id),(2,.int .i64 role),(3,.int .i64 num),(5,.int .i64 n),(6,.dptr (sC s)),(10,.dptr (dC d)),(13,.dptr (sC (ym s))),(14,.dptr (sC a)),(15,.int .i64 ea),(16,.dptr (sC b)),(17,.int .i64 eb),(18,.dptr (sC c)),(19,.int .i64 ec),(20,.dptr (sC x)),(21,.int .i64 ex),(22,.dptr (sC y)),(23,.data false 3 (pcs out) false)]) rfl
 have c9:=c8.trans b9
 have hso:aP (fun _=>none) FT yN [.agg (sC (ym s)),.agg (sC s)]=some (.bool true):=by
  rw [KH _ (ym s) s hc]
  congr 2
  exact JM ⟨rfl,rfl,rfl,NK s.q,rfl,rfl,rfl,rfl⟩
 have hM:=zye (fun _=>none) s hs
 refine wp_seq ((k9.wet (S0 w9)).part ZP (hE bs0) z9 (zHy (fun _=>none) s (ym s) a b c x y d id role num n ea eb ec ex out hso) (by kernel_rfl) fun a10 w10 q10 z10 p10=> ?_)
 obtain ⟨k10,b10⟩:=q10.dry (env':=[(1,.int .i64 id),(2,.int .i64 role),(3,.int .i64 num),(5,.int .i64 n),(6,.dptr (sC s)),(10,.dptr (dC d)),(13,.dptr (sC (ym s))),(14,.dptr (sC a)),(15,.int .i64 ea),(16,.dptr (sC b)),(17,.int .i64 eb),(18,.dptr (sC c)),(19,.int .i64 ec),(20,.dptr (sC x)),(21,.int .i64 ex),(22,.dptr (sC y)),(23,.data false 3 (pcs out) false)]++[(86,.bool false)]) rfl
 have k10:Dry bs0 noO [(1,.int .i64 id),(2,.int .i64 role),(3,.int .i64 num),(5,.int .i64 n),(6,.dptr (sC s)),(10,.dptr (dC d)),(13,.dptr (sC (ym s))),(14,.dptr (sC a)),(15,.int .i64 ea),(16,.dptr (sC b)),(17,.int .i64 eb),(18,.dptr (sC c)),(19,.int .i64 ec),(20,.dptr (sC x)),(21,.int .i64 ex),(22,.dptr (sC y)),(23,.data false 3 (pcs out) false)] a10 w10:=k10.keep [1,2,3,5,6,10,13,14,15,16,17,18,19,20,21,22,23]
 have c10:=c9.trans b10
 cases hm:yj s with
 | false=>
  rw [hm] at hM
  rw [zB9 hm] at hA hB hC
  rw [zzW hm] at hX
  rw [zui hm] at hY
  obtain ⟨rfl,rfl⟩:=Prod.mk.inj hA
  obtain ⟨rfl,rfl⟩:=Prod.mk.inj hB
  obtain ⟨rfl,rfl⟩:=Prod.mk.inj hC
  obtain ⟨rfl,rfl⟩:=Prod.mk.inj hX
  obtain ⟨rfl,rfl⟩:=Prod.mk.inj hY
  have hz:=zGx (G:=fun _=>none) (g:=zS) (e:=2) hs hm rfl rfl
  have hzz:aP (fun _=>none) FT yN [.agg (sC zS),.agg zT]=some (.bool true):=by
   rw [← zDu,KH _ zS _ zi6]
   congr 2
  refine wp_seq ((k10.wet (S0 w10)).part ZP (hE bs0) z10 (zCV (fun _=>none) s (ym s) zS zS zS zS zS d id role num n 2 2 2 2 [] hM hz hz hz hz hzz rfl) (by kernel_rfl) fun aR wR qR zR pR=> ?_)
  exact ret aR wR _ _ _ _ qR zR c10
 | true=>
  rw [hm] at hM
  have vA:=zqw hm id role
  have vB:=znO hm id
  have vC:=zlF hm id role
  have vX:=zqu hm id num d
  have vY:=znz hm n
  rw [hA] at vA
  rw [hB] at vB
  rw [hC] at vC
  rw [hX] at vX
  rw [hY] at vY
  have iA:=zuG (fun _=>none) s hs hm hq9 id role
  have iB:=zpO (fun _=>none) s hs hm hq9 id
  have iC:=znf (fun _=>none) s hs hm hq9 id role
  have iX:=zut (fun _=>none) s hs hm hq9 id num d hdl
  have iY:=zqg (fun _=>none) s hs n
  obtain ⟨aa,fa,hA1⟩:∃ aa fa,NF s (j3 s.mem id role)=(aa,fa):=⟨_,_,rfl⟩
  obtain ⟨bb,fb,hB1⟩:∃ bb fb,zgE s (u6 s.mem id) id=(bb,fb):=⟨_,_,rfl⟩
  obtain ⟨cc,fc,hC1⟩:∃ cc fc,NF s (yK s.mem id role)=(cc,fc):=⟨_,_,rfl⟩
  obtain ⟨xx,fx,hX1⟩:∃ xx fx,zaQ s id num d=(xx,fx):=⟨_,_,rfl⟩
  obtain ⟨yy,out1,hY1⟩:∃ yy out1,JV s n=(yy,out1):=⟨_,_,rfl⟩
  rw [hA1] at vA iA
  rw [hB1] at vB iB
  rw [hC1] at vC iC
  rw [hX1] at vX iX
  rw [hY1] at vY iY
  have wA:=zr8 (G:=fun _=>none) hs oA vA
  have wB:=zr8 (G:=fun _=>none) hs oB vB
  have wC:=zr8 (G:=fun _=>none) hs oC vC
  have wX:=zr8 (G:=fun _=>none) hs oX vX
  have wY:aP (fun _=>none) FT yN [.agg (sC y),.agg (sC yy)]=some (.bool true):=by rw [KH _ y yy oY.1,JM vY.1]
  have wO:∀ b1 f1 b2 f2,aP (fun _=>none) FT VN [.data b1 3 (pcs out) f1,.data b2 3 (pcs out1) f2]=some (.bool true):=fun b1 f1 b2 f2=>by rw [ziP _ out out1 b1 f1 b2 f2 oY.2,vY.2]
  refine wp_seq ((k10.wet (S0 w10)).part ZP (hE bs0) z10 (zC2 (fun _=>none) s (ym s) a b c x y d id role num n ea eb ec ex out hM) (by kernel_rfl) fun a11 w11 q11 z11 p11=> ?_)
  obtain ⟨k11,b11⟩:=q11.dry (env':=[(1,.int .i64 id),(2,.int .i64 role),(3,.int .i64 num),(5,.int .i64 n),(6,.dptr (sC s)),(10,.dptr (dC d)),(13,.dptr (sC (ym s))),(14,.dptr (sC a)),(15,.int .i64 ea),(16,.dptr (sC b)),(17,.int .i64 eb),(18,.dptr (sC c)),(19,.int .i64 ec),(20,.dptr (sC x)),(21,.int .i64 ex),(22,.dptr (sC y)),(23,.data false 3 (pcs out) false)]++[(89,.bool false)]) rfl
  have k11:Dry bs0 noO [(1,.int .i64 id),(2,.int .i64 role),(3,.int .i64 num),(5,.int .i64 n),(6,.dptr (sC s)),(10,.dptr (dC d)),(13,.dptr (sC (ym s))),(14,.dptr (sC a)),(15,.int .i64 ea),(16,.dptr (sC b)),(17,.int .i64 eb),(18,.dptr (sC c)),(19,.int .i64 ec),(20,.dptr (sC x)),(21,.int .i64 ex),(22,.dptr (sC y)),(23,.data false 3 (pcs out) false)] a11 w11:=k11.keep [1,2,3,5,6,10,13,14,15,16,17,18,19,20,21,22,23]
  have c11:=c10.trans b11
  refine wp_seq ((k11.wet (S0 w11)).part ZP (hE bs0) z11 (zEO (fun _=>none) s (ym s) a b c x y aa d id role num n ea eb ec ex fa out iA) (by kernel_rfl) fun a12 w12 q12 z12 p12=> ?_)
  obtain ⟨k12,b12⟩:=q12.dry (env':=[(1,.int .i64 id),(2,.int .i64 role),(3,.int .i64 num),(5,.int .i64 n),(6,.dptr (sC s)),(10,.dptr (dC d)),(13,.dptr (sC (ym s))),(14,.dptr (sC a)),(15,.int .i64 ea),(16,.dptr (sC b)),(17,.int .i64 eb),(18,.dptr (sC c)),(19,.int .i64 ec),(20,.dptr (sC x)),(21,.int .i64 ex),(22,.dptr (sC y)),(23,.data false 3 (pcs out) false),(25,.dptr (sC aa)),(26,.int .i64 fa)]) rfl
  have c12:=c11.trans b12
  refine wp_seq ((k12.wet (S0 w12)).part ZP (hE bs0) z12 (zGg (fun _=>none) s (ym s) a b c x y aa bb d id role num n ea eb ec ex fa fb out iB) (by kernel_rfl) fun a13 w13 q13 z13 p13=> ?_)
  obtain ⟨k13,b13⟩:=q13.dry (env':=[(1,.int .i64 id),(2,.int .i64 role),(3,.int .i64 num),(5,.int .i64 n),(6,.dptr (sC s)),(10,.dptr (dC d)),(13,.dptr (sC (ym s))),(14,.dptr (sC a)),(15,.int .i64 ea),(16,.dptr (sC b)),(17,.int .i64 eb),(18,.dptr (sC c)),(19,.int .i64 ec),(20,.dptr (sC x)),(21,.int .i64 ex),(22,.dptr (sC y)),(23,.data false 3 (pcs out) false),(25,.dptr (sC aa)),(26,.int .i64 fa),(27,.dptr (sC bb)),(28,.int .i64 fb)]) rfl
  have c13:=c12.trans b13
  refine wp_seq ((k13.wet (S0 w13)).part ZP (hE bs0) z13 (zEV (fun _=>none) s (ym s) a b c x y aa bb cc d id role num n ea eb ec ex fa fb fc out iC) (by kernel_rfl) fun a14 w14 q14 z14 p14=> ?_)
  obtain ⟨k14,b14⟩:=q14.dry (env':=[(1,.int .i64 id),(3,.int .i64 num),(5,.int .i64 n),(6,.dptr (sC s)),(10,.dptr (dC d)),(13,.dptr (sC (ym s))),(14,.dptr (sC a)),(15,.int .i64 ea),(16,.dptr (sC b)),(17,.int .i64 eb),(18,.dptr (sC c)),(19,.int .i64 ec),(20,.dptr (sC x)),(21,.int .i64 ex),(22,.dptr (sC y)),(23,.data false 3 (pcs out) false),(25,.dptr (sC aa)),(26,.int .i64 fa),(27,.dptr (sC bb)),(28,.int .i64 fb),(29,.dptr (sC cc)),(30,.int .i64 fc)]) rfl
  have c14:=c13.trans b14
  refine wp_seq ((k14.wet (S0 w14)).part ZP (hE bs0) z14 (zFr (fun _=>none) s (ym s) a b c x y aa bb cc xx d id num n ea eb ec ex fa fb fc fx out iX) (by kernel_rfl) fun a15 w15 q15 z15 p15=> ?_)
  obtain ⟨k15,b15⟩:=q15.dry (env':=[(5,.int .i64 n),(6,.dptr (sC s)),(13,.dptr (sC (ym s))),(14,.dptr (sC a)),(15,.int .i64 ea),(16,.dptr (sC b)),(17,.int .i64 eb),(18,.dptr (sC c)),(19,.int .i64 ec),(20,.dptr (sC x)),(21,.int .i64 ex),(22,.dptr (sC y)),(23,.data false 3 (pcs out) false),(25,.dptr (sC aa)),(26,.int .i64 fa),(27,.dptr (sC bb)),(28,.int .i64 fb),(29,.dptr (sC cc)),(30,.int .i64 fc),(31,.dptr (sC xx)),(32,.int .i64 fx)]) rfl
  have c15:=c14.trans b15
  refine wp_seq ((k15.wet (S0 w15)).part ZP (hE bs0) z15 (zE7 (fun _=>none) s (ym s) a b c x y aa bb cc xx yy n ea eb ec ex fa fb fc fx out out1 iY) (by kernel_rfl) fun a16 w16 q16 z16 p16=> ?_)
  obtain ⟨k16,b16⟩:=q16.dry (env':=[(6,.dptr (sC s)),(13,.dptr (sC (ym s))),(14,.dptr (sC a)),(15,.int .i64 ea),(16,.dptr (sC b)),(17,.int .i64 eb),(18,.dptr (sC c)),(19,.int .i64 ec),(20,.dptr (sC x)),(21,.int .i64 ex),(22,.dptr (sC y)),(23,.data false 3 (pcs out) false),(25,.dptr (sC aa)),(26,.int .i64 fa),(27,.dptr (sC bb)),(28,.int .i64 fb),(29,.dptr (sC cc)),(30,.int .i64 fc),(31,.dptr (sC xx)),(32,.int .i64 fx),(33,.dptr (sC yy)),(34,.data false 3 (pcs out1) false)]) rfl
  have c16:=c15.trans b16
  refine wp_seq ((k16.wet (S0 w16)).part ZP (hE bs0) z16 (zF8 (fun _=>none) s (ym s) a b c x y aa bb cc xx yy ea eb ec ex fa fb fc fx out out1 wA wB wC wX wY wO) (by kernel_rfl) fun a17 w17 q17 z17 p17=> ?_)
  obtain ⟨k17,b17⟩:=q17.dry (env':=[(6,.dptr (sC s)),(13,.dptr (sC (ym s))),(20,.dptr (sC x))]++[(206,.bool false)]) rfl
  have c17:=c16.trans b17
  have kp:∀ s ∈ [6,13,20],a17.tmps[s]? =a8.tmps[s]? :=(kept_trans (kept_trans (kept_trans (kept_trans (kept_trans (kept_trans (kept_trans (kept_trans (UW p9 [6,13,20] (by kernel_rfl)) (UW p10 [6,13,20] (by kernel_rfl))) (UW p11 [6,13,20] (by kernel_rfl))) (UW p12 [6,13,20] (by kernel_rfl))) (UW p13 [6,13,20] (by kernel_rfl))) (UW p14 [6,13,20] (by kernel_rfl))) (UW p15 [6,13,20] (by kernel_rfl))) (UW p16 [6,13,20] (by kernel_rfl))) (UW p17 [6,13,20] (by kernel_rfl)))
  have bN:Bel w8 w17:=((((((((b9.trans b10).trans b11).trans b12).trans b13).trans b14).trans b15).trans b16).trans b17)
  have e17:zrX 17 zpM=.seq zEo (.seq zDc (cs2 (cs2 (zrX 17 zpM)))):=by kernel_rfl
  show (zrX 17 zpM).wp Tryz.prog _ a17 w17
  rw [e17]
  have h20':=(kp 20 (by simp)).trans h20
  have t6:=kp 6 (by simp)
  have t13:=kp 13 (by simp)
  obtain ⟨tN,dN⟩:=a17
  obtain ⟨hsN,rfl⟩:=z17
  refine zCR (B:=B) hsN h20' (T.on bN) (by have:=oX.2.2.1;omega) (by have:=oX.1;omega) fun t' W hs' h6' h13' K=> ?_
  have bW:Bel w7 W:=by
   have A:=b8.trans bN
   exact ⟨K.os.trans A.os,K.tape.trans A.tape,K.output.trans A.output,Nat.le_trans A.size K.size,fun c hc hO=>(K.same c (by omega)).trans (A.same c hc hO),fun _ h=>h.elim⟩
  have kW:Dry bs0 noO [(6,.dptr (sC s)),(13,.dptr (sC (ym s)))] { tmps:=t',defers:=[] } W:=by
   intro k v hv
   simp only [look] at hv
   split at hv
   ·rename_i e;cases hv;subst e
    obtain ⟨u,e1,e2⟩:=k7 6 _ rfl
    exact ⟨u,h6'.trans (t6.trans ((ke 6 (by simp)).trans e1)), @zB.advX bs0 _ _ _ _ _ _ _ _ _ e2 (.refl _) bW⟩
   split at hv
   ·rename_i e;cases hv;subst e
    obtain ⟨u,e1,e2⟩:=k7 13 _ rfl
    exact ⟨u,h13'.trans (t13.trans ((ke 13 (by simp)).trans e1)), @zB.advX bs0 _ _ _ _ _ _ _ _ _ e2 (.refl _) bW⟩
   ·cases hv
  refine (kW.wet (S0 W)).part ZP (hE bs0) ⟨hs',rfl⟩ (zFV (fun _=>none) s (ym s) hso) (by kernel_rfl) fun aE wE kE zE pE=> ?_
  exact ret aE wE _ _ _ _ kE zE (c7.trans bW)
end
end
end Go.Proofs.YthcnhibjddomdaaGreat
