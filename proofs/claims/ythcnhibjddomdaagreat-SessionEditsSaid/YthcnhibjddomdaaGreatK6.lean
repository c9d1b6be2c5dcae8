/- Parts of the proof: Ros2, Ros3, Ros4, Tok1, Tok2, Tok3, Tok4, Sz1, Sz2, Mg1, Se1, Se2, Se3, Se4, Se5, Se6, Se7, Se8, Se9, Sea, Sei, Mg2, Sz3, Sf1, Ros5, TokP. Conditions: as each statement says. -/
import Derived.Test.YthcnhibjddomdaaGreatK5
import Derived.Test.YthcnhibjddomdaaGreatK3
import Derived.KernelRfl
set_option maxRecDepth 100000
set_option maxHeartbeats 8000000
set_option linter.unusedVariables false
set_option linter.unusedSimpArgs false
set_option linter.unusedSectionVars false
namespace Go.Proofs.YthcnhibjddomdaaGreat
section
open Go
def zg:List (Int×Int)→Int→Int
 | [],_=>0
 | m::t,id=>if m.1=id then m.2 else zg t id
def yw (l:List (Int×Int)) (id:Int):Nat:=(l.filter fun m=>decide (m.1<id)).length
theorem vV (last:Int) (m:Int×Int):okM last m=true↔last<m.1∧m.1≤8∧(m.2=1∨m.2=2):=by
 simp [okM,UE];constructor<;>(intro h;simp_all)
theorem Uv:∀ (l:List (Int×Int)) (last:Int),yO last l=true→∀ m ∈ l,last<m.1∧m.1≤8∧(m.2=1∨m.2=2)
 | [],_,_,m,hm=>by simp at hm
 | x::t,last,h,m,hm=>by
  rw [yO,Bool.and_eq_true,vV] at h
  rcases List.mem_cons.1 hm with rfl | hm
  ·exact h.1
  ·have:=Uv t x.1 h.2 m hm
   exact ⟨by omega,this.2⟩
theorem zjQ:∀ (l:List (Int×Int)) (last:Int),yO last l=true→0≤last→(l.length:Int)≤8 - last∨l=[]
 | [],_,_,_=>.inr rfl
 | x::t,last,h,h0=>by
  rw [yO,Bool.and_eq_true,vV] at h
  rcases zjQ t x.1 h.2 (by omega) with h1 | rfl
  ·left;simp only [List.length_cons];omega
  ·left;simp only [List.length_cons,List.length_nil];omega
theorem NE {l:List (Int×Int)} (h:y5 l=true):l.length≤8:=by
 rcases zjQ l 0 h (by omega) with h1 | rfl
 ·omega
 ·simp
theorem ZW:∀ (l:List (Int×Int)) (last:Int),yO last l=true→∀ id,id≤last→zg l id=0
 | [],_,_,_,_=>rfl
 | x::t,last,h,id,hid=>by
  rw [yO,Bool.and_eq_true,vV] at h
  rw [zg,if_neg (by omega)]
  exact ZW t x.1 h.2 id (by omega)
theorem KZ:∀ (l:List (Int×Int)) (last:Int),yO last l=true→∀ id,8<id→zg l id=0
 | [],_,_,_,_=>rfl
 | x::t,last,h,id,hid=>by
  rw [yO,Bool.and_eq_true,vV] at h
  rw [zg,if_neg (by omega)]
  exact KZ t x.1 h.2 id hid
theorem zgF:∀ (l:List (Int×Int)) (last:Int),yO last l=true→∀ id,zg l id=0∨zg l id=1∨zg l id=2
 | [],_,_,_=>.inl rfl
 | x::t,last,h,id=>by
  rw [yO,Bool.and_eq_true,vV] at h
  rw [zg]
  split
  ·exact .inr h.1.2.2
  ·exact zgF t x.1 h.2 id
def ros (f:Int→Int):Nat→Int→List (Int×Int)
 | 0,_=>[]
 | n+1,k=>if f k≠0 then (k,f k)::ros f n (k+1) else ros f n (k+1)
theorem zcJ {f g:Int→Int}:∀ (n:Nat) (k:Int),(∀ j,k≤j→f j=g j)→ros f n k=ros g n k
 | 0,_,_=>rfl
 | n+1,k,h=>by rw [ros,ros,h k (Int.le_refl _),zcJ n (k+1) fun j hj=>h j (by omega)]
theorem zn1 {f:Int→Int}:∀ (n:Nat) (k:Int),(∀ j,k≤j→f j=0)→ros f n k=[]
 | 0,_,_=>rfl
 | n+1,k,h=>by rw [ros,if_neg (by simp [h k (Int.le_refl _)]),zn1 n (k+1) fun j hj=>h j (by omega)]
theorem zls:∀ (n:Nat) (k:Int) (l:List (Int×Int)),k+n=9→yO (k - 1) l=true→l=ros (zg l) n k
 | 0,k,l,hk,h=>by
  cases l with
  | nil=>rfl
  | cons m t=>
   rw [yO,Bool.and_eq_true,vV] at h
   omega
 | n+1,k,l,hk,h=>by
  cases l with
  | nil=>exact (zn1 (f:=zg []) _ _ fun _ _=>rfl).symm
  | cons m t=>
   rw [yO,Bool.and_eq_true,vV] at h
   obtain ⟨⟨h1,h2,h3⟩,h4⟩:=h
   by_cases e:m.1=k
   ·have hr:zg (m::t) k=m.2:=by rw [zg,if_pos e]
    rw [ros,hr,if_pos (by omega)]
    have ih:=zls n (k+1) t (by omega) (by rw [show k+1 - 1=m.1 by omega];exact h4)
    rw [zcJ (g:=zg t) n (k+1) fun j hj=>by rw [zg,if_neg (by omega)],← ih]
    congr 1
    exact Prod.ext e rfl
   ·have hr:zg (m::t) k=0:=by rw [zg,if_neg e];exact ZW t m.1 h4 k (by omega)
    rw [ros,hr,if_neg (by simp)]
    exact zls n (k+1) (m::t) (by omega) (by rw [yO,Bool.and_eq_true,vV];exact ⟨⟨by omega,h2,h3⟩,h4⟩)
theorem znW {l:List (Int×Int)} (h:y5 l=true):l=ros (zg l) 8 1:=zls 8 1 l (by omega) h
theorem zkT {f:Int→Int} (hf:∀ k,f k=0∨f k=1∨f k=2):∀ (n:Nat) (k last:Int),k+n=9→last<k→yO last (ros f n k)=true
 | 0,_,_,_,_=>rfl
 | n+1,k,last,hk,hl=>by
  rw [ros]
  split
  ·rw [yO,Bool.and_eq_true,vV]
   rename_i h0
   refine ⟨⟨hl,by omega, ?_⟩,zkT hf n (k+1) k (by omega) (by omega)⟩
   rcases hf k with h | h | h
   ·exact absurd h h0
   ·exact .inl h
   ·exact .inr h
  ·exact zkT hf n (k+1) last (by omega) (by omega)
theorem zhu {f:Int→Int}:∀ (n:Nat) (k id:Int),k+n=9→k≤id→id≤8→zg (ros f n k) id=f id
 | 0,k,id,hk,h1,h2=>by omega
 | n+1,k,id,hk,h1,h2=>by
  rw [ros]
  split
  ·rename_i h0
   by_cases e:k=id
   ·subst e;rw [zg,if_pos rfl]
   ·rw [zg,if_neg e,zhu n (k+1) id (by omega) (by omega) h2]
  ·rename_i h0
   by_cases e:k=id
   ·subst e
    have h0:f k=0:=by simpa using h0
    rw [h0]
    have key:∀ (n:Nat) (j:Int),k<j→zg (ros f n j) k=0:=by
     intro n
     induction n with
     | zero=>intro j _;rfl
     | succ n ih=>
      intro j hj
      rw [ros]
      split
      ·rw [zg,if_neg (by simp only;omega),ih (j+1) (by omega)]
      ·exact ih (j+1) (by omega)
    exact key n (k+1) (by omega)
   ·exact zhu n (k+1) id (by omega) (by omega) h2
theorem zkp {l l':List (Int×Int)} (h:y5 l=true) (h':y5 l'=true) (he:∀ id,1≤id→id≤8→zg l id=zg l' id):l=l':=by
 rw [znW h,znW h']
 refine zcJ 8 1 fun j hj=> ?_
 by_cases h8:j≤8
 ·exact he j hj h8
 ·rw [KZ l 0 h j (by omega),KZ l' 0 h' j (by omega)]
theorem zyH:∀ (l:List (Int×Int)) (last:Int),yO last l=true→∀ (id:Int) (t:Nat) (h:t<l.length),(l[t].1<id↔t<yw l id)
 | [],_,_,_,_,h=>by simp at h
 | m::r,last,h,id,t,ht=>by
  have hall:=Uv r m.1 (by rw [yO,Bool.and_eq_true] at h;exact h.2)
  have hr:yO m.1 r=true:=by rw [yO,Bool.and_eq_true] at h;exact h.2
  by_cases e:m.1<id
  ·have hc:yw (m::r) id=yw r id+1:=by simp [yw,e]
   cases t with
   | zero=>simp [e,hc]
   | succ t=>
    have:=zyH r m.1 hr id t (by simpa using ht)
    simp only [List.getElem_cons_succ]
    rw [this,hc];omega
  ·have hc:yw (m::r) id=0:=by
    simp only [yw,List.length_eq_zero_iff,List.filter_eq_nil_iff]
    intro x hx
    rcases List.mem_cons.1 hx with rfl | hx
    ·simpa using e
    ·have:=hall x hx;simp;omega
   rw [hc]
   cases t with
   | zero=>simpa using e
   | succ t=>
    have:=hall (r[t]'(by simpa using ht)) (List.getElem_mem _)
    simp only [List.getElem_cons_succ]
    omega
theorem zAk (l:List (Int×Int)) (id:Int):yw l id≤l.length:=List.length_filter_le _ _
theorem zbz:∀ (l:List (Int×Int)) (last:Int),yO last l=true→∀ (id:Int),(zg l id≠0↔∃ h:yw l id<l.length,l[yw l id].1=id)∧∀ h:yw l id<l.length,l[yw l id].1=id→l[yw l id]=(id,zg l id)
 | [],_,_,_=>by simp [zg]
 | m::r,last,h,id=>by
  rw [yO,Bool.and_eq_true,vV] at h
  obtain ⟨⟨_,h8,h12⟩,hr⟩:=h
  obtain ⟨ih1,ih2⟩:=zbz r m.1 hr id
  have hall:=Uv r m.1 hr
  by_cases e:m.1<id
  ·have hc:yw (m::r) id=yw r id+1:=by simp [yw,e]
   have hro:zg (m::r) id=zg r id:=by rw [zg,if_neg (by omega)]
   simp only [hc,hro,List.length_cons,List.getElem_cons_succ]
   refine ⟨?_,fun h1 h2=>ih2 (by omega) h2⟩
   rw [ih1]
   constructor
   ·rintro ⟨h1,h2⟩;exact ⟨by omega,h2⟩
   ·rintro ⟨h1,h2⟩;exact ⟨by omega,h2⟩
  ·have hc:yw (m::r) id=0:=by
    simp only [yw,List.length_eq_zero_iff,List.filter_eq_nil_iff]
    intro x hx
    rcases List.mem_cons.1 hx with rfl | hx
    ·simpa using e
    ·have:=hall x hx;simp;omega
   simp only [hc,List.length_cons,List.getElem_cons_zero]
   by_cases e2:m.1=id
   ·have hro:zg (m::r) id=m.2:=by rw [zg,if_pos e2]
    rw [hro]
    exact ⟨⟨fun _=>⟨by omega,e2⟩,fun _=>by omega⟩,fun _ _=>Prod.ext e2 rfl⟩
   ·have hro:zg (m::r) id=0:=by rw [zg,if_neg e2];exact ZW r m.1 hr id (by omega)
    rw [hro]
    exact ⟨⟨fun h=>absurd rfl h,fun ⟨_,h⟩=>absurd h e2⟩,fun _ h=>absurd h e2⟩
def DU (f:Int→Int) (id r:Int) (k:Int):Int:=if k=id then r else f k
def uT (l:List (Int×Int)) (id r:Int):List (Int×Int):=ros (DU (zg l) id r) 8 1
theorem zAh {l:List (Int×Int)} (h:y5 l=true) {id r:Int} (hr:r=0∨r=1∨r=2) (k:Int):DU (zg l) id r k=0∨DU (zg l) id r k=1∨DU (zg l) id r k=2:=by
 unfold DU;split
 ·exact hr
 ·exact zgF l 0 h k
theorem jU {l:List (Int×Int)} (h:y5 l=true) {id r:Int} (hr:r=0∨r=1∨r=2):y5 (uT l id r)=true:=zkT (zAh h hr) 8 1 0 (by omega) (by omega)
theorem Ti (l:List (Int×Int)) (id r k:Int) (h1:1≤k) (h8:k≤8):zg (uT l id r) k=if k=id then r else zg l k:=zhu 8 1 k (by omega) h1 h8
theorem zAD:∀ (l:List (Int×Int)) (last:Int),yO last l=true→∀ (id r:Int),last<id→id≤8→(r=1∨r=2)→zg l id=0→
  yO last (l.take (yw l id)++[(id,r)]++l.drop (yw l id))=true∧∀ k,zg (l.take (yw l id)++[(id,r)]++l.drop (yw l id)) k=if k=id then r else zg l k
 | [],last,_,id,r,h1,h8,hr,_=>by
  refine ⟨by simp [yw,yO];exact (vV _ _).2 ⟨h1,h8,hr⟩,fun k=> ?_⟩
  simp only [yw,List.filter_nil,List.length_nil,List.take_nil,List.nil_append,List.drop_nil,List.append_nil,zg]
  by_cases e:id=k
  ·simp [e]
  ·rw [if_neg e,if_neg (fun h=>e h.symm)]
 | m::t,last,h,id,r,h1,h8,hr,h0=>by
  rw [yO,Bool.and_eq_true] at h
  have hm:=(vV _ _).1 h.1
  have hall:=Uv t m.1 h.2
  have hne:¬ m.1=id:=fun e=>by rw [zg,if_pos e] at h0;omega
  rw [zg,if_neg hne] at h0
  by_cases e:m.1<id
  ·have hc:yw (m::t) id=yw t id+1:=by simp [yw,e]
   obtain ⟨i1,i2⟩:=zAD t m.1 h.2 id r e h8 hr h0
   rw [hc]
   simp only [List.take_succ_cons,List.drop_succ_cons,List.cons_append]
   refine ⟨by rw [yO,Bool.and_eq_true];exact ⟨h.1,i1⟩,fun k=> ?_⟩
   rw [zg,i2,zg]
   by_cases e1:m.1=k
   ·rw [if_pos e1,if_neg (by omega),if_pos e1]
   ·rw [if_neg e1,if_neg e1]
  ·have hc:yw (m::t) id=0:=by
    simp only [yw,List.length_eq_zero_iff,List.filter_eq_nil_iff]
    intro x hx
    rcases List.mem_cons.1 hx with rfl | hx
    ·simpa using e
    ·have:=hall x hx;simp;omega
   rw [hc]
   simp only [List.take_zero,List.drop_zero,List.nil_append,List.cons_append]
   refine ⟨?_,fun k=> ?_⟩
   ·rw [yO,yO,Bool.and_eq_true,Bool.and_eq_true]
    exact ⟨(vV _ _).2 ⟨h1,h8,hr⟩,(vV _ _).2 ⟨by simp only;omega,hm.2⟩,h.2⟩
   ·rw [zg]
    by_cases e1:id=k
    ·simp [e1]
    ·rw [if_neg e1,if_neg (fun h=>e1 h.symm)]
theorem zvj {l:List (Int×Int)} (h:y5 l=true) {id r:Int} (h1:1≤id) (h8:id≤8) (hr:r=1∨r=2) (h0:zg l id=0):l.take (yw l id)++[(id,r)]++l.drop (yw l id)=uT l id r:=by
 obtain ⟨i1,i2⟩:=zAD l 0 h id r (by omega) h8 hr h0
 exact zkp i1 (jU h (.inr hr)) fun k hk1 hk8=>by rw [i2,Ti l id r k hk1 hk8]
theorem zA1:∀ (l:List (Int×Int)) (last:Int),yO last l=true→∀ (id r:Int),zg l id=r→r≠0→
  yO last (l.filter fun m=> !decide (m=(id,r)))=true∧∀ k,zg (l.filter fun m=> !decide (m=(id,r))) k=if k=id then 0 else zg l k
 | [],_,_,id,r,h,h0=>absurd h.symm h0
 | m::t,last,h,id,r,hr,h0=>by
  rw [yO,Bool.and_eq_true] at h
  have hm:=(vV _ _).1 h.1
  have weak:∀ (l:List (Int×Int)) (a b:Int),a≤b→yO b l=true→yO a l=true:=by
   intro l a b hab hl
   cases l with
   | nil=>rfl
   | cons x l=>
    rw [yO,Bool.and_eq_true,vV] at hl ⊢
    exact ⟨⟨by omega,hl.1.2⟩,hl.2⟩
  by_cases e:m.1=id
  ·have hmr:m=(id,r):=by rw [zg,if_pos e] at hr;exact Prod.ext e hr
   have hall:=Uv t m.1 h.2
   have hno:(t.filter fun m=> !decide (m=(id,r)))=t:=List.filter_eq_self.2 fun x hx=>by
    have:=hall x hx
    simp only [Bool.not_eq_true',decide_eq_false_iff_not]
    intro e2;rw [e2] at this;simp only at this;omega
   have hf:((m::t).filter fun m=> !decide (m=(id,r)))=t:=by rw [List.filter_cons,if_neg (by simp [hmr]),hno]
   rw [hf]
   refine ⟨weak t last m.1 (by omega) h.2,fun k=> ?_⟩
   rw [zg]
   by_cases ek:k=id
   ·rw [if_pos ek];exact ZW t m.1 h.2 k (by omega)
   ·rw [if_neg ek,if_neg (by omega)]
  ·have hne:¬ m=(id,r):=fun h=>e (by rw [h])
   rw [zg,if_neg e] at hr
   obtain ⟨i1,i2⟩:=zA1 t m.1 h.2 id r hr h0
   have hf:((m::t).filter fun m=> !decide (m=(id,r)))=m::t.filter fun m=> !decide (m=(id,r)):=by rw [List.filter_cons,if_pos (by simp [hne])]
   rw [hf]
   refine ⟨by rw [yO,Bool.and_eq_true];exact ⟨h.1,i1⟩,fun k=> ?_⟩
   rw [zg,zg,i2]
   by_cases ek:k=id
   ·rw [if_pos ek,if_neg (by omega)];simp [ek]
   ·simp [ek]
theorem zpZ {l:List (Int×Int)} (h:y5 l=true) {id:Int} (h0:zg l id≠0):(l.filter fun m=> !decide (m=(id,zg l id)))=uT l id 0:=by
 obtain ⟨i1,i2⟩:=zA1 l 0 h id _ rfl h0
 exact zkp i1 (jU h (.inl rfl)) fun k hk1 hk8=>by rw [i2,Ti l id 0 k hk1 hk8]
theorem zyK:∀ (l:List (Int×Int)) (last:Int),yO last l=true→∀ (id r:Int),(r=1∨r=2)→zg l id≠0→
  yO last (l.set (yw l id) (id,r))=true∧∀ k,zg (l.set (yw l id) (id,r)) k=if k=id then r else zg l k
 | [],_,_,id,r,_,h0=>absurd rfl h0
 | m::t,last,h,id,r,hr,h0=>by
  rw [yO,Bool.and_eq_true] at h
  have hm:=(vV _ _).1 h.1
  have hall:=Uv t m.1 h.2
  by_cases e:m.1<id
  ·have hc:yw (m::t) id=yw t id+1:=by simp [yw,e]
   rw [zg,if_neg (by omega)] at h0
   obtain ⟨i1,i2⟩:=zyK t m.1 h.2 id r hr h0
   rw [hc,List.set_cons_succ]
   refine ⟨by rw [yO,Bool.and_eq_true];exact ⟨h.1,i1⟩,fun k=> ?_⟩
   rw [zg,i2,zg]
   by_cases e1:m.1=k
   ·rw [if_pos e1,if_neg (by omega),if_pos e1]
   ·rw [if_neg e1,if_neg e1]
  ·have hc:yw (m::t) id=0:=by
    simp only [yw,List.length_eq_zero_iff,List.filter_eq_nil_iff]
    intro x hx
    rcases List.mem_cons.1 hx with rfl | hx
    ·simpa using e
    ·have:=hall x hx;simp;omega
   have e2:m.1=id:=by
    rcases Int.lt_or_eq_of_le (Int.not_lt.1 e) with h' | h'
    ·exfalso;apply h0
     rw [zg,if_neg (by omega)]
     exact ZW t m.1 h.2 id (by omega)
    ·exact h'.symm
   rw [hc,List.set_cons_zero]
   refine ⟨by rw [yO,Bool.and_eq_true,vV];exact ⟨⟨by simp only;omega,by simp only;omega,hr⟩,by simp only;rw [← e2];exact h.2⟩,fun k=> ?_⟩
   rw [zg,zg]
   by_cases e1:k=id
   ·simp [e1]
   ·rw [if_neg (fun h=>e1 h.symm),if_neg e1,if_neg (by omega)]
theorem znF {l:List (Int×Int)} (h:y5 l=true) {id r:Int} (hr:r=1∨r=2) (h0:zg l id≠0):l.set (yw l id) (id,r)=uT l id r:=by
 obtain ⟨i1,i2⟩:=zyK l 0 h id r hr h0
 exact zkp i1 (jU h (.inr hr)) fun k hk1 hk8=>by rw [i2,Ti l id r k hk1 hk8]
end
end Go.Proofs.YthcnhibjddomdaaGreat
namespace Go.Proofs.YthcnhibjddomdaaGreat
section
open Go
variable (G:Nat→Option (List AV))
theorem zgl (m:Int×Int) (id:Int) (h:List zf) (h1:0≤m.1) (h2:m.1≤1000) (h3:0≤id) (h4:id≤1000):aR G FT jd [.agg [.int .i64 m.1,.int .i64 m.2],.int .i64 id] h=some (.int .i64 (m.1 - id),h++[⟨2,0,true,[[.int .i64 m.1,.int .i64 m.2]]⟩]):=by
 have hw:IntKind.i64.wrap (m.1 - id)=m.1 - id:=ZV _ (by omega) (by omega)
 have hg:(h++[(⟨2,0,true,[[.int .i64 m.1,.int .i64 m.2]]⟩:zf)])[h.length]? =some ⟨2,0,true,[[.int .i64 m.1,.int .i64 m.2]]⟩:=by simp
 rw [zaM]
 (sym=>simp [Qb,Qd,Qe,Qi,Qj,Qr,Qw,Q4,Xa,Xp,X6,Yj,Yr,Yt,Yv,Y1,Y5,Y7,Y9,Za,Zb,Zc,Ze,Zg,Zh,Zi,Zj,Zk,Zl,Zm,Zn,Zr,Zs,Zt,Zu,Zv,Zw,Zy,Z0,Jj,Jk,Jv,Jx,Ue,Uf,Ug,Hh,No,Be,zD8.eq_1,zDJ.eq_1,ZB.eq_1,hw,hg])
theorem half (i j:Nat) (h:i+j≤1000):IntKind.i64.wrap ((i:Int)+j)=((i+j:Nat):Int)∧IntKind.u64.wrap ((i+j:Nat):Int)=((i+j:Nat):Int)∧Int.fdiv ((i+j:Nat):Int) (2^min 1 IntKind.u64.bits)=(((i+j) / 2:Nat):Int)∧IntKind.i64.wrap (((i+j) / 2:Nat):Int)=(((i+j) / 2:Nat):Int):=by
 refine ⟨by rw [ZV _ (by omega) (by omega)];omega, ?_, ?_,ZV _ (by omega) (by omega)⟩
 ·simp [IntKind.wrap,IntKind.signed,IntKind.bits];omega
 ·show Int.fdiv ((i+j:Nat):Int) 2=_
  rw [Int.fdiv_eq_ediv_of_nonneg _ (by omega)];omega
theorem znM (l:List (Int×Int)) (b f:Bool) (id:Int) (hm:y5 l=true) (h1:1≤id) (h8:id≤8):∀ (m i j:Nat),j - i=m→i≤yw l id→yw l id≤j→j≤l.length→∀ e,
  aE G FT 0 yo ⟨[(0,.data b 2 (mbs l) f),(1,.int .i64 id),(2,.fn (.func jd) [] []),(8,.int .i64 l.length),(9,.int .i64 i),(10,.int .i64 j)],e⟩=
   some (.exit 0,⟨[(0,.data b 2 (mbs l) f),(1,.int .i64 id),(2,.fn (.func jd) [] []),(8,.int .i64 l.length),(9,.int .i64 (yw l id)),(10,.int .i64 (yw l id)),(17,.bool false)],[]⟩):=by
 intro m
 have hl8:=NE hm
 have gc:∀ (i j:Int) (e:List zf),agc 0 [0,1,2,8,9,10] ⟨[(0,.data b 2 (mbs l) f),(1,.int .i64 id),(2,.fn (.func jd) [] []),(8,.int .i64 l.length),(9,.int .i64 i),(10,.int .i64 j)],e⟩=
   some ⟨[(0,.data b 2 (mbs l) f),(1,.int .i64 id),(2,.fn (.func jd) [] []),(8,.int .i64 l.length),(9,.int .i64 i),(10,.int .i64 j)],[]⟩:=fun i j e=>by (sym=>simp [Y9,Za,Zb,Ze,Zk,Zl,Zv,Zw,Uw,Ux,U0,U4,U5,Va,Vb,Ve,Vi,Vo,Vq,Vr,Vt,Vv,Vw,Vy,Vz,V0,Hp,Hw,H1,No])
 induction m using Nat.strongRecOn with
 | _ m ih=>
 intro i j hm' hi hj hjl e
 rw [yo] at ih
 rw [yo,zn,gc]
 by_cases hij:i<j
 ·have hij':(i:Int)<j:=by omega
  obtain ⟨w1,w2,w3,w4⟩:=half i j (by omega)
  have u1:Dt .u64 ((i+j:Nat):Int)=.int .u64 ((i+j:Nat):Int):=by unfold Dt;rw [w2]
  have u2:Dt .i64 (((i+j) / 2:Nat):Int)=.int .i64 (((i+j) / 2:Nat):Int):=by unfold Dt;rw [w4]
  have ht:(i+j) / 2<l.length:=by omega
  have hg:=Tf ht
  have hc:=zyH l 0 hm id ((i+j) / 2) ht
  have hmem:=Uv l 0 hm _ (List.getElem_mem ht)
  have hP:=zgl G (l[(i+j) / 2]) id [] (by omega) (by omega) (by omega) (by omega)
  generalize l[(i+j) / 2]=x at hg hP hc hmem
  obtain ⟨a,r⟩:=x
  simp only [List.nil_append] at hP hg hc
  have hw:=zH (n:=(i+j) / 2) (by omega)
  by_cases hx:a<id
  ·have hx':a - id<0:=by omega
   have ih:=fun e=>ih (j - ((i+j) / 2+1)) (by omega) ((i+j) / 2+1) j rfl (by have:=hc.1 hx;omega) hj hjl e
   (sym=>simp [Qc,Qd,Qe,Qi,Qj,Qm,Qn,Qp,Qq,Qr,Qt,Q4,Xa,Xe,Xg,Xs,X5,Ya,Ys,Yu,Yy,Y9,Za,Zb,Zc,Ze,Zg,Zh,Zm,Zn,Zt,Zv,Zw,Jj,Jk,Jn,Jo,Jr,Js,Jv,Ke,Ho,Hq,Hs,Hv,Hw,Ni,Nk,Nl,Be,Bi,Ma,Mb,Md,Mf,zrx.eq_1,ztu.eq_1,zrB.eq_1,ztr.eq_1,ztc.eq_1,yu.eq_1,hij',w1,u1,w3,u2,hg,hP,hx',hw];tactic=>(
    exact ih _))
  ·have hx':¬ a - id<0:=by omega
   have ih:=fun e=>ih ((i+j) / 2 - i) (by omega) i ((i+j) / 2) rfl hi (by
    rcases Nat.lt_or_ge ((i+j) / 2) (yw l id) with h | h
    ·exact absurd (hc.2 h) hx
    ·exact h) (by omega) e
   (sym=>simp [Qc,Qd,Qe,Qi,Qj,Qm,Qn,Qp,Qq,Qr,Qt,Q4,Xa,Xe,Xg,Xs,X5,Ya,Ys,Yu,Yy,Y9,Za,Zb,Zc,Ze,Zg,Zh,Zm,Zn,Zt,Zv,Zw,Z3,Jj,Jk,Jn,Jo,Jr,Js,Jv,Ke,Ho,Hq,Hs,Hv,Hw,Ni,Nk,Nl,Nm,Be,Bi,Ma,Mb,Md,Mf,zrx.eq_1,ztu.eq_1,zrB.eq_1,ztr.eq_1,ztc.eq_1,yu.eq_1,hij',w1,u1,w3,u2,hg,hP,hx',hw];tactic=>(
    exact ih _))
 ·have hij':¬ (i:Int)<j:=by omega
  obtain rfl:i=yw l id:=by omega
  obtain rfl:j=yw l id:=by omega
  (sym=>simp [Qa,Qd,Qe,Qi,Qr,Qt,Xa,Ya,Y9,Za,Zb,Zc,Ze,Zg,Zh,Zt,Zv,Zw,Z3,Jj,Jk,Jm,Jr,Ju,Jv,Nm,Be,zrx.eq_1,ztu.eq_1,zrB.eq_1,ztr.eq_1,ztc.eq_1,yu.eq_1,hij'])
theorem zg5 (l:List (Int×Int)) (b f:Bool) (id:Int) (hm:y5 l=true) (h1:1≤id) (h8:id≤8):aP G FT VL [.data b 2 (mbs l) f,.int .i64 id]=some (.tup [.int .i64 (yw l id),.bool (decide (zg l id≠0))]):=by
 have hl8:=NE hm
 have hln:=yM l
 have hcl:=zAk l id
 have key:=znM G l b f id hm h1 h8 l.length 0 l.length rfl (by omega) hcl (Nat.le_refl _) []
 simp only [Int.natCast_zero] at key
 obtain ⟨c1,c2⟩:=zbz l 0 hm id
 unfold aP
 rw [zcL]
 by_cases hk:yw l id<l.length
 ·have hk':(yw l id:Int)<l.length:=by omega
  have hg:=Tf hk
  have hmem:=Uv l 0 hm _ (List.getElem_mem hk)
  have hP:=zgl G (l[yw l id]) id [] (by omega) (by omega) (by omega) (by omega)
  by_cases hx:l[yw l id].1=id
  ·have hr:zg l id≠0:=c1.2 ⟨hk,hx⟩
   have hd:decide (zg l id≠0)=true:=by simp [hr]
   rw [hd]
   generalize l[yw l id]=x at hg hP hx
   obtain ⟨a,r⟩:=x
   simp only [List.nil_append] at hP hg hx
   have hx':a - id=0:=by omega
   (sym=>simp [Qb,Qd,Qe,Qf,Qg,Qi,Qj,Ql,Qm,Qn,Qo,Qp,Qq,Qr,Qt,Qu,Q4,Xa,Xs,Xw,Xx,Xy,X8,Ya,Yh,Ys,Yu,Yy,Y1,Y6,Y7,Y9,Za,Zb,Zc,Ze,Zg,Zh,Zi,Zj,Zk,Zl,Zm,Zn,Zq,Zr,Zs,Zt,Zu,Zv,Zw,Ja,Jj,Jk,Jn,Jq,Jv,Jx,Wi,Wj,Wk,Wp,Wq,Hh,Hi,Ho,Hq,Hs,Hv,Hw,Ni,Nk,Nl,Be,Ma,Mb,Md,Mf,zrF.eq_1,ztf.eq_1,oo.eq_1,vF,zs3.eq_1,zs8.eq_1,zrS.eq_1,zsC.eq_1,zM.eq_1,hln,key,hk',hg,hP,hx'])
  ·have hr:zg l id=0:=Classical.not_not.1 fun h=>hx (by obtain ⟨_,h2⟩:=c1.1 h;exact h2)
   have hd:decide (zg l id≠0)=false:=by simp [hr]
   rw [hd]
   generalize l[yw l id]=x at hg hP hx
   obtain ⟨a,r⟩:=x
   simp only [List.nil_append] at hP hg hx
   have hx':¬ a - id=0:=by omega
   (sym=>simp [Qb,Qd,Qe,Qf,Qg,Qi,Qj,Ql,Qm,Qn,Qo,Qp,Qq,Qr,Qt,Qu,Q4,Xa,Xs,Xw,Xx,Xy,X8,Ya,Yh,Ys,Yu,Yy,Y1,Y6,Y7,Y9,Za,Zb,Zc,Ze,Zg,Zh,Zi,Zj,Zk,Zl,Zm,Zn,Zq,Zr,Zs,Zt,Zu,Zv,Zw,Ja,Jj,Jk,Jn,Jq,Jv,Jx,Wi,Wj,Wk,Wp,Wq,Hh,Hi,Ho,Hq,Hs,Hv,Hw,Ni,Nk,Nl,Nm,Be,Ma,Mb,Md,Mf,zrF.eq_1,ztf.eq_1,oo.eq_1,vF,zs3.eq_1,zs8.eq_1,zrS.eq_1,zsC.eq_1,zM.eq_1,hln,key,hk',hg,hP,hx'])
 ·have hk':¬ (yw l id:Int)<l.length:=by omega
  have hr:zg l id=0:=Classical.not_not.1 fun h=>hk (by obtain ⟨h1,_⟩:=c1.1 h;exact h1)
  have hd:decide (zg l id≠0)=false:=by simp [hr]
  rw [hd]
  (sym=>simp [Qb,Qd,Qe,Qf,Qg,Qi,Qj,Ql,Qm,Qn,Qo,Qr,Qt,Qu,Xa,Xw,Xx,Xy,Ya,Yh,Y1,Y6,Y7,Y9,Za,Zb,Zc,Ze,Zg,Zh,Zi,Zj,Zk,Zl,Zm,Zq,Zr,Zs,Zt,Zu,Zv,Zw,Z3,Ja,Jj,Jk,Jn,Jq,Jv,Jx,Wi,Wj,Wk,Wp,Wq,Hh,Hi,Nm,Be,zrF.eq_1,ztf.eq_1,oo.eq_1,vF,zs3.eq_1,zs8.eq_1,zrS.eq_1,zsC.eq_1,zM.eq_1,hln,key,hk'])
def idB (id:Int):Bool:=decide (1≤id)&&decide (id≤8)
def zK (l:List (Int×Int)) (id:Int):Bool:=y5 l&&idB id&&decide (zg l id≠0)
theorem Ka (l:List (Int×Int)) (b f:Bool) (id:Int) (hl:l.length<1000000):aP G FT jk [.data b 2 (mbs l) f,.int .i64 id]=
  some (.tup [.agg [.int .i64 (if zK l id=true then id else 0),.int .i64 (if zK l id=true then zg l id else 0)],.bool (zK l id)]):=by
 have hM:=fun b f=>za7 G l b f hl
 have hln:=yM l
 unfold aP
 rw [zd0]
 cases hm:y5 l with
 | false=>
  have ht:zK l id=false:=by simp [zK,hm]
  rw [ht]
  simp only [Bool.false_eq_true,if_false]
  (sym=>simp [Qb,Qd,Qe,Qf,Qg,Qi,Qj,Qm,Qn,Qo,Qr,Qt,Qu,Qv,Qx,Q1,Q5,Xd,Yr,Yu,Y1,Y6,Y7,Y8,Y9,Za,Zb,Zc,Zd,Ze,Zg,Zh,Zi,Zj,Zk,Zl,Zm,Zn,Zo,Zr,Zs,Zt,Zu,Zv,Zw,Zy,Z0,Z1,Z3,Jb,Jj,Jk,Jl,Jr,Jv,Jx,J1,J2,K8,Ue,Uf,Ug,V9,Wd,We,Wh,Wi,Wj,Wk,Wp,Wq,Hh,Hk,Ho,Hp,Hq,Hr,Hs,Ht,Hv,Hw,No,Nw,Nx,N0,Be,zi7.eq_1,zjZ.eq_1,ziU.eq_1,zjr.eq_1,zje.eq_1,ziV.eq_1,zi4.eq_1,jh.eq_1,hM,hm])
 | true=>
  by_cases h1:id<1
  ·have ht:zK l id=false:=by simp [zK,idB];omega
   rw [ht]
   simp only [Bool.false_eq_true,if_false]
   (sym=>simp [Qb,Qd,Qe,Qf,Qg,Qi,Qj,Qm,Qn,Qo,Qr,Qt,Qu,Qv,Qx,Q1,Q5,Xa,Xd,Ya,Yr,Yu,Y1,Y6,Y7,Y8,Y9,Za,Zb,Zc,Zd,Ze,Zg,Zh,Zi,Zj,Zk,Zl,Zm,Zn,Zo,Zr,Zs,Zt,Zu,Zv,Zw,Zy,Z0,Z1,Z3,Jb,Jj,Jk,Jl,Jr,Jv,Jx,J1,J2,K8,Ue,Uf,Ug,V9,Wd,We,Wh,Wi,Wj,Wk,Wp,Wq,Hh,Hk,Ho,Hp,Hq,Hr,Hs,Ht,Hv,Hw,Nl,No,Nw,Nx,N0,Be,zi7.eq_1,zjZ.eq_1,ziU.eq_1,zjr.eq_1,zje.eq_1,ziV.eq_1,zi4.eq_1,jh.eq_1,hM,hm,h1])
  by_cases h8:8<id
  ·have ht:zK l id=false:=by simp [zK,idB];omega
   rw [ht]
   simp only [Bool.false_eq_true,if_false]
   (sym=>simp [Qb,Qd,Qe,Qf,Qg,Qi,Qj,Qm,Qn,Qo,Qr,Qt,Qu,Qv,Qx,Q1,Q5,Xa,Xd,Ya,Yc,Yr,Yu,Y1,Y6,Y7,Y8,Y9,Za,Zb,Zc,Zd,Ze,Zg,Zh,Zi,Zj,Zk,Zl,Zm,Zn,Zo,Zr,Zs,Zt,Zu,Zv,Zw,Zy,Z0,Z1,Z3,Jb,Jj,Jk,Jl,Jr,Jv,Jx,J1,J2,K8,Ue,Uf,Ug,V9,Wd,We,Wh,Wi,Wj,Wk,Wp,Wq,Hh,Hk,Ho,Hp,Hq,Hr,Hs,Ht,Hv,Hw,Nl,Nm,No,Nw,Nx,N0,Be,zi7.eq_1,zjZ.eq_1,ziU.eq_1,zjr.eq_1,zje.eq_1,ziV.eq_1,zi4.eq_1,jh.eq_1,hM,hm,h1,h8])
  have hP:=fun b f=>zg5 G l b f id hm (by omega) (by omega)
  obtain ⟨c1,c2⟩:=zbz l 0 hm id
  by_cases hr:zg l id=0
  ·have ht:zK l id=false:=by simp [zK,hr]
   have hd:decide (zg l id≠0)=false:=by simp [hr]
   rw [ht]
   rw [hd] at hP
   simp only [Bool.false_eq_true,if_false]
   (sym=>simp [Qb,Qc,Qd,Qe,Qf,Qg,Qi,Qj,Qm,Qn,Qo,Qr,Qt,Qu,Qv,Qx,Q1,Q5,Xa,Xd,Xw,Xx,Ya,Yc,Yr,Yu,Y1,Y6,Y7,Y8,Y9,Za,Zb,Zc,Zd,Ze,Zg,Zh,Zi,Zj,Zk,Zl,Zm,Zn,Zo,Zr,Zs,Zt,Zu,Zv,Zw,Zy,Z0,Z1,Z3,Jb,Jj,Jk,Jr,Jv,Jx,J1,J2,K8,Ue,Uf,Ug,V6,V9,Wd,We,Wh,Wi,Wj,Wk,Wp,Wq,Hh,Hi,Hk,Ho,Hp,Hq,Hr,Hs,Ht,Hv,Hw,Nm,No,Nw,Nx,N0,Be,zi7.eq_1,zjZ.eq_1,ziU.eq_1,zjr.eq_1,zje.eq_1,ziV.eq_1,zi4.eq_1,jh.eq_1,hM,hm,h1,h8,hP])
  ·have ht:zK l id=true:=by simp [zK,idB,hm,hr];omega
   have hd:decide (zg l id≠0)=true:=by simp [hr]
   obtain ⟨k1,k2⟩:=c1.1 hr
   have hg:=Tf k1
   rw [c2 k1 k2] at hg
   have k1':(yw l id:Int)<l.length:=by omega
   rw [ht]
   rw [hd] at hP
   simp only [if_true]
   (sym=>simp [Qb,Qc,Qd,Qe,Qf,Qg,Qi,Qj,Qm,Qn,Qo,Qr,Qt,Qu,Qv,Q4,Q5,Xa,Xd,Xs,Xw,Xx,Ya,Yc,Yr,Ys,Yu,Yy,Y1,Y6,Y7,Y8,Y9,Za,Zb,Zc,Zd,Ze,Zg,Zh,Zi,Zj,Zk,Zl,Zm,Zn,Zo,Zr,Zs,Zt,Zu,Zv,Zw,Zy,Z0,Z1,Z3,Jb,Jj,Jk,Jl,Jr,Jv,Jx,J1,J2,Ue,Uf,Ug,V6,V9,Wd,We,Wh,Wi,Wj,Wk,Wp,Wq,Hh,Hi,Hk,Ho,Hp,Hq,Hr,Hs,Ht,Hv,Hw,Ni,Nk,Nm,No,Nw,Nx,N0,Be,Ma,Mb,Md,Mf,zi7.eq_1,zjZ.eq_1,ziU.eq_1,zjr.eq_1,zje.eq_1,ziV.eq_1,zi4.eq_1,jh.eq_1,hM,hm,h1,h8,hP,hg,hln,k1'])
theorem zvP (l:List (Int×Int)):uC (mbs l)=true:=by simp [uC,mbs,cm,AV.plain]
theorem Rp (b f:Bool) (l:List (Int×Int)) (hl:l.length≤1000000):aR G FT vW [.data b 2 (mbs l) f] []=some (.own 0 1 0 l.length l.length,[⟨2,1,true,mbs l⟩]):=by
 have hx:aR G FT vW [.data b 2 (mbs l) f] []=jm 2 [.data b 2 (mbs l) f] []:=by
  unfold aR gH
  rfl
 rw [hx]
 simp [jm,yM,hl,zvP]
def j3 (l:List (Int×Int)) (id r:Int):List (Int×Int)×Int:=if y5 l=true∧idB id=true∧UE r=true then if zg l id=0 then (uT l id r,0) else ([],260) else ([],2)
theorem zFL (l:List (Int×Int)) (b f:Bool) (id r:Int) (hl:l.length<1000000):aP G FT Kc [.data b 2 (mbs l) f,.int .i64 id,.int .i64 r]=some (.tup [.data false 2 (mbs (j3 l id r).1) false,.int .i64 (j3 l id r).2]):=by
 have hM:=fun b f=>za7 G l b f hl
 have hln:=yM l
 have hR:=zpp G r
 unfold aP j3
 rw [zeA]
 cases hm:y5 l with
 | false=>
  rw [if_neg (by simp),uP]
  (sym=>simp [Qb,Qd,Qe,Qf,Qg,Qi,Qj,Qm,Qn,Qo,Qr,Qt,Qu,Xd,Y1,Y6,Y7,Y9,Za,Zb,Zc,Ze,Zg,Zh,Zi,Zj,Zk,Zl,Zm,Zo,Zr,Zs,Zt,Zu,Zv,Zw,Z3,Jb,Jj,Jk,Jl,Jr,Jv,Jx,V9,Wd,We,Wg,Wi,Wj,Wp,Wq,Nw,Nx,Be,zhZ.eq_1,zgA.eq_1,zha.eq_1,zfV.eq_1,zhw.eq_1,zhc.eq_1,zfu.eq_1,uF.eq_1,hM,hm])
 | true=>
  by_cases h1:id<1
  ·rw [if_neg (by simp [idB];omega),uP]
   (sym=>simp [Qb,Qd,Qe,Qf,Qg,Qi,Qj,Qm,Qn,Qo,Qr,Qt,Qu,Xa,Xd,Ya,Y1,Y6,Y7,Y9,Za,Zb,Zc,Ze,Zg,Zh,Zi,Zj,Zk,Zl,Zm,Zo,Zr,Zs,Zt,Zu,Zv,Zw,Z3,Jb,Jj,Jk,Jl,Jr,Jv,Jx,V9,Wd,We,Wg,Wi,Wj,Wp,Wq,Nl,Nw,Nx,Be,zhZ.eq_1,zgA.eq_1,zha.eq_1,zfV.eq_1,zhw.eq_1,zhc.eq_1,zfu.eq_1,uF.eq_1,hM,hm,h1])
  by_cases h8:8<id
  ·rw [if_neg (by simp [idB];omega),uP]
   (sym=>simp [Qb,Qd,Qe,Qf,Qg,Qi,Qj,Qm,Qn,Qo,Qr,Qt,Qu,Xa,Xd,Ya,Yc,Y1,Y6,Y7,Y9,Za,Zb,Zc,Ze,Zg,Zh,Zi,Zj,Zk,Zl,Zm,Zo,Zr,Zs,Zt,Zu,Zv,Zw,Z3,Jb,Jj,Jk,Jl,Jr,Jv,Jx,V9,Wd,We,Wg,Wi,Wj,Wp,Wq,Nl,Nm,Nw,Nx,Be,zhZ.eq_1,zgA.eq_1,zha.eq_1,zfV.eq_1,zhw.eq_1,zhc.eq_1,zfu.eq_1,uF.eq_1,hM,hm,h1,h8])
  cases hrb:UE r with
  | false=>
   rw [if_neg (by simp),uP]
   (sym=>simp [Qb,Qd,Qe,Qf,Qg,Qi,Qj,Qm,Qn,Qo,Qr,Qt,Qu,Xa,Xd,Ya,Yc,Y1,Y6,Y7,Y9,Za,Zb,Zc,Ze,Zg,Zh,Zi,Zj,Zk,Zl,Zm,Zo,Zr,Zs,Zt,Zu,Zv,Zw,Z3,Jb,Jj,Jk,Jl,Jr,Jv,Jx,V6,V9,Wd,We,Wg,Wi,Wj,Wp,Wq,Nm,Nw,Nx,Be,zhZ.eq_1,zgA.eq_1,zha.eq_1,zfV.eq_1,zhw.eq_1,zhc.eq_1,zfu.eq_1,uF.eq_1,hM,hm,h1,h8,hR,hrb])
  | true=>
   rw [if_pos ⟨rfl,by simp [idB];omega,rfl⟩]
   have hP:=fun b f=>zg5 G l b f id hm (by omega) (by omega)
   by_cases hr:zg l id=0
   ·rw [if_pos hr]
    have hd:decide (zg l id≠0)=false:=by simp [hr]
    rw [hd] at hP
    have hr12:r=1∨r=2:=by simpa [UE] using hrb
    have hjw:=zvj hm (by omega) (by omega) hr12 hr
    have hC:=fun b f=>Rp G b f l (by omega)
    have hl8:=NE hm
    have hcl:=zAk l id
    have hI:∀ (h:List zf),aR G FT ZX [.own 0 0 0 l.length l.length,.int .i64 (yw l id),.own 1 0 0 1 1] [⟨2,0,true,mbs l⟩,⟨2,0,true,[[.int .i64 id,.int .i64 r]]⟩]=
      some (.own 0 1 0 (l.length+1) (l.length+1),[⟨2,1,true,mbs (uT l id r)⟩,⟨2,0,true,[[.int .i64 id,.int .i64 r]]⟩]):=fun h=>by
     have hx:∀ a h,aR G FT ZX a h=KV 2 a h:=fun a h=>by
      unfold aR gH
      rfl
     rw [hx]
     have:mbs (uT l id r)=(mbs l).take (yw l id)++[[.int .i64 id,.int .i64 r]]++(mbs l).drop (yw l id):=by rw [← hjw,Iq,Iq,zk5,zAY,zxa]
     rw [this]
     simp [KV,hln]
     omega
    have hI:=hI []
    have hwl:(mbs (uT l id r)).length=l.length+1:=by rw [yM,← hjw];simp;omega
    have tk:List.take (l.length+1) (mbs (uT l id r))=mbs (uT l id r):=List.take_of_length_le (by omega)
    have tkl:List.take l.length (mbs l)=mbs l:=List.take_of_length_le (by omega)
    (sym=>simp [Qb,Qc,Qd,Qe,Qf,Qg,Qi,Qj,Qm,Qn,Qo,Qr,Qt,Qu,Qx,Qy,Qz,Q0,Q1,Q2,Xa,Xd,Xw,Xx,Ya,Yc,Yj,Yk,Y1,Y6,Y7,Y9,Za,Zb,Zc,Ze,Zg,Zh,Zi,Zj,Zk,Zl,Zm,Zn,Zo,Zp,Zq,Zr,Zs,Zt,Zu,Zv,Zw,Zx,Zy,Zz,Z0,Z3,Jb,Jj,Jk,Jr,Jv,Jx,J1,K8,K9,Ua,Ub,Uc,Ud,Ue,Uf,Ug,Us,U6,Vk,Vm,Vo,Vp,Vq,Vr,Vs,Vt,Vu,Vv,Vw,Vx,V6,V9,Wd,We,Wf,Wi,Wj,Wp,Wq,Wz,W5,W6,W7,Hh,Hi,Hk,Ho,Hp,Hr,Hs,Ht,Hu,Hv,Hw,Hy,Hz,H2,H3,H5,H6,H8,Ng,Nl,Nm,No,Nt,Nw,Nx,Nz,Be,zhZ.eq_1,zgA.eq_1,zha.eq_1,zfV.eq_1,zhw.eq_1,zhc.eq_1,zfu.eq_1,uF.eq_1,hM,hm,h1,h8,hR,hrb,hP,hC,hI,hwl,tk,tkl,hln])
   ·rw [if_neg hr,uP]
    have hd:decide (zg l id≠0)=true:=by simp [hr]
    rw [hd] at hP
    (sym=>simp [Qb,Qc,Qd,Qe,Qf,Qg,Qi,Qj,Qm,Qn,Qo,Qr,Qt,Qu,Xa,Xd,Xw,Xx,Ya,Yc,Y1,Y6,Y7,Y9,Za,Zb,Zc,Ze,Zg,Zh,Zi,Zj,Zk,Zl,Zm,Zo,Zr,Zs,Zt,Zu,Zv,Zw,Z3,Jb,Jj,Jk,Jl,Jr,Jv,Jx,V6,V9,Wd,We,Wg,Wi,Wj,Wp,Wq,Hh,Hi,Nm,Nw,Nx,Be,zhZ.eq_1,zgA.eq_1,zha.eq_1,zfV.eq_1,zhw.eq_1,zhc.eq_1,zfu.eq_1,uF.eq_1,hM,hm,h1,h8,hR,hrb,hP])
end
end Go.Proofs.YthcnhibjddomdaaGreat
namespace Go.Proofs.YthcnhibjddomdaaGreat
section
open Go
variable (G:Nat→Option (List AV))
theorem zp0 (m x:Int×Int) (h:List zf) (id:Nat) (hid:h[id]? =some ⟨2,0,true,[cm m]⟩):aR G FT Uz [.agg (cm x),.ptr id 0 0 0] h=some (.bool (decide (x=m)),h++[⟨2,0,true,[cm x]⟩]):=by
 obtain ⟨a,r⟩:=m
 obtain ⟨a2,r2⟩:=x
 unfold cm at hid ⊢
 simp only at hid ⊢
 have hlt:=(List.getElem?_eq_some_iff.1 hid).1
 have hg:(h++[(⟨2,0,true,[[.int .i64 a2,.int .i64 r2]]⟩:zf)])[h.length]? =some ⟨2,0,true,[[.int .i64 a2,.int .i64 r2]]⟩:=by simp
 have hg2:(h++[(⟨2,0,true,[[.int .i64 a2,.int .i64 r2]]⟩:zf)])[id]? =some ⟨2,0,true,[[.int .i64 a,.int .i64 r]]⟩:=by rw [List.getElem?_append_left hlt];exact hid
 have hd:decide ((a2,r2)=(a,r))=(decide (a2=a)&&decide (r2=r)):=by simp [Prod.mk.injEq]
 rw [hd,zbh]
 (sym=>simp [Qb,Qd,Qe,Qi,Qj,Qr,Qw,Q4,Xb,Yj,Yr,Yu,Y1,Y5,Y7,Y9,Za,Zb,Zc,Ze,Zg,Zh,Zi,Zj,Zk,Zl,Zm,Zn,Zr,Zs,Zt,Zu,Zv,Zw,Zy,Z0,Jh,Jj,Jk,Jv,Jx,Kh,Kk,Kl,Km,Ue,Uf,Ug,Hh,Ho,Hq,Hs,No,Be,zD5.eq_1,zEw.eq_1,gP.eq_1,hg,hg2])
def u6 (l:List (Int×Int)) (id:Int):List (Int×Int)×Int:=if y5 l=true then if zK l id=true then (uT l id 0,0) else ([],6) else ([],2)
theorem zCo (l:List (Int×Int)) (b f:Bool) (id:Int) (hl:l.length<1000000):aP G FT NG [.data b 2 (mbs l) f,.int .i64 id]=some (.tup [.data false 2 (mbs (u6 l id).1) false,.int .i64 (u6 l id).2]):=by
 have hM:=fun b f=>za7 G l b f hl
 have hFi:=fun b f=>Ka G l b f id hl
 unfold aP u6
 rw [zcn]
 cases hm:y5 l with
 | false=>
  rw [if_neg (by simp),uP]
  (sym=>simp [Qb,Qd,Qe,Qi,Qj,Qm,Qn,Qo,Qr,Qt,Xd,Y1,Y6,Y7,Y9,Za,Zb,Zc,Ze,Zg,Zh,Zi,Zj,Zk,Zl,Zm,Zo,Zr,Zs,Zt,Zu,Zv,Zw,Jj,Jk,Jl,Jr,Jv,Jx,V9,Wd,We,Wg,Wi,Wj,Wp,Wq,Nx,Be,zsJ.eq_1,zri.eq_1,zq1.eq_1,zsN.eq_1,zs2.eq_1,zrd.eq_1,ztg.eq_1,j5.eq_1,hM,hm])
 | true=>
  rw [if_pos rfl]
  cases ht:zK l id with
  | false=>
   rw [if_neg (by simp),uP]
   rw [ht] at hFi
   simp only [Bool.false_eq_true,if_false] at hFi
   (sym=>simp [Qb,Qc,Qd,Qe,Qi,Qj,Qm,Qn,Qo,Qr,Qt,Qv,Q5,Xd,Xw,Xx,Y1,Y6,Y7,Y9,Za,Zb,Zc,Zd,Ze,Zg,Zh,Zi,Zj,Zk,Zl,Zm,Zn,Zo,Zr,Zs,Zt,Zu,Zv,Zw,Zy,Z0,Z1,Z3,Jj,Jk,Jl,Jr,Jv,Jx,J1,J2,Ue,Uf,Ug,V6,V9,Wd,We,Wg,Wi,Wj,Wp,Wq,Hh,Hi,Hk,Hp,Hr,Ht,Hv,Hw,No,Nw,Nx,N0,Be,zsJ.eq_1,zri.eq_1,zq1.eq_1,zsN.eq_1,zs2.eq_1,zrd.eq_1,ztg.eq_1,j5.eq_1,hM,hm,hFi])
  | true=>
   rw [if_pos rfl]
   rw [ht] at hFi
   simp only [if_true] at hFi
   have hr:zg l id≠0:=by simp [zK] at ht;exact ht.2
   have hlw:=zpZ hm hr
   have hC:=fun b f=>Rp G b f l (by omega)
   have hln:=yM l
   have tkl:List.take l.length (mbs l)=mbs l:=List.take_of_length_le (by omega)
   have hD:=znL G cm (0,0) rfl (fun _=>rfl) (fun x=>by simp [cm,AV.stableL,AV.stable]) l 1 0 l.length Uz [] [.ptr 0 0 0 0] (fun x=>decide (x=(id,zg l id))) [⟨2,0,true,[cm (id,zg l id)]⟩,⟨2,0,true,mbs l⟩]
    (by simp) (fun r hr' i hi=>by simp at hr';rcases hr' with rfl | rfl<;>simp [zf.ids] at hi) (by simp [AV.idsL,AV.ids]) (by have:=NE hm;omega) (Nat.le_refl _) (fun x=>[⟨2,0,true,[cm x]⟩])
    (fun R x e=>by
     have:=zp0 G (id,zg l id) x ([⟨2,0,true,[cm (id,zg l id)]⟩,⟨2,0,true,List.map cm R⟩]++e) 0 rfl
     rw [List.append_assoc] at this
     exact this) rfl
   rw [hlw] at hD
   have hwl:(uT l id 0).length≤l.length:=by rw [← hlw];exact List.length_filter_le _ _
   generalize uT l id 0=W at hD hwl
   simp only [List.set_cons_succ,List.set_cons_zero,cm] at hD
   have tkw:List.take W.length (List.map cm (W++List.replicate (l.length - W.length) (0,0)))=mbs W:=by rw [List.map_append,List.take_left' (by simp)];rfl
   have hwl2:W.length≤(W++List.replicate (l.length - W.length) ((0:Int),(0:Int))).length:=by simp
   have ml:(List.map cm (W++List.replicate (l.length - W.length) ((0:Int),(0:Int)))).length=l.length:=by simp;omega
   (sym=>simp [Qb,Qc,Qd,Qe,Qi,Qj,Qm,Qn,Qo,Qr,Qt,Qv,Q5,Xd,Xj,Xw,Xx,Y1,Y6,Y7,Y9,Za,Zb,Zc,Zd,Ze,Zg,Zh,Zi,Zj,Zk,Zl,Zm,Zn,Zo,Zp,Zq,Zr,Zs,Zt,Zu,Zv,Zw,Zx,Zy,Zz,Z0,Z1,Z3,Jj,Jk,Jr,Jv,Jx,J1,J2,Ue,Uf,Ug,Us,U6,Vk,Vm,Vo,Vp,Vq,Vr,Vs,Vt,Vu,Vv,Vw,Vx,V6,V9,Wd,We,Wf,Wi,Wj,Wp,Wq,Wz,W5,W6,W7,Hh,Hi,Hk,Hp,Hr,Hs,Ht,Hu,Hv,Hw,Hy,Hz,H5,H6,H8,Nl,No,Nt,Nw,Nx,Nz,N0,Be,zsJ.eq_1,zri.eq_1,zq1.eq_1,zsN.eq_1,zs2.eq_1,zrd.eq_1,ztg.eq_1,j5.eq_1,hM,hm,hFi,hC,tkl,hln,hD,tkw,ml,hwl])
def yK (l:List (Int×Int)) (id r:Int):List (Int×Int)×Int:=if y5 l=true∧UE r=true then if zK l id=true then (uT l id r,0) else ([],6) else ([],2)
theorem zyc (l:List (Int×Int)) (b f:Bool) (id r:Int) (hl:l.length<1000000):aP G FT RH [.data b 2 (mbs l) f,.int .i64 id,.int .i64 r]=some (.tup [.data false 2 (mbs (yK l id r).1) false,.int .i64 (yK l id r).2]):=by
 have hM:=fun b f=>za7 G l b f hl
 have hFi:=fun b f=>Ka G l b f id hl
 have hR:=zpp G r
 unfold aP yK
 rw [zbP]
 cases hm:y5 l with
 | false=>
  rw [if_neg (by simp),uP]
  (sym=>simp [Qb,Qd,Qe,Qf,Qg,Qi,Qj,Qm,Qn,Qo,Qr,Qt,Qu,Xd,Y1,Y6,Y7,Y9,Za,Zb,Zc,Ze,Zg,Zh,Zi,Zj,Zk,Zl,Zm,Zo,Zr,Zs,Zt,Zu,Zv,Zw,Z3,Jb,Jj,Jk,Jl,Jr,Jv,Jx,V9,Wd,We,Wg,Wi,Wj,Wp,Wq,Nw,Nx,Be,znD.eq_1,zmz.eq_1,zny.eq_1,zmt.eq_1,znr.eq_1,zn5.eq_1,zma.eq_1,zmg.eq_1,zmp.eq_1,zof.eq_1,uS.eq_1,hM,hm])
 | true=>
  cases hrb:UE r with
  | false=>
   rw [if_neg (by simp),uP]
   (sym=>simp [Qb,Qd,Qe,Qf,Qg,Qi,Qj,Qm,Qn,Qo,Qr,Qt,Qu,Xd,Y1,Y6,Y7,Y9,Za,Zb,Zc,Ze,Zg,Zh,Zi,Zj,Zk,Zl,Zm,Zo,Zr,Zs,Zt,Zu,Zv,Zw,Z3,Jb,Jj,Jk,Jl,Jr,Jv,Jx,V6,V9,Wd,We,Wg,Wi,Wj,Wp,Wq,Nw,Nx,Be,znD.eq_1,zmz.eq_1,zny.eq_1,zmt.eq_1,znr.eq_1,zn5.eq_1,zma.eq_1,zmg.eq_1,zmp.eq_1,zof.eq_1,uS.eq_1,hM,hm,hR,hrb])
  | true=>
   rw [if_pos ⟨rfl,rfl⟩]
   cases ht:zK l id with
   | false=>
    rw [if_neg (by simp),uP]
    rw [ht] at hFi
    simp only [Bool.false_eq_true,if_false] at hFi
    (sym=>simp [Qb,Qc,Qd,Qe,Qf,Qg,Qi,Qj,Qm,Qn,Qo,Qr,Qt,Qu,Qv,Q5,Xd,Xw,Xx,Y1,Y6,Y7,Y9,Za,Zb,Zc,Zd,Ze,Zg,Zh,Zi,Zj,Zk,Zl,Zm,Zn,Zo,Zr,Zs,Zt,Zu,Zv,Zw,Zy,Z0,Z1,Z3,Jb,Jj,Jk,Jl,Jr,Jv,Jx,J1,J2,Ue,Uf,Ug,V6,V9,Wd,We,Wg,Wi,Wj,Wp,Wq,Hh,Hi,Hk,Hp,Hr,Ht,Hv,Hw,No,Nw,Nx,N0,Be,znD.eq_1,zmz.eq_1,zny.eq_1,zmt.eq_1,znr.eq_1,zn5.eq_1,zma.eq_1,zmg.eq_1,zmp.eq_1,zof.eq_1,uS.eq_1,hM,hm,hR,hrb,hFi])
   | true=>
    rw [if_pos rfl]
    rw [ht] at hFi
    simp only [if_true] at hFi
    have ht':=ht
    simp only [zK,idB,Bool.and_eq_true,decide_eq_true_eq] at ht'
    obtain ⟨⟨_,h1,h8⟩,hr⟩:=ht'
    have hr12:r=1∨r=2:=by simpa [UE] using hrb
    have hcw:=znF hm hr12 hr
    have hP:=fun b f=>zg5 G l b f id hm h1 h8
    obtain ⟨c1,c2⟩:=zbz l 0 hm id
    obtain ⟨k1,k2⟩:=c1.1 hr
    have hg:=Tf k1
    rw [c2 k1 k2] at hg
    have k1':(yw l id:Int)<l.length:=by omega
    have hC:=fun b f=>Rp G b f l (by omega)
    have hln:=yM l
    have tkl:List.take l.length (mbs l)=mbs l:=List.take_of_length_le (by omega)
    have hst:(mbs l).set (yw l id) [.int .i64 id,.int .i64 r]=mbs (uT l id r):=by rw [← hcw,← zBO]
    have hwl:(mbs (uT l id r)).length=l.length:=by rw [← hst,List.length_set,hln]
    have tkw:List.take l.length (mbs (uT l id r))=mbs (uT l id r):=List.take_of_length_le (by omega)
    (sym=>simp [Qb,Qc,Qd,Qe,Qf,Qg,Qi,Qj,Qm,Qn,Qo,Qr,Qt,Qu,Qv,Q5,Xd,Xp,Xs,Xw,Xx,Yv,Yx,Y1,Y6,Y7,Y9,Za,Zb,Zc,Zd,Ze,Zg,Zh,Zi,Zj,Zk,Zl,Zm,Zn,Zo,Zp,Zr,Zs,Zt,Zu,Zv,Zw,Zx,Zy,Zz,Z0,Z1,Z3,Jb,Jj,Jk,Jr,Jv,Jx,J1,J2,J3,Ue,Uf,Ug,Us,U6,Vk,Vm,Vo,Vp,Vq,Vr,Vs,Vt,Vu,Vv,Vw,Vx,V6,V9,Wd,We,Wf,Wi,Wj,Wp,Wq,Wz,W5,W6,W7,Hh,Hi,Hk,Hl,Hp,Hr,Hs,Ht,Hu,Hv,Hw,Hy,Hz,H5,H6,H8,Ng,Ni,Nk,Nl,No,Nt,Nw,Nx,Nz,N0,Be,znD.eq_1,zmz.eq_1,zny.eq_1,zmt.eq_1,znr.eq_1,zn5.eq_1,zma.eq_1,zmg.eq_1,zmp.eq_1,zof.eq_1,uS.eq_1,hM,hm,hR,hrb,hFi,hC,hP,tkl,hln,hg,k1',hst,hwl,tkw])
def zW (l:List (Int×Int)):List Int:=(l.filter fun m=>decide (m.2=2)).map (·.1)
theorem zkr (l:List (Int×Int)) (b f:Bool) (hl:l.length<1000000):∀ (m i:Nat) (out:List Int),i+m=l.length→out.length≤i→∀ st,agc 0 [3,9,10,11] st=some ⟨[(3,.own 0 0 0 out.length out.length),(9,.data b 2 (mbs l) f),(10,.int .i64 l.length),(11,.int .i64 i)],[⟨1,0,true,ints out⟩]⟩→
  aE G FT 0 jF st=some (.exit 0,⟨[(3,.own 0 0 0 (out++zW (l.drop i)).length (out++zW (l.drop i)).length),(9,.data b 2 (mbs l) f),(10,.int .i64 l.length),(11,.int .i64 l.length),(12,.bool false)],[⟨1,0,true,ints (out++zW (l.drop i))⟩]⟩):=by
 intro m
 induction m with
 | zero=>
  intro i out hi ho st hst
  rw [jF,zn,hst]
  have e:l.drop i=[]:=List.drop_eq_nil_of_le (by omega)
  have ei:i=l.length:=by omega
  subst ei
  have e0:decide ((l.length:Int)<l.length)=false:=by simp
  have ew:zW []=[]:=rfl
  rw [e,ew,List.append_nil]
  (sym=>simp [Qa,Qd,Qe,Qi,Qt,Xa,Ya,Y9,Za,Zb,Zc,Ze,Zg,Zh,Zt,Zv,Zw,Z3,Jj,Jk,Jm,Jr,Ju,Jv,Be,zsS.eq_1,zse.eq_1,ztH.eq_1,ztp.eq_1,ztE.eq_1,gL.eq_1,e0])
 | succ m ih=>
  intro i out hi ho st hst
  have hlt:i<l.length:=by omega
  have hlt':(i:Int)<l.length:=by omega
  have e:l.drop i=l[i]::l.drop (i+1):=List.drop_eq_getElem_cons hlt
  have hw:=zH (n:=i) (by omega)
  have hg:=Tf hlt
  have hln:=yM l
  have hlo:=zw out
  have b1:(out.length+1) * 8≤140737488355328:=by omega
  have n1:out.length+1≤out.length↔False:=by simp
  have tk:List.take out.length (ints out)=ints out:=List.take_of_length_le (by rw [hlo];exact Nat.le_refl _)
  rw [e]
  rw [jF] at ih
  rw [jF,zn,hst]
  obtain ⟨x,hx0⟩:∃ x,l[i]=x:=⟨_,rfl⟩
  rw [hx0] at hg ⊢
  by_cases hx:x.2=2
  ·have ih:=ih (i+1) (out++[x.1]) (by omega) (by simp;omega)
   have ew:zW (x::l.drop (i+1))=[x.1]++zW (l.drop (i+1)):=by simp [zW,hx]
   rw [ew,← List.append_assoc]
   generalize out++[x.1]++zW (l.drop (i+1))=R at ih ⊢
   rw [uw,uz,yh] at ih
   have hla:(out++[x.1]).length=out.length+1:=by simp
   rw [hla] at ih
   (sym=>simp [Qc,Qd,Qe,Qi,Qj,Qr,Qt,Qv,Qz,Q0,Q2,Q4,Q5,Xa,Xp,Xs,X0,X5,X8,Ya,Yk,Yr,Ys,Yt,Yu,Yv,Yy,Y2,Y9,Za,Zb,Zc,Zd,Ze,Zg,Zh,Zm,Zn,Zt,Zv,Zw,Zx,Zy,Zz,Z0,Z1,Jj,Jk,Jn,Jo,Jr,Js,Jv,J1,J2,Kv,Kx,Ua,Ub,Uc,Ud,Ue,Uf,Ug,Hh,Hi,Hk,Hl,Ho,Hp,Hq,Hr,Hs,Ht,Hu,Hv,Hw,H2,H3,H8,Ng,Nh,Ni,Nk,Nl,No,Nz,N0,N2,Be,Bg,Ma,Mb,Md,Mf,zsS.eq_1,zse.eq_1,ztH.eq_1,ztp.eq_1,ztE.eq_1,gL.eq_1,hlt',hg,hln,hlo,hw,b1,n1,tk,hx];tactic=>(
    refine ih _ ?_
    (sym=>simp [Y9,Za,Zb,Ze,Zk,Zl,Zm,Zn,Zv,Zw,Zx,Zy,Zz,Z0,Z3,Us,Ux,U0,U4,U5,U6,Vb,Ve,Vk,Vm,Vo,Vp,Vq,Vr,Vs,Vt,Vu,Vv,Vw,Vx,Vy,Vz,V0,Hh,Hp,Hv,Hw,H1,H5,H6,Nl,No,Nx,hlo])))
  ·have ih:=ih (i+1) out (by omega) (by omega)
   have ew:zW (x::l.drop (i+1))=zW (l.drop (i+1)):=by simp [zW,hx]
   rw [ew]
   generalize out++zW (l.drop (i+1))=R at ih ⊢
   (sym=>simp [Qc,Qd,Qe,Qi,Qj,Qr,Qt,Qv,Q4,Q5,Xa,Xp,Xs,X5,X8,Ya,Yr,Ys,Yt,Yu,Yv,Yy,Y9,Za,Zb,Zc,Zd,Ze,Zg,Zh,Zm,Zn,Zt,Zv,Zw,Zy,Z0,Z1,Z3,Jj,Jk,Jn,Jo,Jr,Js,Jv,J1,J2,Ue,Uf,Ug,Hh,Hi,Hk,Hl,Ho,Hp,Hq,Hr,Hs,Ht,Hu,Hv,Hw,Ni,Nk,Nl,Nm,No,N0,Be,Ma,Mb,Md,Mf,zsS.eq_1,zse.eq_1,ztH.eq_1,ztp.eq_1,ztE.eq_1,gL.eq_1,hlt',hg,hln,hlo,hw,hx];tactic=>(
    refine ih _ ?_
    (sym=>simp [Y9,Za,Zb,Ze,Zk,Zl,Zm,Zn,Zv,Zw,Zx,Zy,Zz,Z0,Z3,Us,Ux,U0,U4,U5,U6,Vb,Ve,Vk,Vm,Vo,Vp,Vq,Vr,Vs,Vt,Vu,Vv,Vw,Vx,Vy,Vz,V0,Hh,Hp,Hv,Hw,H1,H5,H6,Nl,No,Nx,hlo])))
theorem ztU (l:List (Int×Int)) (b f:Bool) (hl:l.length<1000000):aP G FT SL [.data b 2 (mbs l) f]=some (.data false 1 (ints (if y5 l=true then zW l else [])) false):=by
 have hM:=fun b f=>za7 G l b f hl
 have hln:=yM l
 unfold aP
 rw [zbm]
 cases hm:y5 l with
 | false=>
  rw [if_neg (by simp),yh]
  (sym=>simp [Qb,Qd,Qe,Qi,Qj,Qm,Qn,Qo,Qr,Qt,Xd,Y1,Y5,Y7,Y9,Za,Zb,Zc,Ze,Zg,Zh,Zi,Zj,Zk,Zl,Zm,Zo,Zr,Zs,Zt,Zu,Zv,Zw,Jj,Jk,Jl,Jr,Jv,Jx,V9,Wd,We,Wg,Nx,Be,zv6.eq_1,zzz.eq_1,zA5.eq_1,zAg.eq_1,zyw.eq_1,zo0.eq_1,jV.eq_1,hM,hm])
 | true=>
  rw [if_pos rfl]
  have key:=zkr G l b f hl l.length 0 [] (by omega) (by simp)
  simp only [List.drop_zero,List.nil_append,yh,List.length_nil,Int.natCast_zero] at key
  have hlw:=zw (zW l)
  have tk:List.take (zW l).length (ints (zW l))=ints (zW l):=List.take_of_length_le (by omega)
  (sym=>simp [Qc,Qd,Qe,Qi,Qj,Qm,Qn,Qo,Qr,Qs,Qt,Xd,Xy,Yh,Y1,Y9,Za,Zb,Zc,Ze,Zg,Zh,Zi,Zj,Zk,Zl,Zm,Zo,Zr,Zs,Zt,Zv,Zw,Z3,Jj,Jk,Jn,Jr,Jv,V9,Wd,We,Hv,Nw,Be,zv6.eq_1,zzz.eq_1,zA5.eq_1,zAg.eq_1,zyw.eq_1,zo0.eq_1,jV.eq_1,hM,hm,hln];tactic=>(
   rw [key _ ?hst]
   case hst=>(sym=>simp [Y9,Za,Zb,Ze,Zk,Zl,Zm,Zn,Zv,Zw,Zx,Zy,Zz,Z0,Z3,Us,Ux,U0,U4,U5,U6,Vb,Ve,Vk,Vm,Vo,Vp,Vq,Vr,Vs,Vt,Vu,Vv,Vw,Vx,Vy,Vz,V0,Hh,Hp,Hv,Hw,H1,H5,H6,Nl,No,Nx])
   (sym=>simp [Qb,Qd,Qe,Qi,Qr,Y5,Y7,Y9,Za,Zb,Zc,Ze,Zg,Zh,Zt,Zu,Zv,Zw,Zx,Zy,Zz,Z0,Jj,Jk,Jq,Jv,Jx,Wf,Hh,Hs,H8,Ng,Nz,Be,hlw,tk])))
end
end Go.Proofs.YthcnhibjddomdaaGreat
namespace Go.Proofs.YthcnhibjddomdaaGreat
section
open Go
variable (G:Nat→Option (List AV))
def RN (n:Int):Bool:=decide (1≤n)&&decide (n≤8)
theorem Si (n:Int):RN n=true↔1≤n∧n≤8:=by simp [RN]
theorem zby (n:Int):aP G FT ZJ [.int .i64 n]=some (.bool (RN n)):=by
 unfold aP RN
 rw [zcI]
 by_cases h1:1≤n
 ·(sym=>simp [Qb,Qd,Qe,Qf,Qg,Qi,Qj,Qr,Qt,Qu,Xa,Yb,Yd,Y1,Y5,Y7,Y9,Za,Zb,Zc,Ze,Zg,Zh,Zi,Zj,Zk,Zl,Zm,Zr,Zs,Zt,Zu,Zv,Zw,Ja,Jj,Jk,Jv,Jx,Wk,Nl,Np,Be,zoR.eq_1,zpe.eq_1,gV.eq_1,h1])
 ·(sym=>simp [Qb,Qd,Qe,Qf,Qg,Qi,Qj,Qr,Qt,Qu,Xa,Yd,Y1,Y5,Y7,Y9,Za,Zb,Zc,Ze,Zg,Zh,Zi,Zj,Zk,Zl,Zm,Zr,Zs,Zt,Zu,Zv,Zw,Z3,Ja,Jj,Jk,Jv,Jx,Wk,Nm,Nr,Be,zoR.eq_1,zpe.eq_1,gV.eq_1,h1])
def idxFrom (x:Int):List Int→Nat→Int
 | [],_=> -1
 | y::l,i=>if x=y then i else idxFrom x l (i+1)
theorem zoQ (l:List Int) (b f:Bool) (x:Int) (hl:l.length<9223372036854775807):∀ (m i:Nat),i+m=l.length→
  aE G FT 0 uW ⟨[(0,.data b 1 (ints l) f),(1,.int .i64 x),(7,.int .i64 l.length),(8,.int .i64 i)],[]⟩=
   if idxFrom x (l.drop i) i= -1 then some (.exit 0,⟨[(0,.data b 1 (ints l) f),(1,.int .i64 x),(7,.int .i64 l.length),(8,.int .i64 l.length),(9,.bool false)],[]⟩)
   else some (.ret,⟨[(4,.int .i64 (idxFrom x (l.drop i) i))],[]⟩):=by
 intro m
 induction m with
 | zero=>
  intro i hi
  rw [uW,zn]
  have e:l.drop i=[]:=List.drop_eq_nil_of_le (by omega)
  have ei:i=l.length:=by omega
  subst ei
  have e0:decide ((l.length:Int)<l.length)=false:=by simp
  rw [e,idxFrom,if_pos rfl]
  (sym=>simp [Qa,Qd,Qe,Qi,Qt,Xa,Ya,Y9,Za,Zb,Zc,Ze,Zg,Zh,Zk,Zl,Zt,Zv,Zw,Z3,Jj,Jk,Jm,Jr,Ju,Jv,Ux,U0,U4,U5,Vb,Ve,Vo,Vq,Vr,Vt,Vv,Vw,Vy,Vz,V0,Hq,Hw,H1,No,Be,zkO.eq_1,zkW.eq_1,zl1.eq_1,zkk.eq_1,zk0.eq_1,oL.eq_1,e0])
 | succ m ih=>
  intro i hi
  have ih:=ih (i+1) (by omega)
  rw [uW,zn]
  have hlt:i<l.length:=by omega
  have hlt':(i:Int)<l.length:=by omega
  have e:l.drop i=l[i]::l.drop (i+1):=List.drop_eq_getElem_cons hlt
  have hw:=zH (n:=i) (by omega)
  have hg:=ints_at hlt
  rw [e,idxFrom]
  by_cases hx:x=l[i]
  ·have hne:¬ (i:Int)= -1:=by omega
   (sym=>simp [Qb,Qc,Qd,Qe,Qi,Qr,Qt,Q4,Xa,Xs,X8,Ya,Ys,Yt,Yy,Y9,Za,Zb,Zc,Ze,Zg,Zh,Zk,Zl,Zt,Zv,Zw,Jj,Jk,Jl,Jn,Jp,Jr,Jt,Jv,Ux,U0,U4,U5,Vb,Ve,Vo,Vq,Vr,Vt,Vv,Vw,Vy,Vz,V0,Hh,Hq,Hw,H1,Ni,Nk,Nl,No,Be,Ma,Mb,Md,Mf,zkO.eq_1,zkW.eq_1,zl1.eq_1,zkk.eq_1,zk0.eq_1,oL.eq_1,hlt',hg,hx,hw,hne])
  ·rw [if_neg hx,← ih,uW]
   (sym=>simp [Qc,Qd,Qe,Qi,Qj,Qr,Qt,Q4,Xa,Xs,X5,X8,Ya,Ys,Yt,Yy,Y9,Za,Zb,Zc,Ze,Zg,Zh,Zk,Zl,Zt,Zv,Zw,Z3,Jj,Jk,Jn,Jo,Jr,Js,Jv,Ux,U0,U4,U5,Vb,Ve,Vo,Vq,Vr,Vt,Vv,Vw,Vy,Vz,V0,Hh,Hq,Hw,H1,Ni,Nk,Nl,Nm,No,Be,Ma,Mb,Md,Mf,zkO.eq_1,zkW.eq_1,zl1.eq_1,zkk.eq_1,zk0.eq_1,oL.eq_1,hlt',hg,hx,hw])
theorem ztF (l:List Int) (b f:Bool) (x:Int) (hl:l.length<9223372036854775807):aP G FT Ym [.data b 1 (ints l) f,.int .i64 x]=some (.int .i64 (idxFrom x l 0)):=by
 unfold aP
 rw [FK]
 have key:=zoQ G l b f x hl l.length 0 (by omega)
 simp only [List.drop_zero,Int.natCast_zero] at key
 by_cases h:idxFrom x l 0= -1
 ·rw [if_pos h] at key
  (sym=>simp [Qb,Qd,Qe,Qi,Qj,Qr,Xy,Yh,Y1,Y5,Y7,Y9,Za,Zb,Zc,Ze,Zg,Zh,Zi,Zj,Zk,Zl,Zm,Zr,Zs,Zt,Zu,Zv,Zw,Jj,Jk,Jn,Jq,Jv,Jx,Wj,Be,zpG.eq_1,zqb.eq_1,zo1.eq_1,jb.eq_1,zw,key,h])
 ·rw [if_neg h] at key
  (sym=>simp [Qd,Qe,Qi,Qj,Qr,Xy,Yh,Y1,Y5,Y7,Y9,Za,Zb,Zc,Ze,Zg,Zh,Zi,Zj,Zk,Zl,Zm,Zr,Zs,Zt,Zu,Zv,Zw,Jj,Jk,Jl,Jn,Jp,Jv,Jx,Wj,Be,zpG.eq_1,zqb.eq_1,zo1.eq_1,jb.eq_1,zw,key])
def ZU:List Int→List Int→Bool×List Int
 | seen,[]=>(true,seen)
 | seen,x::l=>if RN x=true∧x ∉ seen then ZU (x::seen) l else (false,seen)
def HY (s:List Int):List AV:=(List.range 9).map fun (k:Nat)=>.bool (decide ((k:Int) ∈ s))
theorem zvF (s:List Int) (n:Int) (h1:1≤n) (h2:n≤8):(HY s)[n.toNat]? =some (.bool (decide (n ∈ s))):=by
 obtain ⟨k,rfl⟩:∃ k:Nat,n=k:=⟨n.toNat,by omega⟩
 have:k<9:=by omega
 simp [HY,this]
theorem zuP (s:List Int) (n:Int) (h1:1≤n) (h2:n≤8):(HY s).set n.toNat (.bool true)=HY (n::s):=by
 obtain ⟨k,rfl⟩:∃ k:Nat,n=k:=⟨n.toNat,by omega⟩
 have hk:k<9:=by omega
 apply List.ext_getElem?
 intro i
 simp only [HY,List.getElem?_set,List.length_map,List.length_range,List.getElem?_map,Int.toNat_natCast]
 by_cases e:k=i
 ·subst e;simp [hk]
 ·rw [if_neg e]
  by_cases hi:i<9
  ·have e2:¬ (i:Int)=(k:Int):=by omega
   simp [hi,e2]
  ·simp [hi]
theorem zve (s:List Int):(HY s).length=9:=by simp [HY]
theorem zul:[.bool false,.bool false,.bool false,.bool false,.bool false,.bool false,.bool false,.bool false,.bool false]=HY []:=by simp [HY,List.range_succ]
theorem zzl (l:List Int) (hl:l.length<9223372036854775807):∀ (m i:Nat) (seen:List Int),i+m=l.length→
  aE G FT 0 ZE ⟨[(3,.ptr 0 0 0 0),(18,.own 1 0 0 l.length l.length),(19,.int .i64 l.length),(20,.int .i64 i)],[⟨9,0,true,[HY seen]⟩,⟨1,0,true,ints l⟩]⟩=
   some (if (ZU seen (l.drop i)).1=true then (.exit 0,⟨[(3,.ptr 0 0 0 0),(18,.own 1 0 0 l.length l.length),(19,.int .i64 l.length),(20,.int .i64 l.length),(21,.bool false)],[⟨9,0,true,[HY (ZU seen (l.drop i)).2]⟩,⟨1,0,true,ints l⟩]⟩)
   else (.ret,⟨[(2,.bool false)],[⟨9,0,true,[HY (ZU seen (l.drop i)).2]⟩,⟨1,0,true,ints l⟩]⟩)):=by
 intro m
 induction m with
 | zero=>
  intro i seen hi
  rw [ZE,zn]
  have e:l.drop i=[]:=List.drop_eq_nil_of_le (by omega)
  have ei:i=l.length:=by omega
  subst ei
  have e0:decide ((l.length:Int)<l.length)=false:=by simp
  rw [e,ZU,if_pos rfl]
  (sym=>simp [Qa,Qd,Qe,Qi,Qt,Xa,Ya,Y9,Za,Zb,Zc,Ze,Zg,Zh,Zk,Zl,Zm,Zn,Zt,Zv,Zw,Zx,Zy,Zz,Z0,Z3,Jj,Jk,Jm,Jr,Ju,Jv,Us,Ut,Ux,U4,U5,U6,U7,Vb,Vk,Vm,Vo,Vp,Vq,Vr,Vs,Vt,Vu,Vv,Vw,Vx,Vy,Vz,V0,Hh,Hi,Hp,Hu,Hv,Hw,H1,H4,H5,H6,Nl,No,Nu,Nx,Be,zhC.eq_1,zgm.eq_1,zfD.eq_1,zhS.eq_1,zfS.eq_1,zbK.eq_1,WH.eq_1,e0])
 | succ m ih=>
  intro i seen hi
  have ih:=ih (i+1)
  rw [ZE] at ih
  rw [ZE,zn]
  have hlt:i<l.length:=by omega
  have hlt':(i:Int)<l.length:=by omega
  have e:l.drop i=l[i]::l.drop (i+1):=List.drop_eq_getElem_cons hlt
  have hw:=zH (n:=i) (by omega)
  have hg:=ints_at hlt
  rw [e]
  have hN:=zby G
  generalize l[i]=x at hg
  by_cases hn:RN x=true
  ·obtain ⟨h1,h8⟩:=(Si x).1 hn
   have h0:0≤x:=by omega
   have h9:x<9:=by omega
   have h9':x.toNat<9:=by omega
   have sg:=zvF seen x h1 h8
   by_cases hs:x ∈ seen
   ·rw [show ZU seen (x::l.drop (i+1))=(false,seen) by rw [ZU,if_neg (by simp [hs])]]
    (sym=>simp [Qb,Qc,Qd,Qe,Qf,Qg,Qi,Qj,Qm,Qn,Qo,Qr,Qt,Qu,Q4,Xa,Xd,Xs,Xt,Ya,Yr,Yt,Yx,Yz,Y9,Za,Zb,Zc,Ze,Zg,Zh,Zk,Zl,Zm,Zn,Zo,Zt,Zv,Zw,Zx,Zy,Zz,Z0,Z3,Jb,Jj,Jk,Jl,Jn,Jp,Jr,Jt,Jv,Us,Ut,Ux,U4,U5,U6,U7,Vb,Vk,Vm,Vo,Vp,Vq,Vr,Vs,Vt,Vu,Vv,Vw,Vx,Vy,Vz,V0,V6,Wd,We,Hh,Hi,Hp,Hu,Hv,Hw,H1,H4,H5,H6,H8,Nc,Ni,Nk,Nl,No,Nu,Nw,Nx,Nz,Be,Bh,zhC.eq_1,zgm.eq_1,zfD.eq_1,zhS.eq_1,zfS.eq_1,zbK.eq_1,WH.eq_1,hlt',hg,hN,hn,hs,h0,h9,sg,hw])
   ·rw [show ZU seen (x::l.drop (i+1))=ZU (x::seen) (l.drop (i+1)) by rw [ZU,if_pos ⟨hn,hs⟩],← ih (x::seen) (by omega)]
    have ss:=zuP seen x h1 h8
    have sl:=zve seen
    (sym=>simp [Qc,Qd,Qe,Qf,Qg,Qi,Qj,Qm,Qn,Qo,Qr,Qt,Qu,Q4,Q5,Xa,Xd,Xs,Xt,X5,Ya,Yr,Yt,Yx,Yz,Y9,Za,Zb,Zc,Zd,Ze,Zg,Zh,Zk,Zl,Zm,Zn,Zo,Zt,Zv,Zw,Zx,Zy,Zz,Z0,Z1,Z3,Jb,Jj,Jk,Jn,Jo,Jr,Js,Jv,J4,Us,Ut,Ux,U4,U5,U6,U7,Vb,Vk,Vm,Vo,Vp,Vq,Vr,Vs,Vt,Vu,Vv,Vw,Vx,Vy,Vz,V0,V6,Wd,We,Hh,Hi,Hk,Hp,Hu,Hv,Hw,H1,H4,H5,H6,H8,Nc,Ni,Nk,Nl,Nm,No,Nu,Nw,Nx,Nz,Be,Bh,zhC.eq_1,zgm.eq_1,zfD.eq_1,zhS.eq_1,zfS.eq_1,zbK.eq_1,WH.eq_1,hlt',hg,hN,hn,hs,h0,h9,h9',sg,ss,sl,hw])
  ·have hn':RN x=false:=by simpa using hn
   rw [show ZU seen (x::l.drop (i+1))=(false,seen) by rw [ZU,if_neg (by simp [hn])]]
   (sym=>simp [Qb,Qc,Qd,Qe,Qf,Qg,Qi,Qj,Qm,Qn,Qo,Qr,Qt,Qu,Q4,Xa,Xd,Xs,Ya,Yr,Yt,Yx,Y9,Za,Zb,Zc,Ze,Zg,Zh,Zk,Zl,Zm,Zn,Zo,Zt,Zv,Zw,Zx,Zy,Zz,Z0,Z3,Jb,Jj,Jk,Jl,Jn,Jp,Jr,Jt,Jv,Us,Ut,Ux,U4,U5,U6,U7,Vb,Vk,Vm,Vo,Vp,Vq,Vr,Vs,Vt,Vu,Vv,Vw,Vx,Vy,Vz,V0,V6,Wd,We,Hh,Hi,Hp,Hu,Hv,Hw,H1,H4,H5,H6,H8,Ni,Nk,Nl,No,Nu,Nw,Nx,Nz,Be,zhC.eq_1,zgm.eq_1,zfD.eq_1,zhS.eq_1,zfS.eq_1,zbK.eq_1,WH.eq_1,hlt',hg,hN,hn',hw])
def Yf (h:Int) (q:List Int):Bool:=if h=0 then q.isEmpty else (ZU [] (h::q)).1
theorem zjN (h:Int) (q:List Int) (b f:Bool) (hl:q.length≤1000):aP G FT Vg [.agg [.int .i64 h,.data b 1 (ints q) f]]=some (.bool (Yf h q)):=by
 unfold aP Yf
 rw [ziD]
 by_cases h0:h=0
 ·cases q with
  | nil=>(sym=>simp [Qb,Qd,Qe,Qi,Qj,Qr,Qt,Qw,Q4,Xa,Xp,Xy,X8,Yh,Yj,Yr,Yt,Yv,Y1,Y5,Y7,Y9,Za,Zb,Zc,Ze,Zg,Zh,Zi,Zj,Zk,Zl,Zm,Zn,Zr,Zs,Zt,Zu,Zv,Zw,Zy,Z0,Jj,Jk,Jl,Jr,Jv,Jx,Ue,Uf,Ug,Ul,Wk,Hh,Hi,Hv,Nl,No,Np,Be,Bh,zld.eq_1,zkt.eq_1,zll.eq_1,zlp.eq_1,zl4.eq_1,zeS.eq_1,WF.eq_1,h0,yh,List.isEmpty_nil,if_true])
  | cons x q=>
   have hne:¬ (((ints (x::q)).length:Int)=0):=by simp [ints];omega
   (sym=>simp [Qb,Qd,Qe,Qi,Qj,Qr,Qt,Qw,Q4,Xa,Xp,Xy,X8,Yh,Yj,Yr,Yt,Yv,Y1,Y5,Y7,Y9,Za,Zb,Zc,Ze,Zg,Zh,Zi,Zj,Zk,Zl,Zm,Zn,Zr,Zs,Zt,Zu,Zv,Zw,Zy,Z0,Jj,Jk,Jl,Jr,Jv,Jx,Ue,Uf,Ug,Ul,Wk,Hh,Hi,Hv,Nl,Nm,No,Np,Be,zld.eq_1,zkt.eq_1,zll.eq_1,zlp.eq_1,zl4.eq_1,zeS.eq_1,WF.eq_1,h0,hne,List.isEmpty_cons,if_true])
 ·have hb:(1+q.length) * 8≤140737488355328:=by omega
  rw [if_neg h0]
  have e1:1+q.length=(h::q).length:=by simp;omega
  (sym=>simp [Qc,Qd,Qe,Qi,Qj,Qr,Qt,Qv,Qw,Qz,Q0,Q2,Q4,Xa,Xp,Xy,X0,X8,Yg,Yj,Yk,Yr,Yt,Yv,Y1,Y3,Y9,Za,Zb,Zc,Ze,Zg,Zh,Zi,Zj,Zk,Zl,Zm,Zn,Zr,Zs,Zt,Zv,Zw,Zy,Z0,Z3,Jj,Jk,Jn,Jr,Jv,Kv,Kx,Ua,Ub,Uc,Ud,Ue,Uf,Ug,Uh,Ul,Hh,Hi,Hk,Hl,Ho,Hq,Hs,Hu,Hv,H2,H3,Nl,Nm,No,Np,Ns,Nz,N2,Be,Bg,Ml,zld.eq_1,zkt.eq_1,zll.eq_1,zlp.eq_1,zl4.eq_1,zeS.eq_1,WF.eq_1,h0,zw,hb];tactic=>(
   have key:=zzl G (h::q) (by simp;omega) (q.length+1) 0 [] (by simp)
   rw [ZE] at key ⊢
   rw [zrM ?e1 ?e2,key]
   case e1=>rw [← zul,uz];(sym=>simp [Y9,Za,Zb,Ze,Zh,Zk,Zl,Zm,Zn,Zv,Zw,Zx,Zy,Zz,Z0,Z3,Us,Ut,Ux,U4,U5,U6,U7,Vb,Vk,Vm,Vo,Vp,Vq,Vr,Vs,Vt,Vu,Vv,Vw,Vx,Vy,Vz,V0,Hh,Hi,Hp,Hu,Hv,Hw,H1,H4,H5,H6,Nl,No,Nu,Nx,Bh,e1])
   case e2=>(sym=>simp [Y9,Za,Zb,Ze,Zh,Zk,Zl,Zm,Zn,Zv,Zw,Zx,Zy,Zz,Z0,Z3,Us,Ut,Ux,U4,U5,U6,U7,Vb,Vk,Vm,Vo,Vp,Vq,Vr,Vs,Vt,Vu,Vv,Vw,Vx,Vy,Vz,V0,Hh,Hi,Hp,Hu,Hv,Hw,H1,H4,H5,H6,Nl,No,Nu,Nx,Bh])
   rw [List.drop_zero]
   cases (ZU [] (h::q)).1 with
   | true=>(sym=>simp [Qb,Qd,Qe,Qj,Qr,Y5,Y7,Y9,Za,Zb,Zc,Ze,Zg,Zh,Zn,Zt,Zu,Zv,Zw,Jj,Jk,Jq,Jv,Jx,Wk,Be,if_true])
   | false=>(sym=>simp [Y5,Y7,Y9,Zg,Zh,Zt,Zu,Zv,Zw,Z3,Jl,Jp,Jx,Wk,if_true,if_false])))
end
end Go.Proofs.YthcnhibjddomdaaGreat
namespace Go.Proofs.YthcnhibjddomdaaGreat
section
open Go
variable (G:Nat→Option (List AV))
theorem zFP {F:Nat→Option Dj} {f:Nat} {E:List AV→List zf→Option (AV×List zf)} (hf:F f=some (.ext E)) (args:List AV) (h:List zf):aR G F f args h=E args h:=by
 unfold aR gH
 rw [hf];rfl
theorem Kb (b f:Bool) (l:List Int) (hl:l.length≤1000000):aR G FT u7 [.data b 1 (ints l) f] []=some (.own 0 1 0 l.length l.length,[⟨1,1,true,ints l⟩]):=by
 rw [zFP G (F:=FT) (f:=u7) (E:=jm 1) rfl]
 simp [jm,zw,hl,zaW]
def TV (h:Int) (q:List Int) (id:Int):Int:=
 if Yf h q=true∧RN id=true then if h=id then 0 else if 0≤idxFrom id q 0 then idxFrom id q 0+1 else -1 else -1
theorem LV (x:Int):∀ (l:List Int) (i:Nat),idxFrom x l i= -1∨((i:Int)≤idxFrom x l i∧idxFrom x l i<i+l.length)
 | [],_=>.inl rfl
 | y::l,i=>by
  unfold idxFrom
  split
  ·right;simp;omega
  ·rcases LV x l (i+1) with h | h
   ·exact .inl h
   ·right;simp at h ⊢;omega
theorem zsz (h:Int) (q:List Int) (b f:Bool) (id:Int) (hl:q.length≤1000):aP G FT Rk [.agg [.int .i64 h,.data b 1 (ints q) f],.int .i64 id]=some (.int .i64 (TV h q id)):=by
 unfold aP TV
 rw [zeD]
 have hr:=LV id q 0
 have hi:=fun b f=>ztF G q b f id (by omega)
 have hM:=fun b f=>zjN G h q b f hl
 have hN:=zby G id
 by_cases hm:Yf h q=true
 ·by_cases hn:RN id=true
  ·rw [if_pos ⟨hm,hn⟩]
   by_cases he:h=id
   ·subst he
    rw [if_pos rfl]
    (sym=>simp [Qb,Qd,Qe,Qf,Qg,Qi,Qj,Qm,Qn,Qo,Qr,Qt,Qu,Qw,Q4,Xa,Xd,Xp,X8,Yj,Yr,Yt,Yu,Yv,Y1,Y5,Y7,Y9,Za,Zb,Zc,Ze,Zg,Zh,Zi,Zj,Zk,Zl,Zm,Zn,Zo,Zr,Zs,Zt,Zu,Zv,Zw,Zy,Z0,Z3,Jb,Jj,Jk,Jl,Jn,Jp,Jr,Jv,Jx,Ue,Uf,Ug,Ul,V3,V6,V9,Wd,We,Wj,Hh,Ho,Hq,Hs,Hv,Nl,No,Np,Nw,Nx,Be,zcz.eq_1,zco.eq_1,zcq.eq_1,zcp.eq_1,zdu.eq_1,zc0.eq_1,zcm.eq_1,zcM.eq_1,zdq.eq_1,jg.eq_1,hM,hN,hm,hn])
   ·rw [if_neg he]
    by_cases hx:0≤idxFrom id q 0
    ·have hw:IntKind.i64.wrap (idxFrom id q 0+1)=idxFrom id q 0+1:=ZV _ (by omega) (by omega)
     (sym=>simp [Qb,Qc,Qd,Qe,Qf,Qg,Qi,Qj,Qm,Qn,Qo,Qr,Qt,Qu,Qw,Q4,Xa,Xd,Xp,X5,X8,Yd,Yj,Yr,Yt,Yu,Yv,Y1,Y5,Y7,Y9,Za,Zb,Zc,Ze,Zg,Zh,Zi,Zj,Zk,Zl,Zm,Zn,Zo,Zr,Zs,Zt,Zu,Zv,Zw,Zy,Z0,Z3,Jb,Jj,Jk,Jl,Jn,Jo,Jr,Jv,Jx,Ue,Uf,Ug,Ul,V3,V6,V9,Wd,We,Wj,Hh,Hi,Ho,Hq,Hs,Hv,Nl,Nm,No,Np,Nw,Nx,Be,zcz.eq_1,zco.eq_1,zcq.eq_1,zcp.eq_1,zdu.eq_1,zc0.eq_1,zcm.eq_1,zcM.eq_1,zdq.eq_1,jg.eq_1,hM,hN,hi,hm,hn,he,hx,hw])
    ·(sym=>simp [Qb,Qc,Qd,Qe,Qf,Qg,Qi,Qj,Qm,Qn,Qo,Qr,Qt,Qu,Qw,Q4,Xa,Xd,Xp,X8,Yd,Yj,Yr,Yt,Yu,Yv,Y1,Y5,Y7,Y9,Za,Zb,Zc,Ze,Zg,Zh,Zi,Zj,Zk,Zl,Zm,Zn,Zo,Zr,Zs,Zt,Zu,Zv,Zw,Zy,Z0,Z3,Jb,Jj,Jk,Jn,Jo,Jr,Jv,Jx,Ue,Uf,Ug,Ul,V3,V6,V9,Wd,We,Wj,Hh,Hi,Ho,Hq,Hs,Hv,Nm,No,Np,Nw,Nx,Be,zcz.eq_1,zco.eq_1,zcq.eq_1,zcp.eq_1,zdu.eq_1,zc0.eq_1,zcm.eq_1,zcM.eq_1,zdq.eq_1,jg.eq_1,hM,hN,hi,hm,hn,he,hx])
  ·have hn':RN id=false:=by simpa using hn
   (sym=>simp [Qb,Qd,Qe,Qf,Qg,Qi,Qj,Qm,Qn,Qo,Qr,Qt,Qu,Qw,Q4,Xd,Yj,Yr,Yu,Y1,Y5,Y7,Y9,Za,Zb,Zc,Ze,Zg,Zh,Zi,Zj,Zk,Zl,Zm,Zn,Zo,Zr,Zs,Zt,Zu,Zv,Zw,Zy,Z0,Z3,Jb,Jj,Jk,Jl,Jn,Jp,Jr,Jv,Jx,Ue,Uf,Ug,Ul,V3,V6,V9,Wd,We,Wj,Hh,Ho,Hq,Hs,Hv,No,Np,Nw,Nx,N1,Be,zcz.eq_1,zco.eq_1,zcq.eq_1,zcp.eq_1,zdu.eq_1,zc0.eq_1,zcm.eq_1,zcM.eq_1,zdq.eq_1,jg.eq_1,hM,hN,hm,hn'])
 ·have hm':Yf h q=false:=by simpa using hm
  (sym=>simp [Qb,Qd,Qe,Qf,Qg,Qi,Qj,Qm,Qn,Qo,Qr,Qt,Qu,Qw,Q4,Xd,Yj,Yr,Yu,Y1,Y5,Y7,Y9,Za,Zb,Zc,Ze,Zg,Zh,Zi,Zj,Zk,Zl,Zm,Zn,Zo,Zr,Zs,Zt,Zu,Zv,Zw,Zy,Z0,Z3,Jb,Jj,Jk,Jl,Jn,Jp,Jr,Jv,Jx,Ue,Uf,Ug,Ul,V3,V6,V9,Wd,We,Wj,Hh,Ho,Hq,Hs,Hv,No,Np,Nw,Nx,N2,Be,zcz.eq_1,zco.eq_1,zcq.eq_1,zcp.eq_1,zdu.eq_1,zc0.eq_1,zcm.eq_1,zcM.eq_1,zdq.eq_1,jg.eq_1,hM,hN,hm'])
def NV (h:Int) (q:List Int):AV:=.agg [.int .i64 h,.data false 1 (ints q) false]
def RU (h:Int) (q:List Int) (id:Int):Int×List Int×Int:=
 if Yf h q=true∧RN id=true then if h=0 then (id,[],0) else if TV h q id<0 then (h,q++[id],0) else (h,q,0) else (0,[],2)
theorem zHj (h:Int) (q:List Int) (b f:Bool) (id:Int) (hl:q.length≤1000):
  aP G FT DF [.agg [.int .i64 h,.data b 1 (ints q) f],.int .i64 id]=some (.tup [NV (RU h q id).1 (RU h q id).2.1,.int .i64 (RU h q id).2.2]):=by
 have hp:=fun b f=>zsz G h q b f id hl
 have hM:=fun b f=>zjN G h q b f hl
 have hN:=zby G id
 have hC:=fun b f=>Kb G b f q (by omega)
 unfold aP RU NV
 rw [zik]
 by_cases hm:Yf h q=true
 ·by_cases hn:RN id=true
  ·rw [if_pos ⟨hm,hn⟩]
   by_cases he:h=0
   ·have hq:q=[]:=by simpa [Yf,he] using hm
    subst hq he
    have hq0:TV 0 [] id= -1:=by
     have:¬ 0=id:=by intro e;subst e;simp [RN] at hn
     simp [TV,hm,hn,this,idxFrom]
    rw [hq0] at hp
    simp only [yh,List.length_nil] at hp hM hC
    (sym=>simp [Qb,Qc,Qd,Qe,Qf,Qg,Qi,Qj,Qm,Qn,Qo,Qp,Qq,Qr,Qt,Qu,Qv,Qw,Qx,Qy,Qz,Q0,Q1,Q2,Q4,Q5,Q6,Q9,Xa,Xd,Xj,Xl,Xm,Xn,Xp,Xs,Xy,X0,X8,Ya,Yc,Yg,Yj,Yk,Yo,Yr,Yt,Yu,Yv,Yx,Y1,Y2,Y4,Y5,Y6,Y7,Y8,Y9,Za,Zb,Zc,Zd,Ze,Zg,Zh,Zi,Zj,Zk,Zl,Zm,Zn,Zo,Zp,Zq,Zr,Zs,Zt,Zu,Zv,Zw,Zx,Zy,Zz,Z0,Z1,Z3,Jb,Jj,Jk,Jr,Jv,Jw,Jx,J1,J2,J3,J7,Kv,Kx,K0,K1,K2,K8,K9,Ua,Ub,Uc,Ud,Ue,Uf,Ug,Ul,Uq,Us,U6,Vk,Vm,Vo,Vp,Vq,Vr,Vs,Vt,Vu,Vv,Vw,Vx,V3,V6,V9,Wd,We,Wf,Wh,Wi,Wj,Wp,Wq,Wz,W5,W6,W7,Hh,Hi,Hk,Hl,Ho,Hp,Hq,Hr,Hs,Ht,Hu,Hv,Hw,Hx,Hy,Hz,H2,H3,H5,H6,H8,Nl,No,Np,Nq,Ns,Nw,Nx,Nz,N0,N2,Be,Bg,Bh,Bi,zcA.eq_1,zcy.eq_1,zdl.eq_1,zc4.eq_1,zcw.eq_1,gy.eq_1,yf,IE.eq_1,Ik.eq_1,IB.eq_1,JY.eq_1,yX.eq_1,RP,zk2.eq_1,zkB.eq_1,zkN.eq_1,zkD.eq_1,gK.eq_1,jl,zcB.eq_1,zcG.eq_1,zc8.eq_1,yL.eq_1,hM,hN,hp,hC,hm,hn,yh])
   ·by_cases hx:TV h q id<0
    ·have hb:(q.length+1) * 8≤140737488355328:=by omega
     have e1:List.take q.length (ints q)=ints q:=List.take_of_length_le (by rw [zw];exact Nat.le_refl _)
     have e2:List.take (q.length+1) (ints q++[[.int .i64 id]])=ints q++[[.int .i64 id]]:=List.take_of_length_le (by simp [zw])
     have e3:q.length+1≤q.length↔False:=by simp
     (sym=>simp [Qb,Qc,Qd,Qe,Qf,Qg,Qi,Qj,Qm,Qn,Qo,Qp,Qq,Qr,Qt,Qu,Qv,Qw,Qx,Qy,Qz,Q0,Q1,Q2,Q4,Q5,Q6,Q9,Xa,Xd,Xj,Xp,X0,X8,Ya,Yj,Yk,Yo,Yr,Yt,Yu,Yv,Y1,Y2,Y4,Y5,Y6,Y7,Y8,Y9,Za,Zb,Zc,Zd,Ze,Zg,Zh,Zi,Zj,Zk,Zl,Zm,Zn,Zo,Zp,Zq,Zr,Zs,Zt,Zu,Zv,Zw,Zx,Zy,Zz,Z0,Z1,Z3,Jb,Jj,Jk,Jr,Jv,Jw,Jx,J1,J2,J3,J7,Kv,Kx,K8,K9,Ua,Ub,Uc,Ud,Ue,Uf,Ug,Ul,Uq,Us,U6,Vk,Vm,Vo,Vp,Vq,Vr,Vs,Vt,Vu,Vv,Vw,Vx,V3,V6,V9,Wd,We,Wf,Wh,Wi,Wj,Wp,Wq,Wz,W5,W6,W7,Hh,Hi,Hk,Hl,Ho,Hp,Hq,Hr,Hs,Ht,Hu,Hv,Hw,Hx,Hy,Hz,H2,H3,H5,H6,H8,Ng,Nh,Nl,Nm,No,Np,Nq,Nt,Nw,Nx,Nz,N0,N2,Be,Bg,zcA.eq_1,zcy.eq_1,zdl.eq_1,zc4.eq_1,zcw.eq_1,gy.eq_1,yf,IE.eq_1,Ik.eq_1,IB.eq_1,JY.eq_1,yX.eq_1,RP,zk2.eq_1,zkB.eq_1,zkN.eq_1,zkD.eq_1,gK.eq_1,hM,hN,hp,hC,hm,hn,he,hx,hb,e1,e2,e3,zw,uw,uz,yh])
    ·have e1:List.take q.length (ints q)=ints q:=List.take_of_length_le (by rw [zw];exact Nat.le_refl _)
     (sym=>simp [Qb,Qc,Qd,Qe,Qf,Qg,Qi,Qj,Qm,Qn,Qo,Qp,Qq,Qr,Qt,Qu,Qv,Qw,Qx,Qy,Q1,Q4,Q5,Q6,Q9,Xa,Xd,Xj,Xp,X8,Ya,Yj,Yk,Yo,Yr,Yt,Yu,Yv,Y1,Y4,Y5,Y6,Y7,Y8,Y9,Za,Zb,Zc,Zd,Ze,Zg,Zh,Zi,Zj,Zk,Zl,Zm,Zn,Zo,Zp,Zq,Zr,Zs,Zt,Zu,Zv,Zw,Zx,Zy,Zz,Z0,Z1,Z3,Jb,Jj,Jk,Jr,Jv,Jw,Jx,J1,J2,J3,K8,K9,Ue,Uf,Ug,Ul,Uq,Us,U6,Vk,Vm,Vo,Vp,Vq,Vr,Vs,Vt,Vu,Vv,Vw,Vx,V3,V6,V9,Wd,We,Wf,Wh,Wi,Wj,Wp,Wq,Wz,W5,W6,W7,Hh,Hi,Hk,Hl,Ho,Hp,Hq,Hr,Hs,Ht,Hu,Hv,Hw,Hx,Hy,Hz,H5,H6,H8,Ng,Nl,Nm,No,Np,Nq,Nt,Nw,Nx,Nz,N0,Be,zcA.eq_1,zcy.eq_1,zdl.eq_1,zc4.eq_1,zcw.eq_1,gy.eq_1,yf,IE.eq_1,Ik.eq_1,IB.eq_1,JY.eq_1,yX.eq_1,RP,zk2.eq_1,zkB.eq_1,zkN.eq_1,zkD.eq_1,gK.eq_1,hM,hN,hp,hC,hm,hn,he,hx,e1,zw])
  ·have hn':RN id=false:=by simpa using hn
   (sym=>simp [Qb,Qd,Qe,Qf,Qg,Qi,Qj,Qm,Qn,Qo,Qr,Qt,Qu,Qv,Qw,Qx,Q1,Q4,Q5,Xd,Yj,Yk,Yr,Yt,Yu,Y1,Y6,Y7,Y8,Y9,Za,Zb,Zc,Zd,Ze,Zg,Zh,Zi,Zj,Zk,Zl,Zm,Zn,Zo,Zr,Zs,Zt,Zu,Zv,Zw,Zy,Z0,Z1,Z3,Jb,Jj,Jk,Jl,Jr,Jv,Jx,J1,J2,K8,Ue,Uf,Ug,Ul,V3,V6,V9,Wd,We,Wg,Wh,Wi,Wj,Wp,Wq,Hh,Hi,Hk,Hl,Ho,Hp,Hq,Hr,Hs,Ht,Hu,Hv,Hw,Hx,No,Np,Nw,Nx,N0,N1,Be,zcA.eq_1,zcy.eq_1,zdl.eq_1,zc4.eq_1,zcw.eq_1,gy.eq_1,hM,hN,hm,hn',yh])
 ·have hm':Yf h q=false:=by simpa using hm
  (sym=>simp [Qb,Qd,Qe,Qf,Qg,Qi,Qj,Qm,Qn,Qo,Qr,Qt,Qu,Qv,Qw,Qx,Q1,Q4,Q5,Xd,Yj,Yk,Yr,Yu,Y1,Y6,Y7,Y8,Y9,Za,Zb,Zc,Zd,Ze,Zg,Zh,Zi,Zj,Zk,Zl,Zm,Zn,Zo,Zr,Zs,Zt,Zu,Zv,Zw,Zy,Z0,Z1,Z3,Jb,Jj,Jk,Jl,Jr,Jv,Jx,J1,J2,K8,Ue,Uf,Ug,Ul,V3,V6,V9,Wd,We,Wg,Wh,Wi,Wj,Wp,Wq,Hh,Hi,Hk,Hl,Ho,Hp,Hq,Hr,Hs,Ht,Hu,Hv,Hw,Hx,No,Np,Nw,Nx,N0,N2,Be,zcA.eq_1,zcy.eq_1,zdl.eq_1,zc4.eq_1,zcw.eq_1,gy.eq_1,hM,hN,hm',yh])
end
end Go.Proofs.YthcnhibjddomdaaGreat
namespace Go.Proofs.YthcnhibjddomdaaGreat
section
open Go
variable (G:Nat→Option (List AV))
theorem zqY (h:List zf) (id g:Nat) (q:List Int) (k:Nat) (hk:k<q.length) (hl:q.length≤1000000) (hr:h[id]? =some ⟨1,g,true,ints q⟩):
  aR G FT UI [.own id g 0 q.length q.length,.int .i64 k,.int .i64 ((k+1:Nat):Int)] h=some (.own id g 0 (q.length - 1) q.length,h.set id ⟨1,g,true,ints (q.eraseIdx k)++[[.int .i64 0]]⟩):=by
 have hid:id<h.length:=(List.getElem?_eq_some_iff.1 hr).1
 have hs:∀ r,(h.set id r)[id]? =some r:=fun r=>List.getElem?_set_self hid
 rw [Fv]
 have hne:¬ (k:Int)=((k+1:Nat):Int):=by omega
 have e1:List.take (q.length - (k+1)) (List.drop (k+1) (ints q))=ints (q.drop (k+1)):=by
  rw [zuD];exact List.take_of_length_le (by rw [zw];simp)
 have e2:k+(q.length - (k+1))=q.length - 1:=by omega
 have e3:q.length - (q.length - 1)=1:=by omega
 have e7:k+1+(q.length - (k+1))=q.length:=by omega
 have f1:k≤k+1:=by omega
 have f2:k+1≤q.length:=by omega
 have f3:q.length - 1≤q.length:=by omega
 have f4:k≤q.length:=by omega
 have f5:(q.drop (k+1)).length=q.length - (k+1):=List.length_drop
 have f6:q.length - 1+1=q.length:=by omega
 have e4:List.take (q.length - 1) (List.take k (ints q)++ints (q.drop (k+1))++List.drop (q.length - 1) (ints q))=ints (q.eraseIdx k):=by
  rw [List.eraseIdx_eq_take_drop_succ,uw,zdh]
  apply List.take_left'
  simp [zw];omega
 have e5:List.drop q.length (List.take k (ints q)++ints (q.drop (k+1))++List.drop (q.length - 1) (ints q))=[]:=by
  apply List.drop_eq_nil_of_le
  simp [zw];omega
 have e6:(List.take k (ints q)).length+(q.length - (k+1))+(List.drop (q.length - 1) (ints q)).length=q.length:=by
  simp [zw];omega
 (sym=>simp [Qb,Qc,Qd,Qe,Qi,Qj,Qr,Qt,Xa,Xl,Xm,Xn,Xy,X0,X8,Yg,Y1,Y2,Y5,Y7,Y9,Za,Zb,Zc,Zd,Ze,Zg,Zh,Zi,Zj,Zk,Zl,Zm,Zn,Zr,Zs,Zt,Zu,Zv,Zw,Zx,Zy,Zz,Z0,Z3,Jj,Jk,Jr,Jv,Jx,Kv,K0,K1,K2,Ue,Uf,Ug,W8,Hw,Hx,H2,H3,H8,Na,Nf,Ng,Ni,Nk,Nm,No,Nz,N0,Bb,Be,Bf,zyR.eq_1,zA3.eq_1,zA0.eq_1,zxg.eq_1,zwt.eq_1,zxA.eq_1,zy3.eq_1,zwr.eq_1,jJ.eq_1,hr,hs,hne,e1,e2,e3,e4,e5,e6,e7,f1,f2,f3,f4,f5,f6,hk,zw,List.set_set])
def WA (h:Int) (q:List Int) (id:Int):Int×List Int×Int:=
 if Yf h q=true∧RN id=true then
  if h=id then (match q with | []=>(0,[],0) | x::q=>(x,q,0))
  else if 0≤idxFrom id q 0 then (h,q.eraseIdx (idxFrom id q 0).toNat,0) else (h,q,0)
 else (0,[],2)
theorem zFB (h:Int) (q:List Int) (b f:Bool) (id:Int) (hl:q.length≤1000):
  aP G FT JP [.agg [.int .i64 h,.data b 1 (ints q) f],.int .i64 id]=some (.tup [NV (WA h q id).1 (WA h q id).2.1,.int .i64 (WA h q id).2.2]):=by
 have hp:=fun b f=>zsz G h q b f id hl
 have hM:=fun b f=>zjN G h q b f hl
 have hN:=zby G id
 have hC:=fun b f=>Kb G b f q (by omega)
 unfold aP WA NV
 rw [ze0]
 have e1:List.take q.length (ints q)=ints q:=List.take_of_length_le (by rw [zw];exact Nat.le_refl _)
 by_cases hm:Yf h q=true
 ·by_cases hn:RN id=true
  ·rw [if_pos ⟨hm,hn⟩]
   by_cases he:h=id
   ·subst he
    have hq0:TV h q h=0:=by simp [TV,hm,hn]
    rw [if_pos rfl]
    rw [hq0] at hp
    cases q with
    | nil=>
     simp only [yh,List.length_nil] at hp hM hC
     (sym=>simp [Qb,Qc,Qd,Qe,Qf,Qg,Qi,Qj,Qm,Qn,Qo,Qp,Qq,Qr,Qt,Qu,Qv,Qw,Qx,Qy,Q1,Q4,Q5,Q6,Q9,Xa,Xd,Xj,Xp,Xy,X8,Yc,Yg,Yj,Yk,Yo,Yr,Yt,Yu,Yv,Y1,Y4,Y5,Y6,Y7,Y8,Y9,Za,Zb,Zc,Zd,Ze,Zg,Zh,Zi,Zj,Zk,Zl,Zm,Zn,Zo,Zp,Zq,Zr,Zs,Zt,Zu,Zv,Zw,Zx,Zy,Zz,Z0,Z1,Z3,Jb,Jj,Jk,Jn,Jo,Jr,Jv,Jw,Jx,J1,J2,J3,K8,K9,Ue,Uf,Ug,Ul,Uq,Us,U6,Vk,Vm,Vo,Vp,Vq,Vr,Vs,Vt,Vu,Vv,Vw,Vx,V3,V6,V9,Wd,We,Wf,Wh,Wi,Wj,Wp,Wq,Wz,W5,W6,W7,Hh,Hi,Hk,Hl,Ho,Hp,Hq,Hr,Hs,Ht,Hu,Hv,Hw,Hy,Hz,H5,H6,Nf,Nl,Nm,No,Np,Nq,Ns,Nw,Nx,Nz,N0,Be,Bh,zaG.eq_1,zaK.eq_1,zaR.eq_1,za4.eq_1,zaL.eq_1,jf.eq_1,yf,IE.eq_1,Ik.eq_1,IB.eq_1,JY.eq_1,yX.eq_1,gQ,zf5.eq_1,zfi.eq_1,ze7.eq_1,zhV.eq_1,jq.eq_1,jl,zcB.eq_1,zcG.eq_1,zc8.eq_1,yL.eq_1,hM,hN,hp,hC,hm,hn,yh])
    | cons x q=>
     have p1:(0:Int)<((q.length+1:Nat):Int):=by omega
     have p2:1≤q.length+1:=by omega
     have p4:1+q.length≤q.length+1:=by omega
     have p3:List.take q.length (ints q)=ints q:=List.take_of_length_le (by rw [zw];exact Nat.le_refl _)
     simp only [List.length_cons,uz] at hC hp hM
     (sym=>simp [Qb,Qc,Qd,Qe,Qf,Qg,Qi,Qj,Qm,Qn,Qo,Qp,Qq,Qr,Qt,Qu,Qv,Qw,Qx,Qy,Q1,Q4,Q5,Q6,Q9,Xa,Xd,Xj,Xl,Xm,Xn,Xp,Xs,Xy,X8,Yc,Yg,Yj,Yk,Yo,Yr,Yt,Yu,Yv,Yx,Y1,Y4,Y5,Y6,Y7,Y8,Y9,Za,Zb,Zc,Zd,Ze,Zg,Zh,Zi,Zj,Zk,Zl,Zm,Zn,Zo,Zp,Zq,Zr,Zs,Zt,Zu,Zv,Zw,Zx,Zy,Zz,Z0,Z1,Z3,Jb,Jj,Jk,Jn,Jo,Jr,Jv,Jw,Jx,J1,J2,J3,J7,K0,K1,K2,K8,K9,Ue,Uf,Ug,Ul,Uq,Us,U6,Vk,Vm,Vo,Vp,Vq,Vr,Vs,Vt,Vu,Vv,Vw,Vx,V3,V6,V9,Wd,We,Wf,Wh,Wi,Wj,Wp,Wq,Ww,Wz,W3,W4,W5,W6,W7,Hh,Hi,Hk,Hl,Ho,Hp,Hq,Hr,Hs,Ht,Hu,Hv,Hw,Hy,Hz,H5,H6,Ng,Nl,No,Np,Nq,Nt,Nw,Nx,Nz,N0,Be,Bi,zaG.eq_1,zaK.eq_1,zaR.eq_1,za4.eq_1,zaL.eq_1,jf.eq_1,yf,IE.eq_1,Ik.eq_1,IB.eq_1,JY.eq_1,yX.eq_1,gQ,zf5.eq_1,zfi.eq_1,ze7.eq_1,zhV.eq_1,jq.eq_1,jl,zcB.eq_1,zcG.eq_1,zc8.eq_1,yL.eq_1,hM,hN,hp,hC,hm,hn,uz,zw,p1,p2,p3,p4,Nat.add_sub_cancel])
   ·rw [if_neg he]
    by_cases hx:0≤idxFrom id q 0
    ·obtain ⟨k,hk⟩:∃ k:Nat,idxFrom id q 0=k:=⟨(idxFrom id q 0).toNat,by omega⟩
     have hkl:k<q.length:=by
      rcases LV id q 0 with h | h<;>omega
     have hpl:TV h q id=((k+1:Nat):Int):=by
      simp only [TV,hm,hn,and_self,if_true,he,if_false,hx,hk];rfl
     rw [hpl] at hp
     rw [if_pos hx,hk]
     have n1:¬ ((k+1:Nat):Int)=0:=by omega
     have n2:0<((k+1:Nat):Int):=by omega
     have hw:IntKind.i64.wrap (((k+1:Nat):Int) - 1)=(k:Int):=by rw [ZV _ (by omega) (by omega)];omega
     have t1:List.take (q.length - 1) (ints (q.eraseIdx k)++[[.int .i64 0]])=ints (q.eraseIdx k):=List.take_left' (by rw [zw,List.length_eraseIdx_of_lt hkl])
     have t2:(ints (q.eraseIdx k)++[[AV.int .i64 0]]).length=q.length:=by
      rw [List.length_append,zw,List.length_eraseIdx_of_lt hkl];simp;omega
     have t3:q.length - 1≤q.length:=by omega
     have t4:(ints (q.eraseIdx k)).length+1=q.length:=by rw [zw,List.length_eraseIdx_of_lt hkl];omega
     (sym=>simp [Qc,Qd,Qe,Qf,Qg,Qi,Qj,Qm,Qn,Qo,Qp,Qq,Qr,Qt,Qu,Qv,Qw,Qx,Qy,Q1,Q4,Q5,Q6,Q9,Xa,Xd,Xj,Xp,X6,X8,Yc,Yj,Yk,Yo,Yr,Yt,Yu,Yv,Y1,Y9,Za,Zb,Zc,Zd,Ze,Zg,Zh,Zi,Zj,Zk,Zl,Zm,Zn,Zo,Zp,Zq,Zr,Zs,Zt,Zv,Zw,Zx,Zy,Zz,Z0,Z1,Z3,Jb,Jj,Jk,Jn,Jr,Jv,J1,J3,K8,K9,Ue,Uf,Ug,Ul,Uq,Us,U6,Vk,Vm,Vo,Vp,Vq,Vr,Vs,Vt,Vu,Vv,Vw,Vx,V3,V6,V9,Wd,We,Wz,W5,W6,W7,Hh,Hi,Hk,Hl,Ho,Hp,Hq,Hr,Hs,Ht,Hu,Hv,Hw,Hy,Hz,H5,H6,Ni,Nl,Nm,No,Np,Nq,Nt,Nw,Nx,Nz,Be,zaG.eq_1,zaK.eq_1,zaR.eq_1,za4.eq_1,zaL.eq_1,jf.eq_1,yf,IE.eq_1,Ik.eq_1,IB.eq_1,JY.eq_1,yX.eq_1,gQ,zf5.eq_1,zfi.eq_1,ze7.eq_1,zhV.eq_1,jq.eq_1,hM,hN,hp,hC,hm,hn,n1,n2,hw];tactic=>(
      rw [zqY G _ _ _ q k hkl (by omega) rfl]
      (sym=>simp [Qb,Qd,Qe,Qi,Qr,Q4,Q5,Q6,Q9,Xp,Yr,Yu,Yv,Y4,Y5,Y6,Y7,Y8,Y9,Za,Zb,Zc,Zd,Ze,Zg,Zh,Zm,Zn,Zt,Zu,Zv,Zw,Zx,Zy,Zz,Z0,Z1,Jj,Jk,Jo,Jv,Jw,Jx,J1,J2,J7,Ue,Uf,Ug,Uq,Wf,Wh,Wi,Wj,Wp,Wq,Hh,Hi,Hk,Hl,Ho,Hp,Hq,Hr,Hs,Ht,Hv,Hw,Hx,H8,No,Nq,Nz,N0,Be,yf,gQ,t1,t2,t3,t4])))
    ·have hq0:TV h q id= -1:=by simp only [TV,hm,hn,and_self,if_true,he,if_false,hx]
     rw [hq0] at hp
     (sym=>simp [Qb,Qc,Qd,Qe,Qf,Qg,Qi,Qj,Qm,Qn,Qo,Qp,Qq,Qr,Qt,Qu,Qv,Qw,Qx,Qy,Q1,Q4,Q5,Q6,Q9,Xa,Xd,Xj,Xp,X8,Yc,Yj,Yk,Yo,Yr,Yt,Yu,Yv,Y1,Y4,Y5,Y6,Y7,Y8,Y9,Za,Zb,Zc,Zd,Ze,Zg,Zh,Zi,Zj,Zk,Zl,Zm,Zn,Zo,Zp,Zq,Zr,Zs,Zt,Zu,Zv,Zw,Zx,Zy,Zz,Z0,Z1,Z3,Jb,Jj,Jk,Jn,Jo,Jr,Jv,Jw,Jx,J1,J2,J3,K8,K9,Ue,Uf,Ug,Ul,Uq,Us,U6,Vk,Vm,Vo,Vp,Vq,Vr,Vs,Vt,Vu,Vv,Vw,Vx,V3,V6,V9,Wd,We,Wf,Wh,Wi,Wj,Wp,Wq,Wz,W5,W6,W7,Hh,Hi,Hk,Hl,Ho,Hp,Hq,Hr,Hs,Ht,Hu,Hv,Hw,Hy,Hz,H5,H6,H8,Ng,Nl,Nm,No,Np,Nq,Nt,Nw,Nx,Nz,N0,Be,zaG.eq_1,zaK.eq_1,zaR.eq_1,za4.eq_1,zaL.eq_1,jf.eq_1,yf,IE.eq_1,Ik.eq_1,IB.eq_1,JY.eq_1,yX.eq_1,gQ,zf5.eq_1,zfi.eq_1,ze7.eq_1,zhV.eq_1,jq.eq_1,hM,hN,hp,hC,hm,hn,hx,e1,zw])
  ·have hn':RN id=false:=by simpa using hn
   (sym=>simp [Qb,Qd,Qe,Qf,Qg,Qi,Qj,Qm,Qn,Qo,Qr,Qt,Qu,Qv,Qw,Qx,Q1,Q4,Q5,Xd,Yj,Yr,Yu,Y1,Y6,Y7,Y8,Y9,Za,Zb,Zc,Zd,Ze,Zg,Zh,Zi,Zj,Zk,Zl,Zm,Zn,Zo,Zr,Zs,Zt,Zu,Zv,Zw,Zy,Z0,Z1,Z3,Jb,Jj,Jk,Jl,Jr,Jv,Jx,J1,J2,K8,Ue,Uf,Ug,Ul,V3,V6,V9,Wd,We,Wg,Wh,Wi,Wj,Wp,Wq,Hh,Hi,Hk,Hl,Ho,Hp,Hq,Hr,Hs,Ht,Hu,Hv,Hw,No,Np,Nw,Nx,N0,N1,Be,zaG.eq_1,zaK.eq_1,zaR.eq_1,za4.eq_1,zaL.eq_1,jf.eq_1,hM,hN,hm,hn',yh])
 ·have hm':Yf h q=false:=by simpa using hm
  (sym=>simp [Qb,Qd,Qe,Qf,Qg,Qi,Qj,Qm,Qn,Qo,Qr,Qt,Qu,Qv,Qw,Qx,Q1,Q4,Q5,Xd,Yj,Yr,Yu,Y1,Y6,Y7,Y8,Y9,Za,Zb,Zc,Zd,Ze,Zg,Zh,Zi,Zj,Zk,Zl,Zm,Zn,Zo,Zr,Zs,Zt,Zu,Zv,Zw,Zy,Z0,Z1,Z3,Jb,Jj,Jk,Jl,Jr,Jv,Jx,J1,J2,K8,Ue,Uf,Ug,Ul,V3,V6,V9,Wd,We,Wg,Wh,Wi,Wj,Wp,Wq,Hh,Hi,Hk,Hl,Ho,Hp,Hq,Hr,Hs,Ht,Hu,Hv,Hw,No,Np,Nw,Nx,N0,N2,Be,zaG.eq_1,zaK.eq_1,zaR.eq_1,za4.eq_1,zaL.eq_1,jf.eq_1,hM,hN,hm',yh])
end
end Go.Proofs.YthcnhibjddomdaaGreat
namespace Go.Proofs.YthcnhibjddomdaaGreat
section
open Go
variable (G:Nat→Option (List AV))
theorem Lc (x:Int):∀ (l:List Int) (i:Nat),(0≤idxFrom x l i)↔x ∈ l
 | [],i=>by simp [idxFrom]
 | y::l,i=>by
  unfold idxFrom
  by_cases h:x=y
  ·simp [h]
  ·rw [if_neg h,Lc x l (i+1)];simp [h]
theorem zpD (l:List Int) (b f:Bool) (x:Int) (hl:l.length<9223372036854775807):aP G FT YY [.data b 1 (ints l) f,.int .i64 x]=some (.bool (decide (x ∈ l))):=by
 unfold aP
 rw [JJ]
 have hi:=fun b f=>ztF G l b f x hl
 have hm:decide (0≤idxFrom x l 0)=decide (x ∈ l):=by simp [Lc x l 0]
 (sym=>simp [Qb,Qd,Qe,Qi,Qj,Qm,Qn,Qo,Qr,Xa,Yd,Y1,Y5,Y7,Y9,Za,Zb,Zc,Ze,Zg,Zh,Zi,Zj,Zk,Zl,Zm,Zo,Zr,Zs,Zt,Zu,Zv,Zw,Jj,Jk,Jv,Jx,V6,V9,Wd,We,Wk,Be,zxq.eq_1,zzD.eq_1,uV.eq_1,hi,hm])
theorem zmh (ids:List Int) (b f fl:Bool) (x:Int) (h:List zf) (id:Nat) (hl:ids.length<9223372036854775807) (hrow:h[id]? =some ⟨1,0,fl,[[.data b 1 (ints ids) f]]⟩):
  aR G FT Vh [.int .i64 x,.ptr id 0 0 0] h=some (.bool (!decide (x ∈ ids)),h):=by
 rw [zda]
 have hc:=fun b f=>zpD G ids b f x hl
 (sym=>simp [Qb,Qd,Qe,Qi,Qj,Qm,Qn,Qo,Qr,Qt,Q4,Xd,Yr,Yt,Y1,Y5,Y7,Y9,Za,Zb,Zc,Ze,Zg,Zh,Zi,Zj,Zk,Zl,Zo,Zr,Zs,Zt,Zu,Zv,Zw,Zy,Z0,Jj,Jk,Jv,Jx,V6,V9,Wd,We,Hh,Be,zzT.eq_1,zwK.eq_1,WQ.eq_1,hrow,hc])
def Le (h:Int) (q ids:List Int):Int×List Int×Int:=
 if Yf h q=true then
  if h≠0∧h ∉ ids then (match q.filter fun x=>decide (x ∈ ids) with | []=>(0,[],0) | x::q=>(x,q,0)) else (h,q.filter fun x=>decide (x ∈ ids),0)
 else (0,[],2)
theorem zEX (h:Int) (q ids:List Int) (b f b2 f2:Bool) (hl:q.length≤1000) (hi:ids.length≤1000):
  aP G FT IC [.agg [.int .i64 h,.data b 1 (ints q) f],.data b2 1 (ints ids) f2]=some (.tup [NV (Le h q ids).1 (Le h q ids).2.1,.int .i64 (Le h q ids).2.2]):=by
 have hM:=fun b f=>zjN G h q b f hl
 have hC:=fun b f=>Kb G b f q (by omega)
 unfold aP Le NV
 rw [zhp]
 by_cases hm:Yf h q=true
 ·rw [if_pos hm]
  (sym=>simp [Qc,Qd,Qe,Qi,Qj,Qm,Qn,Qo,Qp,Qq,Qr,Qt,Qv,Qw,Qx,Qy,Q1,Q4,Q5,Q6,Q9,Xd,Xj,Xp,Yj,Yk,Yn,Yo,Yr,Yt,Yu,Yv,Y1,Y9,Za,Zb,Zc,Zd,Ze,Zg,Zh,Zi,Zj,Zk,Zl,Zm,Zn,Zo,Zp,Zq,Zr,Zs,Zt,Zv,Zw,Zx,Zy,Zz,Z0,Z1,Z3,Jj,Jk,Jr,Jv,J1,J9,K8,K9,Ue,Uf,Ug,Uj,Ul,Uq,Ur,Us,U6,Vk,Vm,Vo,Vp,Vq,Vr,Vs,Vt,Vu,Vv,Vw,Vx,V3,V6,V9,Wd,We,Wz,W5,W6,W7,Hh,Hi,Hk,Hl,Ho,Hp,Hq,Hr,Hs,Ht,Hu,Hv,Hw,Hx,Hy,Hz,H5,H6,Nl,No,Np,Nq,Nt,Nw,Nx,Nz,Be,zpI.eq_1,zqH.eq_1,zpy.eq_1,zoP.eq_1,zpb.eq_1,Uk.eq_1,yf,IE.eq_1,Ik.eq_1,IB.eq_1,JY.eq_1,yX.eq_1,gZ,zA6.eq_1,zzf.eq_1,zxN.eq_1,VD.eq_1,hM,hC,hm];tactic=>(
   rw [zvG G q 6 0 q.length _ _ _ (fun x=> !decide (x ∈ ids)) _ ?h1 ?h2 ?h3 ?h4 ?h5 ?h6 rfl]
   case h1=>simp
   case h2=>intro r hr i hi;simp at hr;rcases hr with rfl | rfl | rfl | rfl | rfl | rfl | rfl | rfl<;>simp_all [zf.ids,AV.idsL,AV.ids]
   case h3=>simp [AV.idsL,AV.ids]
   case h4=>omega
   case h5=>omega
   case h6=>intro R x;exact zmh G ids b2 f2 _ x _ 1 (by omega) rfl
   simp only [Bool.not_not]
   have hfl:(q.filter fun x=>decide (x ∈ ids)).length≤q.length:=List.length_filter_le _ _
   generalize (q.filter fun x=>decide (x ∈ ids))=q' at hfl
   have t1:List.take q'.length (ints q'++ints (List.replicate (q.length - q'.length) 0))=ints q':=List.take_left' (zw q')
   have t2:q'.length≤q'.length+(q.length - q'.length):=by omega
   have lr:∀ n,(List.replicate n (0:Int)).length=n:=fun n=>by simp
   have go:=fun (fl:Bool) (rows:List zf)=>zmh G ids b2 f2 fl h rows 1 (by omega)
   by_cases he:h≠0∧h ∉ ids
   ·obtain ⟨he1,he2⟩:=he
    have hgone:∀ (r0:zf) (fl:Bool) (rows:List zf),aR G FT Vh [.int .i64 h,.ptr 1 0 0 0] (r0::⟨1,0,fl,[[.data b2 1 (ints ids) f2]]⟩::rows)=some (.bool true,r0::⟨1,0,fl,[[.data b2 1 (ints ids) f2]]⟩::rows):=fun r0 fl rows=>by
     rw [go fl _ rfl];simp [he2]
    rw [if_pos ⟨he1,he2⟩]
    cases q' with
    | nil=>(sym=>simp [Qb,Qc,Qd,Qe,Qf,Qg,Qi,Qj,Qm,Qn,Qp,Qq,Qr,Qt,Qu,Q4,Q5,Q6,Q9,Xa,Xp,Xy,X9,Yc,Yg,Yr,Yt,Yu,Yv,Y1,Y4,Y5,Y6,Y7,Y8,Y9,Za,Zb,Zc,Zd,Ze,Zg,Zh,Zi,Zj,Zk,Zl,Zm,Zn,Zr,Zs,Zt,Zu,Zv,Zw,Zx,Zy,Zz,Z0,Z1,Z3,Ja,Jj,Jk,Jr,Jv,Jw,Jx,J1,J2,J3,J7,Ue,Uf,Ug,Uq,Wf,Wh,Wi,Wj,Wp,Wq,Hh,Hi,Hk,Hl,Ho,Hp,Hq,Hr,Hs,Ht,Hu,Hv,Hw,Na,Nf,Nm,No,Nq,Nx,Nz,N0,Be,Bh,yf,gZ,jl,zcB.eq_1,zcG.eq_1,zc8.eq_1,yL.eq_1,he1,hgone,yh,List.length_nil])
    | cons y q'=>
     simp only [uz,List.length_cons,List.cons_append] at t1 hfl
     simp only [List.length_cons] at t2
     have p1:(0:Int)<((q'.length+1:Nat):Int):=by omega
     have p2:1≤q'.length+1:=by omega
     have p4:1+q'.length≤q'.length+(q.length - (q'.length+1))+1:=by omega
     have p5:q'.length+1≤q.length:=hfl
     have p6:List.take q'.length (ints q'++ints (List.replicate (q.length - (q'.length+1)) 0))=ints q':=List.take_left' (zw q')
     (sym=>simp [Qb,Qd,Qe,Qf,Qg,Qi,Qj,Qm,Qn,Qp,Qq,Qr,Qt,Qu,Q4,Q5,Q6,Q9,Xa,Xl,Xm,Xn,Xp,Xs,Xy,X9,Yc,Yg,Yr,Yt,Yu,Yv,Yx,Y1,Y4,Y5,Y6,Y7,Y8,Y9,Za,Zb,Zc,Zd,Ze,Zg,Zh,Zi,Zj,Zk,Zl,Zm,Zn,Zr,Zs,Zt,Zu,Zv,Zw,Zx,Zy,Zz,Z0,Z1,Ja,Jj,Jk,Jr,Jv,Jw,Jx,J1,J2,J3,J7,K0,K1,K2,Ue,Uf,Ug,Uq,Wf,Wh,Wi,Wj,Wp,Wq,Hh,Hi,Hk,Hl,Ho,Hp,Hq,Hr,Hs,Ht,Hu,Hv,Hw,Hx,Ng,Nl,Nm,No,Nq,Nx,Nz,N0,Be,Bi,yf,gZ,jl,zcB.eq_1,zcG.eq_1,zc8.eq_1,yL.eq_1,he1,hgone,uz,uw,zw,lr,p1,p2,p4,p5,p6,Nat.add_sub_cancel])
   ·rw [if_neg he]
    by_cases he1:h=0
    ·(sym=>simp [Qb,Qc,Qd,Qe,Qf,Qg,Qi,Qj,Qr,Qt,Qu,Q4,Q5,Q6,Q9,Xa,Xp,X9,Yr,Yt,Yu,Yv,Y4,Y5,Y6,Y7,Y8,Y9,Za,Zb,Zc,Zd,Ze,Zg,Zh,Zm,Zn,Zt,Zu,Zv,Zw,Zx,Zy,Zz,Z0,Z1,Z3,Ja,Jj,Jk,Jr,Jv,Jw,Jx,J1,J2,J7,Ue,Uf,Ug,Uq,Wf,Wh,Wi,Wj,Wp,Wq,Hh,Hi,Hk,Hl,Ho,Hp,Hq,Hr,Hs,Ht,Hv,Hw,Hx,H8,Nl,No,Nq,Nw,Nz,N0,Be,yf,gZ,he1,hfl,t1,t2,uw,zw,lr])
    ·have he2:h ∈ ids:=by
      by_cases hh:h ∈ ids
      ·exact hh
      ·exact absurd ⟨he1,hh⟩ he
     have hgone:∀ (r0:zf) (fl:Bool) (rows:List zf),aR G FT Vh [.int .i64 h,.ptr 1 0 0 0] (r0::⟨1,0,fl,[[.data b2 1 (ints ids) f2]]⟩::rows)=some (.bool false,r0::⟨1,0,fl,[[.data b2 1 (ints ids) f2]]⟩::rows):=fun r0 fl rows=>by
      rw [go fl _ rfl];simp [he2]
     (sym=>simp [Qb,Qc,Qd,Qe,Qf,Qg,Qi,Qj,Qm,Qn,Qp,Qq,Qr,Qt,Qu,Q4,Q5,Q6,Q9,Xa,Xp,X9,Yr,Yt,Yu,Yv,Y4,Y5,Y6,Y7,Y8,Y9,Za,Zb,Zc,Zd,Ze,Zg,Zh,Zm,Zn,Zt,Zu,Zv,Zw,Zx,Zy,Zz,Z0,Z1,Z3,Ja,Jj,Jk,Jr,Jv,Jw,Jx,J1,J2,J7,Ue,Uf,Ug,Uq,Wf,Wh,Wi,Wj,Wp,Wq,Hh,Hi,Hk,Hl,Ho,Hp,Hq,Hr,Hs,Ht,Hu,Hv,Hw,Hx,H8,Nm,No,Nq,Nx,Nz,N0,Be,yf,gZ,he1,hgone,hfl,t1,t2,uw,zw,lr])))
 ·have hm':Yf h q=false:=by simpa using hm
  rw [if_neg hm]
  (sym=>simp [Qb,Qd,Qe,Qi,Qj,Qm,Qn,Qo,Qr,Qt,Qv,Qw,Qx,Q1,Q4,Q5,Xd,Yj,Yn,Yr,Yu,Y1,Y6,Y7,Y8,Y9,Za,Zb,Zc,Zd,Ze,Zg,Zh,Zi,Zj,Zk,Zl,Zm,Zn,Zo,Zr,Zs,Zt,Zu,Zv,Zw,Zy,Z0,Z1,Jj,Jk,Jl,Jr,Jv,Jx,J1,J2,K8,Ue,Uf,Ug,Ul,V3,V6,V9,Wd,We,Wg,Wh,Wi,Wj,Wp,Wq,Hh,Hi,Hk,Hl,Ho,Hp,Hq,Hr,Hs,Ht,Hu,Hv,Hw,Hx,No,Np,Nx,N0,Be,zpI.eq_1,zqH.eq_1,zpy.eq_1,zoP.eq_1,zpb.eq_1,Uk.eq_1,hM,hm',yh])
end
end Go.Proofs.YthcnhibjddomdaaGreat
namespace Go.Proofs.YthcnhibjddomdaaGreat
section
open Go
variable (G:Nat→Option (List AV))
def WZ (n:Int):Bool:=decide (1≤n)&&decide (n≤1000)
theorem zyB (n:Int):aP G FT Tm [.int .i64 n]=some (.bool (WZ n)):=by
 unfold aP WZ
 rw [zh3]
 by_cases h1:1≤n
 ·(sym=>simp [Qb,Qd,Qe,Qf,Qg,Qi,Qj,Qr,Qt,Qu,Xa,Yb,Yd,Y1,Y5,Y7,Y9,Za,Zb,Zc,Ze,Zg,Zh,Zi,Zj,Zk,Zl,Zm,Zr,Zs,Zt,Zu,Zv,Zw,Ja,Jj,Jk,Jv,Jx,Wk,Nl,Np,Be,zy1.eq_1,zAa.eq_1,Tj.eq_1,h1])
 ·(sym=>simp [Qb,Qd,Qe,Qf,Qg,Qi,Qj,Qr,Qt,Qu,Xa,Yd,Y1,Y5,Y7,Y9,Za,Zb,Zc,Ze,Zg,Zh,Zi,Zj,Zk,Zl,Zm,Zr,Zs,Zt,Zu,Zv,Zw,Z3,Ja,Jj,Jk,Jv,Jx,Wk,Nm,Nr,Be,zy1.eq_1,zAa.eq_1,Tj.eq_1,h1])
def zcH (n:Int):Bool:=decide (1≤n)&&decide (n≤8)
theorem zgL (n:Int):zcH n=true↔1≤n∧n≤8:=by simp [zcH]
theorem znS (n:Int):aP G FT Rm [.int .i64 n]=some (.bool (zcH n)):=by
 unfold aP zcH
 rw [zep]
 by_cases h1:1≤n
 ·(sym=>simp [Qb,Qd,Qe,Qf,Qg,Qi,Qj,Qr,Qt,Qu,Xa,Yb,Yd,Y1,Y5,Y7,Y9,Za,Zb,Zc,Ze,Zg,Zh,Zi,Zj,Zk,Zl,Zm,Zr,Zs,Zt,Zu,Zv,Zw,Ja,Jj,Jk,Jv,Jx,Wk,Nl,Np,Be,zw0.eq_1,zyT.eq_1,YU.eq_1,h1])
 ·(sym=>simp [Qb,Qd,Qe,Qf,Qg,Qi,Qj,Qr,Qt,Qu,Xa,Yd,Y1,Y5,Y7,Y9,Za,Zb,Zc,Ze,Zg,Zh,Zi,Zj,Zk,Zl,Zm,Zr,Zs,Zt,Zu,Zv,Zw,Z3,Ja,Jj,Jk,Jv,Jx,Wk,Nm,Nr,Be,zw0.eq_1,zyT.eq_1,YU.eq_1,h1])
def zeB (p:Int×Int):Bool:=(decide (p.1=0)&&decide (p.2=0))||(WZ p.1&&WZ p.2)
theorem zyp (p:Int×Int):aP G FT Kz [.agg [.int .i64 p.1,.int .i64 p.2]]=some (.bool (zeB p)):=by
 obtain ⟨a,b⟩:=p
 unfold aP zeB
 rw [zd6]
 have hS:=zyB G
 simp only
 by_cases h1:a=0
 ·by_cases h2:b=0
  ·(sym=>simp [Qb,Qd,Qe,Qf,Qg,Qh,Qi,Qj,Qr,Qt,Qu,Qw,Qx,Q1,Q4,Xb,Yj,Yr,Yu,Y1,Y5,Y7,Y9,Za,Zb,Zc,Ze,Zg,Zh,Zi,Zj,Zk,Zl,Zm,Zn,Zr,Zs,Zt,Zu,Zv,Zw,Zy,Z0,Z3,Jb,Jh,Jj,Jk,Jv,Jx,Kh,Kk,Kl,Km,K8,Ue,Uf,Ug,Wk,Hh,Ho,Hq,Hs,Hv,Nl,No,Nt,Nw,Be,znb.eq_1,znV.eq_1,jN.eq_1,hS,h1,h2])
  ·have hs:WZ 0=false:=by decide
   (sym=>simp [Qb,Qd,Qe,Qf,Qg,Qi,Qj,Qm,Qn,Qo,Qr,Qt,Qu,Qw,Qx,Q1,Q4,Xb,Xt,Yj,Yr,Yt,Yu,Yz,Y1,Y5,Y7,Y9,Za,Zb,Zc,Ze,Zg,Zh,Zi,Zj,Zk,Zl,Zm,Zn,Zo,Zr,Zs,Zt,Zu,Zv,Zw,Zy,Z0,Z3,Ja,Jb,Jh,Jj,Jk,Jv,Jx,Kh,Kk,Kl,Km,K8,Ue,Uf,Ug,V6,Wd,We,Wk,Hh,Ho,Hq,Hs,Hv,Nl,Nm,No,Nq,Nr,Nu,Nx,Nz,Be,Bh,Bi,znb.eq_1,znV.eq_1,jN.eq_1,hS,h1,h2,hs])
 ·cases hs:WZ a with
  | true=>(sym=>simp [Qb,Qd,Qe,Qf,Qg,Qi,Qj,Qm,Qn,Qo,Qr,Qt,Qu,Qw,Qx,Q1,Q4,Xb,Xt,Yj,Yr,Yt,Yu,Yz,Y1,Y5,Y7,Y9,Za,Zb,Zc,Ze,Zg,Zh,Zi,Zj,Zk,Zl,Zm,Zn,Zo,Zr,Zs,Zt,Zu,Zv,Zw,Zy,Z0,Z3,Ja,Jb,Jh,Jj,Jk,Jv,Jx,Kh,Kk,Kl,Km,K8,Ue,Uf,Ug,V6,Wd,We,Wk,Hh,Hi,Ho,Hq,Hs,Hv,Nm,No,Np,Nr,Nv,Nx,Nz,Be,Bh,Bi,znb.eq_1,znV.eq_1,jN.eq_1,hS,h1,hs])
  | false=>(sym=>simp [Qb,Qd,Qe,Qf,Qg,Qi,Qj,Qm,Qn,Qo,Qr,Qt,Qu,Qw,Qx,Q1,Q4,Xb,Xt,Yj,Yr,Yt,Yu,Yz,Y1,Y5,Y7,Y9,Za,Zb,Zc,Ze,Zg,Zh,Zi,Zj,Zk,Zl,Zm,Zn,Zo,Zr,Zs,Zt,Zu,Zv,Zw,Zy,Z0,Z3,Ja,Jb,Jh,Jj,Jk,Jv,Jx,Kh,Kk,Kl,Km,K8,Ue,Uf,Ug,V6,Wd,We,Wk,Hh,Ho,Hq,Hs,Hv,Nm,No,Nr,Nu,Nx,Nz,Be,Bh,Bi,znb.eq_1,znV.eq_1,jN.eq_1,hS,h1,hs])
def zF (w:Nat→Int×Int):List AV:=[.int .i64 (w 0).1,.int .i64 (w 0).2,.int .i64 (w 1).1,.int .i64 (w 1).2,.int .i64 (w 2).1,.int .i64 (w 2).2,.int .i64 (w 3).1,.int .i64 (w 3).2,.int .i64 (w 4).1,.int .i64 (w 4).2,
 .int .i64 (w 5).1,.int .i64 (w 5).2,.int .i64 (w 6).1,.int .i64 (w 6).2,.int .i64 (w 7).1,.int .i64 (w 7).2,.int .i64 (w 8).1,.int .i64 (w 8).2]
theorem Tg (w:Nat→Int×Int):(zF w).length=18:=rfl
theorem zca (w:Nat→Int×Int):AV.stableL (zF w)=true:=by simp [zF,AV.stableL,AV.stable]
theorem zkn (w:Nat→Int×Int) (h:List zf):yE h (zF w)=some (zF w):=by simp [zF,yE,ZC]
theorem nine {n:Nat} (h:n<9):n=0∨n=1∨n=2∨n=3∨n=4∨n=5∨n=6∨n=7∨n=8:=by omega
theorem zAu (w:Nat→Int×Int) {n:Nat} (h:n<9):((zF w).drop (n * 2)).take 2=[.int .i64 (w n).1,.int .i64 (w n).2]:=by
 rcases nine h with rfl | rfl | rfl | rfl | rfl | rfl | rfl | rfl | rfl<;>rfl
theorem zB2 (w:Nat→Int×Int) {n:Nat} (h:n<9):(zF w)[n * 2]? =some (.int .i64 (w n).1):=by
 rcases nine h with rfl | rfl | rfl | rfl | rfl | rfl | rfl | rfl | rfl<;>rfl
theorem zB4 (w:Nat→Int×Int) {n:Nat} (h:n<9):(zF w)[n * 2+1]? =some (.int .i64 (w n).2):=by
 rcases nine h with rfl | rfl | rfl | rfl | rfl | rfl | rfl | rfl | rfl<;>rfl
def okW (w:Nat→Int×Int) (k:Nat):Bool:=zeB (w k)&&(!decide (k=0)||(decide ((w k).1=0)&&decide ((w k).2=0)))
def Wn (w:Nat→Int×Int):Nat→Nat→Bool
 | 0,_=>true
 | m+1,i=>okW w i&&Wn w m (i+1)
def TN (w:Nat→Int×Int):Bool:=Wn w 9 0
theorem ztO (w:Nat→Int×Int):∀ (m i:Nat),i+m=9→
  aE G FT 0 UJ ⟨[(1,.ptr 0 0 0 0),(4,.int .i64 i)],[⟨18,0,true,[zF w]⟩]⟩=
   if Wn w m i=true then some (.exit 0,⟨[(1,.ptr 0 0 0 0),(4,.int .i64 9),(5,.bool false)],[⟨18,0,true,[zF w]⟩]⟩)
   else some (.ret,⟨[(2,.bool false)],[⟨18,0,true,[zF w]⟩]⟩):=by
 intro m
 induction m with
 | zero=>
  intro i hi
  rw [UJ,zn]
  obtain rfl:i=9:=by omega
  rw [Wn,if_pos rfl]
  have e:((9:Nat):Int)=9:=rfl
  (sym=>simp [Qa,Qd,Qe,Qi,Qj,Qt,Xa,Ya,Y9,Za,Zb,Zc,Ze,Zg,Zh,Zk,Zl,Zm,Zn,Zt,Zv,Zw,Zx,Zy,Zz,Z0,Z3,Jj,Jk,Jm,Jr,Ju,Jv,Ut,Ux,U4,U5,U7,Vb,Vk,Vm,Vo,Vp,Vq,Vr,Vs,Vt,Vu,Vv,Vw,Vx,Vy,Vz,V0,Hh,Hp,Hv,Hw,H1,H5,H6,Nl,Nm,No,Nx,Be,Bh,zfb.eq_1,zhk.eq_1,zfM.eq_1,zgK.eq_1,ze2.eq_1,gD.eq_1,e])
 | succ m ih=>
  intro i hi
  have ih:=ih (i+1) (by omega)
  rw [UJ] at ih
  rw [UJ,zn]
  have hW:=zyp G (w i)
  have hlt:i<9:=by omega
  have hlt':(i:Int)<9:=by omega
  have hc:=zAu w hlt
  have hl:i * 2+2≤18:=by omega
  have hw:=zH (n:=i) (by omega)
  have h0i:0≤(i:Int):=by omega
  have cl:=Tg w
  rw [Wn]
  by_cases hk:zeB (w i)=true
  ·by_cases h0:i=0
   ·subst h0
    have e0:((0:Nat):Int)=0:=rfl
    have e1:((0+1:Nat):Int)=1:=rfl
    have hw1:IntKind.i64.wrap 1=1:=by decide
    have hc:List.take 2 (zF w)=[.int .i64 (w 0).1,.int .i64 (w 0).2]:=rfl
    have hz:okW w 0=(decide ((w 0).1=0)&&decide ((w 0).2=0)):=by simp [okW,hk]
    rw [hz]
    by_cases ha:(w 0).1=0
    ·by_cases hb:(w 0).2=0
     ·simp only [ha,hb,decide_true,Bool.true_and]
      rw [← ih]
      simp only [ha,hb] at hW
      (sym=>simp [Qc,Qd,Qe,Qf,Qg,Qi,Qj,Qm,Qn,Qo,Qr,Qt,Qu,Qx,Q1,Q4,Xa,Xb,Xd,Xt,X5,X8,Ya,Yr,Yu,Yz,Y9,Za,Zb,Zc,Ze,Zg,Zh,Zk,Zl,Zm,Zn,Zo,Zt,Zv,Zw,Zx,Zy,Zz,Z0,Z3,Ja,Jb,Jg,Jj,Jk,Jn,Jo,Jr,Js,Jv,Kh,Kk,Kl,Km,K8,Ut,Ux,U4,U5,U7,Vb,Vk,Vm,Vo,Vp,Vq,Vr,Vs,Vt,Vu,Vv,Vw,Vx,Vy,Vz,V0,V3,V6,Wd,We,Hh,Hp,Hs,Hv,Hw,H1,H5,H6,Nl,No,Nw,Nx,Nz,Be,Bh,Bi,zfb.eq_1,zhk.eq_1,zfM.eq_1,zgK.eq_1,ze2.eq_1,gD.eq_1,hW,hk,hc,cl,ha,hb,e0,e1,hw1])
     ·simp only [ha,hb,decide_true,decide_false,Bool.false_and,Bool.true_and,Bool.false_eq_true,if_false]
      simp only [ha] at hW
      (sym=>simp [Qb,Qc,Qd,Qe,Qf,Qg,Qi,Qj,Qm,Qn,Qo,Qr,Qt,Qu,Qx,Q1,Q4,Xa,Xb,Xd,Xt,X8,Ya,Yr,Yu,Yz,Y9,Za,Zb,Zc,Ze,Zg,Zh,Zk,Zl,Zm,Zn,Zo,Zt,Zv,Zw,Zx,Zy,Zz,Z0,Z3,Ja,Jb,Jg,Jj,Jk,Jl,Jn,Jp,Jr,Jt,Jv,Kh,Kk,Kl,Km,K8,Ut,Ux,U4,U5,U7,Vb,Vk,Vm,Vo,Vp,Vq,Vr,Vs,Vt,Vu,Vv,Vw,Vx,Vy,Vz,V0,V3,V6,Wd,We,Hh,Hp,Hs,Hv,Hw,H1,H5,H6,Nl,Nm,No,Nq,Nw,Nx,Nz,Be,Bh,Bi,zfb.eq_1,zhk.eq_1,zfM.eq_1,zgK.eq_1,ze2.eq_1,gD.eq_1,hW,hk,hc,cl,ha,hb,e0,hw])
    ·simp only [ha,decide_false,Bool.false_and,Bool.false_eq_true,if_false]
     (sym=>simp [Qb,Qc,Qd,Qe,Qf,Qg,Qi,Qj,Qm,Qn,Qo,Qr,Qt,Qu,Qx,Q1,Q4,Xa,Xb,Xd,Xt,X8,Ya,Yr,Yu,Yz,Y9,Za,Zb,Zc,Ze,Zg,Zh,Zk,Zl,Zm,Zn,Zo,Zt,Zv,Zw,Zx,Zy,Zz,Z0,Z3,Ja,Jb,Jg,Jj,Jk,Jl,Jn,Jp,Jr,Jt,Jv,Kh,Kk,Kl,Km,K8,Ut,Ux,U4,U5,U7,Vb,Vk,Vm,Vo,Vp,Vq,Vr,Vs,Vt,Vu,Vv,Vw,Vx,Vy,Vz,V0,V3,V6,Wd,We,Hh,Hp,Hs,Hv,Hw,H1,H5,H6,Nl,Nm,No,Nr,Nw,Nx,Nz,Be,Bh,Bi,zfb.eq_1,zhk.eq_1,zfM.eq_1,zgK.eq_1,ze2.eq_1,gD.eq_1,hW,hk,hc,cl,ha,e0,hw])
   ·have hz:okW w i=true:=by simp [okW,hk,h0]
    have h0':¬ (i:Int)=0:=by omega
    rw [hz,Bool.true_and,← ih]
    (sym=>simp [Qc,Qd,Qe,Qf,Qg,Qi,Qj,Qm,Qn,Qo,Qr,Qt,Qu,Q4,Xa,Xd,Xt,X5,X8,Ya,Yr,Yu,Yz,Y9,Za,Zb,Zc,Ze,Zg,Zh,Zk,Zl,Zm,Zn,Zo,Zt,Zv,Zw,Zx,Zy,Zz,Z0,Z3,Ja,Jb,Jj,Jk,Jn,Jo,Jr,Js,Jv,Ut,Ux,U4,U5,U7,Vb,Vk,Vm,Vo,Vp,Vq,Vr,Vs,Vt,Vu,Vv,Vw,Vx,Vy,Vz,V0,V3,V6,Wd,We,Hh,Hp,Hv,Hw,H1,H5,H6,H8,Ni,Nk,Nl,Nm,No,Nw,Nx,Nz,Be,Bh,zfb.eq_1,zhk.eq_1,zfM.eq_1,zgK.eq_1,ze2.eq_1,gD.eq_1,hW,hk,hc,hl,cl,hlt',h0i,h0',hw])
  ·have hk':zeB (w i)=false:=by simpa using hk
   have hz:okW w i=false:=by simp [okW,hk']
   rw [hz,Bool.false_and,if_neg (by simp)]
   (sym=>simp [Qb,Qc,Qd,Qe,Qf,Qg,Qh,Qi,Qj,Qm,Qn,Qo,Qr,Qt,Qu,Q4,Xa,Xd,Xt,Ya,Yr,Yu,Yz,Y9,Za,Zb,Zc,Ze,Zg,Zh,Zk,Zl,Zm,Zn,Zo,Zt,Zv,Zw,Zx,Zy,Zz,Z0,Z3,Jb,Jj,Jk,Jl,Jn,Jp,Jr,Jt,Jv,Ut,Ux,U4,U5,U7,Vb,Vk,Vm,Vo,Vp,Vq,Vr,Vs,Vt,Vu,Vv,Vw,Vx,Vy,Vz,V0,V3,V6,Wd,We,Hh,Hp,Hv,Hw,H1,H5,H6,H8,Ni,Nk,Nl,No,Nw,Nx,Nz,Be,Bh,zfb.eq_1,zhk.eq_1,zfM.eq_1,zgK.eq_1,ze2.eq_1,gD.eq_1,hW,hk',hc,hl,cl,hlt',h0i,hw])
theorem zl2 (w:Nat→Int×Int):aP G FT PP [.agg (zF w)]=some (.bool (TN w)):=by
 unfold aP TN
 rw [zlN]
 have key:=ztO G w 9 0 rfl
 have e0:((0:Nat):Int)=0:=rfl
 rw [e0] at key
 have cl:=Tg w
 have cs:=zca w
 cases hm:Wn w 9 0 with
 | true=>rw [hm,if_pos rfl] at key;(sym=>simp [Qb,Qd,Qe,Qi,Qj,Qr,Qw,Yj,Y1,Y5,Y7,Y9,Za,Zb,Zc,Ze,Zg,Zh,Zi,Zj,Zk,Zl,Zm,Zr,Zs,Zt,Zu,Zv,Zw,Jj,Jk,Jn,Jq,Jv,Jx,Wk,Hv,Be,zyb.eq_1,zv0.eq_1,zzn.eq_1,SX.eq_1,key,cl,cs])
 | false=>rw [hm,if_neg (by simp)] at key;(sym=>simp [Qd,Qe,Qi,Qj,Qr,Qw,Yj,Y1,Y5,Y7,Y9,Za,Zb,Zc,Ze,Zg,Zh,Zi,Zj,Zk,Zl,Zm,Zr,Zs,Zt,Zu,Zv,Zw,Jj,Jk,Jl,Jn,Jp,Jv,Jx,Wk,Hv,Be,zyb.eq_1,zv0.eq_1,zzn.eq_1,SX.eq_1,key,cl,cs])
end
end Go.Proofs.YthcnhibjddomdaaGreat
namespace Go.Proofs.YthcnhibjddomdaaGreat
section
open Go
variable (G:Nat→Option (List AV))
def stepW (w:Nat→Int×Int) (s:Bool×Int×Int) (id:Int):Bool×Int×Int:=
 if zcH id=true∧¬ ((w id.toNat).1=0∧(w id.toNat).2=0) then (true,min s.2.1 (w id.toNat).1,min s.2.2 (w id.toNat).2) else s
def zht (w:Nat→Int×Int) (ids:List Int):Bool×Int×Int:=ids.foldl (stepW w) (false,24,40)
def zdD (w:Nat→Int×Int) (l0 l1 r c:Int):List zf:=[⟨18,0,true,[zF w]⟩,⟨2,0,true,[[.int .i64 l0,.int .i64 l1]]⟩,⟨2,0,true,[[.int .i64 0,.int .i64 0]]⟩,⟨2,0,true,[[.int .i64 r,.int .i64 c]]⟩]
theorem zqF (w:Nat→Int×Int) (l0 l1:Int) (b f:Bool) (l:List Int) (hl:l.length<9223372036854775807):∀ (m i:Nat) (s:Bool×Int×Int),i+m=l.length→
  aE G FT 0 Tc ⟨[(3,.ptr 0 0 0 0),(5,.ptr 1 0 0 0),(6,.ptr 2 0 0 0),(7,.ptr 3 0 0 0),(8,.bool s.1),(17,.data b 1 (ints l) f),(18,.int .i64 l.length),(19,.int .i64 i)],zdD w l0 l1 s.2.1 s.2.2⟩=
   some (.exit 0,⟨[(3,.ptr 0 0 0 0),(5,.ptr 1 0 0 0),(6,.ptr 2 0 0 0),(7,.ptr 3 0 0 0),(8,.bool ((l.drop i).foldl (stepW w) s).1),(17,.data b 1 (ints l) f),(18,.int .i64 l.length),(19,.int .i64 l.length),(20,.bool false)],
    zdD w l0 l1 ((l.drop i).foldl (stepW w) s).2.1 ((l.drop i).foldl (stepW w) s).2.2⟩):=by
 intro m
 induction m with
 | zero=>
  intro i s hi
  rw [Tc,zn]
  have e:l.drop i=[]:=List.drop_eq_nil_of_le (by omega)
  have ei:i=l.length:=by omega
  subst ei
  have e0:decide ((l.length:Int)<l.length)=false:=by simp
  rw [e,List.foldl_nil]
  obtain ⟨t,r,c⟩:=s
  unfold zdD
  (sym=>simp [Qa,Qd,Qe,Qi,Qt,Xa,Ya,Y9,Za,Zb,Zc,Ze,Zg,Zh,Zk,Zl,Zm,Zn,Zt,Zv,Zw,Zx,Zy,Zz,Z0,Z3,Jj,Jk,Jm,Jr,Ju,Jv,Ut,Ux,Uy,U0,U4,U5,U7,Vb,Vc,Ve,Vk,Vm,Vo,Vp,Vq,Vr,Vs,Vt,Vu,Vv,Vw,Vx,Vy,Vz,V0,Hh,Hi,Hp,Hu,Hv,Hw,H1,H4,H5,H6,Nl,No,Nu,Nx,Be,zj2.eq_1,zjD.eq_1,zi0.eq_1,zi1.eq_1,zjy.eq_1,zdn.eq_1,oQ.eq_1,e0])
 | succ m ih=>
  intro i s hi
  have hlt:i<l.length:=by omega
  have hlt':(i:Int)<l.length:=by omega
  have e:l.drop i=l[i]::l.drop (i+1):=List.drop_eq_getElem_cons hlt
  have hw:=zH (n:=i) (by omega)
  have hg:=ints_at hlt
  rw [e,List.foldl_cons]
  have hN:=znS G
  generalize l[i]=x at hg
  have ih:=ih (i+1) (stepW w s x) (by omega)
  rw [← ih]
  rw [Tc,zn]
  obtain ⟨t,r,c⟩:=s
  have cl:=Tg w
  have cs:=zca w
  have hw1:IntKind.i64.wrap 1=1:=by decide
  have hw2:IntKind.i64.wrap 2=2:=by decide
  by_cases hm:zcH x=true
  ·obtain ⟨h1,h8⟩:=(zgL x).1 hm
   have h0:0≤x:=by omega
   have h9:x<9:=by omega
   have hn9:x.toNat<9:=by omega
   have hc:=zAu w hn9
   have hc0:=zB2 w hn9
   have hc1:=zB4 w hn9
   have q1:x.toNat * 2+2≤18:=by omega
   have q2:x.toNat * 2<18:=by omega
   have q3:x.toNat * 2+1<18:=by omega
   by_cases ha:(w x.toNat).1=0
   ·by_cases hb:(w x.toNat).2=0
    ·have hst:stepW w (t,r,c) x=(t,r,c):=by simp [stepW,ha,hb]
     rw [hst]
     unfold zdD
     (sym=>simp [Qa,Qc,Qd,Qe,Qf,Qg,Qi,Qj,Qm,Qn,Qo,Qr,Qt,Qu,Qx,Q1,Q4,Xa,Xb,Xd,Xs,Xt,X5,Ya,Yr,Ys,Yt,Yu,Yy,Yz,Y9,Za,Zb,Zc,Ze,Zg,Zh,Zk,Zl,Zm,Zn,Zo,Zt,Zv,Zw,Zx,Zy,Zz,Z0,Z3,Jb,Jh,Jj,Jk,Jm,Jn,Jq,Jr,Js,Jv,Kh,Kk,Kl,Km,K8,Ut,Ux,Uy,U0,U4,U5,U7,Vb,Vc,Ve,Vk,Vm,Vo,Vp,Vq,Vr,Vs,Vt,Vu,Vv,Vw,Vx,Vy,Vz,V0,V6,Wd,We,Hh,Hi,Hp,Hu,Hv,Hw,H1,H4,H5,H6,H8,Ni,Nk,Nl,No,Nu,Nw,Nx,Nz,Be,Bh,Ma,Mb,Md,Mf,zj2.eq_1,zjD.eq_1,zi0.eq_1,zi1.eq_1,zjy.eq_1,zdn.eq_1,oQ.eq_1,hlt',hg,hN,hm,h0,h9,hc,cl,cs,q1,ha,hb,hw])
    ·have hst:stepW w (t,r,c) x=(true,min r (w x.toNat).1,min c (w x.toNat).2):=by simp [stepW,hm,hb]
     rw [hst]
     unfold zdD
     (sym=>simp [Qa,Qc,Qd,Qe,Qf,Qg,Qi,Qj,Qm,Qn,Qo,Qr,Qt,Qu,Qx,Q1,Q4,Q5,Xa,Xb,Xd,Xs,Xt,X4,X5,Ya,Ye,Yr,Ys,Yt,Yu,Yy,Yz,Y9,Za,Zb,Zc,Zd,Ze,Zg,Zh,Zk,Zl,Zm,Zn,Zo,Zt,Zv,Zw,Zx,Zy,Zz,Z0,Z1,Z3,Jb,Jh,Jj,Jk,Jm,Jn,Jo,Jq,Jr,Js,Ju,Jv,J3,Kh,Kk,Kl,Km,K8,Ut,Ux,Uy,U0,U4,U5,U7,Vb,Vc,Ve,Vk,Vm,Vo,Vp,Vq,Vr,Vs,Vt,Vu,Vv,Vw,Vx,Vy,Vz,V0,V6,Wd,We,Hh,Hi,Hk,Hl,Hp,Hu,Hv,Hw,H1,H4,H5,H6,H8,H9,Ni,Nk,Nl,Nm,Nn,No,Nq,Nu,Nw,Nx,Nz,Be,Bh,Bi,Ma,Mb,Md,Mf,zj2.eq_1,zjD.eq_1,zi0.eq_1,zi1.eq_1,zjy.eq_1,zqK.eq_1,zpj.eq_1,zp6.eq_1,zo9.eq_1,zdn.eq_1,oQ.eq_1,RS.eq_1,hlt',hg,hN,hm,h0,h9,hc,hc0,hc1,cl,cs,q1,q2,q3,ha,hb,hw,RX.eq_1,zn,hw1,hw2])
   ·have hst:stepW w (t,r,c) x=(true,min r (w x.toNat).1,min c (w x.toNat).2):=by simp [stepW,hm,ha]
    rw [hst]
    unfold zdD
    (sym=>simp [Qa,Qc,Qd,Qe,Qf,Qg,Qi,Qj,Qm,Qn,Qo,Qr,Qt,Qu,Qx,Q1,Q4,Q5,Xa,Xb,Xd,Xs,Xt,X4,X5,Ya,Ye,Yr,Ys,Yt,Yu,Yy,Yz,Y9,Za,Zb,Zc,Zd,Ze,Zg,Zh,Zk,Zl,Zm,Zn,Zo,Zt,Zv,Zw,Zx,Zy,Zz,Z0,Z1,Z3,Jb,Jh,Jj,Jk,Jm,Jn,Jo,Jq,Jr,Js,Ju,Jv,J3,Kh,Kk,Kl,Km,K8,Ut,Ux,Uy,U0,U4,U5,U7,Vb,Vc,Ve,Vk,Vm,Vo,Vp,Vq,Vr,Vs,Vt,Vu,Vv,Vw,Vx,Vy,Vz,V0,V6,Wd,We,Hh,Hi,Hk,Hl,Hp,Hu,Hv,Hw,H1,H4,H5,H6,H8,H9,Ni,Nk,Nl,Nm,Nn,No,Nr,Nu,Nw,Nx,Nz,Be,Bh,Bi,Ma,Mb,Md,Mf,zj2.eq_1,zjD.eq_1,zi0.eq_1,zi1.eq_1,zjy.eq_1,zqK.eq_1,zpj.eq_1,zp6.eq_1,zo9.eq_1,zdn.eq_1,oQ.eq_1,RS.eq_1,hlt',hg,hN,hm,h0,h9,hc,hc0,hc1,cl,cs,q1,q2,q3,ha,hw,RX.eq_1,zn,hw1,hw2])
  ·have hst:stepW w (t,r,c) x=(t,r,c):=by simp [stepW,hm]
   rw [hst]
   have hm':zcH x=false:=by simpa using hm
   unfold zdD
   (sym=>simp [Qa,Qc,Qd,Qe,Qf,Qg,Qi,Qj,Qm,Qn,Qo,Qr,Qt,Qu,Q4,Xa,Xd,Xs,X5,Ya,Ys,Yt,Yy,Y9,Za,Zb,Zc,Ze,Zg,Zh,Zk,Zl,Zm,Zn,Zo,Zt,Zv,Zw,Zx,Zy,Zz,Z0,Z3,Jb,Jj,Jk,Jm,Jn,Jq,Jr,Js,Jv,Ut,Ux,Uy,U0,U4,U5,U7,Vb,Vc,Ve,Vk,Vm,Vo,Vp,Vq,Vr,Vs,Vt,Vu,Vv,Vw,Vx,Vy,Vz,V0,V6,Wd,We,Hh,Hi,Hp,Hu,Hv,Hw,H1,H4,H5,H6,Ni,Nk,Nl,No,Nu,Nw,Nx,Be,Ma,Mb,Md,Mf,zj2.eq_1,zjD.eq_1,zi0.eq_1,zi1.eq_1,zjy.eq_1,zdn.eq_1,oQ.eq_1,hlt',hg,hN,hm',cl,cs,hw])
def gI (w:Nat→Int×Int) (ids:List Int) (l0 l1:Int):Int×Int:=if TN w=true∧(zht w ids).1=true then (zht w ids).2 else (l0,l1)
theorem zCD (w:Nat→Int×Int) (ids:List Int) (b f:Bool) (l0 l1:Int) (hl:ids.length<9223372036854775807):
  aP G FT JN [.agg (zF w),.data b 1 (ints ids) f,.agg [.int .i64 l0,.int .i64 l1]]=some (.agg [.int .i64 (gI w ids l0 l1).1,.int .i64 (gI w ids l0 l1).2]):=by
 unfold aP gI
 rw [zhv]
 have hM:=zl2 G w
 have cl:=Tg w
 have cs:=zca w
 have cv:=zkn w
 have ct:List.take 18 (zF w)=zF w:=rfl
 by_cases hm:TN w=true
 ·have key:=zqF G w l0 l1 b f ids hl ids.length 0 (false,24,40) (by omega)
  have e0:((0:Nat):Int)=0:=rfl
  rw [List.drop_zero,e0] at key
  unfold zdD at key
  simp only [← show zht w ids=ids.foldl (stepW w) (false,24,40) from rfl] at key
  have hln:=zw ids
  cases ht:(zht w ids).1 with
  | true=>
   rw [if_pos ⟨hm,rfl⟩]
   rw [ht] at key
   (sym=>simp [Qb,Qc,Qd,Qe,Qi,Qj,Qm,Qn,Qo,Qr,Qt,Qv,Qw,Qx,Qy,Q1,Q4,Q5,Xd,Xy,Yh,Yj,Yk,Yr,Yu,Y1,Y5,Y8,Y9,Za,Zb,Zc,Zd,Ze,Zg,Zh,Zi,Zj,Zk,Zl,Zm,Zn,Zo,Zr,Zs,Zt,Zu,Zv,Zw,Zy,Z0,Z1,Z3,Jj,Jk,Jn,Jq,Jr,Jv,Jx,J1,J2,K8,K9,Ue,Uf,Ug,V3,Wd,We,Wh,Wj,Wp,Wq,Hh,Hi,Hk,Hl,Ho,Hp,Hq,Hr,Hs,Ht,Hu,Hv,Hw,Hx,No,Nw,Nz,N0,Be,zq0.eq_1,zr7.eq_1,zq8.eq_1,zrA.eq_1,ztx.eq_1,zlj.eq_1,zl0.eq_1,zlA.eq_1,ZR.eq_1,hM,cl,cs,ct,cv,hm,hln,key])
  | false=>
   rw [if_neg (by simp)]
   rw [ht] at key
   (sym=>simp [Qb,Qc,Qd,Qe,Qi,Qj,Qm,Qn,Qo,Qr,Qt,Qv,Qw,Qx,Qy,Q1,Q4,Q5,Xd,Xy,Yh,Yj,Yk,Yr,Yu,Y1,Y5,Y8,Y9,Za,Zb,Zc,Zd,Ze,Zg,Zh,Zi,Zj,Zk,Zl,Zm,Zn,Zo,Zr,Zs,Zt,Zu,Zv,Zw,Zy,Z0,Z1,Z3,Jj,Jk,Jl,Jn,Jq,Jr,Jv,Jx,J1,J2,K8,K9,Ue,Uf,Ug,V3,Wd,We,Wh,Wj,Wp,Wq,Hh,Hi,Hk,Hl,Ho,Hp,Hq,Hr,Hs,Ht,Hu,Hv,Hw,Hx,No,Nw,Nx,Nz,N0,Be,zq0.eq_1,zr7.eq_1,zq8.eq_1,zrA.eq_1,ztx.eq_1,zlj.eq_1,zl0.eq_1,zlA.eq_1,ZR.eq_1,hM,cl,cs,ct,cv,hm,hln,key])
 ·have hm':TN w=false:=by simpa using hm
  rw [if_neg (by simp [hm'])]
  (sym=>simp [Qb,Qd,Qe,Qi,Qm,Qn,Qo,Qt,Qv,Qw,Q4,Q5,Xd,Yj,Yr,Yu,Y1,Y5,Y8,Y9,Za,Zb,Zc,Zd,Ze,Zg,Zh,Zi,Zj,Zk,Zl,Zm,Zn,Zo,Zr,Zs,Zt,Zu,Zv,Zw,Zy,Z0,Z1,Jj,Jk,Jl,Jr,Jv,Jx,J1,J2,Ue,Uf,Ug,V3,Wd,We,Wh,Wj,Wp,Wq,Hh,Hi,Hk,Hl,Ho,Hp,Hq,Hr,Hs,Ht,Hu,Hv,Hw,Hx,No,Nx,N0,Be,zq0.eq_1,zr7.eq_1,zq8.eq_1,zrA.eq_1,ztx.eq_1,zlj.eq_1,zl0.eq_1,zlA.eq_1,ZR.eq_1,hM,cl,cs,ct,cv,hm'])
end
end Go.Proofs.YthcnhibjddomdaaGreat
namespace Go.Proofs.YthcnhibjddomdaaGreat
section
open Go
variable (G:Nat→Option (List AV))
def okL (q:List Pc):Prop:=q.length≤1000∧∀ x ∈ q,x.2.2.1.length≤1000
theorem zfC (q:List Pc) (h:okL q) (b f:Bool):aP G FT gp [.data b 3 (pcs q) f]=some (.bool (jG 0 q)):=zs6 G FT rfl rfl q b f (by have:=h.1;omega) (fun x hx=>by have:=h.2 x hx;omega)
theorem FV:∀ (q:List Pc),(∀ x ∈ q,x.2.2.1.length≤1000)→zV q≤q.length * 1000
 | [],_=>by simp [zV]
 | x::q,h=>by
  have h1:=FV q (fun y hy=>h y (List.mem_cons_of_mem _ hy))
  have h2:=h x (List.mem_cons_self ..)
  have e:zV (x::q)=x.2.2.1.length+zV q:=by simp [zV]
  rw [e,List.length_cons];omega
theorem zFD (q:List Pc) (h:okL q) (b f:Bool):aP G FT JL [.data b 3 (pcs q) f]=some (.int .i64 (if jG 0 q=true then zV q else 0)):=by
 have hx:aR G FT JL [.data b 3 (pcs q) f] []=zbL [.data b 3 (pcs q) f] []:=by
  unfold aR gH
  rfl
 unfold aP
 rw [hx]
 have hs:=FV q h.2
 have h1:=h.1
 have h2:∀ x ∈ q,x.2.2.1.length≤1000000:=fun x hx=>by have:=h.2 x hx;omega
 simp only [zbL,zdY,Option.bind_some]
 rw [if_pos ⟨by omega,h2,by omega⟩]
 rfl
theorem zme (l:List Int) (b f:Bool) (hl:l.length≤1000000):aP G FT Kw [.data b 1 (byt l) f]=some (.data false 1 (byt l) false):=by
 have hx:aR G FT Kw [.data b 1 (byt l) f] []=jm 1 [.data b 1 (byt l) f] []:=by
  unfold aR gH
  rfl
 have hln:=oI l
 have tk:List.take l.length (byt l)=byt l:=List.take_of_length_le (by omega)
 unfold aP
 rw [hx]
 simp only [jm,hln]
 rw [if_pos ⟨trivial,hl,by simp [zjh]⟩]
 (sym=>simp [Zg,Zv,Zw,Zx,Zy,Zz,Z0,Wf,Hh,Hs,H8,Ng,Nz,hln,tk])
def cp (x:Pc):Pc:=(x.1,x.2.1,x.2.2.1,false)
def cpQ (q:List Pc):List Pc:=q.map cp
theorem ZT (q:List Pc):(cpQ q).length=q.length:=by simp [cpQ]
theorem zbW:pcs []=[]:=rfl
theorem ND (a b:List Pc):pcs (a++b)=pcs a++pcs b:=by simp [pcs]
theorem zoe (q:List Pc) (b f:Bool) (h:okL q):∀ (m i:Nat),i+m=q.length→∀ st,agc 0 [3,6,7,8] st=some ⟨[(3,.own 0 0 0 i i),(6,.data b 3 (pcs q) f),(7,.int .i64 q.length),(8,.int .i64 i)],[⟨3,0,true,pcs (cpQ (q.take i))⟩]⟩→
  aE G FT 0 jw st=some (.exit 0,⟨[(3,.own 0 0 0 q.length q.length),(6,.data b 3 (pcs q) f),(7,.int .i64 q.length),(8,.int .i64 q.length),(9,.bool false)],[⟨3,0,true,pcs (cpQ q)⟩]⟩):=by
 intro m
 induction m with
 | zero=>
  intro i hi st hst
  rw [jw,zn,hst]
  have ei:i=q.length:=by omega
  subst ei
  rw [List.take_length]
  have e0:decide ((q.length:Int)<q.length)=false:=by simp
  (sym=>simp [Qa,Qd,Qe,Qi,Qt,Xa,Ya,Y9,Za,Zb,Zc,Ze,Zg,Zh,Zt,Zv,Zw,Z3,Jj,Jk,Jm,Jr,Ju,Jv,Be,ztj.eq_1,zrh.eq_1,zsM.eq_1,zq9.eq_1,zsL.eq_1,WC.eq_1,e0])
 | succ m ih=>
  intro i hi st hst
  have hlt:i<q.length:=by omega
  have hlt':(i:Int)<q.length:=by omega
  have hw:=zH (n:=i) (by have:=h.1;omega)
  have hg:=YZ hlt
  have ih:=ih (i+1) (by omega)
  have e:pcs (cpQ (q.take (i+1)))=pcs (cpQ (q.take i))++[[.int .i64 q[i].1,.int .i64 q[i].2.1,.data false 1 (byt q[i].2.2.1) false]]:=by
   have e1:q.take (i+1)=q.take i++[q[i]]:=by rw [List.take_add_one,List.getElem?_eq_getElem hlt];rfl
   rw [e1,cpQ,List.map_append,ND];rfl
  rw [e] at ih
  rw [jw] at ih
  rw [jw,zn,hst]
  have hB:=fun b f=>zme G q[i].2.2.1 b f (by have:=h.2 q[i] (List.getElem_mem _);omega)
  have hlo:(pcs (cpQ (q.take i))).length=i:=by rw [yB,ZT,List.length_take];omega
  have b1:(i+1) * 40≤140737488355328:=by have:=h.1;omega
  have n1:i+1≤i↔False:=by simp
  have tk:List.take i (pcs (cpQ (q.take i)))=pcs (cpQ (q.take i)):=List.take_of_length_le (by omega)
  generalize pcs (cpQ (q.take i))=P at ih hlo tk ⊢
  generalize pcs (cpQ q)=PQ at ih ⊢
  (sym=>simp [Qc,Qd,Qe,Qi,Qj,Qm,Qn,Qo,Qr,Qt,Qv,Qz,Q0,Q2,Q4,Q5,Xa,Xp,Xs,X0,X5,Ya,Yj,Yr,Ys,Yt,Yu,Yv,Yy,Y2,Y9,Za,Zb,Zc,Zd,Ze,Zg,Zh,Zm,Zn,Zo,Zt,Zv,Zw,Zx,Zy,Zz,Z0,Z1,Jj,Jk,Jn,Jo,Jr,Js,Jv,J1,J2,J6,Kv,Kx,Ua,Ub,Uc,Ud,Ue,Uf,Ug,Ul,V9,Wd,We,Hh,Hi,Hk,Hl,Ho,Hp,Hq,Hr,Hs,Ht,Hu,Hv,Hw,H2,H3,H8,Ng,Nh,Ni,Nk,Nl,No,Np,Nx,Nz,N0,N2,Be,Bg,Ma,Mb,Md,Me,Mf,ztj.eq_1,zrh.eq_1,zsM.eq_1,zq9.eq_1,zsL.eq_1,WC.eq_1,hlt',hg,hB,hlo,b1,n1,tk,hw];tactic=>(
   refine ih _ ?_
   (sym=>simp [Y9,Za,Zb,Ze,Zk,Zl,Zm,Zn,Zv,Zw,Zx,Zy,Zz,Z0,Z3,Us,Ux,U0,U4,U5,U6,Vb,Ve,Vk,Vm,Vo,Vp,Vq,Vr,Vs,Vt,Vu,Vv,Vw,Vx,Vy,Vz,V0,Hh,Hp,Hv,Hw,H1,H5,H6,Nl,No,Nx,hlo,tk])))
theorem za9 (q:List Pc) (b f:Bool) (h:okL q):aR G FT uL [.data b 3 (pcs q) f] []=some (.own 0 0 0 q.length q.length,[⟨3,0,true,pcs (cpQ q)⟩]):=by
 have key:=zoe G q b f h q.length 0 (by omega)
 have hln:=yB q
 simp only [Int.natCast_zero,List.take_zero,show pcs (cpQ [])=[] from rfl] at key
 rw [KP]
 (sym=>simp [Qd,Qe,Qi,Qj,Qr,Qs,Xy,Yh,Y1,Y9,Za,Zb,Zc,Ze,Zg,Zh,Zi,Zj,Zk,Zl,Zm,Zr,Zs,Zv,Zw,Jj,Jk,Jn,Jv,Hv,Be,zwQ.eq_1,zwj.eq_1,zvZ.eq_1,zyv.eq_1,ZN.eq_1,hln];tactic=>(
  rw [key _ ?hst]
  case hst=>(sym=>simp [Y9,Za,Zb,Ze,Zk,Zl,Zm,Zn,Zv,Zw,Zx,Zy,Zz,Z0,Z3,Us,Ux,U0,U4,U5,U6,Vb,Ve,Vk,Vm,Vo,Vp,Vq,Vr,Vs,Vt,Vu,Vv,Vw,Vx,Vy,Vz,V0,Hh,Hp,Hv,Hw,H1,H5,H6,Nl,No,Nx])
  (sym=>simp [Qb,Qd,Qe,Qi,Qr,Y5,Y7,Y9,Za,Zb,Zc,Ze,Zg,Zh,Zt,Zu,Zv,Zw,Jj,Jk,Jq,Jv,Jx,Be])))
theorem znw (q:List Pc) (b f:Bool) (h:okL q):aP G FT uL [.data b 3 (pcs q) f]=some (.data false 3 (pcs (cpQ q)) false):=by
 have hlo:(pcs (cpQ q)).length=q.length:=by rw [yB,ZT]
 have tk:List.take q.length (pcs (cpQ q))=pcs (cpQ q):=List.take_of_length_le (by omega)
 unfold aP
 rw [za9 G q b f h]
 (sym=>simp [Zg,Zv,Zw,Zx,Zy,Zz,Z0,Wf,Hh,Hs,H8,Ng,Nz,hlo,tk])
theorem zmW (m a:Int) (l:List Int) (bo f:Bool) (g:Nat) (P:List (List AV)) (hl:l.length≤1000):
  aR G FT uL [.own 2 0 0 1 1] [⟨3,0, !bo,[[.int .i64 m,.int .i64 a,.data bo 1 (byt l) f]]⟩,⟨3,g,true,P⟩,⟨3,0, !bo,[[.int .i64 m,.int .i64 a,.data bo 1 (byt l) f]]⟩]=
   some (.own 3 0 0 1 1,[⟨3,0, !bo,[[.int .i64 m,.int .i64 a,.data bo 1 (byt l) f]]⟩,⟨3,g,true,P⟩,⟨3,0, !bo,[[.int .i64 m,.int .i64 a,.data bo 1 (byt l) f]]⟩,⟨3,0,true,[[.int .i64 m,.int .i64 a,.data false 1 (byt l) false]]⟩]):=by
 have hB1:=fun b f=>zme G l b f (by omega)
 rw [KP]
 have hw1:IntKind.i64.wrap 1=1:=by decide
 cases bo<;>(sym=>simp [Qa,Qb,Qc,Qd,Qe,Qi,Qj,Qm,Qn,Qo,Qr,Qs,Qt,Qv,Qz,Q0,Q2,Q4,Q5,Xa,Xp,Xs,Xy,X0,X5,Ya,Yg,Yj,Yr,Yt,Yu,Yv,Yx,Y1,Y2,Y5,Y7,Y9,Za,Zb,Zc,Zd,Ze,Zg,Zh,Zi,Zj,Zk,Zl,Zm,Zn,Zo,Zr,Zs,Zt,Zu,Zv,Zw,Zx,Zy,Zz,Z0,Z1,Z3,Jj,Jk,Jm,Jn,Jo,Jq,Jr,Js,Ju,Jv,Jx,J1,J2,J6,Kv,Kx,Ua,Ub,Uc,Ud,Ue,Uf,Ug,Ul,Us,Ux,U0,U4,U5,U6,Vb,Ve,Vi,Vj,Vk,Vl,Vm,Vn,Vo,Vp,Vq,Vr,Vs,Vt,Vu,Vv,Vw,Vx,Vy,Vz,V0,V9,Wd,We,Hh,Hi,Hk,Hl,Ho,Hp,Hq,Hr,Hs,Ht,Hu,Hv,Hw,H0,H1,H2,H3,H5,H6,H8,Nl,Nm,No,Nq,Nw,Nx,Nz,N0,N2,Be,Bg,Bh,Bi,zwQ.eq_1,zwj.eq_1,zvZ.eq_1,ztj.eq_1,zrh.eq_1,zsM.eq_1,zq9.eq_1,zsL.eq_1,zyv.eq_1,ZN.eq_1,WC.eq_1,hB1,hw1,jw.eq_1,zn])
def PY (q:List Pc) (t:Pc):List Pc×Bool:=
 if jG 0 q=true then if VG t.1 t.2.1 t.2.2.1.length=true∧zV q+t.2.2.1.length≤64 then (cpQ q++[cp t],true) else (cpQ q,false) else ([],false)
theorem zFu (q:List Pc) (t:Pc) (b f:Bool) (h:okL q) (ht:t.2.2.1.length≤1000) (bo:Bool):aP G FT JZ [.data b 3 (pcs q) f,.agg [.int .i64 t.1,.int .i64 t.2.1,.data bo 1 (byt t.2.2.1) t.2.2.2]]=some (.tup [.data false 3 (pcs (PY q t).1) false,.bool (PY q t).2]):=by
 have hM:=fun b f=>zfC G q h b f
 have hZ:=fun b f=>zFD G q h b f
 have hC:=fun b f=>za9 G q b f h
 have hP:=fun b f=>zj4 G FT rfl t.1 t.2.1 (byt t.2.2.1) b f
 have hbl:=oI t.2.2.1
 rw [hbl] at hP
 unfold aP PY
 rw [zfg]
 cases hm:jG 0 q with
 | false=>rw [if_neg (by simp)];cases bo<;>(sym=>simp [Qb,Qd,Qe,Qi,Qj,Qm,Qn,Qo,Qr,Qt,Qw,Xd,Yj,Y1,Y6,Y7,Y9,Za,Zb,Zc,Ze,Zg,Zh,Zi,Zj,Zk,Zl,Zm,Zn,Zo,Zr,Zs,Zt,Zu,Zv,Zw,Jj,Jk,Jl,Jr,Jv,Jx,Ue,Uf,Ug,Ul,V9,Wd,We,Wg,Wi,Wk,Wp,Wq,Hv,No,Nq,Nw,Nx,Be,zmj.eq_1,zms.eq_1,zmK.eq_1,znE.eq_1,znq.eq_1,znc.eq_1,zmF.eq_1,gq.eq_1,hM,hm,zbW])
 | true=>
  rw [if_pos rfl]
  simp only [hm,if_true] at hZ
  have hlo:(pcs (cpQ q)).length=q.length:=by rw [yB,ZT]
  have tk:List.take q.length (pcs (cpQ q))=pcs (cpQ q):=List.take_of_length_le (by omega)
  cases hp:VG t.1 t.2.1 t.2.2.1.length with
  | false=>rw [if_neg (by simp)];cases bo<;>(sym=>simp [Qb,Qc,Qd,Qe,Qf,Qg,Qi,Qj,Qm,Qn,Qo,Qr,Qt,Qu,Qw,Q4,Xd,Yj,Yr,Yu,Y1,Y6,Y7,Y9,Za,Zb,Zc,Ze,Zg,Zh,Zi,Zj,Zk,Zl,Zm,Zn,Zo,Zp,Zr,Zs,Zt,Zu,Zv,Zw,Zx,Zy,Zz,Z0,Z3,Jb,Jj,Jk,Jl,Jr,Jv,Jx,Ue,Uf,Ug,Ul,Us,U6,Vk,Vm,Vo,Vp,Vq,Vr,Vs,Vt,Vu,Vv,Vw,Vx,V3,V6,V9,Wd,We,Wf,Wi,Wk,Wp,Wq,Wz,W5,W6,W7,Hh,Hi,Ho,Hq,Hs,Hu,Hv,Hy,Hz,H5,H6,H8,Ng,Nl,No,Nq,Nt,Nw,Nx,Nz,Be,zmj.eq_1,zms.eq_1,zmK.eq_1,znE.eq_1,znq.eq_1,znc.eq_1,zmF.eq_1,gq.eq_1,hM,hm,hC,hP,hp,hlo,tk])
  | true=>
   have hs:=FV q h.2
   have h1:=h.1
   have hw:IntKind.i64.wrap ((zV q:Int)+t.2.2.1.length)=((zV q+t.2.2.1.length:Nat):Int):=by rw [ZV _ (by omega) (by omega)];omega
   by_cases h6:zV q+t.2.2.1.length≤64
   ·rw [if_pos ⟨rfl,h6⟩]
    have h6':¬ (64:Int)<((zV q+t.2.2.1.length:Nat):Int):=by omega
    have hC1:=fun b f g P=>zmW G t.1 t.2.1 t.2.2.1 b f g P ht
    have hC2:=fun f g P=>hC1 false f g P
    have hC3:=fun f g P=>hC1 true f g P
    simp only [Bool.not_false,Bool.not_true] at hC2 hC3
    have b1:(q.length+1) * 40≤140737488355328:=by omega
    have n1:q.length+1≤q.length↔False:=by simp
    have e:pcs (cpQ q++[cp t])=pcs (cpQ q)++[[.int .i64 t.1,.int .i64 t.2.1,.data false 1 (byt t.2.2.1) false]]:=by rw [ND];rfl
    rw [e]
    generalize pcs (cpQ q)=P at *
    have tk1:List.take (q.length+1) (P++[[AV.int .i64 t.1,.int .i64 t.2.1,.data false 1 (byt t.2.2.1) false]])=P++[[AV.int .i64 t.1,.int .i64 t.2.1,.data false 1 (byt t.2.2.1) false]]:=List.take_of_length_le (by simp [hlo])
    cases bo<;>(sym=>simp [Qb,Qc,Qd,Qe,Qf,Qg,Qi,Qj,Qm,Qn,Qo,Qr,Qt,Qu,Qw,Qz,Q0,Q2,Q4,Xa,Xd,Xp,Xy,X0,X5,Yc,Yh,Yj,Yr,Yt,Yu,Yv,Y1,Y2,Y6,Y7,Y9,Za,Zb,Zc,Ze,Zg,Zh,Zi,Zj,Zk,Zl,Zm,Zn,Zo,Zp,Zq,Zr,Zs,Zt,Zu,Zv,Zw,Zx,Zy,Zz,Z0,Z3,Jb,Jj,Jk,Jr,Jv,Jx,Kv,Kx,Ua,Ub,Uc,Ud,Ue,Uf,Ug,Ul,Us,U6,Vk,Vm,Vo,Vp,Vq,Vr,Vs,Vt,Vu,Vv,Vw,Vx,V3,V6,V9,Wd,We,Wf,Wi,Wk,Wp,Wq,Wz,W5,W6,W7,Hh,Hi,Hk,Hl,Ho,Hq,Hs,Hu,Hv,Hx,Hy,Hz,H2,H3,H5,H6,H8,Ng,Nh,Nl,Nm,No,Nq,Nt,Nw,Nx,Nz,N2,Be,Bg,zmj.eq_1,zms.eq_1,zmK.eq_1,znE.eq_1,znq.eq_1,znc.eq_1,zmF.eq_1,gq.eq_1,hM,hm,hC,hP,hp,hZ,hw,hbl,h6',hC2,hC3,hlo,tk,tk1,b1,n1])
   ·rw [if_neg (fun hh=>h6 hh.2)]
    have h6':(64:Int)<((zV q+t.2.2.1.length:Nat):Int):=by omega
    cases bo<;>(sym=>simp [Qb,Qc,Qd,Qe,Qf,Qg,Qi,Qj,Qm,Qn,Qo,Qr,Qt,Qu,Qw,Q4,Xa,Xd,Xp,Xy,X5,Yc,Yh,Yj,Yr,Yt,Yu,Yv,Y1,Y6,Y7,Y9,Za,Zb,Zc,Ze,Zg,Zh,Zi,Zj,Zk,Zl,Zm,Zn,Zo,Zp,Zr,Zs,Zt,Zu,Zv,Zw,Zx,Zy,Zz,Z0,Z3,Jb,Jj,Jk,Jl,Jr,Jv,Jx,Ue,Uf,Ug,Ul,Us,U6,Vk,Vm,Vo,Vp,Vq,Vr,Vs,Vt,Vu,Vv,Vw,Vx,V3,V6,V9,Wd,We,Wf,Wi,Wk,Wp,Wq,Wz,W5,W6,W7,Hh,Hi,Ho,Hq,Hs,Hu,Hv,Hy,Hz,H5,H6,H8,Ng,Nl,No,Nq,Nt,Nw,Nx,Nz,Be,zmj.eq_1,zms.eq_1,zmK.eq_1,znE.eq_1,znq.eq_1,znc.eq_1,zmF.eq_1,gq.eq_1,hM,hm,hC,hP,hp,hZ,hw,hbl,h6',hlo,tk])
def YX:List Pc→Int→Nat
 | [],_=>0
 | x::q,n=>if (x.2.2.1.length:Int)≤n then YX q (n - x.2.2.1.length)+1 else 0
theorem zeR:∀ (q:List Pc) (n:Int),YX q n≤q.length
 | [],_=>by simp [YX]
 | x::q,n=>by
  rw [YX];split
  ·have:=zeR q (n - x.2.2.1.length);rw [List.length_cons];omega
  ·omega
theorem zx2 (q:List Pc) (b f:Bool) (h:okL q):∀ (m i:Nat) (n:Int),i+m=q.length→n≤9223372036854775807→∃ n' x,
  aE G FT 0 VJ ⟨[(0,.data b 3 (pcs q) f),(1,.int .i64 n),(6,.int .i64 i)],[]⟩=some (.exit 0,⟨[(0,.data b 3 (pcs q) f),(1,.int .i64 n'),(6,.int .i64 ((i+YX (q.drop i) n:Nat):Int)),(23,x)],[]⟩):=by
 intro m
 induction m with
 | zero=>
  intro i n hi hn
  have e:q.drop i=[]:=List.drop_eq_nil_of_le (by omega)
  have ei:i=q.length:=by omega
  subst ei
  have e0:decide ((q.length:Int)<q.length)=false:=by simp
  have hln:=yB q
  refine ⟨n,.bool false, ?_⟩
  rw [e,YX,VJ,zn]
  (sym=>simp [Qa,Qd,Qe,Qf,Qg,Qi,Qj,Qr,Qt,Qu,Xa,Xy,Ya,Yh,Y9,Za,Zb,Zc,Ze,Zg,Zh,Zk,Zl,Zt,Zv,Zw,Z3,Ja,Jj,Jk,Jm,Jr,Ju,Jv,Ux,U0,U4,U5,Vb,Ve,Vo,Vq,Vr,Vt,Vv,Vw,Vy,Vz,V0,Hq,Hw,H1,H9,No,Be,zsd.eq_1,ztw.eq_1,zsj.eq_1,TZ.eq_1,e0,hln])
 | succ m ih=>
  intro i n hi hn
  have hlt:i<q.length:=by omega
  have hlt':(i:Int)<q.length:=by omega
  have hw:=zH (n:=i) (by have:=h.1;omega)
  have hg:=YZ hlt
  have hln:=yB q
  have hbl:=oI q[i].2.2.1
  have e:q.drop i=q[i]::q.drop (i+1):=List.drop_eq_getElem_cons hlt
  rw [e,YX]
  by_cases hx:(q[i].2.2.1.length:Int)≤n
  ·obtain ⟨n',x,ih⟩:=ih (i+1) (n - q[i].2.2.1.length) (by omega) (by omega)
   refine ⟨n',x, ?_⟩
   rw [if_pos hx,show i+(YX (q.drop (i+1)) (n - q[i].2.2.1.length)+1)=i+1+YX (q.drop (i+1)) (n - q[i].2.2.1.length) by omega,← ih]
   have hwn:IntKind.i64.wrap (n - q[i].2.2.1.length)=n - q[i].2.2.1.length:=by rw [ZV _ (by omega) (by omega)]
   rw [VJ,zn]
   (sym=>simp [Qc,Qd,Qe,Qf,Qg,Qi,Qj,Qr,Qt,Qu,Q4,Xa,Xp,Xs,Xy,X5,X6,Ya,Yb,Yh,Ys,Yt,Yw,Yy,Y9,Za,Zb,Zc,Ze,Zg,Zh,Zk,Zl,Zt,Zv,Zw,Ja,Jj,Jk,Jn,Jo,Jr,Js,Jv,Ux,U0,U4,U5,Vb,Ve,Vo,Vq,Vr,Vt,Vv,Vw,Vy,Vz,V0,Hh,Hq,Hr,Hs,Hw,H1,Ni,Nk,Nl,No,Be,Ma,Mb,Md,Me,Mf,zsd.eq_1,ztw.eq_1,zsj.eq_1,TZ.eq_1,hlt',hg,hln,hbl,hx,hw,hwn])
  ·refine ⟨n,.bool false, ?_⟩
   rw [if_neg hx,VJ,zn]
   (sym=>simp [Qa,Qd,Qe,Qf,Qg,Qi,Qr,Qt,Qu,Q4,Xa,Xp,Xs,Xy,Ya,Yb,Yh,Ys,Yt,Yw,Yy,Y9,Za,Zb,Zc,Ze,Zg,Zh,Zk,Zl,Zt,Zv,Zw,Z3,Ja,Jj,Jk,Jm,Jr,Ju,Jv,Ux,U0,U4,U5,Vb,Ve,Vo,Vq,Vr,Vt,Vv,Vw,Vy,Vz,V0,Hh,Hq,Hr,Hs,Hw,H1,H9,Ni,Nk,Nl,Nm,No,Be,Ma,Mb,Md,Me,Mf,zsd.eq_1,ztw.eq_1,zsj.eq_1,TZ.eq_1,hlt',hg,hln,hbl,hx])
def NR (q:List Pc) (n:Int):List Pc×List Pc:=if jG 0 q=true then (cpQ (q.drop (YX q n)),cpQ (q.take (YX q n))) else ([],[])
theorem zeI {q r:List Pc} (h:okL q) (hl:r.length≤q.length) (hs:∀ x ∈ r,x ∈ q):okL r:=⟨by have:=h.1;omega,fun x hx=>h.2 x (hs x hx)⟩
theorem zzS (q:List Pc) (b f:Bool) (h:okL q) (n:Int) (hn:n≤9223372036854775807):aP G FT Lr [.data b 3 (pcs q) f,.int .i64 n]=some (.tup [.data false 3 (pcs (NR q n).1) false,.data false 3 (pcs (NR q n).2) false]):=by
 have hM:=fun b f=>zfC G q h b f
 unfold aP NR
 rw [zii]
 cases hm:jG 0 q with
 | false=>rw [if_neg (by simp)];(sym=>simp [Qb,Qd,Qe,Qi,Qj,Qm,Qn,Qo,Qr,Qt,Xd,Y1,Y6,Y7,Y9,Za,Zb,Zc,Ze,Zg,Zh,Zi,Zj,Zk,Zl,Zm,Zo,Zr,Zs,Zt,Zu,Zv,Zw,Jj,Jk,Jl,Jr,Jv,Jx,V9,Wd,We,Wg,Wi,Wp,Wq,Nx,Be,zzd.eq_1,zyo.eq_1,zyO.eq_1,zxu.eq_1,zxV.eq_1,Tk.eq_1,hM,hm,zbW])
 | true=>
  rw [if_pos rfl]
  obtain ⟨n',x,key⟩:=zx2 G q b f h q.length 0 n (by omega) hn
  simp only [List.drop_zero,Nat.zero_add,Int.natCast_zero] at key
  have hle:=zeR q n
  generalize YX q n=k at key hle ⊢
  have hle':(k:Int)≤q.length:=by omega
  have hln:=yB q
  have c1:=fun b f=>znw G (q.drop k) b f (zeI h (by simp) (fun x hx=>List.mem_of_mem_drop hx))
  have c2:=fun b f=>znw G (q.take k) b f (zeI h (by simp;omega) (fun x hx=>List.mem_of_mem_take hx))
  have d1:List.drop k (pcs q)=pcs (q.drop k):=by simp [pcs,List.map_drop]
  have d2:List.take k (pcs q)=pcs (q.take k):=by simp [pcs,List.map_take]
  have d3:List.take (q.length - k) (pcs (q.drop k))=pcs (q.drop k):=List.take_of_length_le (by rw [yB];simp)
  have d4:List.take q.length (pcs q)=pcs q:=List.take_of_length_le (by omega)
  have e1:decide (q.length=q.length)=true:=by simp
  have e2:decide (k=k)=true:=by simp
  (sym=>simp [Qb,Qc,Qd,Qe,Qi,Qj,Qm,Qn,Qo,Qr,Qt,Xd,Xl,Xm,Xn,Xy,Yh,Y1,Y6,Y7,Y9,Za,Zb,Zc,Ze,Zg,Zh,Zi,Zj,Zk,Zl,Zm,Zo,Zr,Zs,Zt,Zu,Zv,Zw,Z3,Jj,Jk,Jn,Jq,Jr,Jv,Jx,K0,K1,K4,V9,Wd,We,Wg,Wi,Wp,Wq,Hs,Nf,Ng,Ni,Nk,Nl,Nw,Nz,Be,zzd.eq_1,zyo.eq_1,zyO.eq_1,zxu.eq_1,zxV.eq_1,Tk.eq_1,hM,hm,key,hln,hle,c1,c2,d1,d2,d4,e1,e2,List.drop_zero])
theorem ztY (x:Pc) (k:Int) (h:List zf) (id:Nat) (hid:h[id]? =some ⟨1,0,true,[[.int .i64 k]]⟩):aR G FT TE [.agg [.int .i64 x.1,.int .i64 x.2.1,.data false 1 (byt x.2.2.1) x.2.2.2],.ptr id 0 0 0] h=some (.bool (decide (x.1=k)),h++[⟨3,0,true,[[.int .i64 x.1,.int .i64 x.2.1,.data false 1 (byt x.2.2.1) x.2.2.2]]⟩]):=by
 have hlt:id<h.length:=by rcases Nat.lt_or_ge id h.length with h' | h';exact h';rw [List.getElem?_eq_none h'] at hid;cases hid
 have hv:∀ v,(h++[v])[h.length]? =some v:=fun v=>by rw [List.getElem?_append_right (Nat.le_refl _),Nat.sub_self];rfl
 have ha:∀ v,(h++[v])[id]? =some ⟨1,0,true,[[.int .i64 k]]⟩:=fun v=>by rw [List.getElem?_append_left hlt];exact hid
 rw [zdb]
 by_cases hx:x.1=k
 ·(sym=>simp [Qb,Qd,Qe,Qi,Qj,Qr,Qw,Q4,Xa,Xp,X8,Yj,Yr,Yt,Yv,Y1,Y5,Y7,Y9,Za,Zb,Zc,Ze,Zg,Zh,Zi,Zj,Zk,Zl,Zm,Zn,Zr,Zs,Zt,Zu,Zv,Zw,Zy,Z0,Jj,Jk,Jv,Jx,Ue,Uf,Ug,Ul,Hh,Nl,No,Nx,Be,zAz.eq_1,zx6.eq_1,ZF.eq_1,hv,ha,hx])
 ·(sym=>simp [Qb,Qd,Qe,Qi,Qj,Qr,Qw,Q4,Xa,Xp,X8,Yj,Yr,Yt,Yv,Y1,Y5,Y7,Y9,Za,Zb,Zc,Ze,Zg,Zh,Zi,Zj,Zk,Zl,Zm,Zn,Zr,Zs,Zt,Zu,Zv,Zw,Zy,Z0,Jj,Jk,Jv,Jx,Ue,Uf,Ug,Ul,Hh,Nm,No,Nx,Be,zAz.eq_1,zx6.eq_1,ZF.eq_1,hv,ha,hx])
def zdX (q:List Pc) (k:Int):List Pc:=if jG 0 q=true then cpQ (q.filter fun x=> !decide (x.1=k)) else []
theorem zES (q:List Pc) (b f:Bool) (h:okL q) (k:Int):aP G FT Ir [.data b 3 (pcs q) f,.int .i64 k]=some (.data false 3 (pcs (zdX q k)) false):=by
 have hM:=fun b f=>zfC G q h b f
 unfold aP zdX
 rw [zfF]
 cases hm:jG 0 q with
 | false=>rw [if_neg (by simp)];(sym=>simp [Qb,Qd,Qe,Qi,Qj,Qm,Qn,Qo,Qr,Qt,Qw,Xd,Yk,Y1,Y5,Y7,Y9,Za,Zb,Zc,Ze,Zg,Zh,Zi,Zj,Zk,Zl,Zm,Zn,Zo,Zr,Zs,Zt,Zu,Zv,Zw,Jj,Jk,Jl,Jr,Jv,Jx,Ue,Uf,Ug,V9,Wd,We,Wg,Hv,No,Nx,Be,zyt.eq_1,zwz.eq_1,zv2.eq_1,zwl.eq_1,VR.eq_1,hM,hm,zbW])
 | true=>
  rw [if_pos rfl]
  have hC:=fun b f=>za9 G q b f h
  have hlo:(pcs (cpQ q)).length=q.length:=by rw [yB,ZT]
  have tk:List.take q.length (pcs (cpQ q))=pcs (cpQ q):=List.take_of_length_le (by omega)
  have hD:=zqd G UK (0,0,[],true) rfl (fun _=>rfl) (fun x=>by simp [UK,AV.stableL,AV.stable]) (cpQ q) 1 0 q.length TE [] [.ptr 0 0 0 0] (fun x=>decide (x.1=k)) [⟨1,0,true,[[.int .i64 k]]⟩,⟨3,0,true,pcs (cpQ q)⟩]
   (by simp) (fun r hr' i hi=>by simp at hr';rcases hr' with rfl | rfl<;>simp [zf.ids] at hi) (by simp [AV.idsL,AV.ids]) (by rw [ZT];have:=h.1;omega) (by rw [ZT];exact Nat.le_refl _) (fun x=>[⟨3,0,true,[UK x]⟩])
   (fun R x e=>by
    have:=ztY G x k ([⟨1,0,true,[[.int .i64 k]]⟩,⟨3,0,true,List.map UK R⟩]++e) 0 rfl
    rw [List.append_assoc] at this
    exact this) rfl
  have hf:(cpQ q).filter (fun x=> !decide (x.1=k))=cpQ (q.filter fun x=> !decide (x.1=k)):=by rw [cpQ,List.filter_map];rfl
  rw [hf,ZT] at hD
  have hwl:(cpQ (q.filter fun x=> !decide (x.1=k))).length≤q.length:=by rw [ZT];exact List.length_filter_le _ _
  generalize cpQ (q.filter fun x=> !decide (x.1=k))=W at hD hwl ⊢
  simp only [List.set_cons_succ,List.set_cons_zero] at hD
  have tkw:List.take W.length (List.map UK (W++List.replicate (q.length - W.length) ((0,0,[],true):Pc)))=pcs W:=by rw [List.map_append,List.take_left' (by simp)];rfl
  have ml:(List.map UK (W++List.replicate (q.length - W.length) ((0,0,[],true):Pc))).length=q.length:=by simp;omega
  (sym=>simp [Qb,Qc,Qd,Qe,Qi,Qj,Qm,Qn,Qo,Qr,Qt,Qw,Xd,Xj,Yk,Y1,Y5,Y7,Y9,Za,Zb,Zc,Ze,Zg,Zh,Zi,Zj,Zk,Zl,Zm,Zn,Zo,Zp,Zq,Zr,Zs,Zt,Zu,Zv,Zw,Zx,Zy,Zz,Z0,Z3,Jj,Jk,Jr,Jv,Jx,Ue,Uf,Ug,Us,U6,Vk,Vm,Vo,Vp,Vq,Vr,Vs,Vt,Vu,Vv,Vw,Vx,V9,Wd,We,Wf,Wz,W5,W6,W7,Hh,Hi,Hs,Hu,Hv,Hy,Hz,H5,H6,H8,Nl,No,Nt,Nw,Nx,Nz,Be,zyt.eq_1,zwz.eq_1,zv2.eq_1,zwl.eq_1,VR.eq_1,hM,hm,hC,tk,hlo,hD,tkw,ml,hwl])
end
end Go.Proofs.YthcnhibjddomdaaGreat
namespace Go.Proofs.YthcnhibjddomdaaGreat
section
open Go
variable (G:Nat→Option (List AV))
structure Ses where
 mem:List (Int×Int)
 h:Int
 tq:List Int
 q:List Pc
 w:Nat→Int×Int
 r:Int
 c:Int
 k:Nat→Int
 f1:Bool
 f2:Bool
 f3:Bool
def zP (k:Nat→Int):List AV:=[.int .i64 (k 0),.int .i64 (k 1),.int .i64 (k 2),.int .i64 (k 3),.int .i64 (k 4),.int .i64 (k 5),.int .i64 (k 6),.int .i64 (k 7),.int .i64 (k 8)]
def sC (s:Ses):List AV:=[.data false 2 (mbs s.mem) s.f1,.int .i64 s.h,.data false 1 (ints s.tq) s.f2,.data false 3 (pcs s.q) s.f3]++zF s.w++[.int .i64 s.r,.int .i64 s.c]++zP s.k
theorem zk (s:Ses):(sC s).length=33:=rfl
theorem zG (s:Ses):AV.stableL (sC s)=true:=by simp [sC,zF,zP,AV.stableL,AV.stable]
theorem vK (s:Ses) (h:List zf):yE h (sC s)=some (sC s):=by simp [sC,zF,zP,yE,ZC]
theorem DC (s:Ses):AV.idsL (sC s)=[]:=by simp [sC,zF,zP,AV.idsL,AV.ids]
theorem Ib (s:Ses):(sC s)[0]? =some (.data false 2 (mbs s.mem) s.f1):=rfl
theorem zFa (s:Ses):(sC s)[1]? =some (.int .i64 s.h):=rfl
theorem zG8 (s:Ses):(sC s)[2]? =some (.data false 1 (ints s.tq) s.f2):=rfl
theorem zer (s:Ses):(sC s)[3]? =some (.data false 3 (pcs s.q) s.f3):=rfl
theorem zsZ (s:Ses):(sC s)[22]? =some (.int .i64 s.r):=rfl
theorem zrW (s:Ses):(sC s)[23]? =some (.int .i64 s.c):=rfl
theorem zgv (s:Ses):((sC s).drop 1).take 2=[.int .i64 s.h,.data false 1 (ints s.tq) s.f2]:=rfl
theorem zAO (s:Ses):((sC s).drop 4).take 18=zF s.w:=rfl
theorem zBh (s:Ses):((sC s).drop 24).take 9=zP s.k:=rfl
theorem zu (s:Ses):(sC s).take 33=sC s:=rfl
theorem zkY (k:Nat→Int):(zP k).length=9:=rfl
theorem zDH (k:Nat→Int) {j:Nat} (h:j<9):(zP k)[j]? =some (.int .i64 (k j)):=by
 rcases nine h with rfl | rfl | rfl | rfl | rfl | rfl | rfl | rfl | rfl<;>rfl
theorem zlS (s:Ses) {j:Nat} (h:j<9):(sC s)[24+j]? =some (.int .i64 (s.k j)):=by
 rcases nine h with rfl | rfl | rfl | rfl | rfl | rfl | rfl | rfl | rfl<;>rfl
theorem zFX (s:Ses) {j:Nat} (h:j<9):((sC s).drop (4+j * 2)).take 2=[.int .i64 (s.w j).1,.int .i64 (s.w j).2]:=by
 rcases nine h with rfl | rfl | rfl | rfl | rfl | rfl | rfl | rfl | rfl<;>rfl
def wrB (l:List (Int×Int)) (id:Int):Bool:=zK l id&&decide (zg l id=2)
theorem zg0 (s:Ses) (id:Int) (hl:s.mem.length<1000000):aP G FT jQ [.agg (sC s),.int .i64 id]=some (.bool (wrB s.mem id)):=by
 have hF:=fun b f=>Ka G s.mem b f id hl
 have e0:=Ib s
 have e1:=zk s
 have e2:=zG s
 have e3:=zu s
 have e4:=DC s
 unfold aP wrB
 rw [PZ]
 cases ht:zK s.mem id with
 | false=>
  rw [ht] at hF
  simp only [Bool.false_eq_true,if_false] at hF
  (sym=>simp [Qb,Qd,Qe,Qf,Qg,Qi,Qj,Qm,Qn,Qo,Qr,Qt,Qu,Qv,Qw,Q4,Q5,Xp,Xw,Xx,Yj,Yr,Yt,Yv,Y1,Y5,Y7,Y9,Za,Zb,Zc,Zd,Ze,Zg,Zh,Zi,Zj,Zk,Zl,Zm,Zn,Zo,Zr,Zs,Zt,Zu,Zv,Zw,Zy,Z0,Z1,Z3,Ja,Jj,Jk,Jv,Jx,J1,J2,Ue,Uf,Ug,V6,V9,Wd,We,Wk,Hh,Hi,Hk,Hl,Hp,Hr,Ht,Hu,Hv,Hw,No,Nr,N0,Be,zfk.eq_1,zg6.eq_1,zfe.eq_1,yZ.eq_1,hF,e0,e1,e2,e3,e4])
 | true=>
  rw [ht] at hF
  simp only [if_true] at hF
  by_cases h2:zg s.mem id=2
  ·(sym=>simp [Qb,Qd,Qe,Qf,Qg,Qi,Qj,Qm,Qn,Qo,Qr,Qt,Qu,Qv,Qw,Q4,Q5,Xa,Xp,Xw,Xx,X8,Yj,Yr,Yt,Yv,Y1,Y5,Y7,Y9,Za,Zb,Zc,Zd,Ze,Zg,Zh,Zi,Zj,Zk,Zl,Zm,Zn,Zo,Zr,Zs,Zt,Zu,Zv,Zw,Zy,Z0,Z1,Ja,Jj,Jk,Jv,Jx,J1,J2,Ue,Uf,Ug,V6,V9,Wd,We,Wk,Hh,Hi,Hk,Hl,Hp,Hr,Ht,Hu,Hv,Hw,Nl,No,N0,Be,zfk.eq_1,zg6.eq_1,zfe.eq_1,yZ.eq_1,hF,e0,e1,e2,e3,e4,h2])
  ·(sym=>simp [Qb,Qd,Qe,Qf,Qg,Qi,Qj,Qm,Qn,Qo,Qr,Qt,Qu,Qv,Qw,Q4,Q5,Xa,Xp,Xw,Xx,X8,Yj,Yr,Yt,Yv,Y1,Y5,Y7,Y9,Za,Zb,Zc,Zd,Ze,Zg,Zh,Zi,Zj,Zk,Zl,Zm,Zn,Zo,Zr,Zs,Zt,Zu,Zv,Zw,Zy,Z0,Z1,Ja,Jj,Jk,Jv,Jx,J1,J2,Ue,Uf,Ug,V6,V9,Wd,We,Wk,Hh,Hi,Hk,Hl,Hp,Hr,Ht,Hu,Hv,Hw,Nm,No,Nq,N0,Be,zfk.eq_1,zg6.eq_1,zfe.eq_1,yZ.eq_1,hF,e0,e1,e2,e3,e4,h2])
end
end Go.Proofs.YthcnhibjddomdaaGreat
namespace Go.Proofs.YthcnhibjddomdaaGreat
section
open Go
variable (G:Nat→Option (List AV))
theorem zcO {α:Type} (p:α→Bool) (l:List α):(l.any p=false∧∀ (i:Nat) (h:i<l.length),p l[i]=false)∨∃ (k:Nat) (hk:k<l.length),l.any p=true∧p l[k]=true∧∀ (j:Nat) (h:j<l.length),j<k→p l[j]=false:=by
 rcases zfU (fun i=>if h:i<l.length then p l[i] else false) l.length with hn | ⟨k,hk,h1,h2⟩
 ·left
  have h3:∀ (i:Nat) (h:i<l.length),p l[i]=false:=fun i h=>by have:=hn i h;simpa [h] using this
  refine ⟨?_,h3⟩
  rw [List.any_eq_false]
  intro x hx
  obtain ⟨i,hi,rfl⟩:=List.mem_iff_getElem.1 hx
  simp [h3 i hi]
 ·right
  simp only [dif_pos hk] at h1
  refine ⟨k,hk,List.any_eq_true.2 ⟨_,List.getElem_mem hk,h1⟩,h1,fun j h hj=> ?_⟩
  have:=h2 j hj
  simpa [h] using this
theorem zkb (l:List Int) (b f:Bool) (ff:Nat) (fs cs:List AV) (p:Int→Bool) (h:List zf) (hC:vT h) (hF:∀ i ∈ AV.idsL fs++AV.idsL cs,i<h.length) (hl:l.length<1000000)
  (hp:∀ x,aR G FT ff (fs++[.int .i64 x]++cs) h=some (.bool (p x),h)):aR G FT uU [.data b 1 (ints l) f,.fn (.func ff) fs cs] h=some (.bool (l.any p),h):=by
 have hidx:∀ (j i:Nat),i<l.length→FB ((fun _=>h) j) 1 (.data b 1 (ints l) f) (.int .i64 i)=some ((fun i=>.dptr ((ints l).getD i [])) i):=fun j i hi=>by
  have h4:=ints_at hi
  have h5:(ints l).getD i []=[.int .i64 l[i]]:=by rw [List.getD_eq_getElem?_getD,h4];rfl
  (sym=>simp [Yy,Zh,Ni,Nk,Ma,Mb,Md,Mf,h4,h5])
 have hld:∀ (j i:Nat) (hi:i<l.length),UL ((fun _=>h) j) false 1 ((fun i=>.dptr ((ints l).getD i [])) i)=some ((fun m=>AV.int .i64 m) l[i]):=fun j i hi=>by
  have h5:(ints l).getD i []=[.int .i64 l[i]]:=by rw [List.getD_eq_getElem?_getD,ints_at hi];rfl
  simp only [h5]
  (sym=>simp [Ys,Yt,Hh])
 have hlen:zbi false (.data b 1 (ints l) f)=some (.int .i64 l.length):=by
  have:=zw l
  (sym=>simp [Yh,this])
 rcases zcO p l with ⟨ha,hn⟩ | ⟨k,hk,ha,h1,h2⟩
 ·have key:=FY G l (fun m=>AV.int .i64 m) (.data b 1 (ints l) f) (fun i=>.dptr ((ints l).getD i [])) ff fs cs (fun i=>if h:i<l.length then p l[i] else false) (fun _=>h) h.length (fun _=>rfl) (fun _=>hC) (by simp [AV.ids]) hF (by omega) hlen hidx hld (fun i hi=>by simp only [dif_pos hi];exact hp _) (fun j hj=>by simp only [dif_pos hj];exact hn j hj)
  rw [ze9 G _ _ _ _ _ key,ha];rfl
 ·have key:=Fh G l (fun m=>AV.int .i64 m) (.data b 1 (ints l) f) (fun i=>.dptr ((ints l).getD i [])) ff fs cs (fun i=>if h:i<l.length then p l[i] else false) (fun _=>h) h.length (fun _=>rfl) (fun _=>hC) (by simp [AV.ids]) hF (by omega) hlen hidx hld k hk (fun i hi _=>by simp only [dif_pos hi];exact hp _) (by simp only [dif_pos hk];exact h1) (fun j hj=>by
   have hj':j<l.length:=by omega
   simp only [dif_pos hj'];exact h2 j hj' hj)
  rw [ze9 G _ _ _ _ _ key,ha]
  have:decide ((0:Int)≤(k:Int))=true:=by simp
  rw [this]
theorem zx7 (q:List Pc) (f:Bool) (ff:Nat) (fs cs:List AV) (p:Pc→Bool) (h:List zf) (hC:vT h) (hF:∀ i ∈ AV.idsL fs++AV.idsL cs,i<h.length) (hl:q.length<1000000) (J:Pc→List zf)
  (hp:∀ x,aR G FT ff (fs++[.agg (UK x)]++cs) h=some (.bool (p x),h++J x)):∃ e,aR G FT vk [.data false 3 (pcs q) f,.fn (.func ff) fs cs] h=some (.bool (q.any p),h++e):=by
 have hat:∀ (i:Nat) (hi:i<q.length),(pcs q)[i]? =some (UK q[i]):=fun i hi=>by simp [pcs,hi]
 have hidx:∀ (j i:Nat),i<q.length→FB ((fun _=>h) j) 3 (.data false 3 (pcs q) f) (.int .i64 i)=some ((fun i=>.dptr ((pcs q).getD i [])) i):=fun j i hi=>by
  have h4:=YZ hi
  have h5:(pcs q).getD i []=[.int .i64 q[i].1,.int .i64 q[i].2.1,.data false 1 (byt q[i].2.2.1) q[i].2.2.2]:=by rw [List.getD_eq_getElem?_getD,h4];rfl
  (sym=>simp [Yy,Zh,Ni,Nk,Ma,Mb,Md,Me,Mf,h4,h5])
 have hld:∀ (j i:Nat) (hi:i<q.length),UL ((fun _=>h) j) true 3 ((fun i=>.dptr ((pcs q).getD i [])) i)=some ((fun m=>AV.agg (UK m)) q[i]):=fun j i hi=>by
  have h5:(pcs q).getD i []=[.int .i64 q[i].1,.int .i64 q[i].2.1,.data false 1 (byt q[i].2.2.1) q[i].2.2.2]:=by rw [List.getD_eq_getElem?_getD,YZ hi];rfl
  simp only [h5,UK]
  (sym=>simp [Ys,Yu,Zm,Zn,Ho,Hq,Hs])
 have hlen:zbi false (.data false 3 (pcs q) f)=some (.int .i64 q.length):=by
  have:=yB q
  (sym=>simp [Yh,this])
 rcases zcO p q with ⟨ha,hn⟩ | ⟨k,hk,ha,h1,h2⟩
 ·have key:=RQ G q (fun m=>AV.agg (UK m)) (.data false 3 (pcs q) f) (fun i=>.dptr ((pcs q).getD i [])) ff fs cs (fun i=>if h:i<q.length then p q[i] else false) (fun _=>h) (fun i=>if hi:i<q.length then J q[i] else []) h.length (fun _=>rfl) (fun _=>hC) (by simp [AV.ids]) hF (by omega) hlen hidx hld (fun i hi=>by simp only [dif_pos hi];exact hp _) (fun j hj=>by simp only [dif_pos hj];exact hn j hj)
  refine ⟨[], ?_⟩
  rw [Pg G _ _ _ _ _ key,ha,List.append_nil];rfl
 ·have key:=SH G q (fun m=>AV.agg (UK m)) (.data false 3 (pcs q) f) (fun i=>.dptr ((pcs q).getD i [])) ff fs cs (fun i=>if h:i<q.length then p q[i] else false) (fun _=>h) (fun i=>if hi:i<q.length then J q[i] else []) h.length (fun _=>rfl) (fun _=>hC) (by simp [AV.ids]) hF (by omega) hlen hidx hld k hk (fun i hi _=>by simp only [dif_pos hi];exact hp _) (by simp only [dif_pos hk];exact h1) (fun j hj=>by
   have hj':j<q.length:=by omega
   simp only [dif_pos hj'];exact h2 j hj' hj)
  have d1:decide ((0:Int)≤(k:Int))=true:=by simp
  refine ⟨J q[k], ?_⟩
  rw [Pg G _ _ _ _ _ key,ha,d1,dif_pos hk]
end
end Go.Proofs.YthcnhibjddomdaaGreat
namespace Go.Proofs.YthcnhibjddomdaaGreat
section
open Go
variable (G:Nat→Option (List AV))
def sH (s:Ses):List zf:=[⟨33,0,true,[sC s]⟩]
theorem zkc (s:Ses):vT (sH s):=fun r hr i hi=>by simp [sH] at hr;subst hr;simp [zf.ids] at hi
theorem zxm (s:Ses) (hl:s.mem.length<1000000) (id:Int):aR G FT oU [.int .i64 id,.ptr 0 0 0 0] (sH s)=some (.bool (!wrB s.mem id),sH s):=by
 have hW:=zg0 G s id hl
 have e1:=zk s
 have e3:=zu s
 have e4:=DC s
 have e5:=vK s
 unfold sH
 rw [Lb]
 (sym=>simp [Qb,Qd,Qe,Qi,Qj,Qm,Qn,Qo,Qr,Qt,Q4,Xd,Yr,Yu,Y1,Y5,Y7,Y9,Za,Zb,Zc,Ze,Zg,Zh,Zi,Zj,Zk,Zl,Zm,Zn,Zo,Zr,Zs,Zt,Zu,Zv,Zw,Zy,Z0,Jj,Jk,Jv,Jx,V3,V6,Wd,We,Hh,Hs,Be,zy8.eq_1,zxY.eq_1,oP.eq_1,hW,e1,e3,e4,e5])
def RJ (s:Ses) (t:Pc):Bool:= !zK s.mem t.1||decide (s.k t.1.toNat<t.2.1)
theorem znh (s:Ses) (hl:s.mem.length<1000000) (t:Pc):∃ e,aR G FT oZ [.agg (UK t),.ptr 0 0 0 0] (sH s)=some (.bool (RJ s t),sH s++e):=by
 have hF:=fun b f=>Ka G s.mem b f t.1 hl
 have e0:=Ib s
 have e1:=zk s
 have e3:=zu s
 have e4:=DC s
 have e5:=vK s
 have e6:=zBh s
 unfold sH RJ UK
 rw [NZ]
 cases ht:zK s.mem t.1 with
 | false=>
  rw [ht] at hF
  simp only [Bool.false_eq_true,if_false] at hF
  refine ⟨[⟨3,0,true,[[.int .i64 t.1,.int .i64 t.2.1,.data false 1 (byt t.2.2.1) t.2.2.2]]⟩,⟨2,0,true,[[.int .i64 0,.int .i64 0]]⟩], ?_⟩
  (sym=>simp [Qb,Qd,Qe,Qf,Qg,Qi,Qj,Qm,Qn,Qo,Qr,Qt,Qu,Qv,Qw,Q4,Q5,Xd,Xp,Xw,Xx,Yj,Yr,Yt,Yv,Y1,Y5,Y7,Y9,Za,Zb,Zc,Zd,Ze,Zg,Zh,Zi,Zj,Zk,Zl,Zm,Zn,Zo,Zr,Zs,Zt,Zu,Zv,Zw,Zy,Z0,Z1,Z3,Jb,Jj,Jk,Jv,Jx,J1,J2,Ue,Uf,Ug,Ul,V6,V9,Wd,We,Hh,Hi,Hk,Hl,Hp,Hr,Ht,Hu,Hv,Hw,No,Nt,Nw,Nx,N0,Be,zeV.eq_1,zfd.eq_1,zfB.eq_1,vJ.eq_1,hF,e0,e1,e3,e4,e5])
 | true=>
  rw [ht] at hF
  simp only [if_true] at hF
  have hid:idB t.1=true:=by simp [zK] at ht;exact ht.1.2
  obtain ⟨i1,i8⟩:1≤t.1∧t.1≤8:=by simpa [idB] using hid
  obtain ⟨j,hj⟩:∃ j:Nat,t.1=(j:Int):=⟨t.1.toNat,by omega⟩
  have hj9:j<9:=by omega
  have hj9':(j:Int)<9:=by omega
  have hka:=zlS s hj9
  have hn:t.1.toNat=j:=by omega
  rw [hn]
  rw [hj] at hF ⊢
  refine ⟨[⟨3,0,true,[[.int .i64 (j:Int),.int .i64 t.2.1,.data false 1 (byt t.2.2.1) t.2.2.2]]⟩,⟨2,0,true,[[.int .i64 (j:Int),.int .i64 (zg s.mem j)]]⟩], ?_⟩
  by_cases hc:s.k j<t.2.1
  ·(sym=>simp [Qb,Qd,Qe,Qf,Qg,Qi,Qj,Qm,Qn,Qo,Qr,Qt,Qu,Qv,Qw,Q4,Q5,Xa,Xd,Xp,Xt,Xw,Xx,Yc,Yj,Yr,Yt,Yv,Yz,Y1,Y5,Y7,Y9,Za,Zb,Zc,Zd,Ze,Zg,Zh,Zi,Zj,Zk,Zl,Zm,Zn,Zo,Zr,Zs,Zt,Zu,Zv,Zw,Zy,Z0,Z1,Z3,Jb,Jj,Jk,Jv,Jx,J1,J2,Ue,Uf,Ug,Ul,V6,V9,Wd,We,Hh,Hi,Hk,Hl,Hp,Hr,Ht,Hu,Hv,Hw,Nc,Ni,Nk,Nl,No,Ns,Nw,Nx,Nz,N0,Be,Bh,zeV.eq_1,zfd.eq_1,zfB.eq_1,vJ.eq_1,hF,e0,e1,e3,e4,e5,hj9,hj9',hka,hc])
  ·(sym=>simp [Qb,Qd,Qe,Qf,Qg,Qi,Qj,Qm,Qn,Qo,Qr,Qt,Qu,Qv,Qw,Q4,Q5,Xa,Xd,Xp,Xt,Xw,Xx,Yc,Yj,Yr,Yt,Yv,Yz,Y1,Y5,Y7,Y9,Za,Zb,Zc,Zd,Ze,Zg,Zh,Zi,Zj,Zk,Zl,Zm,Zn,Zo,Zr,Zs,Zt,Zu,Zv,Zw,Zy,Z0,Z1,Z3,Jb,Jj,Jk,Jv,Jx,J1,J2,Ue,Uf,Ug,Ul,V6,V9,Wd,We,Hh,Hi,Hk,Hl,Hp,Hr,Ht,Hu,Hv,Hw,Nc,Ni,Nk,Nm,No,Nu,Nw,Nx,Nz,N0,Be,Bh,zeV.eq_1,zfd.eq_1,zfB.eq_1,vJ.eq_1,hF,e0,e1,e3,e4,e5,hj9,hj9',hka,hc])
end
end Go.Proofs.YthcnhibjddomdaaGreat
namespace Go.Proofs.YthcnhibjddomdaaGreat
section
open Go
variable (G:Nat→Option (List AV))
def tkB (s:Ses) (j:Nat):Bool:= !decide (s.k j<0)&& !decide (1073741824<s.k j)&&(zK s.mem j||(decide (s.k j=0)&&(decide ((s.w j).1=0)&&decide ((s.w j).2=0))))
def vw (s:Ses):Nat→Nat→Bool
 | 0,_=>true
 | m+1,i=>tkB s i&&vw s m (i+1)
theorem zlK (k:Nat→Int):AV.idsL (zP k)=[]:=by simp [zP,AV.idsL,AV.ids]
theorem zla (k:Nat→Int) (h:List zf) (lo off:Nat) (o:List Nat):AV.renL h lo off o (zP k)=zP k:=by simp [zP,AV.renL,AV.ren]
theorem zlZ (s:Ses) (hl:s.mem.length<1000000):∀ (m i:Nat),i+m=9→∃ R,
  (∀ st,agc 0 [1,67,68] st=some ⟨[(1,.ptr 0 0 0 0),(67,.agg (zP s.k)),(68,.int .i64 i)],[⟨33,0,true,[sC s]⟩]⟩→aE G FT 0 ja st=some R)∧
  ((vw s m i=true∧R=(.exit 0,⟨[(1,.ptr 0 0 0 0),(67,.agg (zP s.k)),(68,.int .i64 9),(69,.bool false)],[⟨33,0,true,[sC s]⟩]⟩))∨
   (vw s m i=false∧∃ h',R=(.ret,⟨[(2,.bool false)],h'⟩))):=by
 have e0:=Ib s
 have e1:=zk s
 have e3:=zu s
 have e4:=DC s
 have e6:=zlK s.k
 have e7:=zkY s.k
 have e8:=zla s.k
 intro m
 induction m with
 | zero=>
  intro i hi
  obtain rfl:i=9:=by omega
  have e9:((9:Nat):Int)=9:=rfl
  refine ⟨_,fun st hst=> ?_,.inl ⟨rfl,rfl⟩⟩
  rw [ja,zn,hst]
  (sym=>simp [Qa,Qd,Qe,Qi,Qj,Qt,Xa,Ya,Y9,Za,Zb,Zc,Ze,Zg,Zh,Zt,Zv,Zw,Z3,Jj,Jk,Jm,Jr,Ju,Jv,Nm,Be,Bh,Rx.eq_1,Ru.eq_1,WS.eq_1,VC.eq_1,WG.eq_1,WK.eq_1,zy.eq_1,e9,e1,e4,e6,e7,e8])
 | succ m ih=>
  intro i hi
  have hi9:i<9:=by omega
  have hi9':(i:Int)<9:=by omega
  have hw:=zH (n:=i) (by omega)
  have hF:=fun b f=>Ka G s.mem b f i hl
  have hka:=zDH s.k hi9
  have hwa:=zFX s hi9
  have hb2:4+i * 2+2≤33:=by omega
  rw [ja] at ih ⊢
  rw [vw]
  have bad:∀ (x y:Int),tkB s i=false→(∀ st,agc 0 [1,67,68] st=some ⟨[(1,.ptr 0 0 0 0),(67,.agg (zP s.k)),(68,.int .i64 i)],[⟨33,0,true,[sC s]⟩]⟩→aE G FT 0 (.loop [1,67,68] zy) st=some (.ret,⟨[(2,.bool false)],[⟨33,0,true,[sC s]⟩,⟨2,0,true,[[.int .i64 x,.int .i64 y]]⟩]⟩))→
    ∃ R,(∀ st,agc 0 [1,67,68] st=some ⟨[(1,.ptr 0 0 0 0),(67,.agg (zP s.k)),(68,.int .i64 i)],[⟨33,0,true,[sC s]⟩]⟩→aE G FT 0 (.loop [1,67,68] zy) st=some R)∧
     (((tkB s i&&vw s m (i+1))=true∧R=(.exit 0,⟨[(1,.ptr 0 0 0 0),(67,.agg (zP s.k)),(68,.int .i64 9),(69,.bool false)],[⟨33,0,true,[sC s]⟩]⟩))∨
      ((tkB s i&&vw s m (i+1))=false∧∃ h',R=(.ret,⟨[(2,.bool false)],h'⟩))):=fun x y hb h=>⟨_,h,.inr ⟨by rw [hb];rfl,_,rfl⟩⟩
  have good:tkB s i=true→(∀ R,(∀ st',agc 0 [1,67,68] st'=some ⟨[(1,.ptr 0 0 0 0),(67,.agg (zP s.k)),(68,.int .i64 ((i+1:Nat):Int))],[⟨33,0,true,[sC s]⟩]⟩→aE G FT 0 (.loop [1,67,68] zy) st'=R)→
    ∀ st,agc 0 [1,67,68] st=some ⟨[(1,.ptr 0 0 0 0),(67,.agg (zP s.k)),(68,.int .i64 i)],[⟨33,0,true,[sC s]⟩]⟩→aE G FT 0 (.loop [1,67,68] zy) st=R)→
    ∃ R,(∀ st,agc 0 [1,67,68] st=some ⟨[(1,.ptr 0 0 0 0),(67,.agg (zP s.k)),(68,.int .i64 i)],[⟨33,0,true,[sC s]⟩]⟩→aE G FT 0 (.loop [1,67,68] zy) st=some R)∧
     (((tkB s i&&vw s m (i+1))=true∧R=(.exit 0,⟨[(1,.ptr 0 0 0 0),(67,.agg (zP s.k)),(68,.int .i64 9),(69,.bool false)],[⟨33,0,true,[sC s]⟩]⟩))∨
      ((tkB s i&&vw s m (i+1))=false∧∃ h',R=(.ret,⟨[(2,.bool false)],h'⟩))):=fun hb h=>by
   obtain ⟨R,i1,i2⟩:=ih (i+1) (by omega)
   exact ⟨R,h _ i1,by rw [hb,Bool.true_and];exact i2⟩
  by_cases k0:s.k i<0
  ·refine bad (if zK s.mem i=true then (i:Int) else 0) (if zK s.mem i=true then zg s.mem i else 0) (by simp [tkB,k0]) fun st hst=> ?_
   rw [zn,hst]
   (sym=>simp [Qb,Qc,Qd,Qe,Qf,Qg,Qh,Qi,Qj,Qm,Qn,Qo,Qr,Qt,Qu,Qv,Q4,Q5,Xa,Xp,Xu,Xw,Xx,Ya,Yr,Yt,Yv,Y9,Za,Zb,Zc,Zd,Ze,Zg,Zh,Zm,Zn,Zo,Zt,Zv,Zw,Zy,Z0,Z1,Z3,Jb,Jj,Jk,Jl,Jn,Jp,Jr,Jt,Jv,J1,J2,K6,Ue,Uf,Ug,V6,V9,Wd,We,Hh,Hi,Hk,Hl,Hp,Hr,Ht,Hu,Hv,Hw,Nc,Ni,Nk,Nl,No,Nw,Nz,N0,Be,Bh,Rx.eq_1,Ru.eq_1,WS.eq_1,VC.eq_1,WG.eq_1,WK.eq_1,zy.eq_1,hF,e0,e1,e3,e4,e6,e7,e8,hi9,hi9',hka,k0])
  by_cases k1:1073741824<s.k i
  ·refine bad (if zK s.mem i=true then (i:Int) else 0) (if zK s.mem i=true then zg s.mem i else 0) (by simp [tkB,k1]) fun st hst=> ?_
   rw [zn,hst]
   (sym=>simp [Qb,Qc,Qd,Qe,Qf,Qg,Qh,Qi,Qj,Qm,Qn,Qo,Qr,Qt,Qu,Qv,Q4,Q5,Xa,Xp,Xu,Xw,Xx,Ya,Yc,Yr,Yt,Yv,Y9,Za,Zb,Zc,Zd,Ze,Zg,Zh,Zm,Zn,Zo,Zt,Zv,Zw,Zy,Z0,Z1,Z3,Jb,Jj,Jk,Jl,Jn,Jp,Jr,Jt,Jv,J1,J2,K6,Ue,Uf,Ug,V6,V9,Wd,We,Hh,Hi,Hk,Hl,Hp,Hr,Ht,Hu,Hv,Hw,Nc,Ni,Nk,Nl,Nm,No,Nw,Nx,Nz,N0,Be,Bh,Rx.eq_1,Ru.eq_1,WS.eq_1,VC.eq_1,WG.eq_1,WK.eq_1,zy.eq_1,hF,e0,e1,e3,e4,e6,e7,e8,hi9,hi9',hka,k0,k1])
  cases ht:zK s.mem i with
  | true=>
   rw [ht] at hF
   simp only [if_true] at hF
   refine good (by simp [tkB,k0,k1,ht]) fun R hR st hst=> ?_
   rw [zn,hst]
   (sym=>simp [Qc,Qd,Qe,Qf,Qg,Qh,Qi,Qj,Qm,Qn,Qo,Qr,Qt,Qu,Qv,Q4,Q5,Xa,Xd,Xp,Xu,Xw,Xx,X5,Ya,Yc,Yr,Yt,Yv,Y9,Za,Zb,Zc,Zd,Ze,Zg,Zh,Zm,Zn,Zo,Zt,Zv,Zw,Zy,Z0,Z1,Z3,Ja,Jb,Jj,Jk,Jn,Jo,Jr,Js,Jv,J1,J2,K6,Ue,Uf,Ug,V6,V9,Wd,We,Hh,Hi,Hk,Hl,Hp,Hr,Ht,Hu,Hv,Hw,Nc,Ni,Nk,Nl,Nm,No,Nw,Nx,Nz,N0,Be,Bh,Rx.eq_1,Ru.eq_1,WS.eq_1,VC.eq_1,WG.eq_1,WK.eq_1,zy.eq_1,hF,e0,e1,e3,e4,e6,e7,e8,hi9,hi9',hka,k0,k1,hw];tactic=>(
    refine hR _ ?_
    (sym=>simp [Y9,Za,Zb,Ze,Zk,Zl,Zm,Zn,Zv,Zw,Zx,Zy,Zz,Z0,Z3,Ut,Uu,Ux,U4,U5,U7,U8,Vb,Vk,Vm,Vo,Vp,Vq,Vr,Vs,Vt,Vu,Vv,Vw,Vx,Vy,Vz,V0,Hh,Hp,Hv,Hw,H1,H5,H6,Nl,No,Nx,e4,e6,e8])))
  | false=>
   rw [ht] at hF
   simp only [Bool.false_eq_true,if_false] at hF
   by_cases k2:s.k i=0
   ·by_cases w1:(s.w i).1=0
    ·by_cases w2:(s.w i).2=0
     ·refine good (by simp [tkB,k0,k1,ht,k2,w1,w2]) fun R hR st hst=> ?_
      rw [zn,hst]
      (sym=>simp [Qc,Qd,Qe,Qf,Qg,Qi,Qj,Qm,Qn,Qo,Qr,Qt,Qu,Qv,Qx,Q1,Q4,Q5,Xa,Xb,Xd,Xp,Xt,Xu,Xw,Xx,X5,X9,Ya,Yc,Yr,Yt,Yu,Yv,Yz,Y9,Za,Zb,Zc,Zd,Ze,Zg,Zh,Zm,Zn,Zo,Zt,Zv,Zw,Zy,Z0,Z1,Z3,Ja,Jb,Jg,Jj,Jk,Jn,Jo,Jr,Js,Jv,J1,J2,Kh,Kk,Kl,Km,K6,K8,Ue,Uf,Ug,V6,V9,Wd,We,Hh,Hi,Hk,Hl,Hp,Hr,Ht,Hu,Hv,Hw,Nc,Ni,Nk,Nl,Nm,No,Nw,Nx,Nz,N0,Be,Bh,Rx.eq_1,Ru.eq_1,WS.eq_1,VC.eq_1,WG.eq_1,WK.eq_1,zy.eq_1,hF,e0,e1,e3,e4,e6,e7,e8,hi9,hi9',hka,hwa,hb2,k0,k1,k2,w1,w2,hw];tactic=>(
       refine hR _ ?_
       (sym=>simp [Y9,Za,Zb,Ze,Zk,Zl,Zm,Zn,Zv,Zw,Zx,Zy,Zz,Z0,Z3,Ut,Uu,Ux,U4,U5,U7,U8,Vb,Vk,Vm,Vo,Vp,Vq,Vr,Vs,Vt,Vu,Vv,Vw,Vx,Vy,Vz,V0,Hh,Hp,Hv,Hw,H1,H5,H6,Nl,No,Nx,e4,e6,e8])))
     ·refine bad 0 0 (by simp [tkB,k2,ht,w2]) fun st hst=> ?_
      rw [zn,hst]
      (sym=>simp [Qb,Qc,Qd,Qe,Qf,Qg,Qi,Qj,Qm,Qn,Qo,Qr,Qt,Qu,Qv,Qx,Q1,Q4,Q5,Xa,Xb,Xd,Xp,Xt,Xu,Xw,Xx,X9,Ya,Yc,Yr,Yt,Yu,Yv,Yz,Y9,Za,Zb,Zc,Zd,Ze,Zg,Zh,Zm,Zn,Zo,Zt,Zv,Zw,Zy,Z0,Z1,Z3,Ja,Jb,Jg,Jj,Jk,Jl,Jn,Jp,Jr,Jt,Jv,J1,J2,Kh,Kk,Kl,Km,K6,K8,Ue,Uf,Ug,V6,V9,Wd,We,Hh,Hi,Hk,Hl,Hp,Hr,Ht,Hu,Hv,Hw,Nc,Ni,Nk,Nl,Nm,No,Nq,Nw,Nx,Nz,N0,Be,Bh,Rx.eq_1,Ru.eq_1,WS.eq_1,VC.eq_1,WG.eq_1,WK.eq_1,zy.eq_1,hF,e0,e1,e3,e4,e6,e7,e8,hi9,hi9',hka,hwa,hb2,k0,k1,k2,w1,w2])
    ·refine bad 0 0 (by simp [tkB,k2,ht,w1]) fun st hst=> ?_
     rw [zn,hst]
     (sym=>simp [Qb,Qc,Qd,Qe,Qf,Qg,Qi,Qj,Qm,Qn,Qo,Qr,Qt,Qu,Qv,Qx,Q1,Q4,Q5,Xa,Xb,Xd,Xp,Xt,Xu,Xw,Xx,X9,Ya,Yc,Yr,Yt,Yu,Yv,Yz,Y9,Za,Zb,Zc,Zd,Ze,Zg,Zh,Zm,Zn,Zo,Zt,Zv,Zw,Zy,Z0,Z1,Z3,Ja,Jb,Jg,Jj,Jk,Jl,Jn,Jp,Jr,Jt,Jv,J1,J2,Kh,Kk,Kl,Km,K6,K8,Ue,Uf,Ug,V6,V9,Wd,We,Hh,Hi,Hk,Hl,Hp,Hr,Ht,Hu,Hv,Hw,Nc,Ni,Nk,Nl,Nm,No,Nr,Nw,Nx,Nz,N0,Be,Bh,Rx.eq_1,Ru.eq_1,WS.eq_1,VC.eq_1,WG.eq_1,WK.eq_1,zy.eq_1,hF,e0,e1,e3,e4,e6,e7,e8,hi9,hi9',hka,hwa,hb2,k0,k1,k2,w1])
   ·refine bad 0 0 (by simp [tkB,k2,ht]) fun st hst=> ?_
    rw [zn,hst]
    (sym=>simp [Qb,Qc,Qd,Qe,Qf,Qg,Qi,Qj,Qm,Qn,Qo,Qr,Qt,Qu,Qv,Q4,Q5,Xa,Xd,Xp,Xu,Xw,Xx,X9,Ya,Yc,Yr,Yt,Yv,Y9,Za,Zb,Zc,Zd,Ze,Zg,Zh,Zm,Zn,Zo,Zt,Zv,Zw,Zy,Z0,Z1,Z3,Ja,Jb,Jj,Jk,Jl,Jn,Jp,Jr,Jt,Jv,J1,J2,K6,Ue,Uf,Ug,V6,V9,Wd,We,Hh,Hi,Hk,Hl,Hp,Hr,Ht,Hu,Hv,Hw,Nc,Ni,Nk,Nl,Nm,No,Nw,Nx,Nz,N0,Be,Bh,Rx.eq_1,Ru.eq_1,WS.eq_1,VC.eq_1,WG.eq_1,WK.eq_1,zy.eq_1,hF,e0,e1,e3,e4,e6,e7,e8,hi9,hi9',hka,k0,k1,k2])
end
end Go.Proofs.YthcnhibjddomdaaGreat
namespace Go.Proofs.YthcnhibjddomdaaGreat
section
open Go
variable (G:Nat→Option (List AV))
def okS (s:Ses):Prop:=s.mem.length≤1000∧s.tq.length≤1000∧okL s.q
def ZO (s:Ses):Bool:=decide (1≤s.r)&&decide (s.r≤24)&&decide (1≤s.c)&&decide (s.c≤40)
def yj (s:Ses):Bool:=
 y5 s.mem&&Yf s.h s.tq&&jG 0 s.q&&TN s.w&&ZO s&&(decide (s.h=0)||wrB s.mem s.h)&& !(s.tq.any fun id=> !wrB s.mem id)&&vw s 9 0&& !(s.q.any (RJ s))
theorem zb1 (s:Ses) (h:okS s):aP G FT jM [.agg (sC s)]=some (.bool (yj s)):=by
 obtain ⟨hl1,hl2,hl3⟩:=h
 have hl:s.mem.length<1000000:=by omega
 have hM:=fun b f=>za7 G s.mem b f hl
 have hT:=fun b f=>zjN G s.h s.tq b f hl2
 have hQ:=fun b f=>zfC G s.q hl3 b f
 have hW:=zl2 G s.w
 have hWr:=zg0 G s s.h hl
 have hI:=fun b f=>zkb G s.tq b f oU [] [.ptr 0 0 0 0] (fun id=> !wrB s.mem id) (sH s) (zkc s) (by simp [AV.idsL,AV.ids,sH]) (by omega) (fun x=>zxm G s hl x)
 have hP:=fun f=>zx7 G s.q f oZ [] [.ptr 0 0 0 0] (RJ s) (sH s) (zkc s) (by simp [AV.idsL,AV.ids,sH]) (by have:=hl3.1;omega) (fun x=>Classical.choose (znh G s hl x)) (fun x=>Classical.choose_spec (znh G s hl x))
 obtain ⟨e,hP⟩:=hP s.f3
 obtain ⟨R,k1,k2⟩:=zlZ G s hl 9 0 (by omega)
 have e0:=Ib s
 have e1:=zFa s
 have e2:=zG8 s
 have e3:=zer s
 have e4:=zk s
 have e5:=zu s
 have e6:=DC s
 have e7:=zG s
 have e8:=vK s
 have e9:=zgv s
 have f0:=zAO s
 have f1:=zBh s
 have f2:=zsZ s
 have f3:=zrW s
 have f4:=zlK s.k
 have f5:=zkY s.k
 have f6:=zla s.k
 have f7:=Tg s.w
 have f8:=zkn s.w
 simp only [Int.natCast_zero] at k1
 have k1:=k1 ⟨[(1,.ptr 0 0 0 0),(67,.agg (zP s.k)),(68,.int .i64 0)],[⟨33,0,true,[sC s]⟩]⟩ (by (sym=>simp [Y9,Za,Zb,Ze,Zk,Zl,Zm,Zn,Zv,Zw,Zx,Zy,Zz,Z0,Z3,Ut,Uu,Ux,U4,U5,U7,U8,Vb,Vk,Vm,Vo,Vp,Vq,Vr,Vs,Vt,Vu,Vv,Vw,Vx,Vy,Vz,V0,Hh,Hp,Hv,Hw,H1,H5,H6,Nl,No,Nx,e6,f4,f6]))
 unfold sH at hI hP
 unfold aP
 rw [Ff]
 cases h1:y5 s.mem with
 | false=>simp only [yj,h1,Bool.false_and];(sym=>simp [Qb,Qd,Qe,Qf,Qg,Qi,Qj,Qm,Qn,Qo,Qr,Qt,Qu,Qw,Q4,Xd,Xp,Yj,Yr,Yt,Yv,Y1,Y5,Y7,Y9,Za,Zb,Zc,Ze,Zg,Zh,Zi,Zj,Zk,Zl,Zm,Zo,Zr,Zs,Zt,Zu,Zv,Zw,Zy,Z0,Z3,Jb,Jj,Jk,Jl,Jr,Jv,Jx,V9,Wd,We,Wk,Hh,Hv,Nw,Nx,Be,oq.eq_1,ow.eq_1,jZ.eq_1,og.eq_1,oh.eq_1,j6.eq_1,oF.eq_1,oH.eq_1,uq.eq_1,zA.eq_1,hM,h1,e0,e4,e5,e7])
 | true=>
 cases h2:Yf s.h s.tq with
 | false=>simp only [yj,h1,h2,Bool.false_and,Bool.true_and];(sym=>simp [Qb,Qd,Qe,Qf,Qg,Qi,Qj,Qm,Qn,Qo,Qr,Qt,Qu,Qw,Q4,Xd,Xp,Yj,Yr,Yt,Yu,Yv,Y1,Y5,Y7,Y9,Za,Zb,Zc,Ze,Zg,Zh,Zi,Zj,Zk,Zl,Zm,Zo,Zr,Zs,Zt,Zu,Zv,Zw,Zy,Z0,Z3,Jb,Jj,Jk,Jl,Jr,Jv,Jx,V3,V6,V9,Wd,We,Wk,Hh,Hv,Nw,Nx,Be,oq.eq_1,ow.eq_1,jZ.eq_1,og.eq_1,oh.eq_1,j6.eq_1,oF.eq_1,oH.eq_1,uq.eq_1,zA.eq_1,hM,h1,hT,h2,e0,e4,e5,e7,e9])
 | true=>
 cases h3:jG 0 s.q with
 | false=>simp only [yj,h1,h2,h3,Bool.false_and,Bool.true_and];(sym=>simp [Qb,Qd,Qe,Qf,Qg,Qi,Qj,Qm,Qn,Qo,Qr,Qt,Qu,Qw,Q4,Xd,Xp,Yj,Yr,Yt,Yu,Yv,Y1,Y5,Y7,Y9,Za,Zb,Zc,Ze,Zg,Zh,Zi,Zj,Zk,Zl,Zm,Zo,Zr,Zs,Zt,Zu,Zv,Zw,Zy,Z0,Z3,Jb,Jj,Jk,Jl,Jr,Jv,Jx,V3,V6,V9,Wd,We,Wk,Hh,Hv,Nw,Nx,Be,oq.eq_1,ow.eq_1,jZ.eq_1,og.eq_1,oh.eq_1,j6.eq_1,oF.eq_1,oH.eq_1,uq.eq_1,zA.eq_1,hM,h1,hT,h2,hQ,h3,e0,e3,e4,e5,e7,e9])
 | true=>
 cases h4:TN s.w with
 | false=>simp only [yj,h1,h2,h3,h4,Bool.false_and,Bool.true_and];(sym=>simp [Qb,Qd,Qe,Qf,Qg,Qi,Qj,Qm,Qn,Qo,Qr,Qt,Qu,Qw,Q4,Xd,Xp,Yj,Yr,Yt,Yu,Yv,Y1,Y5,Y7,Y9,Za,Zb,Zc,Ze,Zg,Zh,Zi,Zj,Zk,Zl,Zm,Zo,Zr,Zs,Zt,Zu,Zv,Zw,Zy,Z0,Z3,Jb,Jj,Jk,Jl,Jr,Jv,Jx,V3,V6,V9,Wd,We,Wk,Hh,Hv,Nw,Nx,Be,oq.eq_1,ow.eq_1,jZ.eq_1,og.eq_1,oh.eq_1,j6.eq_1,oF.eq_1,oH.eq_1,uq.eq_1,zA.eq_1,hM,h1,hT,h2,hQ,h3,hW,h4,f0,f8,e0,e3,e4,e5,e7,e9])
 | true=>
 have go:yj s=(ZO s&&(decide (s.h=0)||wrB s.mem s.h)&& !(s.tq.any fun id=> !wrB s.mem id)&&vw s 9 0&& !(s.q.any (RJ s))):=by simp only [yj,h1,h2,h3,h4,Bool.true_and]
 rw [go]
 by_cases r1:s.r<1
 ·have hs:ZO s=false:=by simp [ZO];omega
  simp only [hs,Bool.false_and]
  (sym=>simp [Qb,Qc,Qd,Qe,Qf,Qg,Qi,Qj,Qm,Qn,Qo,Qr,Qt,Qu,Qw,Q4,Xa,Xd,Xp,Ya,Yj,Yr,Yt,Yu,Yv,Y1,Y5,Y7,Y9,Za,Zb,Zc,Ze,Zg,Zh,Zi,Zj,Zk,Zl,Zm,Zo,Zr,Zs,Zt,Zu,Zv,Zw,Zy,Z0,Z3,Jb,Jj,Jk,Jl,Jr,Jv,Jx,V3,V6,V9,Wd,We,Wk,Hh,Hv,Nl,Nw,Nx,Be,oq.eq_1,ow.eq_1,jZ.eq_1,og.eq_1,oh.eq_1,j6.eq_1,oF.eq_1,oH.eq_1,uq.eq_1,zA.eq_1,hM,h1,hT,h2,hQ,h3,hW,h4,f0,f8,e0,e3,e4,e5,e6,e7,e9,f2,r1])
 by_cases r2:24<s.r
 ·have hs:ZO s=false:=by simp [ZO];omega
  simp only [hs,Bool.false_and]
  (sym=>simp [Qb,Qc,Qd,Qe,Qf,Qg,Qi,Qj,Qm,Qn,Qo,Qr,Qt,Qu,Qw,Q4,Xa,Xd,Xp,Ya,Yc,Yj,Yr,Yt,Yu,Yv,Y1,Y5,Y7,Y9,Za,Zb,Zc,Ze,Zg,Zh,Zi,Zj,Zk,Zl,Zm,Zo,Zr,Zs,Zt,Zu,Zv,Zw,Zy,Z0,Z3,Jb,Jj,Jk,Jl,Jr,Jv,Jx,V3,V6,V9,Wd,We,Wk,Hh,Hv,Nl,Nm,Nw,Nx,Be,oq.eq_1,ow.eq_1,jZ.eq_1,og.eq_1,oh.eq_1,j6.eq_1,oF.eq_1,oH.eq_1,uq.eq_1,zA.eq_1,hM,h1,hT,h2,hQ,h3,hW,h4,f0,f8,e0,e3,e4,e5,e6,e7,e9,f2,r1,r2])
 by_cases r3:s.c<1
 ·have hs:ZO s=false:=by simp [ZO];omega
  simp only [hs,Bool.false_and]
  (sym=>simp [Qb,Qc,Qd,Qe,Qf,Qg,Qi,Qj,Qm,Qn,Qo,Qr,Qt,Qu,Qw,Q4,Xa,Xd,Xp,Ya,Yc,Yj,Yr,Yt,Yu,Yv,Y1,Y5,Y7,Y9,Za,Zb,Zc,Ze,Zg,Zh,Zi,Zj,Zk,Zl,Zm,Zo,Zr,Zs,Zt,Zu,Zv,Zw,Zy,Z0,Z3,Jb,Jj,Jk,Jl,Jr,Jv,Jx,V3,V6,V9,Wd,We,Wk,Hh,Hv,Nl,Nm,Nw,Nx,Be,oq.eq_1,ow.eq_1,jZ.eq_1,og.eq_1,oh.eq_1,j6.eq_1,oF.eq_1,oH.eq_1,uq.eq_1,zA.eq_1,hM,h1,hT,h2,hQ,h3,hW,h4,f0,f8,e0,e3,e4,e5,e6,e7,e9,f2,f3,r1,r2,r3])
 by_cases r4:40<s.c
 ·have hs:ZO s=false:=by simp [ZO];omega
  simp only [hs,Bool.false_and]
  (sym=>simp [Qb,Qc,Qd,Qe,Qf,Qg,Qi,Qj,Qm,Qn,Qo,Qr,Qt,Qu,Qw,Q4,Xa,Xd,Xp,Ya,Yc,Yj,Yr,Yt,Yu,Yv,Y1,Y5,Y7,Y9,Za,Zb,Zc,Ze,Zg,Zh,Zi,Zj,Zk,Zl,Zm,Zo,Zr,Zs,Zt,Zu,Zv,Zw,Zy,Z0,Z3,Jb,Jj,Jk,Jl,Jr,Jv,Jx,V3,V6,V9,Wd,We,Wk,Hh,Hv,Nl,Nm,Nw,Nx,Be,oq.eq_1,ow.eq_1,jZ.eq_1,og.eq_1,oh.eq_1,j6.eq_1,oF.eq_1,oH.eq_1,uq.eq_1,zA.eq_1,hM,h1,hT,h2,hQ,h3,hW,h4,f0,f8,e0,e3,e4,e5,e6,e7,e9,f2,f3,r1,r2,r3,r4])
 have hs:ZO s=true:=by simp [ZO];omega
 rw [hs,Bool.true_and]
 have hb:(decide (s.h=0)||wrB s.mem s.h)=false∨(s.h=0∨s.h≠0∧wrB s.mem s.h=true):=by
  by_cases h0:s.h=0
  ·exact .inr (.inl h0)
  ·cases hw:wrB s.mem s.h with
   | true=>exact .inr (.inr ⟨h0,rfl⟩)
   | false=>left;simp [h0]
 rcases hb with hb | hb
 ·have h0:¬ s.h=0:=by intro h;simp [h] at hb
  have hw:wrB s.mem s.h=false:=by simpa [h0] using hb
  simp only [hb,Bool.false_and]
  (sym=>simp [Qb,Qc,Qd,Qe,Qf,Qg,Qi,Qj,Qm,Qn,Qo,Qr,Qt,Qu,Qw,Q4,Xa,Xd,Xp,X9,Ya,Yc,Yj,Yr,Yt,Yu,Yv,Y1,Y5,Y7,Y9,Za,Zb,Zc,Ze,Zg,Zh,Zi,Zj,Zk,Zl,Zm,Zo,Zr,Zs,Zt,Zu,Zv,Zw,Zy,Z0,Z3,Ja,Jb,Jj,Jk,Jl,Jr,Jv,Jx,V3,V6,V9,Wd,We,Wk,Hh,Hs,Hv,Nm,Nw,Nx,Be,oq.eq_1,ow.eq_1,jZ.eq_1,og.eq_1,oh.eq_1,j6.eq_1,oF.eq_1,oH.eq_1,uq.eq_1,zA.eq_1,hM,h1,hT,h2,hQ,h3,hW,h4,f0,f8,e0,e1,e3,e4,e5,e6,e7,e8,e9,f2,f3,r1,r2,r3,r4,hWr,h0,hw])
 ·have hbt:(decide (s.h=0)||wrB s.mem s.h)=true:=by rcases hb with h | ⟨_,h⟩<;>simp [h]
  rw [hbt,Bool.true_and]
  cases ha:s.tq.any fun id=> !wrB s.mem id with
  | true=>
   simp only [Bool.not_true,Bool.false_and]
   rcases hb with h0 | ⟨h0,hw⟩
   ·have hT0:=hT
    have h20:=h2
    rw [h0] at h20
    simp only [h0] at hT0
    (sym=>simp [Qb,Qc,Qd,Qe,Qf,Qg,Qi,Qj,Qm,Qn,Qo,Qr,Qt,Qu,Qw,Q4,Xa,Xd,Xj,Xp,X9,Ya,Yc,Yj,Yr,Yt,Yu,Yv,Y1,Y5,Y7,Y9,Za,Zb,Zc,Ze,Zg,Zh,Zi,Zj,Zk,Zl,Zm,Zo,Zq,Zr,Zs,Zt,Zu,Zv,Zw,Zy,Z0,Z3,Ja,Jb,Jj,Jk,Jl,Jr,Jv,Jx,V3,V6,V9,Wd,We,Wk,Hh,Hv,Nl,Nm,Nw,Nx,Be,oq.eq_1,ow.eq_1,jZ.eq_1,og.eq_1,oh.eq_1,j6.eq_1,oF.eq_1,oH.eq_1,uq.eq_1,zA.eq_1,hM,h1,hT0,h20,hQ,h3,hW,h4,f0,f8,e0,e1,e2,e3,e4,e5,e6,e7,e8,e9,f2,f3,r1,r2,r3,r4,hWr,h0,hI,ha])
   ·(sym=>simp [Qb,Qc,Qd,Qe,Qf,Qg,Qi,Qj,Qm,Qn,Qo,Qr,Qt,Qu,Qw,Q4,Xa,Xd,Xj,Xp,X9,Ya,Yc,Yj,Yr,Yt,Yu,Yv,Y1,Y5,Y7,Y9,Za,Zb,Zc,Ze,Zg,Zh,Zi,Zj,Zk,Zl,Zm,Zo,Zq,Zr,Zs,Zt,Zu,Zv,Zw,Zy,Z0,Z3,Ja,Jb,Jj,Jk,Jl,Jr,Jv,Jx,V3,V6,V9,Wd,We,Wk,Hh,Hs,Hv,Nm,Nw,Nx,Be,oq.eq_1,ow.eq_1,jZ.eq_1,og.eq_1,oh.eq_1,j6.eq_1,oF.eq_1,oH.eq_1,uq.eq_1,zA.eq_1,hM,h1,hT,h2,hQ,h3,hW,h4,f0,f8,e0,e1,e2,e3,e4,e5,e6,e7,e8,e9,f2,f3,r1,r2,r3,r4,hWr,h0,hw,hI,ha])
  | false=>
   simp only [Bool.not_false,Bool.true_and]
   rcases k2 with ⟨hk,rfl⟩ | ⟨hk,h',rfl⟩
   ·rw [hk,Bool.true_and]
    rcases hb with h0 | ⟨h0,hw⟩
    ·have hT0:=hT
     have h20:=h2
     rw [h0] at h20
     simp only [h0] at hT0
     (sym=>simp [Qb,Qc,Qd,Qe,Qf,Qg,Qi,Qj,Qm,Qn,Qo,Qr,Qt,Qu,Qw,Q4,Xa,Xd,Xj,Xp,X9,Ya,Yc,Yj,Yr,Yt,Yu,Yv,Y1,Y5,Y7,Y9,Za,Zb,Zc,Ze,Zg,Zh,Zi,Zj,Zk,Zl,Zm,Zo,Zq,Zr,Zs,Zt,Zu,Zv,Zw,Zy,Z0,Z3,Ja,Jb,Jj,Jk,Jn,Jq,Jr,Jv,Jx,V3,V6,V9,Wd,We,Wk,Hh,Hu,Hv,Nl,Nm,Nw,Nx,Be,oq.eq_1,ow.eq_1,jZ.eq_1,og.eq_1,oh.eq_1,j6.eq_1,oF.eq_1,oH.eq_1,uq.eq_1,zA.eq_1,hM,h1,hT0,h20,hQ,h3,hW,h4,f0,f1,f5,f8,e0,e1,e2,e3,e4,e5,e6,e7,e8,e9,f2,f3,r1,r2,r3,r4,hWr,h0,hI,ha,k1,hP])
    ·(sym=>simp [Qb,Qc,Qd,Qe,Qf,Qg,Qi,Qj,Qm,Qn,Qo,Qr,Qt,Qu,Qw,Q4,Xa,Xd,Xj,Xp,X9,Ya,Yc,Yj,Yr,Yt,Yu,Yv,Y1,Y5,Y7,Y9,Za,Zb,Zc,Ze,Zg,Zh,Zi,Zj,Zk,Zl,Zm,Zo,Zq,Zr,Zs,Zt,Zu,Zv,Zw,Zy,Z0,Z3,Ja,Jb,Jj,Jk,Jn,Jq,Jr,Jv,Jx,V3,V6,V9,Wd,We,Wk,Hh,Hs,Hu,Hv,Nm,Nw,Nx,Be,oq.eq_1,ow.eq_1,jZ.eq_1,og.eq_1,oh.eq_1,j6.eq_1,oF.eq_1,oH.eq_1,uq.eq_1,zA.eq_1,hM,h1,hT,h2,hQ,h3,hW,h4,f0,f1,f5,f8,e0,e1,e2,e3,e4,e5,e6,e7,e8,e9,f2,f3,r1,r2,r3,r4,hWr,h0,hw,hI,ha,k1,hP])
   ·simp only [hk,Bool.false_and]
    rcases hb with h0 | ⟨h0,hw⟩
    ·have hT0:=hT
     have h20:=h2
     rw [h0] at h20
     simp only [h0] at hT0
     (sym=>simp [Qc,Qd,Qe,Qf,Qg,Qi,Qj,Qm,Qn,Qo,Qr,Qt,Qu,Qw,Q4,Xa,Xd,Xj,Xp,X9,Ya,Yc,Yj,Yr,Yt,Yu,Yv,Y1,Y5,Y7,Y9,Za,Zb,Zc,Ze,Zg,Zh,Zi,Zj,Zk,Zl,Zm,Zo,Zq,Zr,Zs,Zt,Zu,Zv,Zw,Zy,Z0,Z3,Ja,Jb,Jj,Jk,Jl,Jn,Jp,Jr,Jv,Jx,V3,V6,V9,Wd,We,Wk,Hh,Hv,Nl,Nm,Nw,Nx,Be,oq.eq_1,ow.eq_1,jZ.eq_1,og.eq_1,oh.eq_1,j6.eq_1,oF.eq_1,oH.eq_1,uq.eq_1,zA.eq_1,hM,h1,hT0,h20,hQ,h3,hW,h4,f0,f1,f5,f8,e0,e1,e2,e3,e4,e5,e6,e7,e8,e9,f2,f3,r1,r2,r3,r4,hWr,h0,hI,ha,k1])
    ·(sym=>simp [Qc,Qd,Qe,Qf,Qg,Qi,Qj,Qm,Qn,Qo,Qr,Qt,Qu,Qw,Q4,Xa,Xd,Xj,Xp,X9,Ya,Yc,Yj,Yr,Yt,Yu,Yv,Y1,Y5,Y7,Y9,Za,Zb,Zc,Ze,Zg,Zh,Zi,Zj,Zk,Zl,Zm,Zo,Zq,Zr,Zs,Zt,Zu,Zv,Zw,Zy,Z0,Z3,Ja,Jb,Jj,Jk,Jl,Jn,Jp,Jr,Jv,Jx,V3,V6,V9,Wd,We,Wk,Hh,Hs,Hv,Nm,Nw,Nx,Be,oq.eq_1,ow.eq_1,jZ.eq_1,og.eq_1,oh.eq_1,j6.eq_1,oF.eq_1,oH.eq_1,uq.eq_1,zA.eq_1,hM,h1,hT,h2,hQ,h3,hW,h4,f0,f1,f5,f8,e0,e1,e2,e3,e4,e5,e6,e7,e8,e9,f2,f3,r1,r2,r3,r4,hWr,h0,hw,hI,ha,k1])
end
end Go.Proofs.YthcnhibjddomdaaGreat
namespace Go.Proofs.YthcnhibjddomdaaGreat
section
open Go
variable (G:Nat→Option (List AV))
def tl (s:Ses):List AV:=zF s.w++(.int .i64 s.r::.int .i64 s.c::zP s.k)
theorem zj8 (s:Ses):sC s=.data false 2 (mbs s.mem) s.f1::.int .i64 s.h::.data false 1 (ints s.tq) s.f2::.data false 3 (pcs s.q) s.f3::tl s:=rfl
theorem Dm (s:Ses):(tl s).length=29:=rfl
theorem zcC (s:Ses):AV.idsL (tl s)=[]:=by simp [tl,zF,zP,AV.idsL,AV.ids]
theorem zdG (s:Ses):AV.stableL (tl s)=true:=by simp [tl,zF,zP,AV.stableL,AV.stable]
theorem zm0 (s:Ses) (h:List zf):yE h (tl s)=some (tl s):=by simp [tl,zF,zP,yE,ZC]
theorem znv (s:Ses) (h:List zf):yc h (tl s)=some (tl s):=by simp [tl,zF,zP,yc,yn]
theorem zhg (s:Ses) (h:List zf) (lo off:Nat) (o:List Nat):AV.renL h lo off o (tl s)=tl s:=by simp [tl,zF,zP,AV.renL,AV.ren]
theorem LC (s:Ses):(tl s).take 29=tl s:=rfl
theorem zdP (b f:Bool) (l:List Int) (hl:l.length≤1000000):aR G FT u7 [.data b 1 (ints l) f] []=some (.own 0 1 0 l.length l.length,[⟨1,1,true,ints l⟩]):=by
 have hx:aR G FT u7 [.data b 1 (ints l) f] []=jm 1 [.data b 1 (ints l) f] []:=by
  unfold aR gH
  rfl
 rw [hx]
 simp [jm,zw,hl,zaW]
def cpS (s:Ses):Ses:={ s with q:=(NR s.q (-1)).1,f1:=false,f2:=false,f3:=false }
theorem zfy (s:Ses) (h:okS s):aP G FT jP [.agg (sC s)]=some (.agg (sC (cpS s))):=by
 obtain ⟨hl1,hl2,hl3⟩:=h
 have hC:=fun b f=>Rp G b f s.mem (by omega)
 have hI:=fun b f=>zdP G b f s.tq (by omega)
 have hP:=fun b f=>zzS G s.q b f hl3 (-1) (by omega)
 have t1:=Dm s
 have t2:=zcC s
 have t3:=zdG s
 have t4:=zm0 s
 have t5:=znv s
 have t6:=zhg s
 have t7:=LC s
 have m1:=yM s.mem
 have m2:=zw s.tq
 have k1:List.take s.mem.length (mbs s.mem)=mbs s.mem:=List.take_of_length_le (by omega)
 have k2:List.take s.tq.length (ints s.tq)=ints s.tq:=List.take_of_length_le (by omega)
 have e:sC (cpS s)=.data false 2 (mbs s.mem) false::.int .i64 s.h::.data false 1 (ints s.tq) false::.data false 3 (pcs (NR s.q (-1)).1) false::tl s:=rfl
 rw [e,zj8]
 generalize tl s=T at *
 unfold aP
 rw [PR]
 (sym=>simp [Qb,Qd,Qe,Qi,Qj,Qm,Qn,Qo,Qr,Qv,Qw,Q4,Q5,Xp,Xw,Xx,Yj,Yr,Yt,Yu,Yv,Y1,Y5,Y8,Y9,Za,Zb,Zc,Zd,Ze,Zg,Zh,Zi,Zj,Zk,Zl,Zm,Zn,Zo,Zp,Zr,Zs,Zt,Zu,Zv,Zw,Zx,Zy,Zz,Z0,Z1,Z3,Jj,Jk,Jv,Jx,J1,J2,J6,J7,Ue,Uf,Ug,Ul,Uq,Us,U6,Vk,Vm,Vo,Vp,Vq,Vr,Vs,Vt,Vu,Vv,Vw,Vx,V6,V9,Wd,We,Wf,Wg,Wh,Wj,Wq,Wz,W5,W6,W7,Hh,Hi,Hk,Hl,Ho,Hp,Hr,Hs,Ht,Hu,Hv,Hw,Hy,Hz,H5,H6,H8,Ng,Nl,No,Nq,Nt,Nx,Nz,N0,Be,zw8.eq_1,zz0.eq_1,zwM.eq_1,zxo.eq_1,jR.eq_1,hC,hI,hP,t1,t2,t3,t4,t5,t6,t7,m1,m2,k1,k2,zL.eq_1])
end
end Go.Proofs.YthcnhibjddomdaaGreat
namespace Go.Proofs.YthcnhibjddomdaaGreat
section
open Go
variable (G:Nat→Option (List AV))
theorem zlT (C Z:List AV) (l:List (Int×Int)) (f:Bool) (hl:l.length≤1000):∀ (m i:Nat) (out:List Int),i+m=l.length→out.length=i→∀ st,agc 0 [1,2,3,18,19,20] st=some ⟨[(1,.ptr 0 0 0 0),(2,.ptr 1 0 0 0),(3,.own 2 0 0 i i),(18,.data false 2 (mbs l) f),(19,.int .i64 l.length),(20,.int .i64 i)],[⟨33,0,true,[C]⟩,⟨33,0,true,[Z]⟩,⟨1,0,true,ints out⟩]⟩→
  aE G FT 0 ut st=some (.exit 0,⟨[(1,.ptr 0 0 0 0),(2,.ptr 1 0 0 0),(3,.own 2 0 0 l.length l.length),(18,.data false 2 (mbs l) f),(19,.int .i64 l.length),(20,.int .i64 l.length),(21,.bool false)],[⟨33,0,true,[C]⟩,⟨33,0,true,[Z]⟩,⟨1,0,true,ints (out++(l.drop i).map (·.1))⟩]⟩):=by
 intro m
 induction m with
 | zero=>
  intro i out hi ho st hst
  rw [ut,zn,hst]
  obtain rfl:i=l.length:=by omega
  have e0:decide ((l.length:Int)<l.length)=false:=by simp
  rw [List.drop_length,List.map_nil,List.append_nil]
  (sym=>simp [Qa,Qd,Qe,Qi,Qt,Xa,Ya,Y9,Za,Zb,Zc,Ze,Zg,Zh,Zt,Zv,Zw,Z3,Jj,Jk,Jm,Jr,Ju,Jv,Be,zyF.eq_1,zvW.eq_1,zAi.eq_1,zAG.eq_1,WY.eq_1,e0])
 | succ m ih=>
  intro i out hi ho st hst
  have hlt:i<l.length:=by omega
  have hlt':(i:Int)<l.length:=by omega
  have e:l.drop i=l[i]::l.drop (i+1):=List.drop_eq_getElem_cons hlt
  have hw:=zH (n:=i) (by omega)
  have hg:=Tf hlt
  have hln:=yM l
  have hlo:=zw out
  rw [ho] at hlo
  have b1:(i+1) * 8≤140737488355328:=by omega
  have n1:i+1≤i↔False:=by simp
  have tk:List.take i (ints out)=ints out:=List.take_of_length_le (by omega)
  have ih:=ih (i+1) (out++[l[i].1]) (by omega) (by simp [ho])
  have e2:out++(l[i]::l.drop (i+1)).map (·.1)=out++[l[i].1]++(l.drop (i+1)).map (·.1):=by rw [List.map_cons,List.append_assoc,List.singleton_append]
  rw [e,e2]
  rw [ut] at ih
  rw [ut,zn,hst]
  generalize out++[l[i].1]++(l.drop (i+1)).map (·.1)=R at ih ⊢
  rw [uw,uz,yh] at ih
  (sym=>simp [Qc,Qd,Qe,Qi,Qj,Qr,Qt,Qv,Qz,Q0,Q2,Q4,Q5,Xa,Xp,Xs,X0,X5,Ya,Yk,Yr,Ys,Yt,Yu,Yv,Yy,Y2,Y9,Za,Zb,Zc,Zd,Ze,Zg,Zh,Zm,Zn,Zt,Zv,Zw,Zx,Zy,Zz,Z0,Z1,Jj,Jk,Jn,Jo,Jr,Js,Jv,J1,J2,Kv,Kx,Ua,Ub,Uc,Ud,Ue,Uf,Ug,Hh,Hi,Hk,Hl,Ho,Hp,Hq,Hr,Hs,Ht,Hu,Hv,Hw,H2,H3,H8,Ng,Nh,Ni,Nk,Nl,No,Nz,N0,N2,Be,Bg,Ma,Mb,Md,Mf,zyF.eq_1,zvW.eq_1,zAi.eq_1,zAG.eq_1,WY.eq_1,hlt',hg,hln,hlo,hw,b1,n1,tk];tactic=>(
   refine ih _ ?_
   (sym=>simp [Y9,Za,Zb,Ze,Zh,Zk,Zl,Zm,Zn,Zv,Zw,Zx,Zy,Zz,Z0,Z3,Us,Ut,Ux,U0,U4,U5,U6,U7,Vb,Ve,Vk,Vm,Vo,Vp,Vq,Vr,Vs,Vt,Vu,Vv,Vw,Vx,Vy,Vz,V0,Hh,Hi,Hp,Hu,Hv,Hw,H1,H4,H5,H6,Nl,No,Nu,Nx,hlo])))
theorem zGt (s:Ses):(tl s).take 18=zF s.w:=rfl
theorem zEy (s:Ses):(tl s)[18]? =some (.int .i64 s.r):=rfl
theorem zEb (s:Ses):(tl s)[19]? =some (.int .i64 s.c):=rfl
def idsL (l:List (Int×Int)):List Int:=l.map (·.1)
def stS (s:Ses):Ses:=
 { s with h:=(Le s.h s.tq (if y5 s.mem=true then zW s.mem else [])).1,tq:=(Le s.h s.tq (if y5 s.mem=true then zW s.mem else [])).2.1,r:=(gI s.w (idsL s.mem) s.r s.c).1,c:=(gI s.w (idsL s.mem) s.r s.c).2,f1:=false,f2:=false,f3:=false }
theorem zjt (s:Ses) (h:okS s):aP G FT Wu [.agg (sC s)]=some (.agg (sC (stS s))):=by
 obtain ⟨hl1,hl2,hl3⟩:=h
 have hWr:=fun b f=>ztU G s.mem b f (by omega)
 have hwl:(if y5 s.mem=true then zW s.mem else []).length≤1000:=by
  split
  ·unfold zW;rw [List.length_map];exact Nat.le_trans (List.length_filter_le _ _) hl1
  ·simp
 have hK:=fun b f b2 f2=>zEX G s.h s.tq (if y5 s.mem=true then zW s.mem else []) b f b2 f2 hl2 hwl
 have hKh:(stS s).h=(Le s.h s.tq (if y5 s.mem=true then zW s.mem else [])).1:=rfl
 have hKt:(stS s).tq=(Le s.h s.tq (if y5 s.mem=true then zW s.mem else [])).2.1:=rfl
 generalize hKv:Le s.h s.tq (if y5 s.mem=true then zW s.mem else [])=K at hK hKh hKt
 generalize (if y5 s.mem=true then zW s.mem else [])=ws at hWr hK hKv
 simp only [NV] at hK
 have hLe:=fun b f=>zCD G s.w (idsL s.mem) b f s.r s.c (by unfold idsL;rw [List.length_map];omega)
 have key:=fun C Z=>zlT G C Z s.mem s.f1 hl1 s.mem.length 0 [] (by omega) rfl
 simp only [List.drop_zero,List.nil_append,yh,Int.natCast_zero] at key
 have t1:=Dm s
 have t2:=zcC s
 have t3:=zdG s
 have t4:=zm0 s
 have t5:=znv s
 have t6:=zhg s
 have t7:=LC s
 have t8:=zGt s
 have t9:=zEy s
 have u0:=zEb s
 have m1:=yM s.mem
 have x0:((tl s).set 18 (.int .i64 (gI s.w (idsL s.mem) s.r s.c).1)).set 19 (.int .i64 (gI s.w (idsL s.mem) s.r s.c).2)=tl (stS s):=rfl
 have x1:=Dm (stS s)
 have x3:=zdG (stS s)
 have x4:=zm0 (stS s)
 have x5:=znv (stS s)
 have x7:=LC (stS s)
 have eS:sC (stS s)=.data false 2 (mbs s.mem) false::.int .i64 (stS s).h::.data false 1 (ints (stS s).tq) false::.data false 3 (pcs s.q) false::tl (stS s):=rfl
 have eh:(stS s).h=K.1:=hKh
 have et:(stS s).tq=K.2.1:=hKt
 rw [eS,eh,et,zj8]
 generalize tl (stS s)=T2 at *
 generalize tl s=T at *
 unfold aP
 rw [zar]
 have keyD:∀ C Z,aE G FT 0 ut ⟨[(1,.ptr 0 0 0 0),(2,.ptr 1 0 0 0),(3,.own 2 0 0 0 0),(18,.data false 2 (mbs s.mem) s.f1),(19,.int .i64 s.mem.length),(20,.int .i64 0)],[⟨33,0,true,[C]⟩,⟨33,0,true,[Z]⟩,⟨1,0,true,[]⟩]⟩=
   some (.exit 0,⟨[(1,.ptr 0 0 0 0),(2,.ptr 1 0 0 0),(3,.own 2 0 0 s.mem.length s.mem.length),(18,.data false 2 (mbs s.mem) s.f1),(19,.int .i64 s.mem.length),(20,.int .i64 s.mem.length),(21,.bool false)],[⟨33,0,true,[C]⟩,⟨33,0,true,[Z]⟩,⟨1,0,true,ints (idsL s.mem)⟩]⟩):=fun C Z=>key C Z _ (by (sym=>simp [Y9,Za,Zb,Ze,Zh,Zk,Zl,Zm,Zn,Zv,Zw,Zx,Zy,Zz,Z0,Z3,Us,Ut,Ux,U0,U4,U5,U6,U7,Vb,Ve,Vk,Vm,Vo,Vp,Vq,Vr,Vs,Vt,Vu,Vv,Vw,Vx,Vy,Vz,V0,Hh,Hi,Hp,Hu,Hv,Hw,H1,H4,H5,H6,Nl,No,Nu,Nx]))
 have v1:=zkn s.w
 have n3:(ints (idsL s.mem)).length=s.mem.length:=by rw [zw,idsL,List.length_map]
 have k3:List.take s.mem.length (ints (idsL s.mem))=ints (idsL s.mem):=List.take_of_length_le (by omega)
 (sym=>simp [Qb,Qd,Qe,Qi,Qj,Qm,Qn,Qo,Qr,Qs,Qv,Qw,Qx,Qy,Q1,Q4,Q5,Xp,Xt,Xw,Xx,Xy,Yh,Yj,Yk,Yr,Yt,Yu,Yv,Yz,Y1,Y5,Y8,Y9,Za,Zb,Zc,Zd,Ze,Zg,Zh,Zi,Zj,Zk,Zl,Zm,Zn,Zo,Zr,Zs,Zt,Zu,Zv,Zw,Zx,Zy,Zz,Z0,Z1,Jj,Jk,Jn,Jq,Jv,Jx,J1,J2,J3,K8,K9,Ue,Uf,Ug,Ul,Ux,V1,V3,V6,V9,Wd,We,Wg,Wh,Wj,Wq,Hh,Hi,Hk,Hl,Hn,Ho,Hp,Hr,Hs,Ht,Hu,Hv,Hw,Hz,H8,Ng,Nl,No,Nx,Nz,N0,Be,Bh,Bi,BD,BE,BF,BG,BH,BI,BK,BL,BM,BN,BO,BP,BQ,BY,zEa.eq_1,zDq.eq_1,zDx.eq_1,zDP.eq_1,zDv.eq_1,zDj.eq_1,zyQ.eq_1,o8.eq_1,hWr,hK,keyD,hLe,t1,t2,t3,t4,t5,t6,t7,t8,t9,u0,m1,n3,k3,v1,x0,x1,x3,x4,x5,x7,zL.eq_1])
end
end Go.Proofs.YthcnhibjddomdaaGreat
namespace Go.Proofs.YthcnhibjddomdaaGreat
section
open Go
variable (G:Nat→Option (List AV))
def zcl (s:Ses) (j:Nat):Ses:={ s with k:=fun n=>if n=j then 0 else s.k n,w:=fun n=>if n=j then (0,0) else s.w n,q:=zdX s.q j,f3:=false }
def zcx (s:Ses) (j:Nat):Ses:={ s with k:=fun n=>if n=j then 0 else s.k n }
def zbF (s:Ses) (j:Nat):Ses:={ s with w:=fun n=>if n=j then (0,0) else s.w n }
theorem zr4 (s:Ses) {j:Nat} (h:j<9):(sC s).set (24+j) (.int .i64 0)=sC (zcx s j):=by
 rcases nine h with rfl | rfl | rfl | rfl | rfl | rfl | rfl | rfl | rfl<;>rfl
theorem zrR (s:Ses) {j:Nat} (h:j<9):(sC s).take (4+j * 2)++[.int .i64 0,.int .i64 0]++(sC s).drop (4+j * 2+2)=sC (zbF s j):=by
 rcases nine h with rfl | rfl | rfl | rfl | rfl | rfl | rfl | rfl | rfl<;>rfl
theorem zBj (s:Ses) (j:Nat):(sC (zbF (zcx s j) j)).set 3 (.data false 3 (pcs (zdX s.q j)) false)=sC (zcl s j):=rfl
theorem zmQ {q:List Pc} (h:okL q) (k:Int):okL (zdX q k):=by
 unfold zdX
 split
 ·refine ⟨by rw [ZT];exact Nat.le_trans (List.length_filter_le _ _) h.1,fun x hx=> ?_⟩
  obtain ⟨y,hy,rfl⟩:=List.mem_map.1 hx
  exact h.2 y (List.mem_filter.1 hy).1
 ·exact ⟨by simp,by simp⟩
def II (s:Ses):Nat→Nat→Ses
 | 0,_=>s
 | m+1,i=>II (if zK s.mem i=true then s else zcl s i) m (i+1)
theorem zns (Z:List AV) (lf:Bool):∀ (m i:Nat) (s:Ses),i+m=9→okS s→∀ st,agc 0 [1,3,6,19] st=some ⟨[(1,.data false 2 (mbs s.mem) lf),(3,.ptr 0 0 0 0),(6,.ptr 1 0 0 0),(19,.int .i64 i)],[⟨33,0,true,[sC s]⟩,⟨33,0,true,[Z]⟩]⟩→
  aE G FT 0 jy st=some (.exit 0,⟨[(1,.data false 2 (mbs s.mem) lf),(3,.ptr 0 0 0 0),(6,.ptr 1 0 0 0),(19,.int .i64 9),(20,.bool false)],[⟨33,0,true,[sC (II s m i)]⟩,⟨33,0,true,[Z]⟩]⟩):=by
 intro m
 induction m with
 | zero=>
  intro i s hi _ st hst
  obtain rfl:i=9:=by omega
  have e9:((9:Nat):Int)=9:=rfl
  rw [jy,zn,hst,II]
  (sym=>simp [Qa,Qd,Qe,Qi,Qj,Qt,Xa,Ya,Y9,Za,Zb,Zc,Ze,Zg,Zh,Zt,Zv,Zw,Z3,Jj,Jk,Jm,Jr,Ju,Jv,Nm,Be,Bh,zrr.eq_1,zr2.eq_1,zsk.eq_1,zsb.eq_1,zlc.eq_1,zkv.eq_1,zlU.eq_1,Wt.eq_1,e9])
 | succ m ih=>
  intro i s hi hk st hst
  have hi9:i<9:=by omega
  have hi9':(i:Int)<9:=by omega
  have hF:=fun b f=>Ka G s.mem b f i (by have:=hk.1;omega)
  have hD:=fun b f=>zES G s.q b f hk.2.2 i
  have hw:=zH (n:=i) (by omega)
  rw [jy] at ih
  rw [jy,zn,hst,II]
  cases ht:zK s.mem i with
  | true=>
   rw [ht] at hF
   simp only [if_true] at hF
   have ih:=ih (i+1) s (by omega) hk
   rw [if_pos rfl]
   generalize sC (II s m (i+1))=R at ih ⊢
   (sym=>simp [Qc,Qd,Qe,Qi,Qj,Qm,Qn,Qo,Qr,Qt,Qv,Q5,Xa,Xd,Xw,Xx,X5,Ya,Y9,Za,Zb,Zc,Zd,Ze,Zg,Zh,Zm,Zn,Zo,Zt,Zv,Zw,Zy,Z0,Z1,Z3,Jj,Jk,Jn,Jo,Jr,Js,Jv,J1,J2,Ue,Uf,Ug,V6,V9,Wd,We,Hh,Hi,Hk,Hl,Hp,Hr,Ht,Hu,Hv,Hw,Nl,No,Nw,N0,Be,zrr.eq_1,zr2.eq_1,zsk.eq_1,zsb.eq_1,zlc.eq_1,zkv.eq_1,zlU.eq_1,Wt.eq_1,hF,hi9',hw];tactic=>(
    refine ih _ ?_
    (sym=>simp [Y9,Za,Zb,Ze,Zh,Zk,Zl,Zm,Zn,Zv,Zw,Zx,Zy,Zz,Z0,Z3,Ut,Ux,U0,U4,U5,U7,Vb,Ve,Vk,Vm,Vo,Vp,Vq,Vr,Vs,Vt,Vu,Vv,Vw,Vx,Vy,Vz,V0,Hh,Hi,Hp,Hu,Hv,Hw,H1,H4,H5,H6,Nl,No,Nu,Nx])))
  | false=>
   rw [ht] at hF
   simp only [Bool.false_eq_true,if_false] at hF
   have ih:=ih (i+1) (zcl s i) (by omega) ⟨hk.1,hk.2.1,zmQ hk.2.2 i⟩
   rw [if_neg (by simp)]
   have hmem:(zcl s i).mem=s.mem:=rfl
   rw [hmem] at ih
   generalize sC (II (zcl s i) m (i+1))=R at ih ⊢
   have e1:=zk s
   have k1:=zr4 s hi9
   have l1:=zk (zcx s i)
   have k2:=zrR (zcx s i) hi9
   have l2:=zk (zbF (zcx s i) i)
   have k3:=zBj s i
   have b1:24+i<33:=by omega
   have b2:4+i * 2+2≤33:=by omega
   have q3:(sC (zbF (zcx s i) i))[3]? =some (.data false 3 (pcs s.q) s.f3):=rfl
   generalize sC (zbF (zcx s i) i)=C2 at *
   generalize sC (zcx s i)=C1 at *
   (sym=>simp [Qc,Qd,Qe,Qi,Qj,Qm,Qn,Qo,Qr,Qt,Qv,Qx,Q1,Q4,Q5,Xa,Xd,Xp,Xt,Xw,Xx,X5,Ya,Yr,Yt,Yv,Yz,Y9,Za,Zb,Zc,Zd,Ze,Zg,Zh,Zm,Zn,Zo,Zt,Zv,Zw,Zy,Z0,Z1,Jj,Jk,Jn,Jo,Jr,Js,Jv,J1,J2,J3,J6,K8,Ue,Uf,Ug,V6,V9,Wd,We,Hh,Hi,Hk,Hl,Hp,Hr,Ht,Hu,Hv,Hw,Nc,Ni,Nk,Nl,No,Nx,Nz,N0,Be,Bh,zrr.eq_1,zr2.eq_1,zsk.eq_1,zsb.eq_1,zlc.eq_1,zkv.eq_1,zlU.eq_1,Wt.eq_1,hF,hD,hi9,hi9',hw,e1,k1,b1,b2,l1,k2,l2,k3,q3];tactic=>(
    refine ih _ ?_
    (sym=>simp [Y9,Za,Zb,Ze,Zh,Zk,Zl,Zm,Zn,Zv,Zw,Zx,Zy,Zz,Z0,Z3,Ut,Ux,U0,U4,U5,U7,Vb,Ve,Vk,Vm,Vo,Vp,Vq,Vr,Vs,Vt,Vu,Vv,Vw,Vx,Vy,Vz,V0,Hh,Hi,Hp,Hu,Hv,Hw,H1,H4,H5,H6,Nl,No,Nu,Nx])))
end
end Go.Proofs.YthcnhibjddomdaaGreat
namespace Go.Proofs.YthcnhibjddomdaaGreat
section
open Go
variable (G:Nat→Option (List AV))
theorem ztt:∀ (m i:Nat) (s:Ses),okS s→okS (II s m i)
 | 0,_,_,h=>h
 | m+1,i,s,h=>by
  rw [II]
  refine ztt m (i+1) _ ?_
  split
  ·exact h
  ·exact ⟨h.1,h.2.1,zmQ h.2.2 i⟩
theorem zah {q:List Pc} (h:okL q) (n:Int):okL (NR q n).1:=by
 unfold NR
 split
 ·refine ⟨by simp only;rw [ZT,List.length_drop];have:=h.1;omega,fun x hx=> ?_⟩
  obtain ⟨y,hy,rfl⟩:=List.mem_map.1 hx
  exact h.2 y (List.mem_of_mem_drop hy)
 ·exact ⟨by simp,by simp⟩
def Nj (s:Ses) (l:List (Int×Int)) (lf:Bool):Ses:={ cpS s with mem:=l,f1:=lf }
def jI (s:Ses) (l:List (Int×Int)) (lf:Bool):Ses:=stS (II (Nj s l lf) 9 0)
theorem zff (s:Ses) (h:okS s) (l:List (Int×Int)) (lf:Bool) (hl:l.length≤1000):aP G FT ZL [.agg (sC s),.data false 2 (mbs l) lf,.int .i64 0]=some (.tup [.agg (sC (jI s l lf)),.int .i64 0]):=by
 have hC:=zfy G s h
 have hk:okS (Nj s l lf):=⟨hl,h.2.1,zah h.2.2 (-1)⟩
 have hk2:=ztt 9 0 _ hk
 have hS:=zjt G _ hk2
 have m0:(sC (cpS s)).set 0 (.data false 2 (mbs l) lf)=sC (Nj s l lf):=rfl
 have key:=fun Z st=>zns G Z lf 9 0 (Nj s l lf) (by omega) hk st
 have hm:(Nj s l lf).mem=l:=rfl
 rw [hm] at key
 simp only [Int.natCast_zero] at key
 have a1:=zk s
 have a2:=zG s
 have a0:(sC s).drop 33=[]:=rfl
 have a3:=zu s
 have a4:=vK s
 have a5:=zk (cpS s)
 have a6:=zG (cpS s)
 have a7:=zu (cpS s)
 unfold jI
 generalize Nj s l lf=s2 at *
 have c1:=zk (II s2 9 0)
 have c3:=zu (II s2 9 0)
 have c4:=vK (II s2 9 0)
 generalize II s2 9 0=s3 at *
 have d1:=zk (stS s3)
 have d2:=zG (stS s3)
 have d3:=zu (stS s3)
 have d4:∀ h,yc h (sC (stS s3))=some (sC (stS s3)):=fun h=>by simp [sC,zF,zP,yc,yn,stS]
 have keyD:∀ Z,aE G FT 0 jy ⟨[(1,.data false 2 (mbs l) lf),(3,.ptr 0 0 0 0),(6,.ptr 1 0 0 0),(19,.int .i64 0)],[⟨33,0,true,[sC s2]⟩,⟨33,0,true,[Z]⟩]⟩=some (.exit 0,⟨[(1,.data false 2 (mbs l) lf),(3,.ptr 0 0 0 0),(6,.ptr 1 0 0 0),(19,.int .i64 9),(20,.bool false)],[⟨33,0,true,[sC s3]⟩,⟨33,0,true,[Z]⟩]⟩):=fun Z=>key Z _ (by (sym=>simp [Y9,Za,Zb,Ze,Zh,Zk,Zl,Zm,Zn,Zv,Zw,Zx,Zy,Zz,Z0,Z3,Ut,Ux,U0,U4,U5,U7,Vb,Ve,Vk,Vm,Vo,Vp,Vq,Vr,Vs,Vt,Vu,Vv,Vw,Vx,Vy,Vz,V0,Hh,Hi,Hp,Hu,Hv,Hw,H1,H4,H5,H6,Nl,No,Nu,Nx]))
 unfold aP
 rw [JF]
 (sym=>simp [Qb,Qc,Qd,Qe,Qi,Qj,Qm,Qn,Qo,Qr,Qt,Qv,Qw,Q4,Q5,Xa,Xp,X9,Yj,Yr,Yu,Yv,Y1,Y6,Y7,Y8,Y9,Za,Zb,Zc,Zd,Ze,Zg,Zh,Zi,Zj,Zk,Zl,Zm,Zn,Zo,Zr,Zs,Zt,Zu,Zv,Zw,Zy,Z0,Z1,Z3,Jj,Jk,Jn,Jq,Jr,Jv,Jx,J1,J2,J6,Ue,Uf,Ug,Ul,V3,Wd,We,Wh,Wi,Wj,Wp,Wq,Hh,Hi,Hk,Hl,Hp,Hr,Hs,Ht,Hu,Hv,Hw,Nl,No,Nw,Nx,N0,Be,zwf.eq_1,zza.eq_1,zzL.eq_1,zxs.eq_1,zzi.eq_1,zy5.eq_1,zqo.eq_1,gN.eq_1,hC,hS,m0,keyD,a0,List.append_nil,a1,a2,a3,a4,a5,a6,a7,c1,c3,c4,d1,d2,d3,d4,zL.eq_1])
end
end Go.Proofs.YthcnhibjddomdaaGreat
namespace Go.Proofs.YthcnhibjddomdaaGreat
section
open Go
variable (G:Nat→Option (List AV))
def zS:Ses:=⟨[],0,[],[],fun _=>(0,0),0,0,fun _=>0,false,false,false⟩
theorem ziq:sC zS=(.data false 2 [] false::.int .i64 0::.data false 1 [] false::.data false 3 [] false::.int .i64 0::.int .i64 0::.int .i64 0::.int .i64 0::.int .i64 0::.int .i64 0::.int .i64 0::.int .i64 0::.int .i64 0::.int .i64 0::.int .i64 0::.int .i64 0::.int .i64 0::.int .i64 0::.int .i64 0::.int .i64 0::.int .i64 0::.int .i64 0::.int .i64 0::.int .i64 0::.int .i64 0::.int .i64 0::.int .i64 0::.int .i64 0::.int .i64 0::.int .i64 0::.int .i64 0::.int .i64 0::.int .i64 0::[]):=rfl
theorem zlJ (s:Ses) (L:List (List AV)) (lf:Bool) (e:Int) (he:¬ e=0):aP G FT ZL [.agg (sC s),.data false 2 L lf,.int .i64 e]=some (.tup [.agg (sC zS),.int .i64 e]):=by
 have a1:=zk s
 have a2:=zG s
 have z:=ziq
 rw [z]
 unfold aP
 rw [JF]
 (sym=>simp [Qb,Qd,Qe,Qi,Qj,Qr,Qt,Qv,Qw,Qx,Q1,Q5,Xa,X9,Yj,Yr,Yu,Y1,Y6,Y7,Y8,Y9,Za,Zb,Zc,Zd,Ze,Zg,Zh,Zi,Zj,Zk,Zl,Zm,Zn,Zr,Zs,Zt,Zu,Zv,Zw,Zy,Z0,Z1,Jj,Jk,Jl,Jr,Jv,Jx,J1,J2,K8,Ue,Uf,Ug,Ul,Wg,Wh,Wi,Wj,Wp,Wq,Hh,Hi,Hk,Hl,Ho,Hp,Hq,Hr,Hs,Ht,Hu,Hv,Hw,Nm,No,Nx,N0,Be,zwf.eq_1,zza.eq_1,zzL.eq_1,zxs.eq_1,zzi.eq_1,zy5.eq_1,zqo.eq_1,gN.eq_1,he,a1,a2,zL.eq_1])
end
end Go.Proofs.YthcnhibjddomdaaGreat
namespace Go.Proofs.YthcnhibjddomdaaGreat
section
open Go
variable (G:Nat→Option (List AV))
def bso (l:List Int):List UInt8:=l.map fun x=>UInt8.ofNat x.toNat
theorem zlf:∀ l:List Int,Ig (byt l)=some (bso l)
 | []=>rfl
 | x::l=>by
  have:=zlf l
  unfold byt bso at *
  rw [List.map_cons,Ig,this];rfl
def bEq (a b:List Int):Bool:=(⟨(bso a).toArray⟩:ByteArray)==⟨(bso b).toArray⟩
theorem zzJ (a:List Int):bEq a a=true:=by
 show ((bso a).toArray==(bso a).toArray)=true
 simp
def zxl (x y:Pc):Bool:=decide (x.1=y.1)&&decide (x.2.1=y.2.1)&&bEq x.2.2.1 y.2.2.1
def RF:List Pc→List Pc→Bool
 | [],[]=>true
 | x::p,y::q=>zxl x y&&RF p q
 | _,_=>false
theorem zjA:∀ {p q:List Pc},RF p q=true→p.length=q.length
 | [],[],_=>rfl
 | x::p,y::q,h=>by
  rw [RF,Bool.and_eq_true] at h
  rw [List.length_cons,List.length_cons,zjA h.2]
 | [],_::_,h=>by simp [RF] at h
 | _::_,[],h=>by simp [RF] at h
def wEq (w v:Nat→Int×Int):Bool:=(vR [.ki,.ki,.ki,.ki,.ki,.ki,.ki,.ki,.ki,.ki,.ki,.ki,.ki,.ki,.ki,.ki,.ki,.ki] (zF w) (zF v)).getD false
def kEq (k l:Nat→Int):Bool:=(vR [.ki,.ki,.ki,.ki,.ki,.ki,.ki,.ki,.ki] (zP k) (zP l)).getD false
theorem zFx (w v:Nat→Int×Int):vR [.ki,.ki,.ki,.ki,.ki,.ki,.ki,.ki,.ki,.ki,.ki,.ki,.ki,.ki,.ki,.ki,.ki,.ki] (zF w) (zF v)=some (wEq w v):=by
 simp [wEq,zF,vR,WJ]
theorem zFc (k l:Nat→Int):vR [.ki,.ki,.ki,.ki,.ki,.ki,.ki,.ki,.ki] (zP k) (zP l)=some (kEq k l):=by
 simp [kEq,zP,vR,WJ]
theorem zAv {w v:Nat→Int×Int} (h:∀ j,j<9→w j=v j):wEq w v=true:=by
 simp [wEq,zF,vR,WJ,h]
theorem zwG {k l:Nat→Int} (h:∀ j,j<9→k j=l j):kEq k l=true:=by
 simp [kEq,zP,vR,WJ,h]
def zbv (a b:Ses):Bool:=
 decide (a.mem=b.mem)&&decide (a.h=b.h)&&decide (a.tq=b.tq)&&RF a.q b.q&&wEq a.w b.w&&decide (a.r=b.r)&&decide (a.c=b.c)&&kEq a.k b.k
end
end Go.Proofs.YthcnhibjddomdaaGreat
namespace Go.Proofs.YthcnhibjddomdaaGreat
section
open Go
variable (G:Nat→Option (List AV))
def pcB (x:Pc):Bool:=VG x.1 x.2.1 x.2.2.1.length
theorem Iu (x:Pc) (q:List Pc):zV (x::q)=x.2.2.1.length+zV q:=by simp [zV]
theorem zcV (a b:List Pc):zV (a++b)=zV a+zV b:=by simp [zV]
theorem zhY:∀ (q:List Pc) (n:Int),n≤64→(jG n q=true↔(∀ x ∈ q,pcB x=true)∧n+zV q≤64)
 | [],n,h=>by simp [jG,zV];omega
 | x::q,n,h=>by
  rw [jG,Bool.and_eq_true,Bool.and_eq_true,decide_eq_true_eq,Iu]
  constructor
  ·rintro ⟨⟨h1,h2⟩,h3⟩
   obtain ⟨h4,h5⟩:=(zhY q _ h2).1 h3
   refine ⟨fun y hy=> ?_,by omega⟩
   rcases List.mem_cons.1 hy with rfl | hy
   ·exact h1
   ·exact h4 y hy
  ·rintro ⟨h1,h2⟩
   have h3:n+x.2.2.1.length≤64:=by omega
   exact ⟨⟨h1 x (List.mem_cons_self ..),h3⟩,(zhY q _ h3).2 ⟨fun y hy=>h1 y (List.mem_cons_of_mem _ hy),by omega⟩⟩
theorem UV (q:List Pc):jG 0 q=true↔(∀ x ∈ q,pcB x=true)∧zV q≤64:=by
 rw [zhY q 0 (by omega)];constructor<;>rintro ⟨h1,h2⟩<;>exact ⟨h1,by omega⟩
theorem zgR (q:List Pc):zV (cpQ q)=zV q:=by simp [zV,cpQ,cp,Function.comp_def]
theorem LY (q:List Pc):jG 0 (cpQ q)=jG 0 q:=by
 rw [Bool.eq_iff_iff,UV,UV,zgR]
 constructor
 ·rintro ⟨h1,h2⟩
  exact ⟨fun x hx=>h1 (cp x) (List.mem_map_of_mem hx),h2⟩
 ·rintro ⟨h1,h2⟩
  refine ⟨fun x hx=> ?_,h2⟩
  obtain ⟨y,hy,rfl⟩:=List.mem_map.1 hx
  exact h1 y hy
theorem zbI (p:Pc→Bool):∀ q,zV (q.filter p)≤zV q
 | []=>Nat.le_refl _
 | x::q=>by
  have:=zbI p q
  rw [Iu,List.filter_cons]
  split
  ·rw [Iu];omega
  ·omega
theorem zn7 (q:List Pc) (k:Nat):zV (q.take k)+zV (q.drop k)=zV q:=by rw [← zcV,List.take_append_drop]
theorem zgh {q:List Pc} (h:jG 0 q=true) (p:Pc→Bool):jG 0 (q.filter p)=true:=by
 obtain ⟨h1,h2⟩:=(UV q).1 h
 have:=zbI p q
 exact (UV _).2 ⟨fun x hx=>h1 x (List.mem_filter.1 hx).1,by omega⟩
theorem zC3 {q:List Pc} (h:jG 0 q=true):okL q:=by
 obtain ⟨h1,h2⟩:=(UV q).1 h
 have hp:∀ x ∈ q,1≤x.2.2.1.length∧x.2.2.1.length≤16:=fun x hx=>by
  have:=h1 x hx
  simp only [pcB,VG,Bool.and_eq_true,decide_eq_true_eq] at this
  omega
 have hl:∀ q:List Pc,(∀ x ∈ q,1≤x.2.2.1.length)→q.length≤zV q:=by
  intro q
  induction q with
  | nil=>intro _;exact Nat.le_refl _
  | cons x q ih=>
   intro h
   have a:=ih (fun y hy=>h y (List.mem_cons_of_mem _ hy))
   have b:=h x (List.mem_cons_self ..)
   rw [Iu,List.length_cons];omega
 exact ⟨by have:=hl q (fun x hx=>(hp x hx).1);omega,fun x hx=>by have:=hp x hx;omega⟩
theorem NK (q:List Pc):cpQ (cpQ q)=cpQ q:=by simp [cpQ,cp,Function.comp_def]
theorem zhR (q:List Pc) (k:Nat):cpQ (q.drop k)=(cpQ q).drop k:=by simp [cpQ,List.map_drop]
theorem zeX (q:List Pc) (k:Nat):cpQ (q.take k)=(cpQ q).take k:=by simp [cpQ,List.map_take]
end
end Go.Proofs.YthcnhibjddomdaaGreat
namespace Go.Proofs.YthcnhibjddomdaaGreat
section
open Go
variable (G:Nat→Option (List AV))
def ziH (w:Nat→Int×Int) (id:Int):Bool:=zcH id&& !(decide ((w id.toNat).1=0)&&decide ((w id.toNat).2=0))
theorem zn6 (w:Nat→Int×Int) (id:Int):ziH w id=true↔zcH id=true∧¬ ((w id.toNat).1=0∧(w id.toNat).2=0):=by
 unfold ziH
 by_cases a:(w id.toNat).1=0<;>by_cases b:(w id.toNat).2=0<;>simp [a,b]
theorem ziR (w:Nat→Int×Int) (s:Bool×Int×Int) (id:Int):stepW w s id=if ziH w id=true then (true,min s.2.1 (w id.toNat).1,min s.2.2 (w id.toNat).2) else s:=by
 unfold stepW
 simp only [← zn6]
theorem zmr (w:Nat→Int×Int) (v:Int):∀ (l:List Int) (s:Bool×Int×Int),v≤(l.foldl (stepW w) s).2.1↔v≤s.2.1∧∀ x ∈ l,ziH w x=true→v≤(w x.toNat).1
 | [],s=>by simp
 | x::l,s=>by
  rw [List.foldl_cons,zmr w v l,ziR]
  by_cases h:ziH w x=true
  ·simp [h,Int.le_min,and_assoc]
  ·simp [h]
theorem zn2 (w:Nat→Int×Int) (v:Int):∀ (l:List Int) (s:Bool×Int×Int),v≤(l.foldl (stepW w) s).2.2↔v≤s.2.2∧∀ x ∈ l,ziH w x=true→v≤(w x.toNat).2
 | [],s=>by simp
 | x::l,s=>by
  rw [List.foldl_cons,zn2 w v l,ziR]
  by_cases h:ziH w x=true
  ·simp [h,Int.le_min,and_assoc]
  ·simp [h]
theorem zre (w:Nat→Int×Int) (l:List Int) (v:Int):v≤(zht w l).2.1↔v≤24∧∀ x ∈ l,ziH w x=true→v≤(w x.toNat).1:=zmr w v l _
theorem zrc (w:Nat→Int×Int) (l:List Int) (v:Int):v≤(zht w l).2.2↔v≤40∧∀ x ∈ l,ziH w x=true→v≤(w x.toNat).2:=zn2 w v l _
theorem zbk (w:Nat→Int×Int):∀ (m i:Nat),Wn w m i=true→∀ k,i≤k→k<i+m→okW w k=true
 | 0,i,_,k,h1,h2=>by omega
 | m+1,i,h,k,h1,h2=>by
  rw [Wn,Bool.and_eq_true] at h
  by_cases e:k=i
  ·subst e;exact h.1
  ·exact zbk w m (i+1) h.2 k (by omega) (by omega)
theorem zsD {w:Nat→Int×Int} (hm:TN w=true) {x:Int} (hv:ziH w x=true):1≤(w x.toNat).1∧1≤(w x.toNat).2:=by
 obtain ⟨h1,h2⟩:=(zn6 w x).1 hv
 obtain ⟨h3,h4⟩:=(zgL x).1 h1
 have:=zbk w 9 0 hm x.toNat (by omega) (by omega)
 simp only [okW,zeB,WZ,Bool.and_eq_true,Bool.or_eq_true,decide_eq_true_eq] at this
 rcases this.1 with h | h
 ·exact absurd h h2
 ·omega
theorem zCU {w:Nat→Int×Int} (hm:TN w=true) (l:List Int):1≤(zht w l).2.1∧1≤(zht w l).2.2:=
 ⟨(zre w l 1).2 ⟨by omega,fun x _ hv=>(zsD hm hv).1⟩,(zrc w l 1).2 ⟨by omega,fun x _ hv=>(zsD hm hv).2⟩⟩
end
end Go.Proofs.YthcnhibjddomdaaGreat
namespace Go.Proofs.YthcnhibjddomdaaGreat
section
open Go
variable (G:Nat→Option (List AV))
theorem zxZ (m a:Int) (L:List (List AV)) (b f:Bool):aP G FT KE [.agg [.int .i64 m,.int .i64 a,.data b 1 L f]]=some (.bool (VG m a L.length)):=by
 have p1:(0:Int)<m↔1≤m:=by omega
 have p2:m<9↔m≤8:=by omega
 have p3:(0:Int)<a↔1≤a:=by omega
 have p4:(0:Int)<L.length↔(1:Int)≤L.length:=by omega
 have p5:(L.length:Int)<17↔(L.length:Int)≤16:=by omega
 unfold aP VG
 rw [zd5]
 cases b
 all_goals
  by_cases h1:1≤m
  ·by_cases h2:m≤8
   ·by_cases h3:1≤a
    ·by_cases h4:a≤1073741824
     ·by_cases h5:(1:Int)≤L.length
      ·by_cases h6:(L.length:Int)≤16
       ·(sym=>simp [Qb,Qd,Qe,Qf,Qg,Qi,Qj,Qr,Qt,Qu,Qw,Q4,Xa,Xp,Xy,Ya,Yb,Yc,Yh,Yj,Yr,Yt,Yv,Y1,Y5,Y7,Y9,Za,Zb,Zc,Ze,Zg,Zh,Zi,Zj,Zk,Zl,Zm,Zn,Zr,Zs,Zt,Zu,Zv,Zw,Zy,Z0,Ja,Jj,Jk,Jv,Jx,Ue,Uf,Ug,Ul,Wk,Hh,Hi,Hv,Nl,No,Nq,Nw,Nx,Be,zdJ.eq_1,zdF.eq_1,ui.eq_1,p1,p2,p3,p4,p5,h1,h2,h3,h4,h5,h6])
       ·(sym=>simp [Qb,Qd,Qe,Qf,Qg,Qi,Qj,Qr,Qt,Qu,Qw,Q4,Xa,Xp,Xy,Ya,Yb,Yc,Yh,Yj,Yr,Yt,Yv,Y1,Y5,Y7,Y9,Za,Zb,Zc,Ze,Zg,Zh,Zi,Zj,Zk,Zl,Zm,Zn,Zr,Zs,Zt,Zu,Zv,Zw,Zy,Z0,Ja,Jj,Jk,Jv,Jx,Ue,Uf,Ug,Ul,Wk,Hh,Hi,Hv,Nl,Nm,No,Nq,Nw,Nx,Be,zdJ.eq_1,zdF.eq_1,ui.eq_1,p1,p2,p3,p4,p5,h1,h2,h3,h4,h5,h6])
      ·(sym=>simp [Qb,Qd,Qe,Qf,Qg,Qi,Qj,Qr,Qt,Qu,Qw,Q4,Xa,Xp,Xy,Ya,Yb,Yc,Yh,Yj,Yr,Yt,Yv,Y1,Y5,Y7,Y9,Za,Zb,Zc,Ze,Zg,Zh,Zi,Zj,Zk,Zl,Zm,Zn,Zr,Zs,Zt,Zu,Zv,Zw,Zy,Z0,Z3,Ja,Jj,Jk,Jv,Jx,Ue,Uf,Ug,Ul,Wk,Hh,Hi,Hv,Nl,Nm,No,Nq,Nr,Nw,Nx,Be,zdJ.eq_1,zdF.eq_1,ui.eq_1,p1,p2,p3,p4,p5,h1,h2,h3,h4,h5])
     ·(sym=>simp [Qb,Qd,Qe,Qf,Qg,Qi,Qj,Qr,Qt,Qu,Qw,Q4,Xa,Xp,Ya,Yb,Yc,Yj,Yr,Yt,Yv,Y1,Y5,Y7,Y9,Za,Zb,Zc,Ze,Zg,Zh,Zi,Zj,Zk,Zl,Zm,Zn,Zr,Zs,Zt,Zu,Zv,Zw,Zy,Z0,Z3,Ja,Jj,Jk,Jv,Jx,Ue,Uf,Ug,Ul,Wk,Hh,Hi,Hv,Nl,Nm,No,Nq,Nr,Nw,Nx,Be,zdJ.eq_1,zdF.eq_1,ui.eq_1,p1,p2,p3,p4,p5,h1,h2,h3,h4])
    ·(sym=>simp [Qb,Qd,Qe,Qf,Qg,Qi,Qj,Qr,Qt,Qu,Qw,Q4,Xa,Xp,Ya,Yc,Yj,Yr,Yt,Yv,Y1,Y5,Y7,Y9,Za,Zb,Zc,Ze,Zg,Zh,Zi,Zj,Zk,Zl,Zm,Zn,Zr,Zs,Zt,Zu,Zv,Zw,Zy,Z0,Z3,Ja,Jj,Jk,Jv,Jx,Ue,Uf,Ug,Ul,Wk,Hh,Hi,Hv,Nl,Nm,No,Nq,Nr,Nw,Nx,Be,zdJ.eq_1,zdF.eq_1,ui.eq_1,p1,p2,p3,p4,p5,h1,h2,h3])
   ·(sym=>simp [Qb,Qd,Qe,Qf,Qg,Qi,Qj,Qr,Qt,Qu,Qw,Q4,Xa,Xp,Ya,Yc,Yj,Yr,Yt,Yv,Y1,Y5,Y7,Y9,Za,Zb,Zc,Ze,Zg,Zh,Zi,Zj,Zk,Zl,Zm,Zn,Zr,Zs,Zt,Zu,Zv,Zw,Zy,Z0,Z3,Ja,Jj,Jk,Jv,Jx,Ue,Uf,Ug,Ul,Wk,Hh,Hv,Nl,Nm,No,Nq,Nr,Nw,Nx,Be,zdJ.eq_1,zdF.eq_1,ui.eq_1,p1,p2,p3,p4,p5,h1,h2])
  ·(sym=>simp [Qb,Qd,Qe,Qf,Qg,Qi,Qj,Qr,Qt,Qu,Qw,Q4,Xa,Xp,Yc,Yj,Yr,Yt,Yv,Y1,Y5,Y7,Y9,Za,Zb,Zc,Ze,Zg,Zh,Zi,Zj,Zk,Zl,Zm,Zn,Zr,Zs,Zt,Zu,Zv,Zw,Zy,Z0,Z3,Ja,Jj,Jk,Jv,Jx,Ue,Uf,Ug,Ul,Wk,Hh,Hv,Nm,No,Nq,Nr,Nw,Nx,Be,zdJ.eq_1,zdF.eq_1,ui.eq_1,p1,p2,p3,p4,p5,h1])
theorem zoN (q:List Pc) (b f:Bool) (hl:q.length≤1000) (hz:zV q≤1000000):∀ (m i:Nat),i+m=q.length→
  aE G FT 0 YA ⟨[(0,.data b 3 (pcs q) f),(3,.int .i64 (zV (q.take i):Nat)),(4,.int .i64 i)],[]⟩=
   some (.exit 0,⟨[(0,.data b 3 (pcs q) f),(3,.int .i64 (zV q:Nat)),(4,.int .i64 q.length),(8,.bool false)],[]⟩):=by
 have hln:=yB q
 intro m
 induction m with
 | zero=>
  intro i hi
  rw [YA,zn]
  obtain rfl:i=q.length:=by omega
  have e0:decide ((q.length:Int)<q.length)=false:=by simp
  rw [List.take_length]
  (sym=>simp [Qa,Qd,Qe,Qi,Qr,Qt,Xa,Xy,Ya,Yh,Y9,Za,Zb,Zc,Ze,Zg,Zh,Zk,Zl,Zt,Zv,Zw,Z3,Jj,Jk,Jm,Jr,Ju,Jv,Ux,U0,U4,U5,Vb,Ve,Vo,Vq,Vr,Vt,Vv,Vw,Vy,Vz,V0,Hq,Hw,H1,No,Be,zxF.eq_1,zwP.eq_1,zyI.eq_1,RV.eq_1,e0,hln])
 | succ m ih=>
  intro i hi
  have hlt:i<q.length:=by omega
  have hlt':(i:Int)<q.length:=by omega
  have hw:=zH (n:=i) (by omega)
  have hg:=YZ hlt
  have hbl:=oI q[i].2.2.1
  have e:zV (q.take (i+1))=zV (q.take i)+q[i].2.2.1.length:=by
   have e1:q.take (i+1)=q.take i++[q[i]]:=by rw [List.take_add_one,List.getElem?_eq_getElem hlt];rfl
   rw [e1,zcV];simp [zV]
  have hle:zV (q.take (i+1))≤zV q:=by have:=zn7 q (i+1);omega
  have ih:=ih (i+1) (by omega)
  rw [e] at ih hle
  have hw2:IntKind.i64.wrap ((zV (q.take i):Int)+q[i].2.2.1.length)=((zV (q.take i)+q[i].2.2.1.length:Nat):Int):=by rw [ZV _ (by omega) (by omega)];omega
  rw [YA] at ih
  rw [← ih,YA,zn]
  (sym=>simp [Qc,Qd,Qe,Qi,Qj,Qr,Qt,Q4,Xa,Xp,Xs,Xy,X5,Ya,Yh,Ys,Yt,Yw,Yy,Y9,Za,Zb,Zc,Ze,Zg,Zh,Zk,Zl,Zt,Zv,Zw,Jj,Jk,Jn,Jo,Jr,Js,Jv,Ux,U0,U4,U5,Vb,Ve,Vo,Vq,Vr,Vt,Vv,Vw,Vy,Vz,V0,Hh,Hq,Hr,Hs,Hw,H1,Ni,Nk,Nl,No,Be,Ma,Mb,Md,Me,Mf,zxF.eq_1,zwP.eq_1,zyI.eq_1,RV.eq_1,hlt',hg,hln,hbl,hw,hw2])
theorem zlD (q:List Pc) (b f:Bool) (h:okL q):aP G FT Yi [.data b 3 (pcs q) f]=some (.int .i64 (zV q:Nat)):=by
 have hz:=FV q h.2
 have h1:=h.1
 have key:=zoN G q b f h.1 (by omega) q.length 0 (by omega)
 have e:zV (q.take 0)=0:=rfl
 rw [e] at key
 simp only [Int.natCast_zero] at key
 unfold aP
 rw [zfa]
 (sym=>simp [Qb,Qd,Qe,Qi,Qj,Qr,Y1,Y5,Y7,Y9,Za,Zb,Zc,Ze,Zg,Zh,Zi,Zj,Zk,Zl,Zm,Zr,Zs,Zt,Zu,Zv,Zw,Jj,Jk,Jn,Jq,Jv,Jx,Wj,Be,zDC.eq_1,zDz.eq_1,zC5.eq_1,zEq.eq_1,TM.eq_1,key])
theorem zog (q:List Pc) (b f:Bool) (hl:q.length≤1000):∀ (m i:Nat),i+m=q.length→
  aE G FT 0 WV ⟨[(0,.data b 3 (pcs q) f),(3,.int .i64 i)],[]⟩=if ((q.drop i).all pcB)=true then some (.exit 0,⟨[(0,.data b 3 (pcs q) f),(3,.int .i64 q.length),(7,.bool false)],[]⟩) else some (.ret,⟨[(2,.bool false)],[]⟩):=by
 have hln:=yB q
 intro m
 induction m with
 | zero=>
  intro i hi
  rw [WV,zn]
  have e:q.drop i=[]:=List.drop_eq_nil_of_le (by omega)
  obtain rfl:i=q.length:=by omega
  have e0:decide ((q.length:Int)<q.length)=false:=by simp
  rw [e,List.all_nil,if_pos rfl]
  (sym=>simp [Qa,Qd,Qe,Qi,Qr,Qt,Xa,Xy,Ya,Yh,Y9,Za,Zb,Zc,Ze,Zg,Zh,Zk,Zl,Zt,Zv,Zw,Z3,Jj,Jk,Jm,Jr,Ju,Jv,Ux,U0,U4,U5,Vb,Ve,Vo,Vq,Vr,Vt,Vv,Vw,Vy,Vz,V0,Hq,Hw,H1,No,Be,zrZ.eq_1,ztl.eq_1,zsB.eq_1,zrH.eq_1,Sm.eq_1,e0,hln])
 | succ m ih=>
  intro i hi
  have hlt:i<q.length:=by omega
  have hlt':(i:Int)<q.length:=by omega
  have hw:=zH (n:=i) (by omega)
  have hg:=YZ hlt
  have hP:=fun b f=>zxZ G q[i].1 q[i].2.1 (byt q[i].2.2.1) b f
  rw [oI] at hP
  have e:q.drop i=q[i]::q.drop (i+1):=List.drop_eq_getElem_cons hlt
  have ih:=ih (i+1) (by omega)
  rw [WV] at ih
  rw [e,List.all_cons,WV,zn]
  cases hx:VG q[i].1 q[i].2.1 q[i].2.2.1.length with
  | true=>
   have hx2:pcB q[i]=true:=hx
   rw [hx2,Bool.true_and,← ih]
   (sym=>simp [Qc,Qd,Qe,Qi,Qj,Qm,Qn,Qo,Qr,Qt,Q4,Xa,Xd,Xs,Xy,X5,Ya,Yh,Ys,Yu,Yy,Y9,Za,Zb,Zc,Ze,Zg,Zh,Zk,Zl,Zm,Zn,Zo,Zt,Zv,Zw,Z3,Jj,Jk,Jn,Jo,Jr,Js,Jv,Ux,U0,U4,U5,Vb,Ve,Vo,Vq,Vr,Vt,Vv,Vw,Vy,Vz,V0,V3,V6,V9,Wd,We,Ho,Hq,Hs,Hw,H1,Ni,Nk,Nl,No,Nw,Be,Ma,Mb,Md,Me,Mf,zrZ.eq_1,ztl.eq_1,zsB.eq_1,zrH.eq_1,Sm.eq_1,hlt',hg,hln,hP,hx,hw])
  | false=>
   have hx2:pcB q[i]=false:=hx
   rw [hx2,Bool.false_and,if_neg (by simp)]
   (sym=>simp [Qb,Qc,Qd,Qe,Qi,Qj,Qm,Qn,Qo,Qr,Qt,Q4,Xa,Xd,Xs,Xy,Ya,Yh,Ys,Yu,Yy,Y9,Za,Zb,Zc,Ze,Zg,Zh,Zk,Zl,Zm,Zn,Zo,Zt,Zv,Zw,Jj,Jk,Jl,Jn,Jp,Jr,Jt,Jv,Ux,U0,U4,U5,Vb,Ve,Vo,Vq,Vr,Vt,Vv,Vw,Vy,Vz,V0,V3,V6,V9,Wd,We,Ho,Hq,Hs,Hw,H1,Ni,Nk,Nl,No,Nx,Be,Ma,Mb,Md,Me,Mf,zrZ.eq_1,ztl.eq_1,zsB.eq_1,zrH.eq_1,Sm.eq_1,hlt',hg,hln,hP,hx,hw])
theorem zv7 (q:List Pc) (b f:Bool) (h:okL q):aP G FT Dp [.data b 3 (pcs q) f]=some (.bool (jG 0 q)):=by
 have key:=zog G q b f h.1 q.length 0 (by omega)
 simp only [List.drop_zero,Int.natCast_zero] at key
 have hZ:=fun b f=>zlD G q b f h
 have e:jG 0 q=(q.all pcB&&decide (zV q≤64)):=by
  rw [Bool.eq_iff_iff,UV,Bool.and_eq_true,List.all_eq_true,decide_eq_true_eq]
 have p:(zV q:Int)≤64↔zV q≤64:=by omega
 unfold aP
 rw [ziF,e]
 cases ha:q.all pcB with
 | true=>rw [ha,if_pos rfl] at key;rw [Bool.true_and];(sym=>simp [Qb,Qd,Qe,Qi,Qj,Qm,Qn,Qo,Qr,Xa,Yb,Y1,Y5,Y7,Y9,Za,Zb,Zc,Ze,Zg,Zh,Zi,Zj,Zk,Zl,Zm,Zo,Zr,Zs,Zt,Zu,Zv,Zw,Jj,Jk,Jn,Jq,Jv,Jx,V9,Wd,We,Wk,Be,zxw.eq_1,zAw.eq_1,zyx.eq_1,Tq.eq_1,key,hZ,p])
 | false=>rw [ha,if_neg (by simp)] at key;rw [Bool.false_and];(sym=>simp [Qd,Qe,Qj,Qr,Y1,Y5,Y7,Y9,Za,Zb,Zc,Ze,Zg,Zh,Zi,Zj,Zk,Zl,Zm,Zr,Zs,Zt,Zu,Zv,Zw,Jj,Jk,Jl,Jn,Jp,Jv,Jx,Wk,Be,zxw.eq_1,zAw.eq_1,zyx.eq_1,Tq.eq_1,key])
theorem zlv (p q:List Pc) (b1 f1 b2 f2:Bool) (hl:p.length=q.length) (hb:p.length≤1000):∀ (m i:Nat),i+m=p.length→
  aE G FT 0 YJ ⟨[(0,.data b1 3 (pcs p) f1),(1,.data b2 3 (pcs q) f2),(5,.int .i64 i)],[]⟩=
   if RF (p.drop i) (q.drop i)=true then some (.exit 0,⟨[(0,.data b1 3 (pcs p) f1),(1,.data b2 3 (pcs q) f2),(5,.int .i64 p.length),(14,.bool false)],[]⟩) else some (.ret,⟨[(4,.bool false)],[]⟩):=by
 have l1:=yB p
 have l2:=yB q
 intro m
 induction m with
 | zero=>
  intro i hi
  obtain rfl:i=p.length:=by omega
  rw [YJ,zn,if_pos (by rw [List.drop_length,hl,List.drop_length];rfl)]
  have h4:¬ (p.length:Int)<p.length:=by omega
  (sym=>simp [Qa,Qd,Qe,Qi,Qr,Qt,Xa,Xy,Ya,Yh,Y9,Za,Zb,Zc,Ze,Zg,Zh,Zk,Zl,Zt,Zv,Zw,Z3,Jj,Jk,Jm,Jr,Ju,Jv,Ux,U0,U4,U5,Vb,Ve,Vo,Vq,Vr,Vt,Vv,Vw,Vy,Vz,V0,Hq,Hw,H1,Nm,No,Be,zi2.eq_1,ziW.eq_1,zjV.eq_1,ziO.eq_1,oW.eq_1,h4,l1])
 | succ m ih=>
  intro i hi
  have ih:=ih (i+1) (by omega)
  have hlt:i<p.length:=by omega
  have hlt2:i<q.length:=by omega
  have h4:(i:Int)<p.length:=by omega
  have g1:=YZ hlt
  have g2:=YZ hlt2
  have d1:p.drop i=p[i]::p.drop (i+1):=List.drop_eq_getElem_cons hlt
  have d2:q.drop i=q[i]::q.drop (i+1):=List.drop_eq_getElem_cons hlt2
  have hw:=zH (n:=i) (by omega)
  rw [YJ] at ih
  rw [YJ,zn,d1,d2,RF]
  have b3:=zlf p[i].2.2.1
  have b4:=zlf q[i].2.2.1
  have hB:((⟨⟨bso p[i].2.2.1⟩⟩:ByteArray)==⟨⟨bso q[i].2.2.1⟩⟩)=bEq p[i].2.2.1 q[i].2.2.1:=rfl
  have hS:zxl p[i] q[i]=(decide (p[i].1=q[i].1)&&decide (p[i].2.1=q[i].2.1)&&bEq p[i].2.2.1 q[i].2.2.1):=rfl
  rw [hS]
  generalize p[i]=x at *
  generalize q[i]=y at *
  generalize bEq x.2.2.1 y.2.2.1=B0 at *
  by_cases h1:x.1=y.1
  ·by_cases h2:x.2.1=y.2.1
   ·cases B0 with
    | true=>
     rw [decide_eq_true h1,decide_eq_true h2,Bool.true_and,Bool.true_and,Bool.true_and,← ih]
     (sym=>simp [Qc,Qd,Qe,Qf,Qg,Qi,Qj,Qr,Qt,Qu,Q4,Xa,Xb,Xi,Xp,Xs,Xy,X5,X9,Ya,Yh,Ys,Yt,Yw,Yy,Y3,Y9,Za,Zb,Zc,Ze,Zg,Zh,Zk,Zl,Zt,Zv,Zw,Z3,Jb,Jg,Jj,Jk,Jn,Jo,Jr,Js,Jv,Kj,Kn,Ux,U0,U4,U5,Vb,Ve,Vo,Vq,Vr,Vt,Vv,Vw,Vy,Vz,V0,Hf,Hh,Hq,Hr,Hs,Hw,H1,Ni,Nk,Nl,No,Ns,Nw,Nx,Be,Ma,Mb,Md,Me,Mf,Mk,zi2.eq_1,ziW.eq_1,zjV.eq_1,ziO.eq_1,oW.eq_1,h4,l1,g1,g2,hw,h1,h2,b3,b4,hB])
    | false=>
     rw [Bool.and_false,Bool.false_and,if_neg (by simp)]
     (sym=>simp [Qb,Qc,Qd,Qe,Qf,Qg,Qi,Qj,Qr,Qt,Qu,Q4,Xa,Xb,Xi,Xp,Xs,Xy,X9,Ya,Yh,Ys,Yt,Yw,Yy,Y3,Y9,Za,Zb,Zc,Ze,Zg,Zh,Zk,Zl,Zt,Zv,Zw,Z3,Jb,Jg,Jj,Jk,Jl,Jn,Jp,Jr,Jt,Jv,Kj,Kn,Ux,U0,U4,U5,Vb,Ve,Vo,Vq,Vr,Vt,Vv,Vw,Vy,Vz,V0,Hf,Hh,Hq,Hr,Hs,Hw,H1,Ni,Nk,Nl,No,Ns,Nw,Nx,Be,Ma,Mb,Md,Me,Mf,Mk,zi2.eq_1,ziW.eq_1,zjV.eq_1,ziO.eq_1,oW.eq_1,h4,l1,g1,g2,hw,h1,h2,b3,b4,hB])
   ·rw [decide_eq_false h2,Bool.and_false,Bool.false_and,Bool.false_and,if_neg (by simp)]
    (sym=>simp [Qb,Qc,Qd,Qe,Qf,Qg,Qi,Qj,Qr,Qt,Qu,Q4,Xa,Xp,Xs,Xy,X9,Ya,Yh,Ys,Yt,Yw,Yy,Y9,Za,Zb,Zc,Ze,Zg,Zh,Zk,Zl,Zt,Zv,Zw,Z3,Jb,Jj,Jk,Jl,Jn,Jp,Jr,Jt,Jv,Ux,U0,U4,U5,Vb,Ve,Vo,Vq,Vr,Vt,Vv,Vw,Vy,Vz,V0,Hh,Hq,Hr,Hs,Hw,H1,Ni,Nk,Nl,Nm,No,Nw,Nx,Be,Ma,Mb,Md,Me,Mf,zi2.eq_1,ziW.eq_1,zjV.eq_1,ziO.eq_1,oW.eq_1,h4,l1,g1,g2,hw,h1,h2])
  ·rw [decide_eq_false h1,Bool.false_and,Bool.false_and,Bool.false_and,if_neg (by simp)]
   (sym=>simp [Qb,Qc,Qd,Qe,Qf,Qg,Qi,Qj,Qr,Qt,Qu,Q4,Xa,Xp,Xs,Xy,X9,Ya,Yh,Ys,Yt,Yw,Yy,Y9,Za,Zb,Zc,Ze,Zg,Zh,Zk,Zl,Zt,Zv,Zw,Z3,Jb,Jj,Jk,Jl,Jn,Jp,Jr,Jt,Jv,Ux,U0,U4,U5,Vb,Ve,Vo,Vq,Vr,Vt,Vv,Vw,Vy,Vz,V0,Hh,Hq,Hs,Hw,H1,Ni,Nk,Nl,Nm,No,Nw,Nx,Be,Ma,Mb,Md,Me,Mf,zi2.eq_1,ziW.eq_1,zjV.eq_1,ziO.eq_1,oW.eq_1,h4,l1,g1,g2,hw,h1])
theorem ziP (p q:List Pc) (b1 f1 b2 f2:Bool) (hb:p.length≤1000):aP G FT VN [.data b1 3 (pcs p) f1,.data b2 3 (pcs q) f2]=some (.bool (RF p q)):=by
 have l1:=yB p
 have l2:=yB q
 unfold aP
 rw [zeZ]
 by_cases hl:p.length=q.length
 ·have key:=zlv G p q b1 f1 b2 f2 hl hb p.length 0 (by omega)
  simp only [List.drop_zero,Int.natCast_zero] at key
  have hl2:((p.length:Int)=q.length)↔True:=by simp [hl]
  cases hq:RF p q with
  | true=>rw [if_pos hq] at key;(sym=>simp [Qb,Qc,Qd,Qe,Qi,Qj,Qr,Qt,Xa,Xy,X9,Yh,Y1,Y5,Y7,Y9,Za,Zb,Zc,Ze,Zg,Zh,Zi,Zj,Zk,Zl,Zm,Zr,Zs,Zt,Zu,Zv,Zw,Z3,Jj,Jk,Jn,Jq,Jr,Jv,Jx,Wk,Nl,Nw,Be,zq6.eq_1,zsr.eq_1,zra.eq_1,ztk.eq_1,zrT.eq_1,ZY.eq_1,key,l1,l2,hl2])
  | false=>rw [if_neg (by simp [hq])] at key;(sym=>simp [Qc,Qd,Qe,Qi,Qj,Qr,Qt,Xa,Xy,X9,Yh,Y1,Y5,Y7,Y9,Za,Zb,Zc,Ze,Zg,Zh,Zi,Zj,Zk,Zl,Zm,Zr,Zs,Zt,Zu,Zv,Zw,Z3,Jj,Jk,Jl,Jn,Jp,Jr,Jv,Jx,Wk,Nl,Nw,Be,zq6.eq_1,zsr.eq_1,zra.eq_1,ztk.eq_1,zrT.eq_1,ZY.eq_1,key,l1,l2,hl2])
 ·have hd:RF p q=false:=by
   cases h:RF p q with
   | false=>rfl
   | true=>exact absurd (zjA h) hl
  rw [hd]
  have hl2:¬ ((p.length:Int)=q.length):=by omega
  (sym=>simp [Qb,Qd,Qe,Qi,Qj,Qr,Qt,Xa,Xy,X9,Yh,Y1,Y5,Y7,Y9,Za,Zb,Zc,Ze,Zg,Zh,Zi,Zj,Zk,Zl,Zm,Zr,Zs,Zt,Zu,Zv,Zw,Jj,Jk,Jl,Jr,Jv,Jx,Wk,Nm,Nx,Be,zq6.eq_1,zsr.eq_1,zra.eq_1,ztk.eq_1,zrT.eq_1,ZY.eq_1,l1,l2,hl2])
theorem zhI (q:List Pc) (b f:Bool) (h:okL q):∀ (m i:Nat),i+m=q.length→∀ st,agc 0 [0,3,4] st=some ⟨[(0,.data b 3 (pcs q) f),(3,.own 0 0 0 i i),(4,.int .i64 i)],[⟨3,0,true,pcs (cpQ (q.take i))⟩]⟩→
  aE G FT 0 YE st=some (.exit 0,⟨[(0,.data b 3 (pcs q) f),(3,.own 0 0 0 q.length q.length),(4,.int .i64 q.length),(9,.bool false)],[⟨3,0,true,pcs (cpQ q)⟩]⟩):=by
 have hln:=yB q
 intro m
 induction m with
 | zero=>
  intro i hi st hst
  rw [YE,zn,hst]
  obtain rfl:i=q.length:=by omega
  rw [List.take_length]
  have e0:decide ((q.length:Int)<q.length)=false:=by simp
  (sym=>simp [Qa,Qd,Qe,Qi,Qr,Qt,Xa,Xy,Ya,Yh,Y9,Za,Zb,Zc,Ze,Zg,Zh,Zt,Zv,Zw,Z3,Jj,Jk,Jm,Jr,Ju,Jv,Be,zyC.eq_1,zzk.eq_1,zvX.eq_1,zxM.eq_1,zBg.eq_1,RY.eq_1,e0,hln])
 | succ m ih=>
  intro i hi st hst
  have hlt:i<q.length:=by omega
  have hlt':(i:Int)<q.length:=by omega
  have hw:=zH (n:=i) (by have:=h.1;omega)
  have hg:=YZ hlt
  have hbl:=oI q[i].2.2.1
  have ih:=ih (i+1) (by omega)
  have e:pcs (cpQ (q.take (i+1)))=pcs (cpQ (q.take i))++[[.int .i64 q[i].1,.int .i64 q[i].2.1,.data false 1 (byt q[i].2.2.1) false]]:=by
   have e1:q.take (i+1)=q.take i++[q[i]]:=by rw [List.take_add_one,List.getElem?_eq_getElem hlt];rfl
   rw [e1,cpQ,List.map_append,ND];rfl
  rw [e] at ih
  rw [YE] at ih
  rw [YE,zn,hst]
  have hlo:(pcs (cpQ (q.take i))).length=i:=by rw [yB,ZT,List.length_take];omega
  have b1:(i+1) * 40≤140737488355328:=by have:=h.1;omega
  have b2:q[i].2.2.1.length≤140737488355328:=by have:=h.2 q[i] (List.getElem_mem _);omega
  have b3:q[i].2.2.1.length * 1≤140737488355328:=by omega
  have n1:i+1≤i↔False:=by simp
  have tk:List.take i (pcs (cpQ (q.take i)))=pcs (cpQ (q.take i)):=List.take_of_length_le (by omega)
  generalize pcs (cpQ (q.take i))=P at ih hlo tk ⊢
  generalize pcs (cpQ q)=PQ at ih ⊢
  generalize q[i]=z at *
  (sym=>simp [Qc,Qd,Qe,Qi,Qj,Qr,Qt,Qv,Qz,Q0,Q2,Q3,Q4,Q5,Xa,Xp,Xs,Xy,X0,X1,X5,Ya,Yh,Yj,Yr,Ys,Yt,Yu,Yv,Yy,Y2,Y3,Y9,Za,Zb,Zc,Zd,Ze,Zg,Zh,Zm,Zn,Zt,Zv,Zw,Zx,Zy,Zz,Z0,Z1,Jj,Jk,Jn,Jo,Jr,Js,Jv,J1,J2,J6,Kv,Kx,Ky,Ua,Ub,Uc,Ud,Ue,Uf,Ug,Ul,Hh,Hi,Hk,Hl,Ho,Hp,Hq,Hr,Hs,Ht,Hu,Hv,Hw,H2,H3,H8,Nc,Ng,Nh,Ni,Nk,Nl,Nn,No,Np,Ns,Nx,Nz,N0,N2,Be,Bg,Ma,Mb,Md,Me,Mf,Mk,zyC.eq_1,zzk.eq_1,zvX.eq_1,zxM.eq_1,zBg.eq_1,RY.eq_1,hlt',hg,hbl,hlo,b1,b2,b3,n1,tk,hw,hln];tactic=>(
   refine ih _ ?_
   (sym=>simp [Y9,Za,Zb,Ze,Zk,Zl,Zm,Zn,Zv,Zw,Zx,Zy,Zz,Z0,Z3,Us,Ux,U0,U4,U5,U6,Vb,Ve,Vk,Vm,Vo,Vp,Vq,Vr,Vs,Vt,Vu,Vv,Vw,Vx,Vy,Vz,V0,Hh,Hp,Hv,Hw,H1,H5,H6,Nl,No,Nx,hlo,tk])))
theorem zCk (q:List Pc) (b f:Bool) (h:okL q):aP G FT SB [.data b 3 (pcs q) f]=some (.data false 3 (pcs (cpQ q)) false):=by
 have key:=zhI G q b f h q.length 0 (by omega) ⟨[(0,.data b 3 (pcs q) f),(3,.own 0 0 0 0 0),(4,.int .i64 0)],[⟨3,0,true,[]⟩]⟩ (by
  simp only [Int.natCast_zero,List.take_zero,show pcs (cpQ [])=[] from rfl]
  (sym=>simp [Y9,Za,Zb,Ze,Zk,Zl,Zm,Zn,Zv,Zw,Zx,Zy,Zz,Z0,Z3,Us,Ux,U0,U4,U5,U6,Vb,Ve,Vk,Vm,Vo,Vp,Vq,Vr,Vs,Vt,Vu,Vv,Vw,Vx,Vy,Vz,V0,Hh,Hp,Hv,Hw,H1,H5,H6,Nl,No,Nx]))
 have hlo:(pcs (cpQ q)).length=q.length:=by rw [yB,ZT]
 have tk:List.take q.length (pcs (cpQ q))=pcs (cpQ q):=List.take_of_length_le (by omega)
 unfold aP
 rw [De]
 (sym=>simp [Qb,Qd,Qe,Qi,Qj,Qr,Qs,Y1,Y5,Y7,Y9,Za,Zb,Zc,Ze,Zg,Zh,Zi,Zj,Zk,Zl,Zm,Zr,Zs,Zt,Zu,Zv,Zw,Zx,Zy,Zz,Z0,Jj,Jk,Jn,Jq,Jv,Jx,Wf,Hh,Hs,Hv,H8,Ng,Nz,Be,zxj.eq_1,zA7.eq_1,zwH.eq_1,zwc.eq_1,Ui.eq_1,key,hlo,tk])
theorem zmb (w:Nat→Int×Int):∀ (m i:Nat),i+m=9→
  aE G FT 0 WX ⟨[(1,.ptr 0 0 0 0),(3,.int .i64 i)],[⟨18,0,true,[zF w]⟩]⟩=if Wn w m i=true then some (.exit 0,⟨[(1,.ptr 0 0 0 0),(3,.int .i64 9),(7,.bool false)],[⟨18,0,true,[zF w]⟩]⟩) else some (.ret,⟨[(2,.bool false)],[⟨18,0,true,[zF w]⟩]⟩):=by
 have cl:=Tg w
 intro m
 induction m with
 | zero=>
  intro i hi
  rw [WX,zn]
  obtain rfl:i=9:=by omega
  rw [Wn,if_pos rfl]
  have e:((9:Nat):Int)=9:=rfl
  (sym=>simp [Qa,Qd,Qe,Qi,Qj,Qr,Qt,Xa,Ya,Y9,Za,Zb,Zc,Ze,Zg,Zh,Zk,Zl,Zm,Zn,Zt,Zv,Zw,Zx,Zy,Zz,Z0,Z3,Jj,Jk,Jm,Jr,Ju,Jv,Ut,Ux,U4,U5,U7,Vb,Vk,Vm,Vo,Vp,Vq,Vr,Vs,Vt,Vu,Vv,Vw,Vx,Vy,Vz,V0,Hh,Hp,Hv,Hw,H1,H5,H6,Nl,Nm,No,Nx,Be,Bh,Fp.eq_1,Fb.eq_1,Fg.eq_1,Fj.eq_1,HV.eq_1,Hg.eq_1,yT.eq_1,e])
 | succ m ih=>
  intro i hi
  have ih:=ih (i+1) (by omega)
  rw [WX] at ih
  rw [WX,zn]
  have hlt:i<9:=by omega
  have hlt':(i:Int)<9:=by omega
  have hw:=zH (n:=i) (by omega)
  have c0:=zB2 w hlt
  have c1:=zB4 w hlt
  have q1:i * 2<18:=by omega
  have q2:i * 2+1<18:=by omega
  have m1:(0:Int)<(w i).1↔1≤(w i).1:=by omega
  have m2:(0:Int)<(w i).2↔1≤(w i).2:=by omega
  have i0:(0:Int)<i↔¬ i=0:=by omega
  rw [Wn]
  have ho:okW w i=((decide ((w i).1=0)&&decide ((w i).2=0))||(!decide (i=0)&&(decide (1≤(w i).1)&&decide ((w i).1≤1000)&&(decide (1≤(w i).2)&&decide ((w i).2≤1000))))):=by
   unfold okW zeB WZ
   rw [Bool.eq_iff_iff]
   simp only [Bool.and_eq_true,Bool.or_eq_true,decide_eq_true_eq,Bool.not_eq_true',decide_eq_false_iff_not]
   omega
  rw [ho]
  generalize zF w=C at *
  generalize w i=x at *
  by_cases a0:x.1=0
  ·by_cases b0:x.2=0
   ·rw [decide_eq_true a0,decide_eq_true b0,Bool.true_and,Bool.true_or,Bool.true_and,← ih]
    by_cases h0:i=0
    ·subst h0
     have z1:((0:Nat):Int)=0:=rfl
     have z2:((0+1:Nat):Int)=1:=rfl
     have z3:IntKind.i64.wrap 1=1:=by decide
     simp only [Nat.zero_mul,Nat.zero_add] at c0 c1
     (sym=>simp [Qc,Qd,Qe,Qf,Qg,Qi,Qj,Qr,Qt,Qu,Q4,Xa,Xd,Xt,X5,X8,Ya,Yc,Yr,Yt,Yz,Y9,Za,Zb,Zc,Ze,Zg,Zh,Zk,Zl,Zm,Zn,Zt,Zv,Zw,Zx,Zy,Zz,Z0,Z3,Ja,Jj,Jk,Jn,Jo,Jr,Js,Jv,Ut,Ux,U4,U5,U7,Vb,Vk,Vm,Vo,Vp,Vq,Vr,Vs,Vt,Vu,Vv,Vw,Vx,Vy,Vz,V0,Hh,Hp,Hv,Hw,H1,H5,H6,Nl,Nm,No,Nw,Nx,Nz,Be,Bh,Bi,Fp.eq_1,Fb.eq_1,Fg.eq_1,Fj.eq_1,HV.eq_1,Hg.eq_1,yT.eq_1,hlt',c0,c1,cl,a0,b0,z1,z2,z3])
    ·(sym=>simp [Qc,Qd,Qe,Qf,Qg,Qi,Qj,Qr,Qt,Qu,Q4,Xa,Xd,Xt,X5,X8,Ya,Yc,Yr,Yt,Yz,Y9,Za,Zb,Zc,Ze,Zg,Zh,Zk,Zl,Zm,Zn,Zt,Zv,Zw,Zx,Zy,Zz,Z0,Z3,Ja,Jj,Jk,Jn,Jo,Jr,Js,Jv,Ut,Ux,U4,U5,U7,Vb,Vk,Vm,Vo,Vp,Vq,Vr,Vs,Vt,Vu,Vv,Vw,Vx,Vy,Vz,V0,Hh,Hp,Hv,Hw,H1,H5,H6,H8,H9,Ni,Nk,Nl,Nm,No,Nw,Nx,Nz,Be,Bh,Bi,Fp.eq_1,Fb.eq_1,Fg.eq_1,Fj.eq_1,HV.eq_1,Hg.eq_1,yT.eq_1,hlt',c0,c1,cl,a0,b0,hw,i0,h0,q1,q2])
   ·rw [decide_eq_false b0,Bool.and_false,Bool.false_or]
    have a1:¬ 1≤x.1:=by omega
    rw [decide_eq_false a1,Bool.false_and,Bool.false_and,Bool.and_false,Bool.false_and,if_neg (by simp)]
    by_cases h0:i=0
    ·subst h0
     have z1:((0:Nat):Int)=0:=rfl
     have z2:((0+1:Nat):Int)=1:=rfl
     have z3:IntKind.i64.wrap 1=1:=by decide
     simp only [Nat.zero_mul,Nat.zero_add] at c0 c1
     (sym=>simp [Qb,Qc,Qd,Qe,Qf,Qg,Qi,Qj,Qr,Qt,Qu,Q4,Xa,Xd,Xt,X8,Ya,Yc,Yr,Yt,Yz,Y9,Za,Zb,Zc,Ze,Zg,Zh,Zk,Zl,Zm,Zn,Zt,Zv,Zw,Zx,Zy,Zz,Z0,Z3,Ja,Jj,Jk,Jl,Jn,Jp,Jr,Jt,Jv,Ut,Ux,U4,U5,U7,Vb,Vk,Vm,Vo,Vp,Vq,Vr,Vs,Vt,Vu,Vv,Vw,Vx,Vy,Vz,V0,Hh,Hp,Hv,Hw,H1,H5,H6,Nl,Nm,No,Nx,Nz,Be,Bh,Bi,Fp.eq_1,Fb.eq_1,Fg.eq_1,Fj.eq_1,HV.eq_1,Hg.eq_1,yT.eq_1,hlt',c0,c1,cl,a0,b0,z1,z2,z3])
    ·(sym=>simp [Qb,Qc,Qd,Qe,Qf,Qg,Qi,Qj,Qr,Qt,Qu,Q4,Xa,Xd,Xt,X8,Ya,Yc,Yr,Yt,Yz,Y9,Za,Zb,Zc,Ze,Zg,Zh,Zk,Zl,Zm,Zn,Zt,Zv,Zw,Zx,Zy,Zz,Z0,Z3,Ja,Jj,Jk,Jl,Jn,Jp,Jr,Jt,Jv,Ut,Ux,U4,U5,U7,Vb,Vk,Vm,Vo,Vp,Vq,Vr,Vs,Vt,Vu,Vv,Vw,Vx,Vy,Vz,V0,Hh,Hp,Hv,Hw,H1,H5,H6,H8,H9,Ni,Nk,Nl,Nm,No,Nx,Nz,Be,Bh,Bi,Fp.eq_1,Fb.eq_1,Fg.eq_1,Fj.eq_1,HV.eq_1,Hg.eq_1,yT.eq_1,hlt',c0,c1,cl,a0,b0,hw,i0,h0,q1,q2])
  ·rw [decide_eq_false a0,Bool.false_and,Bool.false_or]
   by_cases h0:i=0
   ·subst h0
    rw [decide_eq_true (rfl:(0:Nat)=0),Bool.not_true,Bool.false_and,Bool.false_and,if_neg (by simp)]
    have z1:((0:Nat):Int)=0:=rfl
    have z2:((0+1:Nat):Int)=1:=rfl
    have z3:IntKind.i64.wrap 1=1:=by decide
    simp only [Nat.zero_mul,Nat.zero_add] at c0 c1
    (sym=>simp [Qb,Qc,Qd,Qe,Qf,Qg,Qi,Qj,Qr,Qt,Qu,Q4,Xa,Xd,Xt,X8,Ya,Yc,Yr,Yt,Yz,Y9,Za,Zb,Zc,Ze,Zg,Zh,Zk,Zl,Zm,Zn,Zt,Zv,Zw,Zx,Zy,Zz,Z0,Z3,Ja,Jj,Jk,Jl,Jn,Jp,Jr,Jt,Jv,Ut,Ux,U4,U5,U7,Vb,Vk,Vm,Vo,Vp,Vq,Vr,Vs,Vt,Vu,Vv,Vw,Vx,Vy,Vz,V0,Hh,Hp,Hv,Hw,H1,H5,H6,Nl,Nm,No,Nx,Nz,Be,Bh,Bi,Fp.eq_1,Fb.eq_1,Fg.eq_1,Fj.eq_1,HV.eq_1,Hg.eq_1,yT.eq_1,hlt',c0,c1,cl,a0,z1,z2,z3])
   ·rw [decide_eq_false h0,Bool.not_false,Bool.true_and]
    by_cases a1:1≤x.1
    ·by_cases a2:x.1≤1000
     ·by_cases b1:1≤x.2
      ·by_cases b2:x.2≤1000
       ·rw [decide_eq_true a1,decide_eq_true a2,decide_eq_true b1,decide_eq_true b2,Bool.true_and,Bool.true_and,Bool.true_and,← ih]
        (sym=>simp [Qc,Qd,Qe,Qf,Qg,Qi,Qj,Qr,Qt,Qu,Q4,Xa,Xd,Xt,X5,X8,Ya,Yb,Yc,Yr,Yt,Yz,Y9,Za,Zb,Zc,Ze,Zg,Zh,Zk,Zl,Zm,Zn,Zt,Zv,Zw,Zx,Zy,Zz,Z0,Z3,Ja,Jj,Jk,Jn,Jo,Jr,Js,Jv,Ut,Ux,U4,U5,U7,Vb,Vk,Vm,Vo,Vp,Vq,Vr,Vs,Vt,Vu,Vv,Vw,Vx,Vy,Vz,V0,Hh,Hp,Hv,Hw,H1,H5,H6,H8,H9,Ni,Nk,Nl,Nm,No,Nw,Nx,Nz,Be,Bh,Bi,Fp.eq_1,Fb.eq_1,Fg.eq_1,Fj.eq_1,HV.eq_1,Hg.eq_1,yT.eq_1,hlt',c0,c1,cl,a0,hw,i0,h0,q1,q2,m1,m2,a1,a2,b1,b2])
       ·rw [decide_eq_false b2,Bool.and_false,Bool.and_false,Bool.false_and,if_neg (by simp)]
        (sym=>simp [Qb,Qc,Qd,Qe,Qf,Qg,Qi,Qj,Qr,Qt,Qu,Q4,Xa,Xd,Xt,X8,Ya,Yb,Yc,Yr,Yt,Yz,Y9,Za,Zb,Zc,Ze,Zg,Zh,Zk,Zl,Zm,Zn,Zt,Zv,Zw,Zx,Zy,Zz,Z0,Z3,Ja,Jj,Jk,Jl,Jn,Jp,Jr,Jt,Jv,Ut,Ux,U4,U5,U7,Vb,Vk,Vm,Vo,Vp,Vq,Vr,Vs,Vt,Vu,Vv,Vw,Vx,Vy,Vz,V0,Hh,Hp,Hv,Hw,H1,H5,H6,H8,H9,Ni,Nk,Nl,Nm,No,Nx,Nz,Be,Bh,Bi,Fp.eq_1,Fb.eq_1,Fg.eq_1,Fj.eq_1,HV.eq_1,Hg.eq_1,yT.eq_1,hlt',c0,c1,cl,a0,hw,i0,h0,q1,q2,m1,m2,a1,a2,b1,b2])
      ·rw [decide_eq_false b1,Bool.false_and,Bool.and_false,Bool.false_and,if_neg (by simp)]
       (sym=>simp [Qb,Qc,Qd,Qe,Qf,Qg,Qi,Qj,Qr,Qt,Qu,Q4,Xa,Xd,Xt,X8,Ya,Yb,Yc,Yr,Yt,Yz,Y9,Za,Zb,Zc,Ze,Zg,Zh,Zk,Zl,Zm,Zn,Zt,Zv,Zw,Zx,Zy,Zz,Z0,Z3,Ja,Jj,Jk,Jl,Jn,Jp,Jr,Jt,Jv,Ut,Ux,U4,U5,U7,Vb,Vk,Vm,Vo,Vp,Vq,Vr,Vs,Vt,Vu,Vv,Vw,Vx,Vy,Vz,V0,Hh,Hp,Hv,Hw,H1,H5,H6,H8,H9,Ni,Nk,Nl,Nm,No,Nx,Nz,Be,Bh,Bi,Fp.eq_1,Fb.eq_1,Fg.eq_1,Fj.eq_1,HV.eq_1,Hg.eq_1,yT.eq_1,hlt',c0,c1,cl,a0,hw,i0,h0,q1,q2,m1,m2,a1,a2,b1])
     ·rw [decide_eq_false a2,Bool.and_false,Bool.false_and,Bool.false_and,if_neg (by simp)]
      (sym=>simp [Qb,Qc,Qd,Qe,Qf,Qg,Qi,Qj,Qr,Qt,Qu,Q4,Xa,Xd,Xt,X8,Ya,Yb,Yc,Yr,Yt,Yz,Y9,Za,Zb,Zc,Ze,Zg,Zh,Zk,Zl,Zm,Zn,Zt,Zv,Zw,Zx,Zy,Zz,Z0,Z3,Ja,Jj,Jk,Jl,Jn,Jp,Jr,Jt,Jv,Ut,Ux,U4,U5,U7,Vb,Vk,Vm,Vo,Vp,Vq,Vr,Vs,Vt,Vu,Vv,Vw,Vx,Vy,Vz,V0,Hh,Hp,Hv,Hw,H1,H5,H6,H8,H9,Ni,Nk,Nl,Nm,No,Nx,Nz,Be,Bh,Bi,Fp.eq_1,Fb.eq_1,Fg.eq_1,Fj.eq_1,HV.eq_1,Hg.eq_1,yT.eq_1,hlt',c0,c1,cl,a0,hw,i0,h0,q1,q2,m1,m2,a1,a2])
    ·rw [decide_eq_false a1,Bool.false_and,Bool.false_and,Bool.false_and,if_neg (by simp)]
     (sym=>simp [Qb,Qc,Qd,Qe,Qf,Qg,Qi,Qj,Qr,Qt,Qu,Q4,Xa,Xd,Xt,X8,Ya,Yc,Yr,Yt,Yz,Y9,Za,Zb,Zc,Ze,Zg,Zh,Zk,Zl,Zm,Zn,Zt,Zv,Zw,Zx,Zy,Zz,Z0,Z3,Ja,Jj,Jk,Jl,Jn,Jp,Jr,Jt,Jv,Ut,Ux,U4,U5,U7,Vb,Vk,Vm,Vo,Vp,Vq,Vr,Vs,Vt,Vu,Vv,Vw,Vx,Vy,Vz,V0,Hh,Hp,Hv,Hw,H1,H5,H6,H8,H9,Ni,Nk,Nl,Nm,No,Nx,Nz,Be,Bh,Bi,Fp.eq_1,Fb.eq_1,Fg.eq_1,Fj.eq_1,HV.eq_1,Hg.eq_1,yT.eq_1,hlt',c0,c1,cl,a0,hw,i0,h0,q1,q2,m1,m2,a1])
theorem zml (w:Nat→Int×Int):aP G FT Lv [.agg (zF w)]=some (.bool (TN w)):=by
 have key:=zmb G w 9 0 rfl
 have cl:=Tg w
 have cs:=zca w
 simp only [Int.natCast_zero] at key
 unfold aP TN
 rw [ziy]
 cases hm:Wn w 9 0 with
 | true=>rw [hm,if_pos rfl] at key;(sym=>simp [Qb,Qd,Qe,Qi,Qj,Qr,Qw,Yj,Y1,Y5,Y7,Y9,Za,Zb,Zc,Ze,Zg,Zh,Zi,Zj,Zk,Zl,Zm,Zr,Zs,Zt,Zu,Zv,Zw,Jj,Jk,Jn,Jq,Jv,Jx,Wk,Hv,Be,zw1.eq_1,zAb.eq_1,zv5.eq_1,TA.eq_1,key,cl,cs])
 | false=>rw [hm,if_neg (by simp)] at key;(sym=>simp [Qd,Qe,Qi,Qj,Qr,Qw,Yj,Y1,Y5,Y7,Y9,Za,Zb,Zc,Ze,Zg,Zh,Zi,Zj,Zk,Zl,Zm,Zr,Zs,Zt,Zu,Zv,Zw,Jj,Jk,Jl,Jn,Jp,Jv,Jx,Wk,Hv,Be,zw1.eq_1,zAb.eq_1,zv5.eq_1,TA.eq_1,key,cl,cs])
end
end Go.Proofs.YthcnhibjddomdaaGreat
namespace Go.Proofs.YthcnhibjddomdaaGreat
section
open Go
variable (G:Nat→Option (List AV))
theorem zvS (l:List (Int×Int)) (b f:Bool) (hl:l.length<1000000):∀ (m i:Nat),i+m=l.length→0≤oN l i→
  aE G FT 0 YM ⟨[(0,.data b 2 (mbs l) f),(1,.int .i64 0),(5,.bool true),(6,.int .i64 i)],[]⟩=
   if yO (oN l i) (l.drop i)=true then some (.exit 0,⟨[(0,.data b 2 (mbs l) f),(1,.int .i64 0),(5,.bool true),(6,.int .i64 l.length),(12,.bool false)],[]⟩) else some (.ret,⟨[(4,.bool false)],[]⟩):=by
 intro m
 induction m with
 | zero=>
  intro i hi _
  rw [YM,zn]
  have e:l.drop i=[]:=List.drop_eq_nil_of_le (by omega)
  have ei:i=l.length:=by omega
  subst ei
  have e0:decide ((l.length:Int)<l.length)=false:=by simp
  have hln:=yM l
  rw [e,yO,if_pos rfl]
  (sym=>simp [Qa,Qd,Qe,Qi,Qr,Qt,Xa,Xy,Ya,Yh,Y9,Za,Zb,Zc,Ze,Zg,Zh,Zk,Zl,Zt,Zv,Zw,Z3,Jj,Jk,Jm,Jr,Ju,Jv,Ux,Uy,U0,U4,U5,Vb,Vc,Ve,Vo,Vq,Vr,Vt,Vv,Vw,Vy,Vz,V0,Hq,Hw,H1,No,Be,zbx.eq_1,zbV.eq_1,zbY.eq_1,zbw.eq_1,zbR.eq_1,zbH.eq_1,uk.eq_1,e0,hln])
 | succ m ih=>
  intro i hi h0
  have hlt:i<l.length:=by omega
  have hlt':(i:Int)<l.length:=by omega
  have e:l.drop i=l[i]::l.drop (i+1):=List.drop_eq_getElem_cons hlt
  have hw:=zH (n:=i) (by omega)
  have hg:=Tf hlt
  have hln:=yM l
  have el:oN l (i+1)=l[i].1:=by rw [oN,List.getD_eq_getElem?_getD,List.getElem?_eq_getElem hlt];rfl
  have ih:=ih (i+1) (by omega)
  rw [el] at ih
  rw [e,yO]
  have hprev:∀ j,i=j+1→(mbs l)[j]? =some [.int .i64 (oN l i),.int .i64 (l.getD j (0,0)).2]:=fun j hj=>by
   subst hj
   have hj:j<l.length:=by omega
   rw [Tf hj,oN,List.getD_eq_getElem?_getD,List.getElem?_eq_getElem hj];rfl
  have hz:i=0→oN l i=0:=fun h=>by rw [h];rfl
  generalize oN l i=last at *
  obtain ⟨x,hx⟩:∃ x,l[i]=x:=⟨_,rfl⟩
  rw [hx] at hg ih ⊢
  obtain ⟨a,r⟩:=x
  simp only at hg ih
  rw [YM] at ih
  rw [YM,zn]
  by_cases h1:a<1
  ·have hk:okM last (a,r)=false:=by rw [Bool.eq_false_iff,ne_eq,vV];simp only;omega
   rw [hk,Bool.false_and,if_neg (by simp)]
   (sym=>simp [Qb,Qc,Qd,Qe,Qf,Qg,Qh,Qi,Qj,Qr,Qt,Qu,Q4,Xa,Xp,Xs,Xy,Ya,Yh,Ys,Yt,Yw,Yy,Y9,Za,Zb,Zc,Ze,Zg,Zh,Zk,Zl,Zt,Zv,Zw,Z3,Jb,Jj,Jk,Jl,Jn,Jp,Jr,Jt,Jv,Ux,Uy,U0,U4,U5,Vb,Vc,Ve,Vo,Vq,Vr,Vt,Vv,Vw,Vy,Vz,V0,Hh,Hq,Hs,Hw,H1,Ni,Nk,Nl,No,Nw,Be,Ma,Mb,Md,Mf,zbx.eq_1,zbV.eq_1,zbY.eq_1,zbw.eq_1,zbR.eq_1,zbH.eq_1,uk.eq_1,hlt',hg,hln,h1])
  by_cases h8:8<a
  ·have hk:okM last (a,r)=false:=by rw [Bool.eq_false_iff,ne_eq,vV];simp only;omega
   rw [hk,Bool.false_and,if_neg (by simp)]
   (sym=>simp [Qb,Qc,Qd,Qe,Qf,Qg,Qh,Qi,Qj,Qr,Qt,Qu,Q4,Xa,Xp,Xs,Xy,Ya,Yc,Yh,Ys,Yt,Yw,Yy,Y9,Za,Zb,Zc,Ze,Zg,Zh,Zk,Zl,Zt,Zv,Zw,Z3,Jb,Jj,Jk,Jl,Jn,Jp,Jr,Jt,Jv,Ux,Uy,U0,U4,U5,Vb,Vc,Ve,Vo,Vq,Vr,Vt,Vv,Vw,Vy,Vz,V0,Hh,Hq,Hs,Hw,H1,Ni,Nk,Nl,Nm,No,Nw,Nx,Be,Ma,Mb,Md,Mf,zbx.eq_1,zbV.eq_1,zbY.eq_1,zbw.eq_1,zbR.eq_1,zbH.eq_1,uk.eq_1,hlt',hg,hln,h1,h8])
  by_cases r1:r<1
  ·have hk:okM last (a,r)=false:=by rw [Bool.eq_false_iff,ne_eq,vV];simp only;omega
   rw [hk,Bool.false_and,if_neg (by simp)]
   (sym=>simp [Qb,Qc,Qd,Qe,Qf,Qg,Qh,Qi,Qj,Qr,Qt,Qu,Q4,Xa,Xp,Xs,Xy,Ya,Yc,Yh,Ys,Yt,Yw,Yy,Y9,Za,Zb,Zc,Ze,Zg,Zh,Zk,Zl,Zt,Zv,Zw,Z3,Jb,Jj,Jk,Jl,Jn,Jp,Jr,Jt,Jv,Ux,Uy,U0,U4,U5,Vb,Vc,Ve,Vo,Vq,Vr,Vt,Vv,Vw,Vy,Vz,V0,Hh,Hq,Hr,Hs,Hw,H1,Ni,Nk,Nl,Nm,No,Nw,Nx,Be,Ma,Mb,Md,Mf,zbx.eq_1,zbV.eq_1,zbY.eq_1,zbw.eq_1,zbR.eq_1,zbH.eq_1,uk.eq_1,hlt',hg,hln,h1,h8,r1])
  by_cases r2:2<r
  ·have hk:okM last (a,r)=false:=by rw [Bool.eq_false_iff,ne_eq,vV];simp only;omega
   rw [hk,Bool.false_and,if_neg (by simp)]
   (sym=>simp [Qb,Qc,Qd,Qe,Qf,Qg,Qh,Qi,Qj,Qr,Qt,Qu,Q4,Xa,Xp,Xs,Xy,Ya,Yc,Yh,Ys,Yt,Yw,Yy,Y9,Za,Zb,Zc,Ze,Zg,Zh,Zk,Zl,Zt,Zv,Zw,Z3,Jb,Jj,Jk,Jl,Jn,Jp,Jr,Jt,Jv,Ux,Uy,U0,U4,U5,Vb,Vc,Ve,Vo,Vq,Vr,Vt,Vv,Vw,Vy,Vz,V0,Hh,Hq,Hr,Hs,Hw,H1,Ni,Nk,Nl,Nm,No,Nw,Nx,Be,Ma,Mb,Md,Mf,zbx.eq_1,zbV.eq_1,zbY.eq_1,zbw.eq_1,zbR.eq_1,zbH.eq_1,uk.eq_1,hlt',hg,hln,h1,h8,r1,r2])
  have ih:=ih (by omega)
  have a0:¬ a=0:=by omega
  cases i with
  | zero=>
   have hl0:last=0:=hz rfl
   have hlt0:(0:Int)<l.length:=by omega
   have hw0:IntKind.i64.wrap 1=1:=by decide
   have hk:okM last (a,r)=true:=by rw [vV];simp only;omega
   rw [hk,Bool.true_and,← ih]
   (sym=>simp [Qc,Qd,Qe,Qf,Qg,Qi,Qj,Qr,Qt,Qu,Q4,Xa,Xp,Xs,Xy,X5,X8,Ya,Yc,Yh,Ys,Yt,Yw,Yy,Y9,Za,Zb,Zc,Ze,Zg,Zh,Zk,Zl,Zt,Zv,Zw,Z3,Ja,Jb,Jj,Jk,Jn,Jo,Jr,Js,Jv,Ux,Uy,U0,U4,U5,Vb,Vc,Ve,Vo,Vq,Vr,Vt,Vv,Vw,Vy,Vz,V0,Hh,Hq,Hr,Hs,Hw,H1,Nl,Nm,No,Nx,Be,Bh,Bi,Ma,Mb,Md,Mf,zbx.eq_1,zbV.eq_1,zbY.eq_1,zbw.eq_1,zbR.eq_1,zbH.eq_1,uk.eq_1,hlt0,hg,hln,h1,h8,r1,r2,a0,hw0])
  | succ j=>
   have hp:=hprev j rfl
   have i0:(0:Int)<((j+1:Nat):Int):=by omega
   have hj0:IntKind.i64.wrap (((j+1:Nat):Int) - 1)=(j:Int):=by rw [ZV _ (by omega) (by omega)];omega
   have hjl:(j:Int)<l.length:=by omega
   by_cases hla:a≤last
   ·have hk:okM last (a,r)=false:=by rw [Bool.eq_false_iff,ne_eq,vV];simp only;omega
    rw [hk,Bool.false_and,if_neg (by simp)]
    (sym=>simp [Qb,Qc,Qd,Qe,Qf,Qg,Qi,Qj,Qr,Qt,Qu,Q4,Xa,Xp,Xs,Xy,X6,Ya,Yb,Yc,Yh,Ys,Yt,Yw,Yy,Y9,Za,Zb,Zc,Ze,Zg,Zh,Zk,Zl,Zt,Zv,Zw,Z3,Ja,Jb,Jj,Jk,Jl,Jn,Jp,Jr,Jt,Jv,Ux,Uy,U0,U4,U5,Vb,Vc,Ve,Vo,Vq,Vr,Vt,Vv,Vw,Vy,Vz,V0,Hh,Hq,Hr,Hs,Hw,H1,Ni,Nk,Nl,Nm,No,Nx,Be,Ma,Mb,Md,Mf,zbx.eq_1,zbV.eq_1,zbY.eq_1,zbw.eq_1,zbR.eq_1,zbH.eq_1,uk.eq_1,hlt',hg,hln,h1,h8,r1,r2,i0,hj0,hp,hla])
   ·have hk:okM last (a,r)=true:=by rw [vV];simp only;omega
    rw [hk,Bool.true_and,← ih]
    (sym=>simp [Qc,Qd,Qe,Qf,Qg,Qi,Qj,Qr,Qt,Qu,Q4,Xa,Xp,Xs,Xy,X5,X6,X8,Ya,Yb,Yc,Yh,Ys,Yt,Yw,Yy,Y9,Za,Zb,Zc,Ze,Zg,Zh,Zk,Zl,Zt,Zv,Zw,Z3,Ja,Jb,Jj,Jk,Jn,Jo,Jr,Js,Jv,Ux,Uy,U0,U4,U5,Vb,Vc,Ve,Vo,Vq,Vr,Vt,Vv,Vw,Vy,Vz,V0,Hh,Hq,Hr,Hs,Hw,H1,Ni,Nk,Nl,Nm,No,Nx,Be,Ma,Mb,Md,Mf,zbx.eq_1,zbV.eq_1,zbY.eq_1,zbw.eq_1,zbR.eq_1,zbH.eq_1,uk.eq_1,hlt',hg,hln,h1,h8,r1,r2,i0,hj0,hp,hla,a0,hw])
theorem zbD (l:List (Int×Int)) (b f:Bool) (hl:l.length<1000000):aP G FT Tx [.data b 2 (mbs l) f]=some (.bool (y5 l)):=by
 have hL:∀ b f,aP G FT Hd [.data b 2 (mbs l) f,.int .i64 0]=some (.bool (y5 l)):=fun b f=>by
  unfold aP y5
  rw [zhL]
  have key:=zvS G l b f hl l.length 0 (by omega) (Int.le_refl _)
  simp only [List.drop_zero,Int.natCast_zero,show oN l 0=0 from rfl] at key
  cases hm:yO 0 l with
  | true=>rw [hm,if_pos rfl] at key;(sym=>simp [Qb,Qd,Qe,Qi,Qj,Qr,Xa,X8,Y1,Y5,Y7,Y9,Za,Zb,Zc,Ze,Zg,Zh,Zi,Zj,Zk,Zl,Zm,Zr,Zs,Zt,Zu,Zv,Zw,Jj,Jk,Jn,Jq,Jv,Jx,Wk,Nl,Be,zxC.eq_1,zzc.eq_1,zBd.eq_1,zyE.eq_1,VV.eq_1,key])
  | false=>rw [hm,if_neg (by simp)] at key;(sym=>simp [Qd,Qe,Qi,Qj,Qr,Xa,X8,Y1,Y5,Y7,Y9,Za,Zb,Zc,Ze,Zg,Zh,Zi,Zj,Zk,Zl,Zm,Zr,Zs,Zt,Zu,Zv,Zw,Jj,Jk,Jl,Jn,Jp,Jv,Jx,Wk,Nl,Be,zxC.eq_1,zzc.eq_1,zBd.eq_1,zyE.eq_1,VV.eq_1,key])
 unfold aP
 rw [zif]
 (sym=>simp [Qb,Qd,Qe,Qi,Qj,Qm,Qn,Qo,Qr,Y1,Y5,Y7,Y9,Za,Zb,Zc,Ze,Zg,Zh,Zi,Zj,Zk,Zl,Zm,Zo,Zr,Zs,Zt,Zu,Zv,Zw,Jj,Jk,Jv,Jx,V6,V9,Wd,We,Wk,Be,zDX.eq_1,zEd.eq_1,RB.eq_1,hL])
theorem zqL (l:List (Int×Int)) (b f:Bool) (id:Int) (hl:l.length<1000000):∀ (m i:Nat),i+m=l.length→
  (aE G FT 0 oO ⟨[(0,.data b 2 (mbs l) f),(1,.int .i64 id),(5,.int .i64 i)],[]⟩=some (.ret,⟨[(4,.int .i64 (zg (l.drop i) id))],[]⟩))∨
   (zg (l.drop i) id=0∧aE G FT 0 oO ⟨[(0,.data b 2 (mbs l) f),(1,.int .i64 id),(5,.int .i64 i)],[]⟩=some (.exit 0,⟨[(0,.data b 2 (mbs l) f),(1,.int .i64 id),(5,.int .i64 l.length),(9,.bool false)],[]⟩)):=by
 intro m
 induction m with
 | zero=>
  intro i hi
  right
  have e:l.drop i=[]:=List.drop_eq_nil_of_le (by omega)
  refine ⟨by rw [e];rfl, ?_⟩
  rw [oO,zn]
  have ei:i=l.length:=by omega
  subst ei
  have e0:decide ((l.length:Int)<l.length)=false:=by simp
  have hln:=yM l
  (sym=>simp [Qa,Qd,Qe,Qi,Qr,Qt,Xa,Xy,Ya,Yh,Y9,Za,Zb,Zc,Ze,Zg,Zh,Zk,Zl,Zt,Zv,Zw,Z3,Jj,Jk,Jm,Jr,Ju,Jv,Ux,U0,U4,U5,Vb,Ve,Vo,Vq,Vr,Vt,Vv,Vw,Vy,Vz,V0,Hq,Hw,H1,No,Be,zmT.eq_1,zmJ.eq_1,zob.eq_1,znI.eq_1,Yp.eq_1,e0,hln])
 | succ m ih=>
  intro i hi
  have hlt:i<l.length:=by omega
  have hlt':(i:Int)<l.length:=by omega
  have e:l.drop i=l[i]::l.drop (i+1):=List.drop_eq_getElem_cons hlt
  have hw:=zH (n:=i) (by omega)
  have hg:=Tf hlt
  have hln:=yM l
  have ih:=ih (i+1) (by omega)
  rw [oO] at ih
  rw [e,oO,zn]
  by_cases hx:l[i].1=id
  ·left
   rw [zg,if_pos hx]
   (sym=>simp [Qb,Qc,Qd,Qe,Qi,Qr,Qt,Q4,Xa,Xp,Xs,Xy,X8,Ya,Yh,Ys,Yt,Yw,Yy,Y9,Za,Zb,Zc,Ze,Zg,Zh,Zk,Zl,Zt,Zv,Zw,Jj,Jk,Jl,Jn,Jp,Jr,Jt,Jv,Ux,U0,U4,U5,Vb,Ve,Vo,Vq,Vr,Vt,Vv,Vw,Vy,Vz,V0,Hh,Hq,Hr,Hs,Hw,H1,Ni,Nk,Nl,No,Be,Ma,Mb,Md,Mf,zmT.eq_1,zmJ.eq_1,zob.eq_1,znI.eq_1,Yp.eq_1,hlt',hg,hln,hx])
  ·rw [zg,if_neg hx]
   rcases ih with ih | ⟨ih1,ih2⟩
   ·left
    rw [← ih]
    (sym=>simp [Qc,Qd,Qe,Qi,Qj,Qr,Qt,Q4,Xa,Xp,Xs,Xy,X5,X8,Ya,Yh,Ys,Yt,Yw,Yy,Y9,Za,Zb,Zc,Ze,Zg,Zh,Zk,Zl,Zt,Zv,Zw,Z3,Jj,Jk,Jn,Jo,Jr,Js,Jv,Ux,U0,U4,U5,Vb,Ve,Vo,Vq,Vr,Vt,Vv,Vw,Vy,Vz,V0,Hh,Hq,Hs,Hw,H1,Ni,Nk,Nl,Nm,No,Be,Ma,Mb,Md,Mf,zmT.eq_1,zmJ.eq_1,zob.eq_1,znI.eq_1,Yp.eq_1,hlt',hg,hln,hx,hw])
   ·right
    refine ⟨ih1, ?_⟩
    rw [← ih2]
    (sym=>simp [Qc,Qd,Qe,Qi,Qj,Qr,Qt,Q4,Xa,Xp,Xs,Xy,X5,X8,Ya,Yh,Ys,Yt,Yw,Yy,Y9,Za,Zb,Zc,Ze,Zg,Zh,Zk,Zl,Zt,Zv,Zw,Z3,Jj,Jk,Jn,Jo,Jr,Js,Jv,Ux,U0,U4,U5,Vb,Ve,Vo,Vq,Vr,Vt,Vv,Vw,Vy,Vz,V0,Hh,Hq,Hs,Hw,H1,Ni,Nk,Nl,Nm,No,Be,Ma,Mb,Md,Mf,zmT.eq_1,zmJ.eq_1,zob.eq_1,znI.eq_1,Yp.eq_1,hlt',hg,hln,hx,hw])
theorem Ps (l:List (Int×Int)) (b f:Bool) (id:Int) (hl:l.length<1000000):aP G FT uI [.data b 2 (mbs l) f,.int .i64 id]=some (.int .i64 (zg l id)):=by
 unfold aP
 rw [zhP]
 have key:=zqL G l b f id hl l.length 0 (by omega)
 simp only [List.drop_zero,Int.natCast_zero] at key
 rcases key with key | ⟨k1,key⟩
 ·(sym=>simp [Qd,Qe,Qj,Qr,Y1,Y5,Y7,Y9,Za,Zb,Zc,Ze,Zg,Zh,Zi,Zj,Zk,Zl,Zm,Zr,Zs,Zt,Zu,Zv,Zw,Jj,Jk,Jl,Jn,Jp,Jv,Jx,Wj,Be,zwe.eq_1,zzP.eq_1,zyj.eq_1,Uo.eq_1,key])
 ·rw [k1];(sym=>simp [Qb,Qd,Qe,Qj,Qr,Y1,Y5,Y7,Y9,Za,Zb,Zc,Ze,Zg,Zh,Zi,Zj,Zk,Zl,Zm,Zr,Zs,Zt,Zu,Zv,Zw,Jj,Jk,Jn,Jq,Jv,Jx,Wj,Be,zwe.eq_1,zzP.eq_1,zyj.eq_1,Uo.eq_1,key])
theorem zvq (l:List (Int×Int)) (b f:Bool) (id r:Int) (hl:l.length<1000000):∀ (m k:Nat) (out:List (Int×Int)),k+m=9→out.length≤k→∀ st,agc 0 [0,1,2,7,8] st=some ⟨[(0,.data b 2 (mbs l) f),(1,.int .i64 id),(2,.int .i64 r),(7,.own 0 0 0 out.length out.length),(8,.int .i64 k)],[⟨2,0,true,mbs out⟩]⟩→
  aE G FT 0 YF st=some (.exit 0,⟨[(0,.data b 2 (mbs l) f),(1,.int .i64 id),(2,.int .i64 r),(7,.own 0 0 0 (out++ros (DU (zg l) id r) m k).length (out++ros (DU (zg l) id r) m k).length),(8,.int .i64 9),(11,.bool false)],[⟨2,0,true,mbs (out++ros (DU (zg l) id r) m k)⟩]⟩):=by
 intro m
 induction m with
 | zero=>
  intro k out hk ho st hst
  rw [YF,zn,hst]
  obtain rfl:k=9:=by omega
  have e9:((9:Nat):Int)=9:=rfl
  rw [ros,List.append_nil]
  (sym=>simp [Qa,Qd,Qe,Qi,Qj,Qr,Qt,Xa,Yb,Y9,Za,Zb,Zc,Ze,Zg,Zh,Zt,Zv,Zw,Z3,Jj,Jk,Jm,Jr,Ju,Jv,Nm,Be,Bh,zjS.eq_1,zj7.eq_1,zja.eq_1,zjF.eq_1,zjd.eq_1,zjq.eq_1,zka.eq_1,oV.eq_1,e9])
 | succ m ih=>
  intro k out hk ho st hst
  have hlt':(k:Int)≤8:=by omega
  have hw:=zH (n:=k) (by omega)
  have hR:=fun b f=>Ps G l b f k hl
  have hlo:=yM out
  have b1:(out.length+1) * 16≤140737488355328:=by omega
  have n1:out.length+1≤out.length↔False:=by simp
  have tk:List.take out.length (mbs out)=mbs out:=List.take_of_length_le (by omega)
  rw [ros]
  rw [YF] at ih
  rw [YF,zn,hst]
  have hcast:((k+1:Nat):Int)=(k:Int)+1:=by omega
  by_cases hid:(k:Int)=id
  ·have hs:DU (zg l) id r k=r:=by rw [DU,if_pos hid]
   have hl2:id≤8:=by omega
   have hR2:∀ b f,aP G FT uI [.data b 2 (mbs l) f,.int .i64 id]=some (.int .i64 (zg l id)):=fun b f=>Ps G l b f id hl
   have hw2:IntKind.i64.wrap (id+1)=((k+1:Nat):Int):=by rw [← hid];exact hw
   rw [hs]
   by_cases hr:r=0
   ·have ih:=ih (k+1) out (by omega) (by omega)
    rw [hcast] at ih
    rw [if_neg (by simp [hr])]
    generalize out++ros (DU (zg l) id r) m ((k:Int)+1)=R at ih ⊢
    rw [← hcast] at ih
    rw [hr] at ih
    (sym=>simp [Qc,Qd,Qe,Qi,Qj,Qm,Qn,Qo,Qr,Qt,Xa,X5,X8,X9,Yb,Y9,Za,Zb,Zc,Ze,Zg,Zh,Zo,Zt,Zv,Zw,Z3,Jj,Jk,Jn,Jo,Jr,Js,Jv,V6,V9,Wd,We,Nl,Nw,Be,zjS.eq_1,zj7.eq_1,zja.eq_1,zjF.eq_1,zjd.eq_1,zjq.eq_1,zka.eq_1,oV.eq_1,hlt',hl2,hR,hR2,hw2,hid,hr,hw];tactic=>(
     refine ih _ ?_
     (sym=>simp [Y9,Za,Zb,Ze,Zk,Zl,Zm,Zn,Zv,Zw,Zx,Zy,Zz,Z0,Z3,Us,Ux,U0,U4,U5,U6,Vb,Ve,Vk,Vm,Vo,Vp,Vq,Vr,Vs,Vt,Vu,Vv,Vw,Vx,Vy,Vz,V0,Hh,Hp,Hv,Hw,H1,H5,H6,Nl,No,Nx,hlo,hid,hw,hw2])))
   ·have ih:=ih (k+1) (out++[((k:Int),r)]) (by omega) (by simp;omega)
    rw [hcast,List.append_assoc,List.singleton_append] at ih
    rw [if_pos hr]
    generalize out++(((k:Int),r)::ros (DU (zg l) id r) m ((k:Int)+1))=R at ih ⊢
    rw [← hcast] at ih
    have hla:(out++[((k:Int),r)]).length=out.length+1:=by simp
    rw [hla,Iq,zk5] at ih
    (sym=>simp [Qc,Qd,Qe,Qi,Qj,Qm,Qn,Qo,Qr,Qt,Qx,Qy,Qz,Q0,Q1,Q2,Xa,X0,X5,X8,X9,Yb,Yj,Yk,Y2,Y9,Za,Zb,Zc,Ze,Zg,Zh,Zm,Zn,Zo,Zt,Zv,Zw,Zx,Zy,Zz,Z0,Jj,Jk,Jn,Jo,Jr,Js,Jv,J1,Kv,Kx,K8,K9,Ua,Ub,Uc,Ud,Ue,Uf,Ug,V6,V9,Wd,We,Hh,Hi,Hk,Ho,Hp,Hq,Hr,Hs,Ht,Hu,Hv,Hw,H2,H3,H8,Ng,Nh,Nl,Nm,No,Nx,Nz,N2,Be,Bg,zjS.eq_1,zj7.eq_1,zja.eq_1,zjF.eq_1,zjd.eq_1,zjq.eq_1,zka.eq_1,oV.eq_1,hlt',hl2,hR,hR2,hw2,hid,hr,hw,hlo,b1,n1,tk];tactic=>(
     refine ih _ ?_
     (sym=>simp [Y9,Za,Zb,Ze,Zk,Zl,Zm,Zn,Zv,Zw,Zx,Zy,Zz,Z0,Z3,Us,Ux,U0,U4,U5,U6,Vb,Ve,Vk,Vm,Vo,Vp,Vq,Vr,Vs,Vt,Vu,Vv,Vw,Vx,Vy,Vz,V0,Hh,Hp,Hv,Hw,H1,H5,H6,Nl,No,Nx,hlo,hid,hw,hw2])))
  ·have hs:DU (zg l) id r k=zg l k:=by rw [DU,if_neg hid]
   have hl2:True:=trivial
   have hR2:True:=trivial
   have hw2:True:=trivial
   rw [hs]
   by_cases hr:zg l k=0
   ·have ih:=ih (k+1) out (by omega) (by omega)
    rw [hcast] at ih
    rw [if_neg (by simp [hr])]
    generalize out++ros (DU (zg l) id r) m ((k:Int)+1)=R at ih ⊢
    rw [← hcast] at ih
    (sym=>simp [Qc,Qd,Qe,Qi,Qj,Qm,Qn,Qo,Qr,Qt,Xa,X5,X8,X9,Yb,Y9,Za,Zb,Zc,Ze,Zg,Zh,Zo,Zt,Zv,Zw,Z3,Jj,Jk,Jn,Jo,Jr,Js,Jv,V6,V9,Wd,We,Nl,Nm,Nw,Be,zjS.eq_1,zj7.eq_1,zja.eq_1,zjF.eq_1,zjd.eq_1,zjq.eq_1,zka.eq_1,oV.eq_1,hlt',hl2,hR,hR2,hw2,hid,hr,hw];tactic=>(
     refine ih _ ?_
     (sym=>simp [Y9,Za,Zb,Ze,Zk,Zl,Zm,Zn,Zv,Zw,Zx,Zy,Zz,Z0,Z3,Us,Ux,U0,U4,U5,U6,Vb,Ve,Vk,Vm,Vo,Vp,Vq,Vr,Vs,Vt,Vu,Vv,Vw,Vx,Vy,Vz,V0,Hh,Hp,Hv,Hw,H1,H5,H6,Nl,No,Nx,hlo,hw])))
   ·have ih:=ih (k+1) (out++[((k:Int),zg l k)]) (by omega) (by simp;omega)
    rw [hcast,List.append_assoc,List.singleton_append] at ih
    rw [if_pos hr]
    generalize out++(((k:Int),zg l k)::ros (DU (zg l) id r) m ((k:Int)+1))=R at ih ⊢
    rw [← hcast] at ih
    have hla:(out++[((k:Int),zg l k)]).length=out.length+1:=by simp
    rw [hla,Iq,zk5] at ih
    (sym=>simp [Qc,Qd,Qe,Qi,Qj,Qm,Qn,Qo,Qr,Qt,Qx,Qy,Qz,Q0,Q1,Q2,Xa,X0,X5,X8,X9,Yb,Yj,Yk,Y2,Y9,Za,Zb,Zc,Ze,Zg,Zh,Zm,Zn,Zo,Zt,Zv,Zw,Zx,Zy,Zz,Z0,Z3,Jj,Jk,Jn,Jo,Jr,Js,Jv,J1,Kv,Kx,K8,K9,Ua,Ub,Uc,Ud,Ue,Uf,Ug,V6,V9,Wd,We,Hh,Hi,Hk,Ho,Hp,Hq,Hr,Hs,Ht,Hu,Hv,Hw,H2,H3,H8,Ng,Nh,Nl,Nm,No,Nx,Nz,N2,Be,Bg,zjS.eq_1,zj7.eq_1,zja.eq_1,zjF.eq_1,zjd.eq_1,zjq.eq_1,zka.eq_1,oV.eq_1,hlt',hl2,hR,hR2,hw2,hid,hr,hw,hlo,b1,n1,tk];tactic=>(
     refine ih _ ?_
     (sym=>simp [Y9,Za,Zb,Ze,Zk,Zl,Zm,Zn,Zv,Zw,Zx,Zy,Zz,Z0,Z3,Us,Ux,U0,U4,U5,U6,Vb,Ve,Vk,Vm,Vo,Vp,Vq,Vr,Vs,Vt,Vu,Vv,Vw,Vx,Vy,Vz,V0,Hh,Hp,Hv,Hw,H1,H5,H6,Nl,No,Nx,hlo,hw])))
theorem zpg (l:List (Int×Int)) (b f:Bool) (id r:Int) (hl:l.length<1000000):aP G FT SC [.data b 2 (mbs l) f,.int .i64 id,.int .i64 r]=some (.data false 2 (mbs (uT l id r)) false):=by
 have key:=zvq G l b f id r hl 8 1 [] (by omega) (by simp)
 have e1:((1:Nat):Int)=1:=rfl
 rw [e1,List.nil_append,← show uT l id r=ros (DU (zg l) id r) 8 1 from rfl] at key
 simp only [uP,List.length_nil] at key
 have hlw:=yM (uT l id r)
 have tk:List.take (uT l id r).length (mbs (uT l id r))=mbs (uT l id r):=List.take_of_length_le (by omega)
 unfold aP
 rw [zg1]
 (sym=>simp [Qd,Qe,Qj,Qr,Qs,Y1,Y9,Za,Zb,Zc,Ze,Zg,Zh,Zi,Zj,Zk,Zl,Zm,Zr,Zs,Zv,Zw,Jj,Jk,Jn,Jv,Hv,Be,zDO.eq_1,zEn.eq_1,zDg.eq_1,zwD.eq_1,Sg.eq_1,e1];tactic=>(
  rw [key _ ?hst]
  case hst=>(sym=>simp [Y9,Za,Zb,Ze,Zk,Zl,Zm,Zn,Zv,Zw,Zx,Zy,Zz,Z0,Z3,Us,Ux,U0,U4,U5,U6,Vb,Ve,Vk,Vm,Vo,Vp,Vq,Vr,Vs,Vt,Vu,Vv,Vw,Vx,Vy,Vz,V0,Hh,Hp,Hv,Hw,H1,H5,H6,Nl,No,Nx])
  (sym=>simp [Qb,Qd,Qe,Qi,Qr,Y5,Y7,Y9,Za,Zb,Zc,Ze,Zg,Zh,Zt,Zu,Zv,Zw,Zx,Zy,Zz,Z0,Jj,Jk,Jq,Jv,Jx,Wf,Hh,Hs,H8,Ng,Nz,Be,hlw,tk])))
theorem IU {l:List (Int×Int)} (hm:y5 l=true) (id:Int):zK l id=decide (zg l id≠0):=by
 rw [zK,hm,Bool.true_and]
 by_cases h:idB id=true
 ·rw [h,Bool.true_and]
 ·have h':idB id=false:=by simpa using h
  rw [h',Bool.false_and]
  have:zg l id=0:=by
   rw [idB] at h
   simp only [Bool.and_eq_true,decide_eq_true_eq] at h
   by_cases h1:1≤id
   ·exact KZ l 0 hm id (by omega)
   ·exact ZW l 0 hm id (by omega)
  simp [this]
theorem zBv (l:List (Int×Int)) (b f:Bool) (id r:Int) (hl:l.length<1000000):aP G FT Ha [.data b 2 (mbs l) f,.int .i64 id,.int .i64 r]=some (.tup [.data false 2 (mbs (j3 l id r).1) false,.int .i64 (j3 l id r).2]):=by
 have hM:=fun b f=>zbD G l b f hl
 have hR:=fun b f=>Ps G l b f id hl
 have hW:=fun b f=>zpg G l b f id r hl
 unfold aP j3
 rw [zf0]
 cases hm:y5 l with
 | false=>rw [if_neg (by simp),uP];(sym=>simp [Qb,Qd,Qe,Qf,Qg,Qi,Qj,Qm,Qn,Qo,Qr,Qt,Qu,Xd,Y1,Y6,Y7,Y9,Za,Zb,Zc,Ze,Zg,Zh,Zi,Zj,Zk,Zl,Zm,Zo,Zr,Zs,Zt,Zu,Zv,Zw,Z3,Jb,Jj,Jk,Jl,Jr,Jv,Jx,V9,Wd,We,Wg,Wi,Wj,Wp,Wq,Nw,Nx,Be,zdK.eq_1,zdQ.eq_1,zdO.eq_1,zdV.eq_1,zdA.eq_1,zdN.eq_1,uH.eq_1,hM,hm])
 | true=>
  by_cases h1:id<1
  ·rw [if_neg (by simp [idB];omega),uP];(sym=>simp [Qb,Qd,Qe,Qf,Qg,Qi,Qj,Qm,Qn,Qo,Qr,Qt,Qu,Xa,Xd,Ya,Y1,Y6,Y7,Y9,Za,Zb,Zc,Ze,Zg,Zh,Zi,Zj,Zk,Zl,Zm,Zo,Zr,Zs,Zt,Zu,Zv,Zw,Z3,Jb,Jj,Jk,Jl,Jr,Jv,Jx,V9,Wd,We,Wg,Wi,Wj,Wp,Wq,Nl,Nw,Nx,Be,zdK.eq_1,zdQ.eq_1,zdO.eq_1,zdV.eq_1,zdA.eq_1,zdN.eq_1,uH.eq_1,hM,hm,h1])
  by_cases h8:8<id
  ·rw [if_neg (by simp [idB];omega),uP];(sym=>simp [Qb,Qd,Qe,Qf,Qg,Qi,Qj,Qm,Qn,Qo,Qr,Qt,Qu,Xa,Xd,Ya,Yc,Y1,Y6,Y7,Y9,Za,Zb,Zc,Ze,Zg,Zh,Zi,Zj,Zk,Zl,Zm,Zo,Zr,Zs,Zt,Zu,Zv,Zw,Z3,Jb,Jj,Jk,Jl,Jr,Jv,Jx,V9,Wd,We,Wg,Wi,Wj,Wp,Wq,Nl,Nm,Nw,Nx,Be,zdK.eq_1,zdQ.eq_1,zdO.eq_1,zdV.eq_1,zdA.eq_1,zdN.eq_1,uH.eq_1,hM,hm,h1,h8])
  by_cases r1:r<1
  ·rw [if_neg (by simp [UE];omega),uP];(sym=>simp [Qb,Qd,Qe,Qf,Qg,Qi,Qj,Qm,Qn,Qo,Qr,Qt,Qu,Xa,Xd,Ya,Yc,Y1,Y6,Y7,Y9,Za,Zb,Zc,Ze,Zg,Zh,Zi,Zj,Zk,Zl,Zm,Zo,Zr,Zs,Zt,Zu,Zv,Zw,Z3,Jb,Jj,Jk,Jl,Jr,Jv,Jx,V9,Wd,We,Wg,Wi,Wj,Wp,Wq,Nl,Nm,Nw,Nx,Be,zdK.eq_1,zdQ.eq_1,zdO.eq_1,zdV.eq_1,zdA.eq_1,zdN.eq_1,uH.eq_1,hM,hm,h1,h8,r1])
  by_cases r2:2<r
  ·rw [if_neg (by simp [UE];omega),uP];(sym=>simp [Qb,Qd,Qe,Qf,Qg,Qi,Qj,Qm,Qn,Qo,Qr,Qt,Qu,Xa,Xd,Ya,Yc,Y1,Y6,Y7,Y9,Za,Zb,Zc,Ze,Zg,Zh,Zi,Zj,Zk,Zl,Zm,Zo,Zr,Zs,Zt,Zu,Zv,Zw,Z3,Jb,Jj,Jk,Jl,Jr,Jv,Jx,V9,Wd,We,Wg,Wi,Wj,Wp,Wq,Nl,Nm,Nw,Nx,Be,zdK.eq_1,zdQ.eq_1,zdO.eq_1,zdV.eq_1,zdA.eq_1,zdN.eq_1,uH.eq_1,hM,hm,h1,h8,r1,r2])
  rw [if_pos ⟨rfl,by simp [idB];omega,by simp [UE];omega⟩]
  by_cases hr:zg l id=0
  ·rw [if_pos hr];(sym=>simp [Qb,Qc,Qd,Qe,Qf,Qg,Qi,Qj,Qm,Qn,Qo,Qr,Qt,Qu,Xa,Xd,X9,Ya,Yc,Y1,Y6,Y7,Y9,Za,Zb,Zc,Ze,Zg,Zh,Zi,Zj,Zk,Zl,Zm,Zo,Zr,Zs,Zt,Zu,Zv,Zw,Z3,Jb,Jj,Jk,Jr,Jv,Jx,V6,V9,Wd,We,Wg,Wi,Wj,Wp,Wq,Nl,Nm,Nw,Nx,Be,zdK.eq_1,zdQ.eq_1,zdO.eq_1,zdV.eq_1,zdA.eq_1,zdN.eq_1,uH.eq_1,hM,hm,h1,h8,r1,r2,hR,hr,hW])
  ·rw [if_neg hr,uP];(sym=>simp [Qb,Qc,Qd,Qe,Qf,Qg,Qi,Qj,Qm,Qn,Qo,Qr,Qt,Qu,Xa,Xd,X9,Ya,Yc,Y1,Y6,Y7,Y9,Za,Zb,Zc,Ze,Zg,Zh,Zi,Zj,Zk,Zl,Zm,Zo,Zr,Zs,Zt,Zu,Zv,Zw,Z3,Jb,Jj,Jk,Jl,Jr,Jv,Jx,V6,V9,Wd,We,Wg,Wi,Wj,Wp,Wq,Nm,Nw,Nx,Be,zdK.eq_1,zdQ.eq_1,zdO.eq_1,zdV.eq_1,zdA.eq_1,zdN.eq_1,uH.eq_1,hM,hm,h1,h8,r1,r2,hR,hr])
theorem zx0 (l:List (Int×Int)) (b f:Bool) (id:Int) (hl:l.length<1000000):aP G FT LU [.data b 2 (mbs l) f,.int .i64 id]=some (.tup [.data false 2 (mbs (u6 l id).1) false,.int .i64 (u6 l id).2]):=by
 have hM:=fun b f=>zbD G l b f hl
 have hR:=fun b f=>Ps G l b f id hl
 have hW:=fun b f=>zpg G l b f id 0 hl
 unfold aP u6
 rw [zeG]
 cases hm:y5 l with
 | false=>rw [if_neg (by simp),uP];(sym=>simp [Qb,Qd,Qe,Qi,Qj,Qm,Qn,Qo,Qr,Qt,Xd,Y1,Y6,Y7,Y9,Za,Zb,Zc,Ze,Zg,Zh,Zi,Zj,Zk,Zl,Zm,Zo,Zr,Zs,Zt,Zu,Zv,Zw,Jj,Jk,Jl,Jr,Jv,Jx,V9,Wd,We,Wg,Wi,Wj,Wp,Wq,Nx,Be,zsE.eq_1,ztv.eq_1,zro.eq_1,zte.eq_1,zsQ.eq_1,zrj.eq_1,gG.eq_1,hM,hm])
 | true=>
  rw [if_pos rfl,IU hm]
  by_cases hr:zg l id=0
  ·rw [if_neg (by simp [hr]),uP];(sym=>simp [Qb,Qc,Qd,Qe,Qi,Qj,Qm,Qn,Qo,Qr,Qt,Xa,Xd,X8,Y1,Y6,Y7,Y9,Za,Zb,Zc,Ze,Zg,Zh,Zi,Zj,Zk,Zl,Zm,Zo,Zr,Zs,Zt,Zu,Zv,Zw,Z3,Jj,Jk,Jl,Jr,Jv,Jx,V6,V9,Wd,We,Wg,Wi,Wj,Wp,Wq,Nl,Nw,Be,zsE.eq_1,ztv.eq_1,zro.eq_1,zte.eq_1,zsQ.eq_1,zrj.eq_1,gG.eq_1,hM,hm,hR,hr])
  ·rw [if_pos (by simp [hr])];(sym=>simp [Qb,Qc,Qd,Qe,Qi,Qj,Qm,Qn,Qo,Qr,Qt,Xa,Xd,X8,Y1,Y6,Y7,Y9,Za,Zb,Zc,Ze,Zg,Zh,Zi,Zj,Zk,Zl,Zm,Zo,Zr,Zs,Zt,Zu,Zv,Zw,Z3,Jj,Jk,Jr,Jv,Jx,V6,V9,Wd,We,Wg,Wi,Wj,Wp,Wq,Nm,Nw,Be,zsE.eq_1,ztv.eq_1,zro.eq_1,zte.eq_1,zsQ.eq_1,zrj.eq_1,gG.eq_1,hM,hm,hR,hr,hW])
theorem zvC (l:List (Int×Int)) (b f:Bool) (id r:Int) (hl:l.length<1000000):aP G FT NJ [.data b 2 (mbs l) f,.int .i64 id,.int .i64 r]=some (.tup [.data false 2 (mbs (yK l id r).1) false,.int .i64 (yK l id r).2]):=by
 have hM:=fun b f=>zbD G l b f hl
 have hR:=fun b f=>Ps G l b f id hl
 have hW:=fun b f=>zpg G l b f id r hl
 unfold aP yK
 rw [zcF]
 cases hm:y5 l with
 | false=>rw [if_neg (by simp),uP];(sym=>simp [Qb,Qd,Qe,Qf,Qg,Qi,Qj,Qm,Qn,Qo,Qr,Qt,Qu,Xd,Y1,Y6,Y7,Y9,Za,Zb,Zc,Ze,Zg,Zh,Zi,Zj,Zk,Zl,Zm,Zo,Zr,Zs,Zt,Zu,Zv,Zw,Z3,Jb,Jj,Jk,Jl,Jr,Jv,Jx,V9,Wd,We,Wg,Wi,Wj,Wp,Wq,Nw,Nx,Be,zj6.eq_1,zjJ.eq_1,zjx.eq_1,zj3.eq_1,zj9.eq_1,zjY.eq_1,uN.eq_1,hM,hm])
 | true=>
  by_cases r1:r<1
  ·rw [if_neg (by simp [UE];omega),uP];(sym=>simp [Qb,Qd,Qe,Qf,Qg,Qi,Qj,Qm,Qn,Qo,Qr,Qt,Qu,Xa,Xd,Ya,Y1,Y6,Y7,Y9,Za,Zb,Zc,Ze,Zg,Zh,Zi,Zj,Zk,Zl,Zm,Zo,Zr,Zs,Zt,Zu,Zv,Zw,Z3,Jb,Jj,Jk,Jl,Jr,Jv,Jx,V9,Wd,We,Wg,Wi,Wj,Wp,Wq,Nl,Nw,Nx,Be,zj6.eq_1,zjJ.eq_1,zjx.eq_1,zj3.eq_1,zj9.eq_1,zjY.eq_1,uN.eq_1,hM,hm,r1])
  by_cases r2:2<r
  ·rw [if_neg (by simp [UE];omega),uP];(sym=>simp [Qb,Qd,Qe,Qf,Qg,Qi,Qj,Qm,Qn,Qo,Qr,Qt,Qu,Xa,Xd,Ya,Yc,Y1,Y6,Y7,Y9,Za,Zb,Zc,Ze,Zg,Zh,Zi,Zj,Zk,Zl,Zm,Zo,Zr,Zs,Zt,Zu,Zv,Zw,Z3,Jb,Jj,Jk,Jl,Jr,Jv,Jx,V9,Wd,We,Wg,Wi,Wj,Wp,Wq,Nl,Nm,Nw,Nx,Be,zj6.eq_1,zjJ.eq_1,zjx.eq_1,zj3.eq_1,zj9.eq_1,zjY.eq_1,uN.eq_1,hM,hm,r1,r2])
  rw [if_pos ⟨rfl,by simp [UE];omega⟩,IU hm]
  by_cases hr:zg l id=0
  ·rw [if_neg (by simp [hr]),uP];(sym=>simp [Qb,Qc,Qd,Qe,Qf,Qg,Qi,Qj,Qm,Qn,Qo,Qr,Qt,Qu,Xa,Xd,X8,Ya,Yc,Y1,Y6,Y7,Y9,Za,Zb,Zc,Ze,Zg,Zh,Zi,Zj,Zk,Zl,Zm,Zo,Zr,Zs,Zt,Zu,Zv,Zw,Z3,Jb,Jj,Jk,Jl,Jr,Jv,Jx,V6,V9,Wd,We,Wg,Wi,Wj,Wp,Wq,Nl,Nm,Nw,Nx,Be,zj6.eq_1,zjJ.eq_1,zjx.eq_1,zj3.eq_1,zj9.eq_1,zjY.eq_1,uN.eq_1,hM,hm,r1,r2,hR,hr])
  ·rw [if_pos (by simp [hr])];(sym=>simp [Qb,Qc,Qd,Qe,Qf,Qg,Qi,Qj,Qm,Qn,Qo,Qr,Qt,Qu,Xa,Xd,X8,Ya,Yc,Y1,Y6,Y7,Y9,Za,Zb,Zc,Ze,Zg,Zh,Zi,Zj,Zk,Zl,Zm,Zo,Zr,Zs,Zt,Zu,Zv,Zw,Z3,Jb,Jj,Jk,Jr,Jv,Jx,V6,V9,Wd,We,Wg,Wi,Wj,Wp,Wq,Nm,Nw,Nx,Be,zj6.eq_1,zjJ.eq_1,zjx.eq_1,zj3.eq_1,zj9.eq_1,zjY.eq_1,uN.eq_1,hM,hm,r1,r2,hR,hr,hW])
section
variable (q1 q2:List (Int×Int)) (b1 f1 b2 f2:Bool) (hl:q1.length=q2.length) (hb:q1.length<1000000)
include hl hb
theorem znG:∀ (m i:Nat),i+m=q1.length→
  aE G FT 0 YN ⟨[(0,.data b1 2 (mbs q1) f1),(1,.data b2 2 (mbs q2) f2),(5,.int .i64 i)],[]⟩=
   if q1.drop i=q2.drop i then some (.exit 0,⟨[(0,.data b1 2 (mbs q1) f1),(1,.data b2 2 (mbs q2) f2),(5,.int .i64 q1.length),(14,.bool false)],[]⟩) else some (.ret,⟨[(4,.bool false)],[]⟩):=by
 intro m
 induction m with
 | zero=>
  intro i hi
  obtain rfl:i=q1.length:=by omega
  rw [YN,zn,if_pos (by rw [List.drop_length,hl,List.drop_length])]
  have h4:¬ (q1.length:Int)<q1.length:=by omega
  (sym=>simp [Qa,Qd,Qe,Qi,Qr,Qt,Xa,Xy,Ya,Yh,Y9,Za,Zb,Zc,Ze,Zg,Zh,Zk,Zl,Zt,Zv,Zw,Z3,Jj,Jk,Jm,Jr,Ju,Jv,Ux,U0,U4,U5,Vb,Ve,Vo,Vq,Vr,Vt,Vv,Vw,Vy,Vz,V0,Hq,Hw,H1,Nm,No,Be,zm2.eq_1,znB.eq_1,zom.eq_1,zmA.eq_1,YH.eq_1,h4,yM])
 | succ m ih=>
  intro i hi
  have ih:=ih (i+1) (by omega)
  have hlt:i<q1.length:=by omega
  have hlt2:i<q2.length:=by omega
  have h4:(i:Int)<q1.length:=by omega
  have h5:(i:Int)<q2.length:=by omega
  have g1:=Tf hlt
  have g2:=Tf hlt2
  have e1:q1.drop i=q1[i]::q1.drop (i+1):=List.drop_eq_getElem_cons hlt
  have e2:q2.drop i=q2[i]::q2.drop (i+1):=List.drop_eq_getElem_cons hlt2
  have hw:=zH (n:=i) (by omega)
  rw [YN] at ih
  rw [YN,zn,e1,e2]
  generalize q1[i]=x at g1 e1 ⊢
  generalize q2[i]=y at g2 e2 ⊢
  obtain ⟨a,r⟩:=x
  obtain ⟨a2,r2⟩:=y
  simp only at g1 g2
  by_cases ha:a=a2
  ·by_cases hr:r=r2
   ·subst ha hr
    simp only [List.cons.injEq,true_and]
    rw [← ih]
    (sym=>simp [Qc,Qd,Qe,Qi,Qj,Qr,Qt,Q4,Xa,Xb,Xs,Xy,X5,Ya,Yh,Ys,Yu,Yy,Y9,Za,Zb,Zc,Ze,Zg,Zh,Zk,Zl,Zm,Zn,Zt,Zv,Zw,Z3,Jg,Jj,Jk,Jn,Jo,Jr,Js,Jv,Kh,Kk,Kl,Km,Ux,U0,U4,U5,Vb,Ve,Vo,Vq,Vr,Vt,Vv,Vw,Vy,Vz,V0,Ho,Hq,Hs,Hw,H1,Ni,Nk,Nl,No,Nw,Be,Ma,Mb,Md,Mf,zm2.eq_1,znB.eq_1,zom.eq_1,zmA.eq_1,YH.eq_1,h4,h5,yM,g1,g2,hw])
   ·rw [if_neg (fun h=>hr (congrArg Prod.snd (List.cons.inj h).1))]
    (sym=>simp [Qb,Qc,Qd,Qe,Qi,Qj,Qr,Qt,Q4,Xa,Xb,Xs,Xy,Ya,Yh,Ys,Yu,Yy,Y9,Za,Zb,Zc,Ze,Zg,Zh,Zk,Zl,Zm,Zn,Zt,Zv,Zw,Jg,Jj,Jk,Jl,Jn,Jp,Jr,Jt,Jv,Kh,Kk,Kl,Km,Ux,U0,U4,U5,Vb,Ve,Vo,Vq,Vr,Vt,Vv,Vw,Vy,Vz,V0,Ho,Hq,Hs,Hw,H1,Ni,Nk,Nl,Nm,No,Nq,Nx,Be,Ma,Mb,Md,Mf,zm2.eq_1,znB.eq_1,zom.eq_1,zmA.eq_1,YH.eq_1,h4,h5,yM,g1,g2,ha,hr,hw])
  ·rw [if_neg (fun h=>ha (congrArg Prod.fst (List.cons.inj h).1))]
   (sym=>simp [Qb,Qc,Qd,Qe,Qi,Qj,Qr,Qt,Q4,Xa,Xb,Xs,Xy,Ya,Yh,Ys,Yu,Yy,Y9,Za,Zb,Zc,Ze,Zg,Zh,Zk,Zl,Zm,Zn,Zt,Zv,Zw,Jg,Jj,Jk,Jl,Jn,Jp,Jr,Jt,Jv,Kh,Kk,Kl,Km,Ux,U0,U4,U5,Vb,Ve,Vo,Vq,Vr,Vt,Vv,Vw,Vy,Vz,V0,Ho,Hq,Hs,Hw,H1,Ni,Nk,Nl,Nm,No,Nr,Nx,Be,Ma,Mb,Md,Mf,zm2.eq_1,znB.eq_1,zom.eq_1,zmA.eq_1,YH.eq_1,h4,h5,yM,g1,g2,ha,hw])
end
theorem zxe (q1 q2:List (Int×Int)) (b1 f1 b2 f2:Bool) (hb:q1.length<1000000):aP G FT JW [.data b1 2 (mbs q1) f1,.data b2 2 (mbs q2) f2]=some (.bool (decide (q1=q2))):=by
 unfold aP
 rw [zgc]
 by_cases hl:q1.length=q2.length
 ·have key:=znG G q1 q2 b1 f1 b2 f2 hl hb q1.length 0 (by omega)
  simp only [List.drop_zero,Int.natCast_zero] at key
  have hl2:((q1.length:Int)=q2.length):=by omega
  by_cases hq:q1=q2
  ·rw [if_pos hq] at key
   have hd:decide (q1=q2)=true:=by simp [hq]
   rw [hd]
   (sym=>simp [Qb,Qc,Qd,Qe,Qi,Qj,Qr,Qt,Xa,Xy,X9,Yh,Y1,Y5,Y7,Y9,Za,Zb,Zc,Ze,Zg,Zh,Zi,Zj,Zk,Zl,Zm,Zr,Zs,Zt,Zu,Zv,Zw,Z3,Jj,Jk,Jn,Jq,Jr,Jv,Jx,Wk,Nl,Nw,Be,zsP.eq_1,zsO.eq_1,zrP.eq_1,zr3.eq_1,zsV.eq_1,Yl.eq_1,key,yM,hl2])
  ·rw [if_neg hq] at key
   have hd:decide (q1=q2)=false:=by simp [hq]
   rw [hd]
   (sym=>simp [Qc,Qd,Qe,Qi,Qj,Qr,Qt,Xa,Xy,X9,Yh,Y1,Y5,Y7,Y9,Za,Zb,Zc,Ze,Zg,Zh,Zi,Zj,Zk,Zl,Zm,Zr,Zs,Zt,Zu,Zv,Zw,Z3,Jj,Jk,Jl,Jn,Jp,Jr,Jv,Jx,Wk,Nl,Nw,Be,zsP.eq_1,zsO.eq_1,zrP.eq_1,zr3.eq_1,zsV.eq_1,Yl.eq_1,key,yM,hl2])
 ·have hd:decide (q1=q2)=false:=by simp;intro h;exact hl (by rw [h])
  rw [hd]
  have hl2:¬ ((q1.length:Int)=q2.length):=by omega
  (sym=>simp [Qb,Qd,Qe,Qi,Qj,Qr,Qt,Xa,Xy,X9,Yh,Y1,Y5,Y7,Y9,Za,Zb,Zc,Ze,Zg,Zh,Zi,Zj,Zk,Zl,Zm,Zr,Zs,Zt,Zu,Zv,Zw,Jj,Jk,Jl,Jr,Jv,Jx,Wk,Nm,Nx,Be,zsP.eq_1,zsO.eq_1,zrP.eq_1,zr3.eq_1,zsV.eq_1,Yl.eq_1,yM,hl2])
end
end Go.Proofs.YthcnhibjddomdaaGreat
namespace Go.Proofs.YthcnhibjddomdaaGreat
section
open Go
theorem zbc:∀ (l seen:List Int),(ZU seen l).1=true↔(∀ x ∈ l,1≤x∧x≤8∧x ∉ seen)∧l.Nodup
 | [],seen=>by simp [ZU]
 | y::l,seen=>by
  unfold ZU
  by_cases h:RN y=true∧y ∉ seen
  ·rw [if_pos h,zbc l (y::seen)]
   have h':=h
   rw [Si] at h'
   simp only [List.mem_cons,not_or,List.nodup_cons]
   constructor
   ·rintro ⟨h1,h2⟩
    refine ⟨fun x hx=> ?_,fun hy=> ?_,h2⟩
    ·rcases hx with rfl | hx
     ·exact ⟨h'.1.1,h'.1.2,h'.2⟩
     ·exact ⟨(h1 x hx).1,(h1 x hx).2.1,(h1 x hx).2.2.2⟩
    ·exact (h1 y hy).2.2.1 rfl
   ·rintro ⟨h1,h2,h3⟩
    exact ⟨fun x hx=>⟨(h1 x (.inr hx)).1,(h1 x (.inr hx)).2.1,fun e=>h2 (e ▸ hx),(h1 x (.inr hx)).2.2⟩,h3⟩
  ·rw [if_neg h]
   simp only [Bool.false_eq_true,false_iff]
   rintro ⟨h1,_⟩
   have:=h1 y (by simp)
   exact h ⟨(Si y).2 ⟨this.1,this.2.1⟩,this.2.2⟩
def allT (h:Int) (q:List Int):List Int:=if h=0 then [] else h::q
def ofT:List Int→Int×List Int
 | []=>(0,[])
 | x::l=>(x,l)
def zaA (l:List Int):Prop:=(∀ x ∈ l,1≤x∧x≤8)∧l.Nodup
theorem WM (h:Int) (q:List Int):Yf h q=true↔zaA (allT h q)∧(h=0→q=[]):=by
 unfold Yf allT zaA
 by_cases e:h=0
 ·simp [e]
 ·rw [if_neg e,if_neg e,zbc]
  simp [e]
theorem zpq {l:List Int} (hl:zaA l):allT (ofT l).1 (ofT l).2=l:=by
 cases l with
 | nil=>rfl
 | cons x l=>
  have:=hl.1 x (by simp)
  exact if_neg (show ¬ x=0 by omega)
theorem zwT {l:List Int} (hl:zaA l):Yf (ofT l).1 (ofT l).2=true:=by
 rw [WM,zpq hl]
 refine ⟨hl,fun e=> ?_⟩
 cases l with
 | nil=>rfl
 | cons x l=>have:=hl.1 x (by simp);simp [ofT] at e;omega
theorem zaA.filter {l:List Int} (hl:zaA l) (p:Int→Bool):zaA (l.filter p):=⟨fun x hx=>hl.1 x (List.mem_filter.1 hx).1,hl.2.filter p⟩
theorem zyz {h:Int} {q:List Int} (ids:List Int) (hm:Yf h q=true):Le h q ids=((ofT ((allT h q).filter fun x=>decide (x ∈ ids))).1,(ofT ((allT h q).filter fun x=>decide (x ∈ ids))).2,0):=by
 have hm':=(WM h q).1 hm
 unfold Le
 rw [if_pos hm]
 by_cases e:h=0
 ·have:=hm'.2 e
  subst this
  simp [e,allT,ofT]
 ·by_cases hi:h ∈ ids
  ·simp [e,hi,allT,ofT]
  ·simp only [e,hi,allT,ne_eq,not_false_eq_true,and_self,if_true,if_false,List.filter_cons,decide_false,Bool.false_eq_true]
   cases q.filter (fun x=>decide (x ∈ ids))<;>rfl
theorem zg8 (x:Int):∀ (l:List Int) (i:Nat),x ∈ l→∃ k:Nat,idxFrom x l i=((i+k:Nat):Int)∧l[k]? =some x∧x ∉ l.take k
 | [],i,h=>by simp at h
 | y::l,i,h=>by
  unfold idxFrom
  by_cases e:x=y
  ·exact ⟨0,by simp [e],by simp [e],by simp⟩
  ·rw [if_neg e]
   obtain ⟨k,h1,h2,h3⟩:=zg8 x l (i+1) (by simpa [e] using h)
   exact ⟨k+1,by rw [h1];congr 1;omega,by simpa using h2,by simp [e,h3]⟩
theorem zli {l:List Int} (hn:l.Nodup) {k:Nat} {x:Int} (hk:l[k]? =some x):l.eraseIdx k=l.filter fun y=> !decide (y=x):=by
 obtain ⟨hlt,rfl⟩:=List.getElem?_eq_some_iff.1 hk
 have e:l=l.take k++l[k]::l.drop (k+1):=by simp
 rw [List.eraseIdx_eq_take_drop_succ]
 generalize l[k]=x at e
 have hn2:(l.take k++x::l.drop (k+1)).Nodup:=by rw [← e];exact hn
 conv=>rhs;rw [e]
 rw [List.filter_append,List.filter_cons]
 simp only [decide_true,Bool.not_true,Bool.false_eq_true,if_false]
 rw [List.nodup_append] at hn2
 obtain ⟨_,h2,h3⟩:=hn2
 rw [List.nodup_cons] at h2
 rw [List.filter_eq_self.2 (fun y hy=>by simpa using h3 y hy x (by simp)),List.filter_eq_self.2 (fun y hy=>by simp;intro e;exact h2.1 (e ▸ hy))]
theorem zna {h:Int} {q:List Int} (id:Int) (hm:Yf h q=true) (hn:RN id=true):WA h q id=((ofT ((allT h q).filter fun x=> !decide (x=id))).1,(ofT ((allT h q).filter fun x=> !decide (x=id))).2,0):=by
 have hm':=(WM h q).1 hm
 have hid:=(Si id).1 hn
 unfold WA
 rw [if_pos ⟨hm,hn⟩]
 by_cases e:h=0
 ·have:=hm'.2 e
  subst this
  have:¬ (0=id):=by omega
  simp [e,this,allT,ofT,idxFrom]
 ·have hg:=hm'.1
  simp only [allT,e,if_false] at hg
  have hnd:=hg.2
  rw [List.nodup_cons] at hnd
  by_cases hh:h=id
  ·subst hh
   rw [if_pos rfl]
   simp only [allT,e,if_false,List.filter_cons,decide_true,Bool.not_true,Bool.false_eq_true]
   rw [List.filter_eq_self.2 (fun y hy=>by simp;intro e;exact hnd.1 (e ▸ hy))]
   cases q<;>rfl
  ·rw [if_neg hh]
   simp only [allT,e,hh,if_false,List.filter_cons,decide_false,Bool.not_false,if_true,ofT]
   have hmem:=Lc id q 0
   by_cases hi:id ∈ q
   ·rw [if_pos (hmem.2 hi)]
    obtain ⟨k,h1,h2,_⟩:=zg8 id q 0 hi
    rw [h1]
    simp only [Nat.zero_add,Int.toNat_natCast]
    rw [zli hnd.2 h2]
   ·rw [if_neg (fun hx=>hi (hmem.1 hx))]
    rw [List.filter_eq_self.2 (fun y hy=>by simp;intro e;exact hi (e ▸ hy))]
end
end Go.Proofs.YthcnhibjddomdaaGreat
