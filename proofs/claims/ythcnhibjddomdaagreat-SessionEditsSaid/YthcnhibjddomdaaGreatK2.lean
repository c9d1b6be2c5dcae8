/- Parts of the proof: M2. Conditions: as each statement says. -/
import Derived.Test.YthcnhibjddomdaaGreatK1
import Derived.Laws.MakeOwn
import Derived.Lib.ConvBytes
import Derived.Orders
import Derived.LoopN
set_option maxRecDepth 100000
set_option maxHeartbeats 8000000
set_option linter.unusedVariables false
set_option linter.unusedSimpArgs false
set_option linter.unusedSectionVars false
namespace Go.Proofs.YthcnhibjddomdaaGreat
open Go Go.RowKit
variable [FrB]
def zQ (Q:AV→Value→Prop) (cs:List AV) (vs:List Value):Prop:=cs.length=vs.length∧∀ (i:Nat) c v,cs[i]? =some c→vs[i]? =some v→Q c v
section
variable {Q Q':AV→Value→Prop} {cs ds:List AV} {vs us:List Value}
theorem zQ.nil:zQ Q [] []:=⟨rfl,fun i c v h=>by simp at h⟩
theorem zQ.mono (h:zQ Q cs vs) (hq:∀ c v,c ∈ cs→Q c v→Q' c v):zQ Q' cs vs:=⟨h.1,fun i c v hc hv=>hq c v (List.mem_of_getElem? hc) (h.2 i c v hc hv)⟩
theorem zQ.append (h:zQ Q cs vs) (k:zQ Q ds us):zQ Q (cs++ds) (vs++us):=by
 refine ⟨by simp [h.1,k.1],fun i c v hc hv=> ?_⟩
 by_cases hi:i<cs.length
 ·rw [List.getElem?_append_left hi] at hc
  rw [List.getElem?_append_left (by rw [← h.1];exact hi)] at hv
  exact h.2 i c v hc hv
 ·rw [List.getElem?_append_right (by omega)] at hc
  rw [List.getElem?_append_right (by rw [← h.1];omega)] at hv
  rw [← h.1] at hv
  exact k.2 _ c v hc hv
theorem zQ.take (h:zQ Q cs vs) (n:Nat):zQ Q (cs.take n) (vs.take n):=by
 refine ⟨by simp [h.1],fun i c v hc hv=> ?_⟩
 rw [List.getElem?_take] at hc hv
 split at hc
 ·rename_i hi;rw [if_pos hi] at hv;exact h.2 i c v hc hv
 ·cases hc
theorem zQ.drop (h:zQ Q cs vs) (n:Nat):zQ Q (cs.drop n) (vs.drop n):=by
 refine ⟨by simp [h.1],fun i c v hc hv=> ?_⟩
 rw [List.getElem?_drop] at hc hv
 exact h.2 _ c v hc hv
def jD (off:Nat) (us vs:List Value):List Value:=vs.take off++us++vs.drop (off+us.length)
theorem zQ.patch (h:zQ Q cs vs) (k:zQ Q ds us) (off:Nat):zQ Q (patch off ds cs) (jD off us vs):=by
 unfold Go.Proofs.YthcnhibjddomdaaGreat.patch jD
 rw [← k.1]
 exact ((h.take off).append k).append (h.drop _)
theorem yA {off:Nat} (h:off+us.length≤vs.length):(jD off us vs).length=vs.length:=by simp [jD];omega
theorem zlO {off:Nat} (h:off+ds.length≤cs.length):(patch off ds cs).length=cs.length:=by simp [patch];omega
theorem yS {off:Nat} (h:off+us.length≤vs.length) (i:Nat):(jD off us vs)[i]? =if off≤i∧i<off+us.length then us[i - off]? else vs[i]? :=by
 unfold jD
 have h1:(vs.take off).length=off:=by simp;omega
 by_cases ha:i<off
 ·rw [if_neg (by omega),List.append_assoc,List.getElem?_append_left (by omega),List.getElem?_take,if_pos ha]
 ·by_cases hb:i<off+us.length
  ·rw [if_pos (by omega),List.append_assoc,List.getElem?_append_right (by omega),h1,List.getElem?_append_left (by omega)]
  ·rw [if_neg (by omega),List.getElem?_append_right (by simp;omega),List.getElem?_drop]
   congr 1
   simp;omega
theorem yz:∀ {es:List (List AV)} {k:Nat},(∀ g ∈ es,g.length=k)→es.flatten.length=es.length * k
 | [],_,_=>by simp
 | g::es,k,h=>by
  rw [List.flatten_cons,List.length_append,h g (by simp),yz (fun g hg=>h g (by simp [hg])),List.length_cons,Nat.add_mul]
  omega
theorem Tz:∀ {es:List (List AV)} {k:Nat},(∀ g ∈ es,g.length=k)→∀ {e j:Nat} {g:List AV},es[e]? =some g→j<k→es.flatten[e * k+j]? =g[j]?
 | [],_,_,e,j,g,h,_=>by simp at h
 | g0::es,k,h,e,j,g,hg,hj=>by
  have h0:=h g0 (by simp)
  cases e with
  | zero=>
   simp at hg
   subst hg
   rw [List.flatten_cons,List.getElem?_append_left (by omega)]
   congr 1;omega
  | succ e=>
   rw [List.flatten_cons,List.getElem?_append_right (by rw [h0,Nat.add_mul];omega)]
   rw [show (e+1) * k+j - g0.length=e * k+j from by rw [h0,Nat.add_mul];omega]
   exact Tz (fun g hg=>h g (by simp [hg])) (by simpa using hg) hj
theorem TT:∀ {es:List (List AV)} {k:Nat},(∀ g ∈ es,g.length=k)→∀ (n:Nat),(es.take n).flatten=es.flatten.take (n * k)
 | [],_,_,n=>by simp
 | g::es,k,h,0=>by simp
 | g::es,k,h,n+1=>by
  have h0:=h g (by simp)
  have e:(n+1) * k=g.length+n * k:=by rw [h0,Nat.add_mul];omega
  rw [List.take_succ_cons,List.flatten_cons,List.flatten_cons,TT (fun g hg=>h g (by simp [hg])) n,e,List.take_length_add_append]
theorem Ph:∀ {es:List (List AV)} {k:Nat},(∀ g ∈ es,g.length=k)→∀ (n:Nat),(es.drop n).flatten=es.flatten.drop (n * k)
 | [],_,_,n=>by simp
 | g::es,k,h,0=>by simp
 | g::es,k,h,n+1=>by
  have h0:=h g (by simp)
  have e:(n+1) * k=g.length+n * k:=by rw [h0,Nat.add_mul];omega
  rw [List.drop_succ_cons,List.flatten_cons,Ph (fun g hg=>h g (by simp [hg])) n,e,List.drop_length_add_append]
theorem DV:∀ {es:List (List AV)} {k:Nat},(∀ g ∈ es,g.length=k)→∀ {e:Nat} {g:List AV} (off:Nat) (ds:List AV),es[e]? =some g→off+ds.length≤k→
  (es.set e (patch off ds g)).flatten=patch (e * k+off) ds es.flatten
 | [],_,_,e,g,_,_,h,_=>by simp at h
 | g0::es,k,h,e,g,off,ds,hg,hle=>by
  have h0:=h g0 (by simp)
  cases e with
  | zero=>
   simp at hg
   subst hg
   rw [List.set_cons_zero,List.flatten_cons,List.flatten_cons]
   unfold patch
   rw [Nat.zero_mul,Nat.zero_add,List.take_append_of_le_length (by omega),List.drop_append_of_le_length (by omega),List.append_assoc,List.append_assoc]
  | succ e=>
   rw [List.set_cons_succ,List.flatten_cons,List.flatten_cons,DV (fun g hg=>h g (by simp [hg])) off ds (by simpa using hg) hle]
   unfold patch
   have e1:(e+1) * k+off=g0.length+(e * k+off):=by rw [h0,Nat.add_mul];omega
   rw [e1,List.take_length_add_append,Nat.add_assoc g0.length,List.drop_length_add_append]
   simp [List.append_assoc]
theorem zn3 (ds g:List AV) (h:ds.length=g.length):patch 0 ds g=ds:=by
 unfold patch
 simp [h]
theorem zcj {es:List (List AV)} {k:Nat} (h:∀ g ∈ es,g.length=k) {e:Nat} {g ds:List AV} (hg:es[e]? =some g) (hd:ds.length=k):(es.set e ds).flatten=patch (e * k) ds es.flatten:=by
 have:=DV h 0 ds hg (by omega)
 rwa [zn3 ds g (by rw [hd,h g (List.mem_of_getElem? hg)]),Nat.add_zero] at this
end
section
variable {ρ:Rho} {w:World} {S O:Nat→Prop}
def uh (ρ:Rho) (w:World) (S O:Nat→Prop) (flat:Bool) (c:AV) (x:Value):Prop:=x.oneCell'=true∧zB ρ w S O c x∧(flat=true→uj w (fun b=>S b∨O b) c x)
theorem uh.adv {ρ':Rho} {w':World} {O':Nat→Prop} {f:Bool} {c:AV} {x:Value} (h:uh ρ w S O f c x) (e:Ext ρ ρ') (a:uB w O w' O'):uh ρ' w' S O' f c x:=⟨h.1,h.2.1.adv e a,fun hf=>(h.2.2 hf).adv a⟩
theorem uh.weak {f f':Bool} {c:AV} {x:Value} (h:uh ρ w S O f c x) (hf:f'=true→f=true):uh ρ w S O f' c x:=⟨h.1,h.2.1,fun h'=>h.2.2 (hf h')⟩
theorem zQ.adv {ρ':Rho} {w':World} {O':Nat→Prop} {f:Bool} {cs:List AV} {vs:List Value} (h:zQ (uh ρ w S O f) cs vs) (e:Ext ρ ρ') (a:uB w O w' O'):zQ (uh ρ' w' S O' f) cs vs:=h.mono fun _ _ _ hq=>hq.adv e a
theorem zQ.weak {f f':Bool} {cs:List AV} {vs:List Value} (h:zQ (uh ρ w S O f) cs vs) (hf:f'=true→f=true):zQ (uh ρ w S O f') cs vs:=h.mono fun _ _ _ hq=>hq.weak hf
theorem zbs {v:AV} {x:Value} {cs:List AV} (h:zB ρ w S O v x) (hc:v.cells=some cs):∃ vs:List Value,x.cells=vs.toArray∧zQ (uh ρ w S O (AV.stableL cs)) cs vs:=by
 obtain ⟨vs,h1,h2,h3,h4⟩:=zA4 h hc
 exact ⟨vs,h1,h2,fun i c v hc hv=>⟨h3 v (List.mem_of_getElem? hv),h4 i c v hc hv,fun hs=>PH (h4 i c v hc hv) (SS hs i c hc)⟩⟩
theorem Sw {vs:List Value} {cs:List AV} (h:Tn vs cs=true):zQ (uh ρ w S O true) cs vs:=by
 obtain ⟨h1,h2,h3⟩:=zhG (w:=w) (X:=fun b=>S b∨O b) h
 exact ⟨h1,fun i c v hc hv=>⟨h2 v (List.mem_of_getElem? hv),.s (h3 i c v hc hv),fun _=>h3 i c v hc hv⟩⟩
theorem zQ.one {f:Bool} {cs:List AV} {vs:List Value} (h:zQ (uh ρ w S O f) cs vs):∀ v ∈ vs,v.oneCell'=true:=fun v hv=>by
 obtain ⟨i,hi⟩:=List.mem_iff_getElem?.1 hv
 have hlt:i<cs.length:=by have:=(List.getElem?_eq_some_iff.1 hi).1;rw [h.1];exact this
 exact (h.2 i _ v (List.getElem?_eq_getElem hlt) hi).1
theorem zm.flat {r:zf} {p:Pl} (R:zm ρ w S O r p):∃ arr ty lo hi vs,w.heap[p.b]? =some (.cells arr ty (lo,hi))∧p.base+p.lim * p.k≤arr.size∧zF0 r.k lo hi arr.size∧
  (∀ i,i<vs.length→arr[p.base+i]? =vs[i]?)∧zQ (uh ρ w S O r.flat) r.es.flatten vs:=by
 obtain ⟨arr,ty,lo,hi,h1,h2,h3,h4⟩:=R.block
 have hfl:=yz R.len
 have hk:=R.k
 have hlim:p.base+r.es.length * r.k≤arr.size:=by
  have:=Nat.mul_le_mul_right r.k R.lim
  rw [hk] at h2;omega
 refine ⟨arr,ty,lo,hi,(arr.toList.drop p.base).take (r.es.length * r.k),h1,h2,h3,fun i hi=> ?_, ?_,fun i c v hc hv=> ?_⟩
 ·simp only [List.length_take,List.length_drop,Array.length_toList] at hi
  rw [List.getElem?_take,if_pos (by omega),List.getElem?_drop,Array.getElem?_toList]
 ·simp [hfl];omega
 ·have hlt:i<r.es.length * r.k:=by have:=(List.getElem?_eq_some_iff.1 hc).1;omega
  have hk0:0<r.k:=by rcases Nat.eq_zero_or_pos r.k with h | h;(rw [h] at hlt;omega);exact h
  have he:i / r.k<r.es.length:=by rw [Nat.div_lt_iff_lt_mul hk0];exact hlt
  have hj:i % r.k<r.k:=Nat.mod_lt _ hk0
  have hij:i / r.k * r.k+i % r.k=i:=Nat.div_add_mod' i r.k
  have hg:=List.getElem?_eq_getElem he
  have hc':=Tz R.len hg hj
  rw [hij,hc] at hc'
  obtain ⟨x,hx,hx1,hx2,hx3⟩:=h4 _ _ _ c hg hc'.symm
  have:x=v:=by
   rw [hk,Nat.add_assoc,hij] at hx
   rw [List.getElem?_take,if_pos hlt,List.getElem?_drop,Array.getElem?_toList,hx] at hv
   exact Option.some.inj hv
  subst this
  exact ⟨hx1,hx2,hx3⟩
theorem zm.ofFlat {r:zf} {p:Pl} {arr:Array Value} {ty:TypeId} {lo hi:Nat} {vs:List Value} (hk:p.k=r.k) (hl:r.es.length≤p.lim) (hO:O p.b) (hlen:∀ g ∈ r.es,g.length=r.k)
  (h1:w.heap[p.b]? =some (.cells arr ty (lo,hi))) (h2:p.base+p.lim * p.k≤arr.size) (h3:zF0 r.k lo hi arr.size)
  (h4:∀ i,i<vs.length→arr[p.base+i]? =vs[i]?) (h5:zQ (uh ρ w S O r.flat) r.es.flatten vs):zm ρ w S O r p:=by
 refine ⟨hk,hl,hO,hlen,arr,ty,lo,hi,h1,h2,h3,fun e j g c hg hc=> ?_⟩
 have hj:j<r.k:=by have:=(List.getElem?_eq_some_iff.1 hc).1;rwa [hlen g (List.mem_of_getElem? hg)] at this
 have hf:=Tz hlen hg hj
 rw [hc] at hf
 have hlt:e * r.k+j<vs.length:=by have:=(List.getElem?_eq_some_iff.1 hf).1;rw [← h5.1];exact this
 have hv:=List.getElem?_eq_getElem hlt
 obtain ⟨q1,q2,q3⟩:=h5.2 _ _ _ hf hv
 exact ⟨vs[e * r.k+j],by rw [hk,Nat.add_assoc,h4 _ hlt,hv],q1,q2,q3⟩
theorem oz:∀ (vs:List Value) (b o:Nat) (w:World) (arr:Array Value) (ty:TypeId) (fr:Nat×Nat),w.heap[b]? =some (.cells arr ty fr)→o+vs.length≤arr.size→
  (w.setCells b o vs).heap[b]? =some (.cells (jD o vs arr.toList).toArray ty fr)
 | [],b,o,w,arr,ty,fr,h,_=>by simp [World.setCells,jD,h]
 | v::vs,b,o,w,arr,ty,fr,h,hl=>by
  simp only [List.length_cons] at hl
  have h1:(w.setCell ⟨b,o,none⟩ v).heap[b]? =some (.cells (arr.setIfInBounds o v) ty fr):=by
   rw [setCell_eq_setRow w b o arr ty fr v h]
   exact setRow_heap w b arr _ ty fr h
  show ((w.setCell ⟨b,o,none⟩ v).setCells b (o+1) vs).heap[b]? =_
  rw [oz vs b (o+1) _ _ ty fr h1 (by simp;omega)]
  have e:jD (o+1) vs (arr.setIfInBounds o v).toList=jD o (v::vs) arr.toList:=by
   apply List.ext_getElem?
   intro i
   rw [yS (by simp;omega),yS (by simp;omega)]
   simp only [Array.toList_setIfInBounds,List.getElem?_set,List.length_cons,Array.length_toList]
   by_cases h2:o=i
   ·subst h2
    rw [if_neg (by omega),if_pos rfl,if_pos (by omega),if_pos (by omega)]
    simp
   ·by_cases h3:o+1≤i∧i<o+1+vs.length
    ·rw [if_pos h3,if_pos (by omega)]
     rw [show i - o=(i - (o+1))+1 from by omega,List.getElem?_cons_succ]
    ·rw [if_neg h3,if_neg h2,if_neg (by omega)]
  rw [e]
theorem jr:∀ (vs:List Value) (b o:Nat) (w:World) (k:Nat),k≠b→(w.setCells b o vs).heap[k]? =w.heap[k]?
 | [],_,_,_,_,_=>rfl
 | v::vs,b,o,w,k,h=>by
  show ((w.setCell ⟨b,o,none⟩ v).setCells b (o+1) vs).heap[k]? =_
  rw [jr vs b (o+1) _ k h]
  exact Below.heap_setCell w ⟨b,o,none⟩ v k h
theorem setCells_size:∀ (vs:List Value) (b o:Nat) (w:World),(w.setCells b o vs).heap.size=w.heap.size
 | [],_,_,_=>rfl
 | v::vs,b,o,w=>by
  show ((w.setCell ⟨b,o,none⟩ v).setCells b (o+1) vs).heap.size=_
  rw [setCells_size vs b (o+1)];simp
theorem zaC:∀ (vs:List Value) (b o:Nat) (w:World),(w.setCells b o vs).os=w.os∧(w.setCells b o vs).tape=w.tape∧(w.setCells b o vs).output=w.output
 | [],_,_,_=>⟨rfl,rfl,rfl⟩
 | v::vs,b,o,w=>zaC vs b (o+1) (w.setCell ⟨b,o,none⟩ v)
theorem uB.setCells (w:World) {O:Nat→Prop} {b:Nat} (hO:O b) (o:Nat) (vs:List Value):uB w O (w.setCells b o vs) O:=by
 obtain ⟨h1,h2,h3⟩:=zaC vs b o w
 exact ⟨h1,h2,h3,by rw [setCells_size];exact Nat.le_refl _,fun k _ hk=>jr vs b o w k (fun e=>hk (e ▸ hO)),fun _ h=>h,fun _ h=>.inl h⟩
theorem Heap.store {h:List zf} (H:Heap ρ w S O h) {id g:Nat} {p:Pl} {r:zf} (hρ:ρ id=some (g,some p)) (hrow:h[id]? =some r) (off:Nat) (cs:List AV) (vs:List Value) (es':List (List AV)) (fl:Bool)
  (hle:off+vs.length≤r.es.length * r.k) (hlen:∀ g ∈ es',g.length=r.k) (hl:es'.length=r.es.length) (hes:es'.flatten=patch off cs r.es.flatten)
  (hf:fl=true→r.flat=true) (hq:zQ (uh ρ w S O fl) cs vs):
  Heap ρ (w.setCells p.b (p.base+off) vs) S O (h.set id { r with es:=es',flat:=fl })∧uB w O (w.setCells p.b (p.base+off) vs) O∧w.there p.b (p.base+off) vs.length:=by
 obtain ⟨hg,his⟩:=H.at hρ hrow
 have R:zm ρ w S O r p:=his
 obtain ⟨arr,ty,lo,hi,us,h1,h2,h3,h4,h5⟩:=R.flat
 have hA:=uB.setCells w R.own (p.base+off) vs
 have hfl:=yz R.len
 have hul:us.length=r.es.length * r.k:=by rw [← h5.1,hfl]
 have hlim:p.base+r.es.length * r.k≤arr.size:=by
  have:=Nat.mul_le_mul_right r.k R.lim
  rw [R.k] at h2;omega
 have hblk:=oz vs p.b (p.base+off) w arr ty (lo,hi) h1 (by omega)
 refine ⟨H.step (.refl ρ) hA (fun b hb=> ?_) (fun id' g' pl' hid=> ?_) H.inj,hA,fun j hj=> ?_⟩
 ·rw [setCells_size];exact H.bd b (.inr hb)
 ·by_cases hii:id'=id
  ·subst hii
   rw [hρ] at hid
   cases hid
   refine .inr ⟨{ r with es:=es',flat:=fl },by rw [List.getElem?_set_self (List.getElem?_eq_some_iff.1 hrow).1],hg, ?_⟩
   have e5:zQ (uh ρ (w.setCells p.b (p.base+off) vs) S O fl) (patch off cs r.es.flatten) (jD off vs us):=((h5.weak hf).patch hq off).adv (.refl ρ) hA
   rw [← hes] at e5
   refine zm.ofFlat (vs:=jD off vs us) R.k (by simp only;rw [hl];exact R.lim) R.own hlen hblk (by simp [yA (vs:=arr.toList) (us:=vs) (off:=p.base+off) (by simp;omega)];exact h2)
    ⟨h3.1,fun j hj=>h3.2.1 j (by simpa [yA (vs:=arr.toList) (us:=vs) (off:=p.base+off) (by simp;omega)] using hj),h3.2.2⟩ (fun i hi=> ?_) e5
   rw [List.getElem?_toArray,yS (by simp;omega),yS (by omega)]
   rw [yA (by omega)] at hi
   by_cases hc:off≤i∧i<off+vs.length
   ·rw [if_pos (by omega),if_pos hc,show p.base+i - (p.base+off)=i - off from by omega]
   ·rw [if_neg (by omega),if_neg hc]
    simpa using h4 i hi
  ·refine .inl ⟨hid,by rw [List.getElem?_set_ne (Ne.symm hii)],fun p' hp'=>jr vs _ _ w _ (fun e=>hii ?_)⟩
   subst hp'
   exact H.inj id' id g' g p' p hid hρ e
 ·have hlt:p.base+off+j<arr.size:=by omega
  refine ⟨by rw [cell_of_row w p.b _ arr ty _ h1];simp [hlt], ?_⟩
  have:=h3.2.1 _ hlt
  simp only [World.frozen?,h1]
  simpa using this
end
end Go.Proofs.YthcnhibjddomdaaGreat
namespace Go.Proofs.YthcnhibjddomdaaGreat
open Go Go.RowKit
variable [FrB]
section
variable {P:Program} {G:Nat→Option (List AV)} {ρ:Rho} {w:World} {S O:Nat→Prop} {env:yF} {h:List zf} {a:Act} {o:Oper} {v:AV} {h':List zf}
theorem Heap.allocL (H:Heap ρ w S O h) (arr:Array Value) (ty:TypeId) (r:zf) (lim:Nat) (vs:List Value) (hl:r.es.length≤lim) (hs:lim * r.k≤arr.size) (hlen:∀ g ∈ r.es,g.length=r.k)
  (harr:∀ i,i<vs.length→arr[i]? =vs[i]?) (hq:zQ (uh ρ w S O r.flat) r.es.flatten vs):
  Heap (upd ρ h.length (r.gen,some ⟨w.heap.size,0,r.k,lim⟩)) (w.alloc (.cells arr ty)) S (fun b=>O b∨b=w.heap.size) (h++[r]):=by
 refine H.alloc arr ty r lim hl hs hlen fun e j g c hg hc=> ?_
 have hj:j<r.k:=by have:=(List.getElem?_eq_some_iff.1 hc).1;rwa [hlen g (List.mem_of_getElem? hg)] at this
 have hf:=Tz hlen hg hj
 rw [hc] at hf
 have hlt:e * r.k+j<vs.length:=by have:=(List.getElem?_eq_some_iff.1 hf).1;rw [← hq.1];exact this
 have hv:=List.getElem?_eq_getElem hlt
 obtain ⟨q1,q2,q3⟩:=hq.2 _ _ _ hf hv
 exact ⟨vs[e * r.k+j],by rw [harr _ hlt,hv],q1,q2,q3⟩
theorem OpN.alloc {run:Result Next} {v:AV} {x:Value} (H:Heap ρ w S O h) (arr:Array Value) (ty:TypeId) (r:zf) (lim:Nat) (vs:List Value) (hl:r.es.length≤lim) (hs:lim * r.k≤arr.size) (hlen:∀ g ∈ r.es,g.length=r.k)
  (harr:∀ i,i<vs.length→arr[i]? =vs[i]?) (hq:zQ (uh ρ w S O r.flat) r.es.flatten vs) (hr:run=.ok (.value x) (w.alloc (.cells arr ty)))
  (hv:zB (upd ρ h.length (r.gen,some ⟨w.heap.size,0,r.k,lim⟩)) (w.alloc (.cells arr ty)) S (fun b=>O b∨b=w.heap.size) v x):OpN ρ w S O h run v (h++[r]):=
 ⟨x,_,_,_,hr,uB.alloc w O _,fun b hb=>Below.heap_alloc w _ b hb,zdi (H.none_ge (Nat.le_refl _)),zkd (fun p hp=>by cases hp;exact Nat.le_refl _),H.allocL arr ty r lim vs hl hs hlen harr hq,hv,zb0 ρ _ (Nat.le_refl _),_,rfl⟩
theorem zbC {t:TypeId} {zs:List AV} (hz:FE P t zs=true):∃ i z,P.info? t=some i∧i.zero=some z∧Tn z.cells.toList zs=true:=by
 unfold FE at hz
 split at hz
 ·rename_i i hi
  split at hz
  ·rename_i z hz';exact ⟨i,z,hi,hz',hz⟩
  ·cases hz
 ·cases hz
theorem zy9 {zero:List AV} (hop:zI P o.op (.alloc zero)=true) (R:Rel G ρ w S O env a) (H:Heap ρ w S O h) (he:aop G env h (.alloc zero)=some (v,h')):OpN ρ w S O h ((execOp a.eval o).run P w) v h':=by
 simp only [aop,Option.some.injEq,Prod.mk.injEq] at he
 obtain ⟨rfl,rfl⟩:=he
 simp only [zI] at hop
 split at hop
 case h_2=>cases hop
 rename_i t heq
 obtain ⟨i,z,hi,hz,hc⟩:=zbC hop
 have hq:=Sw (ρ:=ρ) (w:=w) (S:=S) (O:=O) hc
 refine .alloc H z.cells t ⟨zero.length,0,AV.stableL zero,[zero]⟩ 1 z.cells.toList (by simp) (by simp [hq.1]) (by simp) (fun i _=>by simp) (by simpa using hq.weak (fun _=>rfl)) (x:=.pointer (some ⟨w.heap.size,0,none⟩)) ?_
  (.ptr _ 0 0 _ 0 0 _ (upd_same ρ _ _) (Nat.le_refl _) (fun _=>⟨_,rfl,by simp⟩))
 simp [execOp,heq,Instr.alloc,zeroValue,typeInfo,hi,hz,newVar,newRow]
theorem zFG {m:Nat} {x:zD} (hop:zI P o.op (.box m x)=true) (R:Rel G ρ w S O env a) (H:Heap ρ w S O h) (he:aop G env h (.box m x)=some (v,h')):OpN ρ w S O h ((execOp a.eval o).run P w) v h':=by
 obtain ⟨v0,h0,he⟩:=za.1 he
 obtain ⟨cs,hcs,he⟩:=za.1 he
 split at he
 case isFalse=>cases he
 rename_i hm
 cases he
 simp only [zI] at hop
 split at hop
 case h_2=>cases hop
 rename_i t y heq
 obtain ⟨vs,h1,h2⟩:=zbs (zN hop R h0) hcs
 refine .alloc H vs.toArray t ⟨m,0,AV.stableL cs,[cs]⟩ 1 vs (by simp) (by simp [← hm,h2.1]) (by simp [hm]) (fun i _=>by simp) (by simpa using h2) (x:=.pointer (some ⟨w.heap.size,0,none⟩)) ?_
  (.ptr _ 0 0 _ 0 0 _ (upd_same ρ _ _) (Nat.le_refl _) (fun _=>⟨_,rfl,by simp⟩))
 simp [execOp,heq,Instr.box,newVar,newRow,h1]
theorem foldl_set:∀ (us:List Value) (k off:Nat) (arr:Array Value),off+k+us.length≤arr.size→
  (us.zipIdx k).foldl (fun cs p=>cs.setIfInBounds (off+p.2) p.1) arr=(jD (off+k) us arr.toList).toArray
 | [],k,off,arr,_=>by simp [jD]
 | u::us,k,off,arr,hl=>by
  simp only [List.length_cons] at hl
  rw [List.zipIdx_cons,List.foldl_cons,foldl_set us (k+1) off _ (by simp;omega)]
  congr 1
  apply List.ext_getElem?
  intro i
  rw [yS (by simp;omega),yS (by simp;omega)]
  simp only [Array.toList_setIfInBounds,List.getElem?_set,List.length_cons,Array.length_toList]
  by_cases h2:off+k=i
  ·subst h2
   rw [if_neg (by omega),if_pos rfl,if_pos (by omega),if_pos (by omega)]
   simp
  ·by_cases h3:off+(k+1)≤i∧i<off+(k+1)+us.length
   ·rw [if_pos h3,if_pos (by omega)]
    rw [show i - (off+k)=(i - (off+(k+1)))+1 from by omega,List.getElem?_cons_succ]
   ·rw [if_neg h3,if_neg h2,if_neg (by omega)]
theorem zjl (place:Nat→Option (Nat×Nat)) (us vs:List Value) (i off m:Nat) (x:Value) (rest:List (Nat×Value)) (hx:x.cells=vs.toArray) (hp:place i=some (off,m)) (hm:vs.length=m) (hl:off+m≤us.length):
  Instr.fill place us.toArray ((i,x)::rest)=Instr.fill place (jD off vs us).toArray rest:=by
 rw [Instr.fill,hp,hx]
 simp only [List.size_toArray]
 rw [if_neg (by simp;omega)]
 rw [← Array.foldl_toList,show vs.toArray.zipIdx.toList=vs.zipIdx from by simp,foldl_set vs 0 off us.toArray (by simp;omega)]
 simp
theorem zf9 (place:Nat→Option (Nat×Nat)):∀ (ops:List (Nat×Operand)) (asx:List (Nat×Nat×zD)) (ps:List (Nat×Nat×AV)) (zero cs:List AV) (us:List Value),Dk place ops asx=true→Rel G ρ w S O env a→
  (asx.mapM fun (p:Nat×Nat×zD)=>(zo G env p.2.2).map fun v=>(p.1,p.2.1,v))=some ps→Db zero ps=some cs→zQ (uh ρ w S O false) zero us→
  ∃ us',Instr.fill place us.toArray (ops.map fun p=>(p.1,a.eval p.2))=some us'.toArray∧zQ (uh ρ w S O false) cs us'
 | [],[],ps,zero,cs,us,_,_,hm,hb,hq=>by
  simp at hm;subst hm
  cases hb
  exact ⟨us,rfl,hq⟩
 | (i,x)::ops,(off,m,b)::asx,ps,zero,cs,us,hc,R,hm,hb,hq=>by
  simp only [Dk,Bool.and_eq_true,beq_iff_eq] at hc
  obtain ⟨⟨hp,hx⟩,hc⟩:=hc
  rw [List.mapM_cons] at hm
  obtain ⟨p1,hp1,hm⟩:=za.1 hm
  obtain ⟨u,hu,rfl⟩:=ze.1 hp1
  obtain ⟨ps',hps,hm⟩:=za.1 hm
  cases hm
  unfold Db at hb
  obtain ⟨ds,hds,hb⟩:=za.1 hb
  split at hb
  case isFalse=>cases hb
  rename_i hle
  obtain ⟨vs,h1,h2⟩:=zbs (zN hx R hu) hds
  have hvl:vs.length=m:=by rw [← h2.1];exact hle.1
  have hq2:=hq.patch (h2.weak (f':=false) (fun h=>by cases h)) off
  obtain ⟨us',e1,e2⟩:=zf9 place ops asx ps' _ cs (jD off vs us) hc R hps hb hq2
  exact ⟨us',by rw [List.map_cons,zjl place us vs i off m _ _ h1 hp hvl (by rw [← hq.1];exact hle.2)];exact e1,e2⟩
 | [],_::_,_,_,_,_,hc,_,_,_,_=>by cases hc
 | _::_,[],_,_,_,_,hc,_,_,_,_=>by cases hc
theorem zrU {cs:List AV} {us:List Value} (hq:zQ (uh ρ w S O false) cs us):zB ρ w S O (.agg cs) (.agg us.toArray):=
 .agg cs us hq.1 (fun u hu=>hq.one u hu) fun i c v hc hv=>(hq.2 i c v hc hv).2.1
theorem zdz:∀ (l:List Field),(∀ f ∈ l,(P.info? f.type).isSome=true)→(l.mapM fun f=>(P.info? f.type).map fun i=>(f.offset,i.size))=some (l.map fun f=>(f.offset,P.cellsOf f.type))
 | [],_=>rfl
 | f::l,hl=>by
  obtain ⟨j,hj⟩:=Option.isSome_iff_exists.1 (hl f (by simp))
  rw [List.mapM_cons,zdz l (fun g hg=>hl g (by simp [hg])),hj]
  simp [Program.cellsOf,hj]
theorem zwI {zero:List AV} {asx:List (Nat×Nat×zD)} (hop:zI P o.op (.build zero asx)=true) (R:Rel G ρ w S O env a) (he:aop G env h (.build zero asx)=some (v,h')):vE ρ w S O h ((execOp a.eval o).run P w) v h':=by
 obtain ⟨ps,hps,he⟩:=za.1 he
 obtain ⟨cs,hb,e⟩:=ze.1 he
 cases e
 simp only [zI] at hop
 split at hop
 case h_2=>cases hop
 rename_i t parts heq
 simp only [Bool.and_eq_true] at hop
 obtain ⟨hz,hop⟩:=hop
 obtain ⟨i,z,hi,hz,hc⟩:=zbC hz
 have hq:=(Sw (ρ:=ρ) (w:=w) (S:=S) (O:=O) hc).weak (f':=false) (fun h=>by cases h)
 have hpm:(parts.map fun (i,x)=>(i,a.eval x)).toList=parts.toList.map fun p=>(p.1,a.eval p.2):=by simp
 split at hop
 ·rename_i fs hu
  simp only [Bool.and_eq_true] at hop
  obtain ⟨us',e1,e2⟩:=zf9 _ parts.toList asx ps zero cs z.cells.toList hop.2 R hps hb hq
  refine .pure (x:=.agg us'.toArray) ?_ (zrU e2)
  have hb':P.built t (parts.map fun (i,x)=>(i,a.eval x)).toList=some us'.toArray:=by
   unfold Program.built
   simp only [hi,hu,hz,zdz fs.toList (fun f hf=>Array.all_eq_true_iff_forall_mem.1 hop.1 f (by simpa using hf)),hpm]
   rw [← e1]
   congr 1
   funext i
   simp
  simp only [execOp,heq,Sem.run_bind,run_build w t _ _ hb',Result.andThen_ok,Sem.run_pure]
 ·rename_i n e hu
  simp only [Bool.and_eq_true] at hop
  obtain ⟨us',e1,e2⟩:=zf9 _ parts.toList asx ps zero cs z.cells.toList hop.2 R hps hb hq
  obtain ⟨j,hj⟩:=Option.isSome_iff_exists.1 hop.1
  have hce:P.cellsOf e=j.size:=by simp [Program.cellsOf,hj]
  refine .pure (x:=.agg us'.toArray) ?_ (zrU e2)
  have hb':P.built t (parts.map fun (i,x)=>(i,a.eval x)).toList=some us'.toArray:=by
   unfold Program.built
   simp only [hi,hu,hz,hj,hpm]
   rw [← e1,hce]
  simp only [execOp,heq,Sem.run_bind,run_build w t _ _ hb',Result.andThen_ok,Sem.run_pure]
 ·cases hop
theorem zjK (k:Nat):∀ (ops:List (Nat×Operand)) (asx:List (Nat×zD)) (ps:List (Nat×AV)) (es es':List (List AV)) (us:List Value),Ji ops asx=true→Rel G ρ w S O env a→
  (asx.mapM fun (p:Nat×zD)=>(zo G env p.2).map fun v=>(p.1,v))=some ps→Dv k es ps=some es'→(∀ g ∈ es,g.length=k)→zQ (uh ρ w S O false) es.flatten us→
  ∃ us',Instr.fill (fun i=>some (i * k,k)) us.toArray (ops.map fun p=>(p.1,a.eval p.2))=some us'.toArray∧zQ (uh ρ w S O false) es'.flatten us'∧(∀ g ∈ es',g.length=k)∧es'.length=es.length
 | [],[],ps,es,es',us,_,_,hm,hb,hl,hq=>by
  simp at hm;subst hm
  cases hb
  exact ⟨us,rfl,hq,hl,rfl⟩
 | (i,x)::ops,(i',b)::asx,ps,es,es',us,hc,R,hm,hb,hl,hq=>by
  simp only [Ji,Bool.and_eq_true,beq_iff_eq] at hc
  obtain ⟨⟨rfl,hx⟩,hc⟩:=hc
  rw [List.mapM_cons] at hm
  obtain ⟨p1,hp1,hm⟩:=za.1 hm
  obtain ⟨u,hu,rfl⟩:=ze.1 hp1
  obtain ⟨ps',hps,hm⟩:=za.1 hm
  cases hm
  unfold Dv at hb
  obtain ⟨ds,hds,hb⟩:=za.1 hb
  split at hb
  case isFalse=>cases hb
  rename_i hle
  obtain ⟨vs,h1,h2⟩:=zbs (zN hx R hu) hds
  have hvl:vs.length=k:=by rw [← h2.1];exact hle.1
  have hfl:=yz hl
  have hq2:=hq.patch (h2.weak (f':=false) (fun h=>by cases h)) (i * k)
  rw [← zcj hl (List.getElem?_eq_getElem hle.2) hle.1] at hq2
  have hl2:∀ g ∈ es.set i ds,g.length=k:=fun g hg=>(List.mem_or_eq_of_mem_set hg).elim (hl g) (fun e=>e ▸ hle.1)
  obtain ⟨us',e1,e2,e3,e4⟩:=zjK k ops asx ps' _ es' (jD (i * k) vs us) hc R hps hb hl2 hq2
  have hin:i * k+k≤us.length:=by
   rw [← hq.1,hfl]
   have:=Nat.mul_le_mul_right k (show i+1≤es.length from hle.2)
   rw [Nat.add_mul] at this;omega
  exact ⟨us',by rw [List.map_cons,zjl (fun i=>some (i * k,k)) us vs i (i * k) k _ _ h1 rfl hvl hin];exact e1,e2,e3,by rw [e4,List.length_set]⟩
 | [],_::_,_,_,_,_,hc,_,_,_,_,_=>by cases hc
 | _::_,[],_,_,_,_,hc,_,_,_,_,_=>by cases hc
theorem LF {zs:List AV} {z:Array Value} {f:Bool} (hq:zQ (uh ρ w S O f) zs z.toList):∀ n,zQ (uh ρ w S O f) (List.replicate n zs).flatten (List.replicate n z.toList).flatten
 | 0=>by simpa using zQ.nil
 | n+1=>by rw [List.replicate_succ,List.replicate_succ,List.flatten_cons,List.flatten_cons];exact hq.append (LF hq n)
theorem zoh (z:Array Value):∀ (n i:Nat),i<n * z.size→(List.replicate n z.toList).flatten[i]? =some (z[i % z.size]!)
 | 0,i,h=>by omega
 | n+1,i,h=>by
  rw [List.replicate_succ,List.flatten_cons]
  by_cases hi:i<z.size
  ·rw [List.getElem?_append_left (by simpa using hi),Nat.mod_eq_of_lt hi]
   simp [hi]
  ·have h':i<n * z.size+z.size:=by rw [Nat.add_mul] at h;omega
   rw [List.getElem?_append_right (by simp;omega),Array.length_toList,zoh z n (i - z.size) (by omega),← Nat.mod_eq_sub_mod (by omega)]
theorem zkh (z:Array Value) (n:Nat):(List.replicate n z.toList).flatten.toArray=(Array.range (n * z.size)).map (z[· % z.size]!):=by
 apply Array.ext'
 apply List.ext_getElem?
 intro i
 by_cases hi:i<n * z.size
 ·rw [List.toList_toArray,zoh z n i hi]
  simp [hi]
 ·rw [List.getElem?_eq_none (by simp;omega),List.getElem?_eq_none (by simp;omega)]
theorem zhf {t e:TypeId} {n k:Nat} {parts:Array (Nat×Operand)} {i:TypeInfo} {z:Value} {us':List Value} (hu:P.underlying t=some (.slice e)) (hi:P.info? e=some i) (hk:i.size=k) (hz:i.zero=some z) (hzk:z.cells.size=k)
  (hn:n * k≤16777216) (hf:Instr.fill (fun i=>some (i * k,k)) (List.replicate n z.cells.toList).flatten.toArray (parts.toList.map fun p=>(p.1,a.eval p.2))=some us'.toArray):
  (Instr.buildSlice t n (parts.map fun (i,x)=>(i,a.eval x))).run P w=.ok (.slice (some ⟨w.heap.size,0,none⟩) n n) (w.alloc (.cells us'.toArray e)):=by
 have hpm:(parts.map fun (i,x)=>(i,a.eval x)).toList=parts.toList.map fun p=>(p.1,a.eval p.2):=by simp
 have hsz:(sizeOf e).run P w=.ok k w:=by simp [sizeOf,typeInfo,hi,hk]
 have hbig:¬ (n * k>2^24):=by omega
 by_cases h0:n * k=0
 ·have e0:(List.replicate n z.cells.toList).flatten=[]:=List.eq_nil_of_length_eq_zero (by simp [hzk];simpa using h0)
  rw [e0] at hf
  have e1:(Array.range 0).map (fun x=>(#[]:Array Value)[x % (#[]:Array Value).size]!)= #[]:=by simp
  simp only [Instr.buildSlice,Sem.run_bind,run_underlying hu,Result.andThen_ok,hsz,h0,if_true,Sem.run_pure,hpm,Sem.run_ite,hbig,if_false]
  rw [e1,hf]
  simp [newRow]
 ·rw [zkh,hzk] at hf
  have hz':(zeroValue e).run P w=.ok z w:=by simp [zeroValue,typeInfo,hi,hz]
  simp only [Instr.buildSlice,Sem.run_bind,run_underlying hu,Result.andThen_ok,hsz,h0,if_false,Sem.run_pure,hpm,Sem.run_ite,hbig,hz']
  rw [hzk,hf]
  simp [newRow]
theorem zq2 {t:TypeId} {n k:Nat} {zero:List AV} {parts:Array (Nat×Operand)} {asx:List (Nat×zD)} {ps:List (Nat×AV)} {es:List (List AV)} (R:Rel G ρ w S O env a) (hn:n * k≤16777216)
  (hop:(match P.underlying t with | some (.slice e)=>vP P e k&&FE P e zero&&zero.length==k&&Ji parts.toList asx | _=>false)=true)
  (hps:(asx.mapM fun (p:Nat×zD)=>(zo G env p.2).map fun v=>(p.1,v))=some ps) (hf:Dv k (List.replicate n zero) ps=some es):
  ∃ e us',(Instr.buildSlice t n (parts.map fun (i,x)=>(i,a.eval x))).run P w=.ok (.slice (some ⟨w.heap.size,0,none⟩) n n) (w.alloc (.cells us'.toArray e))∧zQ (uh ρ w S O (Sv es)) es.flatten us'∧
   (∀ g ∈ es,g.length=k)∧es.length=n:=by
 split at hop
 case h_2=>cases hop
 rename_i e hu
 simp only [Bool.and_eq_true,beq_iff_eq] at hop
 obtain ⟨⟨⟨h1,h2⟩,h3⟩,h4⟩:=hop
 obtain ⟨i,z,hi,hz,hc⟩:=zbC h2
 obtain ⟨i',hi',hk⟩:=IY h1
 obtain rfl:=Option.some.inj (hi.symm.trans hi')
 have hq:=(Sw (ρ:=ρ) (w:=w) (S:=S) (O:=O) hc).weak (f':=false) (fun h=>by cases h)
 have hzk:z.cells.size=k:=by have:=hq.1;simp at this;omega
 obtain ⟨us',e1,e2,e3,e4⟩:=zjK k parts.toList asx ps _ es _ h4 R hps hf (fun g hg=>by rw [List.eq_of_mem_replicate hg];exact h3) (LF hq n)
 refine ⟨e,us',zhf hu hi hk hz hzk hn e1,⟨e2.1,fun i c v hcc hv=> ?_⟩,e3,by rw [e4,List.length_replicate]⟩
 obtain ⟨q1,q2,_⟩:=e2.2 i c v hcc hv
 refine ⟨q1,q2,fun hs=>PH q2 ?_⟩
 obtain ⟨g,hg,hcg⟩:=List.mem_flatten.1 (List.mem_of_getElem? hcc)
 obtain ⟨j,hj⟩:=List.mem_iff_getElem?.1 hcg
 exact SS (List.all_eq_true.1 hs g hg) j c hj
theorem zpf {k n:Nat} {zero:List AV} {asx:List (Nat×zD)} (hop:zI P o.op (.mkslice k n zero asx)=true) (R:Rel G ρ w S O env a) (H:Heap ρ w S O h) (he:aop G env h (.mkslice k n zero asx)=some (v,h')):OpN ρ w S O h ((execOp a.eval o).run P w) v h':=by
 obtain ⟨ps,hps,he⟩:=za.1 he
 obtain ⟨es,hf,e⟩:=ze.1 he
 cases e
 simp only [zI] at hop
 split at hop
 case h_2=>cases hop
 rename_i t n' parts heq
 simp only [Bool.and_eq_true,beq_iff_eq,decide_eq_true_eq] at hop
 obtain ⟨⟨rfl,hn⟩,hop⟩:=hop
 obtain ⟨e,us',hrun,hq,hl,hlen⟩:=zq2 R hn hop hps hf
 refine .alloc H us'.toArray e ⟨k,0,Sv es,es⟩ n us' (by simp [hlen]) (by simp [← hq.1,yz hl,hlen]) hl (fun i _=>by simp) hq (x:=.slice (some ⟨w.heap.size,0,none⟩) n n) (by simp [execOp,heq,hrun])
  (.own _ 0 0 _ 0 n n _ n (upd_same ρ _ _) (Nat.le_refl _) (Nat.le_refl _) (Nat.le_refl _) (fun _=>rfl) (fun _=>.inr ⟨_,rfl,by simp,by simp⟩))
theorem OpN.frozen {run:Result Next} {arr:Array Value} {ty:TypeId} {k:Nat} {es:List (List AV)} {us:List Value} {full:Bool} {cap:Nat} (H:Heap ρ w S O h) (hr:run=.ok (.value (.slice (some ⟨w.heap.size,0,none⟩) es.length cap)) (w.alloc (.cells arr ty)))
  (hl:∀ g ∈ es,g.length=k) (h1:es.length≤cap) (h2:full=true→cap=es.length) (harr:∀ i,i<us.length→arr[i]? =us[i]?) (hq:zQ (uh ρ w S O true) es.flatten us):OpN ρ w S O h run (.data false k es full) h:=by
 have hA:=uB.alloc' w O (.cells arr ty)
 have hnew:¬ (S w.heap.size∨O w.heap.size):=fun hb=>by have:=H.bd _ hb;omega
 have hql:us.length=es.length * k:=by rw [← hq.1,yz hl]
 refine ⟨_,_,ρ,O,hr,hA,fun b hb=>Below.heap_alloc w _ b hb,fun _ _ h=>h,fun _ _ _ h=>.inl h, ?_, ?_,fun _ _ h=>h,[],by simp⟩
 ·exact H.step (.refl ρ) hA (fun b hb=>by have:=H.bd b (.inr hb);simp;omega) (fun id g pl hid=>.inl ⟨hid,rfl,fun p hp=>by
   subst hp
   obtain ⟨r,_,_,hR⟩:=H.row id g _ hid
   exact Below.heap_alloc w _ _ (zm.lt hR)⟩) H.inj
 ·refine .s (.data k es full w.heap.size 0 cap (fun e j=>us.getD (e * k+j) undef) h1 h2 hl hnew (by simp) (fun e' j he' hj=> ?_) (fun e' j g c hg hc=> ?_) (fun _ arr' ty' lo hi hb=>by rw [heap_alloc_new] at hb;cases hb;intro j _ h;omega))
  ·have hlt:e' * k+j<us.length:=by
    rw [hql]
    have:=Nat.mul_le_mul_right k (show e'+1≤es.length from he')
    rw [Nat.add_mul] at this;omega
   rw [Nat.zero_add,World.cell?_alloc_new,harr _ hlt]
   refine ⟨by simp [hlt],hq.one _ ?_⟩
   simp [hlt]
  ·have hj:j<k:=by have:=(List.getElem?_eq_some_iff.1 hc).1;rwa [hl g (List.mem_of_getElem? hg)] at this
   have hff:=Tz hl hg hj
   rw [hc] at hff
   have hlt:e' * k+j<us.length:=by have:=(List.getElem?_eq_some_iff.1 hff).1;rw [← hq.1];exact this
   have hv:=List.getElem?_eq_getElem hlt
   have:=(hq.2 _ _ _ hff hv).2.2 rfl
   simpa [hlt] using this.adv hA
theorem zuy {k n:Nat} {zero:List AV} {asx:List (Nat×zD)} (hop:zI P o.op (.mkdata k n zero asx)=true) (R:Rel G ρ w S O env a) (H:Heap ρ w S O h) (he:aop G env h (.mkdata k n zero asx)=some (v,h')):OpN ρ w S O h ((execOp a.eval o).run P w) v h':=by
 obtain ⟨ps,hps,he⟩:=za.1 he
 obtain ⟨es,hf,he⟩:=za.1 he
 split at he
 case isFalse=>cases he
 rename_i hst
 cases he
 simp only [zI] at hop
 split at hop
 case h_2=>cases hop
 rename_i t n' parts heq
 simp only [Bool.and_eq_true,beq_iff_eq,decide_eq_true_eq] at hop
 obtain ⟨⟨rfl,hn⟩,hop⟩:=hop
 obtain ⟨e,us',hrun,hq,hl,hlen⟩:=zq2 R hn hop hps hf
 have hr:(execOp a.eval o).run P w=.ok (.value (.slice (some ⟨w.heap.size,0,none⟩) es.length n)) (w.alloc (.cells us'.toArray e)):=by rw [hlen];simp [execOp,heq,hrun]
 exact OpN.frozen (us:=us') H hr hl (by omega) (fun _=>by omega) (fun i _=>by simp) (by rw [hst] at hq;exact hq)
end
end Go.Proofs.YthcnhibjddomdaaGreat
namespace Go.Proofs.YthcnhibjddomdaaGreat
open Go Go.RowKit
variable [FrB]
section
variable {P:Program} {G:Nat→Option (List AV)} {ρ:Rho} {w:World} {S O:Nat→Prop} {env:yF} {h:List zf} {a:Act} {o:Oper} {v:AV} {h':List zf}
theorem zzU {k bytes:Nat} {zero:List AV} {l c:zD} (hop:zI P o.op (.mkrow k bytes zero l c)=true) (R:Rel G ρ w S O env a) (H:Heap ρ w S O h) (he:aop G env h (.mkrow k bytes zero l c)=some (v,h')):OpN ρ w S O h ((execOp a.eval o).run P w) v h':=by
 obtain ⟨vl,hl0,he⟩:=za.1 he
 obtain ⟨vc,hc0,he⟩:=za.1 he
 split at he
 case h_2=>cases he
 rename_i l0 c0
 split at he
 case isFalse=>cases he
 rename_i hcond
 obtain ⟨hl,rfl,hb,hzk⟩:=hcond
 cases he
 simp only [zI] at hop
 split at hop
 case h_2=>cases hop
 rename_i t l' c' heq
 simp only [Bool.and_eq_true] at hop
 obtain ⟨⟨hx,hy⟩,hop⟩:=hop
 split at hop
 case h_2=>cases hop
 rename_i e hu
 simp only [Bool.and_eq_true,decide_eq_true_eq] at hop
 obtain ⟨⟨⟨⟨h1,h2⟩,h3⟩,h3b⟩,h4⟩:=hop
 obtain ⟨i,z,hi,hz,hcst⟩:=zbC h2
 obtain ⟨i',hi',hk⟩:=IY h1
 obtain rfl:=Option.some.inj (hi.symm.trans hi')
 rw [hi] at h4
 simp only [beq_iff_eq] at h4
 simp only [uR,decide_eq_true_eq] at hb
 have e1:=jc (zN hx R hl0)
 have e2:=jc (zN hy R hc0)
 have hq:=Sw (ρ:=ρ) (w:=w) (S:=S) (O:=O) hcst
 have hzs:z.cells.size=k:=by have:=hq.1;simp at this;omega
 have hb1:l0.toNat * 1≤l0.toNat * bytes:=Nat.mul_le_mul_left _ h3b
 have hrun:=run_make (P:=P) w t e i z hu hi hz .i64 .i64 l0 l0 hl (Int.le_refl _) (by
  rw [h4]
  have h5:(l0.toNat:Int)=l0:=Int.toNat_of_nonneg hl
  have h6:((l0.toNat * bytes:Nat):Int)≤140737488355328:=Int.ofNat_le.2 hb
  rw [Int.natCast_mul,h5,Int.mul_comm] at h6
  omega) (by omega)
 have hq2:=LF (hq.weak (f':=AV.stableL zero) (fun _=>rfl)) l0.toNat
 have harr:(List.replicate l0.toNat z.cells.toList).flatten.toArray=madeCells z.cells (l0.toNat * i.size):=by rw [zkh,hk,← hzs];rfl
 refine .alloc H (madeCells z.cells (l0.toNat * i.size)) e ⟨k,0,AV.stableL zero,List.replicate l0.toNat zero⟩ l0.toNat _ (by simp) (by simp [size_madeCells,hk]) (fun g hg=>by rw [List.eq_of_mem_replicate hg];exact hzk)
  (fun i _=>by rw [← harr];simp) hq2 (x:=.slice (some ⟨w.heap.size,0,none⟩) l0.toNat l0.toNat) (by simp [execOp,heq,e1,e2,hrun])
  (.own _ 0 0 _ 0 _ _ _ _ (upd_same ρ _ _) (Nat.le_refl _) (Nat.le_refl _) (Nat.le_refl _) (fun _=>rfl) (fun _=>.inr ⟨_,rfl,by simp,by simp⟩))
theorem zt8 {t:TypeId} {m b o:Nat} {x:Value} {vs:List Value} (hs:vP P t m=true) (hx:x.cells=vs.toArray) (hm:vs.length=m) (ht:w.there b o m) (h1:∀ v ∈ vs,v.oneCell'=true):
  (Instr.storeAt t (.pointer (some ⟨b,o,none⟩)) x).run P w=.ok () (w.setCells b o vs):=by
 have:=run_storeCells_cells (P:=P) b o vs 0 w (fun j hj=>by simpa using (ht j (by omega)).1) (fun j hj=>by simpa using (ht j (by omega)).2) h1
 simp only [Nat.add_zero] at this
 simp only [Instr.storeAt,Instr.sureAddr,Sem.run_bind,Sem.run_pure,Result.andThen_ok,storeVar,uQ hs,hx,List.size_toArray,hm]
 simp [this]
theorem zuo {g:List AV} {off:Nat} {v:AV} (h:off<g.length):g.set off v=patch off [v] g:=by
 unfold patch
 rw [List.set_eq_take_append_cons_drop,if_pos h]
 simp
theorem LM.store {run:Result Next} {id gg:Nat} {p:Pl} {r:zf} {e off:Nat} {grp cs:List AV} {vs:List Value} {st:Bool} (H:Heap ρ w S O h) (hρ:ρ id=some (gg,some p)) (hrow:h[id]? =some r) (hg:r.es[e]? =some grp) (hle:off+cs.length≤grp.length)
  (hq:zQ (uh ρ w S O st) cs vs) (hr:(w.there p.b (p.base+(e * r.k+off)) vs.length)→run=.ok .skip (w.setCells p.b (p.base+(e * r.k+off)) vs)):LM ρ w S O h run (.tup []) (h.set id (r.put e (patch off cs grp) st)):=by
 obtain ⟨_,his⟩:=H.at hρ hrow
 have R:zm ρ w S O r p:=his
 have hgl:=R.len grp (List.mem_of_getElem? hg)
 have hlt:=(List.getElem?_eq_some_iff.1 hg).1
 have hin:e * r.k+r.k≤r.es.length * r.k:=by
  have:=Nat.mul_le_mul_right r.k (show e+1≤r.es.length from hlt)
  rw [Nat.add_mul] at this;omega
 have hpl:(patch off cs grp).length=r.k:=by rw [zlO hle,hgl]
 obtain ⟨h1,h2,h3⟩:=H.store hρ hrow (e * r.k+off) cs vs (r.es.set e (patch off cs grp)) (r.flat&&st) (by rw [← hq.1];omega)
  (fun g hg'=>(List.mem_or_eq_of_mem_set hg').elim (R.len g) (fun e=>e ▸ hpl)) (by simp) (DV R.len off cs hg (by omega)) (fun hf=>by simp at hf;exact hf.1) (hq.weak (fun hf=>by simp at hf;exact hf.2))
 exact ⟨undef,_,ρ,O,.inr ⟨hr h3,rfl⟩,h2.x,.refl ρ,h1,.tup [] [] rfl (fun i c v hc=>by simp at hc),fun _ _ hn=>hn⟩
theorem zzZ {agg:Bool} {m:Nat} {x y:zD} (hop:zI P o.op (.store agg m x y)=true) (R:Rel G ρ w S O env a) (H:Heap ρ w S O h) (he:aop G env h (.store agg m x y)=some (v,h')):LM ρ w S O h ((execOp a.eval o).run P w) v h':=by
 obtain ⟨vp,hp0,he⟩:=za.1 he
 obtain ⟨vx,hx0,he⟩:=za.1 he
 obtain ⟨h1,hst,e⟩:=ze.1 he
 simp only [Prod.mk.injEq] at e
 obtain ⟨rfl,rfl⟩:=e
 simp only [zI] at hop
 split at hop
 case h_2=>cases hop
 rename_i t p' x' heq
 simp only [Bool.and_eq_true] at hop
 obtain ⟨⟨⟨hp,hx⟩,hs⟩,hag⟩:=hop
 have rp:=zN hp R hp0
 have rx:=zN hx R hx0
 cases vp with
 | ptr id g e off=>
  obtain ⟨r,hrow,hst⟩:=za.1 hst
  split at hst
  case isFalse=>cases hst
  rename_i hgen
  obtain ⟨grp,hg,hst⟩:=za.1 hst
  obtain ⟨g',pl,ad,hz,hρ,hle,hpl⟩:=Io rp
  obtain ⟨hg',his⟩:=H.at hρ hrow
  obtain ⟨p,rfl,rfl⟩:=hpl (by omega)
  have hk:p.k=r.k:=zm.k his
  have main:∀ cs,vx.cells=some cs→cs.length=m→off+m≤grp.length→LM ρ w S O h ((execOp a.eval o).run P w) (.tup []) (h.set id (r.put e (patch off cs grp) (AV.stableL cs))):=fun cs hcs hm hle'=>by
   obtain ⟨vs,e1,e2⟩:=zbs rx hcs
   have hvm:vs.length=m:=by rw [← e2.1];exact hm
   refine .store H hρ hrow hg (by omega) e2 fun hth=> ?_
   have ea:p.base+(e * r.k+off)=p.base+e * p.k+off:=by rw [hk];omega
   rw [ea] at hth ⊢
   have hrun:=zt8 (P:=P) hs e1 hvm (by rw [← hvm];exact hth) e2.one
   simp only [execOp,heq,hz,Sem.run_bind,hrun,Result.andThen_ok,Sem.run_pure]
  cases agg with
  | true=>
   simp only [if_true] at hst
   cases vx with
   | agg cs=>
    have hst:(if cs.length=m∧off+m≤grp.length then some (h.set id (r.put e (patch off cs grp) (AV.stableL cs))) else none)=some h1:=hst
    split at hst
    case isFalse=>cases hst
    rename_i hc
    cases hst
    exact main cs rfl hc.1 hc.2
   | _=>cases hst
  | false=>
   obtain rfl:m=1:=by simpa using hag
   simp only [Bool.false_eq_true,if_false] at hst
   split at hst
   ·cases hst
   ·cases hst
   ·cases hst
   ·rename_i n1 n2 n3
    split at hst
    case isFalse=>cases hst
    rename_i hlt
    cases hst
    rw [zuo hlt]
    have hsl:vx.stable=AV.stableL [vx]:=by simp [AV.stableL]
    rw [hsl]
    refine main [vx] ?_ rfl (by omega)
    cases vx<;>first | rfl | exact absurd rfl (n1 _) | exact absurd rfl (n2 _) | exact absurd rfl n3
 | _=>cases hst
theorem Heap.reflat {id:Nat} {r:zf} (H:Heap ρ w S O h) (hrow:h[id]? =some r) (fl:Bool) (hf:fl=true→r.flat=true):Heap ρ w S O (h.set id { r with flat:=fl }):=by
 refine H.step (.refl ρ) (.refl w O) (fun b hb=>H.bd b (.inr hb)) (fun id' g pl hid=> ?_) H.inj
 by_cases hi:id'=id
 ·subst hi
  obtain ⟨hg,his⟩:=H.at hid hrow
  refine .inr ⟨{ r with flat:=fl },by rw [List.getElem?_set_self (List.getElem?_eq_some_iff.1 hrow).1],hg, ?_⟩
  cases pl with
  | none=>exact his
  | some p=>
   have R:zm ρ w S O r p:=his
   obtain ⟨arr,ty,lo,hi,h1,h2,h3,h4⟩:=R.block
   exact ⟨R.k,R.lim,R.own,R.len,arr,ty,lo,hi,h1,h2,h3,fun e j g c hg hc=>by
    obtain ⟨x,q1,q2,q3,q4⟩:=h4 e j g c hg hc
    exact ⟨x,q1,q2,q3,fun h=>q4 (hf h)⟩⟩
 ·exact .inl ⟨hid,by rw [List.getElem?_set_ne (Ne.symm hi)],fun _ _=>rfl⟩
theorem zfq {es ys:List (List AV)} {k:Nat} (h1:∀ g ∈ es,g.length=k) (h2:∀ g ∈ ys,g.length=k) (s:Nat):(es.take s++ys++es.drop (s+ys.length)).flatten=patch (s * k) ys.flatten es.flatten:=by
 rw [List.flatten_append,List.flatten_append,TT h1,Ph h1]
 unfold patch
 rw [yz h2,Nat.add_mul]
theorem Heap.splice {id g:Nat} {p:Pl} {r:zf} {s:Nat} {ys:List (List AV)} {vs:List Value} {fl:Bool} (H:Heap ρ w S O h) (hρ:ρ id=some (g,some p)) (hrow:h[id]? =some r) (hle:s+ys.length≤r.es.length) (hlen:∀ g ∈ ys,g.length=r.k)
  (hf:fl=true→r.flat=true) (hq:zQ (uh ρ w S O fl) ys.flatten vs):
  Heap ρ (w.setCells p.b (p.base+s * r.k) vs) S O (h.set id { r with es:=r.es.take s++ys++r.es.drop (s+ys.length),flat:=fl })∧uB w O (w.setCells p.b (p.base+s * r.k) vs) O∧w.there p.b (p.base+s * r.k) vs.length:=by
 obtain ⟨_,his⟩:=H.at hρ hrow
 have R:zm ρ w S O r p:=his
 have hyl:=yz hlen
 refine H.store hρ hrow (s * r.k) ys.flatten vs _ fl ?_ ?_ ?_ (zfq R.len hlen s) hf hq
 ·rw [← hq.1,hyl,← Nat.add_mul];exact Nat.mul_le_mul_right _ hle
 ·intro g hg
  rcases List.mem_append.1 hg with hg | hg
  ·rcases List.mem_append.1 hg with hg | hg
   ·exact R.len g (List.mem_of_mem_take hg)
   ·exact hlen g hg
  ·exact R.len g (List.mem_of_mem_drop hg)
 ·simp;omega
theorem zki {v:Value} {c:AV} (h:Jd v c=true):c.stable=true:=by
 unfold Jd at h
 split at h<;>first | rfl | cases h
theorem zaw:∀ {vs:List Value} {cs:List AV},Tn vs cs=true→AV.stableL cs=true
 | [],[],_=>rfl
 | v::vs,c::cs,h=>by
  simp only [Tn,Bool.and_eq_true] at h
  simp only [AV.stableL,zki h.1,zaw h.2,Bool.and_self]
 | [],_::_,h=>by cases h
 | _::_,[],h=>by cases h
theorem zlP (z:Array Value) (n:Nat):(Builtin.zeroCells z n).toList=(List.replicate n z.toList).flatten:=by
 have:=zkh z n
 rw [show Builtin.zeroCells z n=(Array.range (n * z.size)).map (z[· % z.size]!) from rfl,← this]
theorem WP {b o:Nat} {vs:List Value} (ht:w.there b o vs.length) (h1:∀ v ∈ vs,v.oneCell'=true):(storeCells ⟨b,o,none⟩ vs).run P w=.ok () (w.setCells b o vs):=by
 have:=run_storeCells_cells (P:=P) b o vs 0 w (fun j hj=>by simpa using (ht j (by omega)).1) (fun j hj=>by simpa using (ht j (by omega)).2) h1
 simpa using this
theorem zyn {zero:List AV} {x:zD} (hop:zI P o.op (.clear zero x)=true) (R:Rel G ρ w S O env a) (H:Heap ρ w S O h) (he:aop G env h (.clear zero x)=some (v,h')):LM ρ w S O h ((execOp a.eval o).run P w) v h':=by
 obtain ⟨v0,h0,he⟩:=za.1 he
 split at he
 case h_2=>cases he
 rename_i id g s l cc
 obtain ⟨r,hrow,he⟩:=za.1 he
 split at he
 case isFalse=>cases he
 rename_i hc
 cases he
 simp only [zI] at hop
 split at hop
 case h_2=>cases hop
 rename_i args ts heq
 split at hop
 case h_2=>cases hop
 rename_i y t ha ht
 simp only [Bool.and_eq_true] at hop
 obtain ⟨hx,hop⟩:=hop
 have e1:args= #[y]:=by apply Array.ext';simp [ha]
 have e2:ts= #[t]:=by apply Array.ext';simp [ht]
 subst e1 e2
 split at hop
 case h_2=>cases hop
 rename_i e hu
 obtain ⟨i,z,hi,hz,hcst⟩:=zbC hop
 have hstab:=zaw hcst
 obtain ⟨g',pl,ad,cap,hzz,hρ,hle,hlc,_,has,hpl⟩:=Te (zN hx R h0)
 obtain ⟨hg',his⟩:=H.at hρ hrow
 rw [hstab,Bool.and_true]
 have tup0:∀ ρ w O,zB ρ w S O (.tup []) (.tuple #[]):=fun ρ w O=>.tup [] [] rfl (fun i c v hc=>by simp at hc)
 by_cases hl:l=0
 ·subst hl
  have er:(⟨r.k,r.gen,r.flat,r.es.take s++List.replicate 0 zero++r.es.drop (s+0)⟩:zf)={ r with flat:=r.flat }:=by simp
  rw [er]
  refine ⟨.tuple #[],w,ρ,O,.inl ?_,.refl w O,.refl ρ,H.reflat hrow _ (fun h=>h),tup0 _ _ _,fun _ _ h=>h⟩
  cases ad<;>simp [execOp,heq,resolve,invoke,builtin,Builtin.clear_,hzz,run_underlying hu]
 ·rcases hpl (by omega) with hc0 | ⟨p,rfl,rfl,hlim⟩
  ·omega
  have hk:p.k=r.k:=zm.k his
  have hq:=LF ((Sw (ρ:=ρ) (w:=w) (S:=S) (O:=O) hcst).weak (f':=r.flat) (fun _=>rfl)) l
  obtain ⟨q1,q2,q3⟩:=H.splice hρ hrow (s:=s) (ys:=List.replicate l zero) (fl:=r.flat) (by simp;omega) (fun g hg=>by rw [List.eq_of_mem_replicate hg];exact hc.2.1.symm) (fun h=>h) hq
  simp only [List.length_replicate] at q1
  refine ⟨.tuple #[],_,ρ,O,.inl ?_,q2.x,.refl ρ,q1,tup0 _ _ _,fun _ _ h=>h⟩
  have hst:=WP (P:=P) q3 hq.one
  rw [← hk] at hst ⊢
  rw [← zlP] at hst ⊢
  obtain ⟨l,rfl⟩:∃ k,l=k+1:=⟨l - 1,by omega⟩
  simp [execOp,heq,resolve,invoke,builtin,Builtin.clear_,hzz,run_underlying hu,zeroValue,typeInfo,hi,hz,hst]
theorem vG {ad:Option Addr} {len cap k n:Nat} {us:List Value} (hl:us.length=n * k) (hc:us=[]∨∃ b off,ad=some ⟨b,off,none⟩∧∀ j v,us[j]? =some v→w.cell? ⟨b,off+j,none⟩=some v):
  (Builtin.firstCells k n (.slice ad len cap)).run P w=.ok us.toArray w:=by
 rcases hc with rfl | ⟨b,off,rfl,hc⟩
 ·have h0:n * k=0:=by simpa using hl.symm
  cases ad with
  | none=>exact run_firstCells_none w k n len cap
  | some ad=>exact run_firstCells_some w k n ad len cap [] (by simp;omega) (by simp)
 ·exact run_firstCells_some w k n ⟨b,off,none⟩ len cap us hl fun j v hj=>by rw [addr_add];exact hc j v hj
theorem gu {k:Nat} {v:AV} {x:Value} {es:List (List AV)} {fl:Bool} (H:Heap ρ w S O h) (hr:zB ρ w S O v x) (hg:oJ h k v=some (es,fl)):
  ∃ ad cap us,x=.slice ad es.length cap∧es.length≤cap∧(∀ g ∈ es,g.length=k)∧zQ (uh ρ w S O fl) es.flatten us∧(us=[]∨∃ b off,ad=some ⟨b,off,none⟩∧∀ j v,us[j]? =some v→w.cell? ⟨b,off+j,none⟩=some v):=by
 obtain ⟨ad,cap,h1,h2,h3,h4⟩:=zfT H hr hg
 rcases h4 with rfl | ⟨b,off,val,h5,h6,h7,h8⟩
 ·exact ⟨ad,cap,[],h1,h2,h3,by simpa using zQ.nil,.inl rfl⟩
 ·have hfl:=yz h3
  refine ⟨ad,cap,(List.range (es.length * k)).map fun i=>val (i / k) (i % k),h1,h2,h3,⟨by simp [hfl],fun i c u hc hu=> ?_⟩,.inr ⟨b,off,h5,fun j u hj=> ?_⟩⟩
  ·have hlt:i<es.length * k:=by have:=(List.getElem?_eq_some_iff.1 hc).1;omega
   have hk0:0<k:=by rcases Nat.eq_zero_or_pos k with h | h;(rw [h] at hlt;omega);exact h
   have he:i / k<es.length:=by rw [Nat.div_lt_iff_lt_mul hk0];exact hlt
   have hj:i % k<k:=Nat.mod_lt _ hk0
   have hij:i / k * k+i % k=i:=Nat.div_add_mod' i k
   have hgg:=List.getElem?_eq_getElem he
   have hc':=Tz h3 hgg hj
   rw [hij,hc] at hc'
   simp [hlt] at hu
   subst hu
   obtain ⟨q1,q2⟩:=h8 _ _ _ c hgg hc'.symm
   exact ⟨(h7 _ _ he hj).2,q1,q2⟩
  ·have hlt:j<es.length * k:=by have:=(List.getElem?_eq_some_iff.1 hj).1;simpa using this
   have hk0:0<k:=by rcases Nat.eq_zero_or_pos k with h | h;(rw [h] at hlt;omega);exact h
   simp [hlt] at hj
   subst hj
   have:=(h7 (j / k) (j % k) (by rw [Nat.div_lt_iff_lt_mul hk0];exact hlt) (Nat.mod_lt _ hk0)).1
   rwa [Nat.div_add_mod'] at this
end
end Go.Proofs.YthcnhibjddomdaaGreat
namespace Go.Proofs.YthcnhibjddomdaaGreat
open Go Go.RowKit
variable [FrB]
section
variable {P:Program} {G:Nat→Option (List AV)} {ρ:Rho} {w:World} {S O:Nat→Prop} {env:yF} {h:List zf} {a:Act} {o:Oper} {v:AV} {h':List zf}
theorem zBo {k:Nat} {x y:zD} (hop:zI P o.op (.copy k x y)=true) (R:Rel G ρ w S O env a) (H:Heap ρ w S O h) (he:aop G env h (.copy k x y)=some (v,h')):LM ρ w S O h ((execOp a.eval o).run P w) v h':=by
 obtain ⟨vx,hx0,he⟩:=za.1 he
 obtain ⟨vy,hy0,he⟩:=za.1 he
 obtain ⟨⟨ys,fl⟩,hg,he⟩:=za.1 he
 cases vx with
 | own id g s l c=>
  obtain ⟨r,hrow,he⟩:=za.1 he
  split at he
  case isFalse=>cases he
  rename_i hc
  cases he
  simp only [zI] at hop
  split at hop
  case h_2=>cases hop
  rename_i args ts heq
  split at hop
  case h_2=>cases hop
  rename_i x' y' t tl ha ht
  simp only [Bool.and_eq_true] at hop
  obtain ⟨⟨hx,hy⟩,hop⟩:=hop
  split at hop
  case h_2=>cases hop
  rename_i e hu
  have e1:args= #[x',y']:=by apply Array.ext';simp [ha]
  subst e1
  have ets:ts[0]? =some t:=by rw [← Array.getElem?_toList,ht];rfl
  obtain ⟨g',pl,ad,cap,hz,hρ,hle,hlc,_,has,hpl⟩:=Te (zN hx R hx0)
  obtain ⟨hg',his⟩:=H.at hρ hrow
  obtain ⟨ad2,cap2,us,hz2,hlc2,hyl,hq,hcells⟩:=gu H (zN hy R hy0) hg
  have hn:Nat.min ys.length l=min ys.length l:=rfl
  have hul:us.length=ys.length * k:=by rw [← hq.1,yz hyl]
  have htl:(us.take (min ys.length l * k)).length=min ys.length l * k:=by
   rw [List.length_take,hul];exact Nat.min_eq_left (Nat.mul_le_mul_right _ (Nat.min_le_left _ _))
  have hfc:=vG (P:=P) (w:=w) (ad:=ad2) (len:=ys.length) (cap:=cap2) (k:=k) (n:=min ys.length l) (us:=us.take (min ys.length l * k)) htl (by
   rcases hcells with rfl | ⟨b,off,rfl,hc⟩
   ·left;simp
   ·right
    exact ⟨b,off,rfl,fun j v hj=>hc j v (by rw [List.getElem?_take] at hj;split at hj;exact hj;cases hj)⟩)
  have hq2:zQ (uh ρ w S O (r.flat&&fl)) ((ys.take (min ys.length l)).flatten) (us.take (min ys.length l * k)):=by
   rw [TT hyl]
   exact (hq.take _).weak (fun hf=>by simp at hf;exact hf.2)
  have run:∀ w',(match ad with | some a=>storeCells a (us.take (min ys.length l * k)) | none=>pure ()).run P w=.ok () w'→(execOp a.eval o).run P w=.ok (.value (.int .i64 (min ys.length l:Nat))) w':=fun w' hst=>by
   have:(Builtin.copy_ ts o.type #[.slice ad l cap,.slice ad2 ys.length cap2]).run P w=.ok (goInt (min ys.length l:Nat)) w':=by
    simp only [Builtin.copy_,ets]
    cases ad with
    | none=>
     cases hst
     simp [run_underlying hu,Builtin.lenOf,uQ hop,hn,hfc]
    | some ad=>
     simp [run_underlying hu,Builtin.lenOf,uQ hop,hn,hfc,hst]
   simp [execOp,heq,resolve,invoke,builtin,hz,hz2,this,goInt]
  by_cases h0:min ys.length l=0
  ·have hr:(⟨r.k,r.gen,r.flat&&fl,r.es.take s++ys.take (min ys.length l)++r.es.drop (s+min ys.length l)⟩:zf)={ r with flat:=r.flat&&fl }:=by rw [h0];simp
   rw [hr]
   refine ⟨_,w,ρ,O,.inl (run w ?_),.refl w O,.refl ρ,H.reflat hrow _ (fun hf=>by simp at hf;exact hf.1),.s (.int _ _),fun _ _ h=>h⟩
   rw [h0]
   cases ad<;>simp [storeCells]
  ·rcases hpl (by omega) with hc0 | ⟨p,rfl,rfl,hlim⟩
   ·omega
   have hk:p.k=r.k:=zm.k his
   have hlt:(ys.take (min ys.length l)).length=min ys.length l:=by simp
   obtain ⟨q1,q2,q3⟩:=H.splice hρ hrow (s:=s) (ys:=ys.take (min ys.length l)) (fl:=r.flat&&fl) (by rw [hlt];omega) (fun g hg=>by rw [hc.2.1];exact hyl g (List.mem_of_mem_take hg)) (fun hf=>by simp at hf;exact hf.1) hq2
   rw [hlt] at q1
   refine ⟨_,_,ρ,O,.inl (run _ ?_),q2.x,.refl ρ,q1,.s (.int _ _),fun _ _ h=>h⟩
   rw [← hk] at q3 ⊢
   exact WP q3 hq2.one
 | _=>cases he
theorem Tt {ts:Array TypeId} {ty t u e:TypeId} {i:TypeInfo} {u2:TypeId} {ad ad2:Option Addr} {l cap n cap2:Nat} {news:List Value} {w':World} (ht:P.underlying t=some (.slice e)) (hts:ts= #[t,u]) (hu:P.underlying u=some (.slice u2))
  (hi:P.info? e=some i) (hfc:(Builtin.firstCells i.size n (.slice ad2 n cap2)).run P w=.ok news.toArray w) (hroom:l+n≤cap)
  (hst:(match ad with | some a=>storeCells (a.add (l * i.size)) news | none=>pure ()).run P w=.ok () w'):
  (Builtin.append_ ts ty #[.slice ad l cap,.slice ad2 n cap2]).run P w=.ok (.slice ad (l+n) cap) w':=by
 subst hts
 cases ad with
 | none=>
  cases hst
  simp [Builtin.append_,run_underlying ht,run_underlying hu,sizeOf,typeInfo,hi,Builtin.lenOf,hroom,hfc]
 | some ad=>
  simp [Builtin.append_,run_underlying ht,run_underlying hu,sizeOf,typeInfo,hi,Builtin.lenOf,hroom,hfc,hst]
theorem La {ts:Array TypeId} {ty t u e:TypeId} {i:TypeInfo} {z:Value} {u2:TypeId} {ad ad2:Option Addr} {l cap n cap2:Nat} {olds news:List Value} (ht:P.underlying t=some (.slice e)) (hts:ts= #[t,u]) (hu:P.underlying u=some (.slice u2))
  (hi:P.info? e=some i) (hz:i.zero=some z) (hb0:0<i.bytes) (hfo:(Builtin.firstCells i.size l (.slice ad l cap)).run P w.drew=.ok olds.toArray w.drew) (hfc:(Builtin.firstCells i.size n (.slice ad2 n cap2)).run P w.drew=.ok news.toArray w.drew)
  (hroom:cap<l+n) (hfit:(l+n) * i.bytes≤140737488355328):
  (Builtin.append_ ts ty #[.slice ad l cap,.slice ad2 n cap2]).run P w=.ok (.slice (some ⟨w.heap.size,0,none⟩) (l+n) (grownCap w (l+n) cap e))
   (w.drew.alloc (.cells (olds.toArray++news.toArray++Builtin.zeroCells z.cells (grownCap w (l+n) cap e - (l+n))) e)):=by
 subst hts
 have hn:¬ (l+n≤cap):=by omega
 have h48:=growslice_fits hroom hfit
 have h48':¬ (281474976710656<Builtin.nextslicecap (l+n) cap * i.bytes):=by omega
 have hb1:(l+n) * 1≤(l+n) * i.bytes:=Nat.mul_le_mul_left _ hb0
 have h63':¬ (9223372036854775807<((l:Int)+(n:Int))):=by omega
 have hb2:i.bytes≠0:=by omega
 rw [Array.append_assoc]
 simp [Builtin.append_,run_underlying ht,run_underlying hu,sizeOf,typeInfo,zeroValue,hi,hz,Builtin.lenOf,hn,h63',h48',Question.forced,hfc,hfo,newRow,grownCap,hb2]
theorem Heap.drew (H:Heap ρ w S O h):Heap ρ w.drew S O h:=H.step (.refl ρ) (.drew w O) (fun b hb=>H.bd b (.inr hb)) (fun _ _ _ hid=>.inl ⟨hid,rfl,fun _ _=>rfl⟩) H.inj
theorem zgu {k bytes:Nat} {x y:zD} (hop:zI P o.op (.append k bytes x y)=true):∃ x' y' t u e i z u2 ts,o.op=.call ⟨.builtin .append, #[x',y'],ts⟩∧ts= #[t,u]∧zJ x' x=true∧zJ y' y=true∧
  P.underlying t=some (.slice e)∧P.underlying u=some (.slice u2)∧P.info? e=some i∧i.size=k∧i.bytes=bytes∧0<k∧0<bytes∧i.zero=some z∧z.cells.size=k:=by
 simp only [zI] at hop
 split at hop
 case h_2=>cases hop
 rename_i args ts heq
 split at hop
 case h_2=>cases hop
 rename_i x' y' t u ha ht
 have e1:args= #[x',y']:=by apply Array.ext';simp [ha]
 have e2:ts= #[t,u]:=by apply Array.ext';simp [ht]
 subst e1
 simp only [Bool.and_eq_true] at hop
 obtain ⟨⟨⟨hx,hy⟩,hus⟩,hop⟩:=hop
 unfold zG3 at hus
 split at hus
 case h_2=>cases hus
 rename_i u2 hu
 split at hop
 case h_2=>cases hop
 rename_i e htu
 split at hop
 case h_2=>cases hop
 rename_i i hi
 simp only [Bool.and_eq_true,beq_iff_eq,decide_eq_true_eq] at hop
 obtain ⟨⟨⟨⟨h1,h2⟩,h3⟩,h4⟩,h5⟩:=hop
 split at h5
 case h_2=>cases h5
 rename_i z hz
 exact ⟨x',y',t,u,e,i,z,u2,ts,heq,e2,hx,hy,htu,hu,hi,h1,h2,h3,h4,hz,by simpa using h5⟩
theorem znk (op:Op) (k bytes:Nat) (x y:zD):zI P op (.appendD k bytes x y)=zI P op (.append k bytes x y):=rfl
theorem Heap.regrow {id:Nat} {x:Nat×Option Pl} (H:Heap ρ w S O h) (hx:∀ g pl,ρ id=some (g,pl)→g<x.1) (hid:id≤h.length) (arr:Array Value) (ty:TypeId) (r:zf) (lim:Nat) (vs:List Value) (hxe:x=(r.gen,some ⟨w.heap.size,0,r.k,lim⟩))
  (hl:r.es.length≤lim) (hs:lim * r.k≤arr.size) (hlen:∀ g ∈ r.es,g.length=r.k) (harr:∀ i,i<vs.length→arr[i]? =vs[i]?) (hq:zQ (uh ρ w S O r.flat) r.es.flatten vs) (h':List zf)
  (hh:h'[id]? =some r) (hho:∀ i,i≠id→i<h.length→h'[i]? =h[i]?):
  Heap (upd ρ id x) (w.alloc (.cells arr ty)) S (fun b=>O b∨b=w.heap.size) h'∧Ext ρ (upd ρ id x):=by
 have he:Ext ρ (upd ρ id x):=fun i g pl hi=>by
  by_cases e:i=id
  ·subst e
   exact ⟨x.1,x.2,upd_same ρ _ _,Nat.le_of_lt (hx g pl hi),fun e=>absurd e (Nat.ne_of_lt (hx g pl hi))⟩
  ·exact ⟨g,pl,by rw [upd_ne ρ _ e];exact hi,Nat.le_refl _,fun _=>rfl⟩
 have ha:=uB.alloc w O (.cells arr ty)
 refine ⟨H.step he ha (fun b hb=> ?_) (fun i g pl hi=> ?_) (fun i i' g g' p p' h1 h2 hb=> ?_),he⟩
 ·rcases hb with hb | rfl
  ·have:=H.bd b (.inr hb);simp;omega
  ·simp
 ·by_cases e:i=id
  ·subst e
   rw [upd_same] at hi
   rw [hxe] at hi
   cases hi
   exact .inr ⟨r,hh,rfl,zm.ofFlat (vs:=vs) rfl hl (.inr rfl) hlen (heap_alloc_new _ _) (by simpa using hs) ⟨Nat.le_refl _,fun j _=>by omega,fun _=>rfl⟩ (fun i hi=>by simpa using harr i hi) (hq.adv he ha)⟩
  ·rw [upd_ne ρ _ e] at hi
   exact .inl ⟨hi,hho i e (H.lt hi),fun p hp=>by
    subst hp
    obtain ⟨r',_,_,hR⟩:=H.row i g _ hi
    exact Below.heap_alloc w _ _ (zm.lt hR)⟩
 ·have old:∀ {j g q},ρ j=some (g,some q)→q.b<w.heap.size:=fun {j g q} hj=>by
   obtain ⟨r',_,_,hR⟩:=H.row j g _ hj
   exact zm.lt hR
  by_cases e:i=id
  ·by_cases e':i'=id
   ·omega
   ·subst e
    rw [upd_same,hxe] at h1
    rw [upd_ne ρ _ e'] at h2
    cases h1
    have:=old h2
    simp at hb;omega
  ·rw [upd_ne ρ _ e] at h1
   by_cases e':i'=id
   ·subst e'
    rw [upd_same,hxe] at h2
    cases h2
    have:=old h1
    simp at hb;omega
   ·rw [upd_ne ρ _ e'] at h2
    exact H.inj i i' g g' p p' h1 h2 hb
theorem Heap.reroom {id g:Nat} {p:Pl} {r:zf} {s l cap:Nat} {ys:List (List AV)} {us:List Value} {fl:Bool} (H:Heap ρ w S O h) (hρ:ρ id=some (g,some p)) (hrow:h[id]? =some r) (hs:s+l≤r.es.length) (hcap:s+cap≤p.lim)
  (hln:l+ys.length≤cap) (hyl:∀ g ∈ ys,g.length=r.k) (hf:fl=true→r.flat=true) (hq:zQ (uh ρ w S O fl) ys.flatten us):
  Heap (upd ρ id (g+1,some ⟨p.b,p.base+s * r.k,r.k,cap⟩)) (w.setCells p.b (p.base+(s+l) * r.k) us) S O (h.set id ⟨r.k,g+1,fl,(r.es.drop s).take l++ys⟩)∧Ext ρ (upd ρ id (g+1,some ⟨p.b,p.base+s * r.k,r.k,cap⟩))∧
   uB w O (w.setCells p.b (p.base+(s+l) * r.k) us) O∧w.there p.b (p.base+(s+l) * r.k) us.length:=by
 obtain ⟨hg,his⟩:=H.at hρ hrow
 have R:zm ρ w S O r p:=his
 obtain ⟨arr,ty,lo,hi,us0,h1,h2,h3,h4,h5⟩:=R.flat
 have hA:=uB.setCells w R.own (p.base+(s+l) * r.k) us
 have hfl:=yz R.len
 have hul:us0.length=r.es.length * r.k:=by rw [← h5.1,hfl]
 have hyf:us.length=ys.length * r.k:=by rw [← hq.1,yz hyl]
 have hk:=R.k
 have m1:(s+cap) * r.k≤p.lim * r.k:=Nat.mul_le_mul_right _ hcap
 have m2:(l+ys.length) * r.k≤cap * r.k:=Nat.mul_le_mul_right _ hln
 have m3:(s+l) * r.k≤r.es.length * r.k:=Nat.mul_le_mul_right _ hs
 rw [Nat.add_mul] at m1 m2
 have m4:(s+l) * r.k=s * r.k+l * r.k:=Nat.add_mul _ _ _
 rw [hk] at h2
 have hblk:=oz us p.b (p.base+(s+l) * r.k) w arr ty (lo,hi) h1 (by omega)
 have he:Ext ρ (upd ρ id (g+1,some ⟨p.b,p.base+s * r.k,r.k,cap⟩)):=fun i g0 pl hi=>by
  by_cases e:i=id
  ·subst e
   rw [hρ] at hi
   cases hi
   exact ⟨_,_,upd_same ρ _ _,Nat.le_succ _,fun e=>by omega⟩
  ·exact ⟨g0,pl,by rw [upd_ne ρ _ e];exact hi,Nat.le_refl _,fun _=>rfl⟩
 refine ⟨H.step he hA (fun b hb=> ?_) (fun id' g' pl' hid=> ?_) (fun i i' g1 g2 p1 p2 q1 q2 hb=> ?_),he,hA,fun j hj=> ?_⟩
 ·rw [setCells_size];exact H.bd b (.inr hb)
 ·by_cases hii:id'=id
  ·subst hii
   rw [upd_same] at hid
   cases hid
   refine .inr ⟨⟨r.k,g+1,fl,(r.es.drop s).take l++ys⟩,by rw [List.getElem?_set_self (List.getElem?_eq_some_iff.1 hrow).1],rfl, ?_⟩
   have e5:=((((h5.weak hf).drop (s * r.k)).take (l * r.k)).append hq).adv he hA
   have e6:((r.es.drop s).take l++ys).flatten=(r.es.flatten.drop (s * r.k)).take (l * r.k)++ys.flatten:=by
    rw [List.flatten_append,TT (fun g hg=>R.len g (List.mem_of_mem_drop hg)),Ph R.len]
   rw [← e6] at e5
   have hll:((us0.drop (s * r.k)).take (l * r.k)).length=l * r.k:=by simp;omega
   refine zm.ofFlat (vs:=(us0.drop (s * r.k)).take (l * r.k)++us) rfl (by simp;omega) R.own (fun g hg=> ?_) hblk
    (by simp [yA (vs:=arr.toList) (us:=us) (off:=p.base+(s+l) * r.k) (by simp;omega)];omega)
    ⟨h3.1,fun j hj=>h3.2.1 j (by simpa [yA (vs:=arr.toList) (us:=us) (off:=p.base+(s+l) * r.k) (by simp;omega)] using hj),h3.2.2⟩ (fun i hi=> ?_) e5
   ·rcases List.mem_append.1 hg with hg | hg
    ·exact R.len g (List.mem_of_mem_drop (List.mem_of_mem_take hg))
    ·exact hyl g hg
   ·rw [List.length_append,hll] at hi
    rw [List.getElem?_toArray,yS (by simp;omega)]
    simp only
    by_cases hc:i<l * r.k
    ·rw [if_neg (by omega),List.getElem?_append_left (by omega),List.getElem?_take,if_pos hc,List.getElem?_drop,Nat.add_assoc,← h4 _ (by omega)]
     simp
    ·rw [if_pos (by omega),List.getElem?_append_right (by omega),hll]
     congr 1;omega
  ·rw [upd_ne ρ _ hii] at hid
   refine .inl ⟨hid,by rw [List.getElem?_set_ne (Ne.symm hii)],fun p' hp'=>jr us _ _ w _ (fun e=>hii ?_)⟩
   subst hp'
   exact H.inj id' id g' g p' p hid hρ e
 ·by_cases e1:i=id
  ·by_cases e2:i'=id
   ·omega
   ·subst e1
    rw [upd_same] at q1
    rw [upd_ne ρ _ e2] at q2
    cases q1
    exact H.inj _ _ _ _ _ _ hρ q2 hb
  ·rw [upd_ne ρ _ e1] at q1
   by_cases e2:i'=id
   ·subst e2
    rw [upd_same] at q2
    cases q2
    exact H.inj _ _ _ _ _ _ q1 hρ hb
   ·rw [upd_ne ρ _ e2] at q2
    exact H.inj _ _ _ _ _ _ q1 q2 hb
 ·have hlt:p.base+(s+l) * r.k+j<arr.size:=by omega
  refine ⟨by rw [cell_of_row w p.b _ arr ty _ h1];simp [hlt], ?_⟩
  have:=h3.2.1 _ hlt
  simp only [World.frozen?,h1]
  simpa using this
theorem Heap.unplace {id g:Nat} {pl:Option Pl} {r:zf} (H:Heap ρ w S O h) (hρ:ρ id=some (g,pl)) (hrow:h[id]? =some r) (r':zf) (hr:r'.es=[]) (hg:r'.gen=g+1):
  Heap (upd ρ id (g+1,none)) w S O (h.set id r')∧Ext ρ (upd ρ id (g+1,none)):=by
 have he:Ext ρ (upd ρ id (g+1,none)):=fun i g0 pl hi=>by
  by_cases e:i=id
  ·subst e
   rw [hρ] at hi
   cases hi
   exact ⟨_,_,upd_same ρ _ _,Nat.le_succ _,fun e=>by omega⟩
  ·exact ⟨g0,pl,by rw [upd_ne ρ _ e];exact hi,Nat.le_refl _,fun _=>rfl⟩
 refine ⟨H.step he (.refl w O) (fun b hb=>H.bd b (.inr hb)) (fun id' g' pl' hid=> ?_) (fun i i' g1 g2 p1 p2 q1 q2 hb=> ?_),he⟩
 ·by_cases hii:id'=id
  ·subst hii
   rw [upd_same] at hid
   cases hid
   exact .inr ⟨r',by rw [List.getElem?_set_self (List.getElem?_eq_some_iff.1 hrow).1],hg,hr⟩
  ·rw [upd_ne ρ _ hii] at hid
   exact .inl ⟨hid,by rw [List.getElem?_set_ne (Ne.symm hii)],fun _ _=>rfl⟩
 ·by_cases e1:i=id
  ·subst e1;rw [upd_same] at q1;cases q1
  ·by_cases e2:i'=id
   ·subst e2;rw [upd_same] at q2;cases q2
   ·rw [upd_ne ρ _ e1] at q1;rw [upd_ne ρ _ e2] at q2;exact H.inj _ _ _ _ _ _ q1 q2 hb
end
end Go.Proofs.YthcnhibjddomdaaGreat
namespace Go.Proofs.YthcnhibjddomdaaGreat
open Go Go.RowKit
variable [FrB]
section
variable {P:Program} {G:Nat→Option (List AV)} {ρ:Rho} {w:World} {S O:Nat→Prop} {env:yF} {h:List zf} {a:Act} {o:Oper} {v:AV} {h':List zf}
theorem zB.drew {x:Value} (h:zB ρ w S O v x):zB ρ w.drew S O v x:=h.adv (.refl ρ) (.drew w O)
theorem zQ.drew {f:Bool} {cs:List AV} {vs:List Value} (h:zQ (uh ρ w S O f) cs vs):zQ (uh ρ w.drew S O f) cs vs:=h.adv (.refl ρ) (.drew w O)
theorem LM.drew {run:Result Next} (k:LM ρ w.drew S O h run v h'):LM ρ w S O h run v h':=by
 obtain ⟨x,w',ρ',O',h1,h2,h3⟩:=k
 exact ⟨x,w',ρ',O',h1,(uB.drew w O).x.trans h2,h3⟩
theorem OpN.drew {run:Result Next} (k:OpN ρ w.drew S O h run v h'):OpN ρ w S O h run v h':=by
 obtain ⟨x,w',ρ',O',h1,h2,h3⟩:=k
 exact ⟨x,w',ρ',O',h1,(uB.drew w O).trans h2,h3⟩
theorem za6 {z:Array Value} {olds news:List Value} {l n k c:Nat} (h1:olds.length=l * k) (h2:news.length=n * k) (hz:z.size=k) (hc:l+n≤c):
  (olds.toArray++news.toArray++Builtin.zeroCells z (c - (l+n))).size=c * k:=by
 rw [Array.size_append,Array.size_append,size_zeroCells,hz,List.size_toArray,List.size_toArray,h1,h2,← Nat.add_mul,← Nat.add_mul]
 congr 1;omega
theorem zuU {k bytes:Nat} {x y:zD} (hop:zI P o.op (.append k bytes x y)=true) (R:Rel G ρ w S O env a) (H:Heap ρ w S O h) (he:aop G env h (.append k bytes x y)=some (v,h')):LM ρ w S O h ((execOp a.eval o).run P w) v h':=by
 obtain ⟨vx,hx0,he⟩:=za.1 he
 obtain ⟨vy,hy0,he⟩:=za.1 he
 obtain ⟨⟨ys,fl⟩,hg,he⟩:=za.1 he
 obtain ⟨x',y',t,u,e,i,z,u2,ts,heq,hts,hx,hy,ht,hu,hi,hsz,hby,hk0,hb0,hz,hzk⟩:=zgu hop
 have rx:=zN hx R hx0
 obtain ⟨ad2,cap2,us,hzy,hle2,hyl,hq,hcells⟩:=gu H (zN hy R hy0) hg
 have hul:us.length=ys.length * k:=by rw [← hq.1,yz hyl]
 have hfc:=vG (P:=P) (w:=w) (ad:=ad2) (len:=ys.length) (cap:=cap2) (k:=k) (n:=ys.length) (us:=us) hul hcells
 have hfd:=vG (P:=P) (w:=w.drew) (ad:=ad2) (len:=ys.length) (cap:=cap2) (k:=k) (n:=ys.length) (us:=us) hul hcells
 have run1:∀ {vv w'},(Builtin.append_ ts o.type #[a.eval x',a.eval y']).run P w=.ok vv w'→(execOp a.eval o).run P w=.ok (.value vv) w':=fun hr=>by
  simp [execOp,heq,resolve,invoke,builtin,hr]
 rw [← hsz] at hfc hfd
 cases vx with
 | own id g s l c=>
  obtain ⟨r,hrow,he⟩:=za.1 he
  simp only at he
  split at he
  ·rename_i hin
   split at he
   case isFalse=>cases he
   rename_i hc
   obtain ⟨hgen,hrk,hsl⟩:=hc
   cases he
   obtain ⟨g',pl,ad,cap,hzx,hρ,hle,hlc,hcc,has,hpl⟩:=Te rx
   obtain ⟨hg',his⟩:=H.at hρ hrow
   have hgg:g=g':=by omega
   subst hgg
   rw [hzx,hzy] at run1
   have hroom:l+ys.length≤cap:=by omega
   rcases hpl rfl with hc1 | ⟨p,rfl,rfl,hlim⟩
   ·omega
   have hpk:p.k=r.k:=zm.k his
   obtain ⟨q1,q2,q3⟩:=H.splice hρ hrow (s:=s+l) (ys:=ys) (vs:=us) (fl:=r.flat&&fl) (by omega) (fun g hg=>by rw [hrk];exact hyl g hg) (fun hf=>by simp at hf;exact hf.1) (hq.weak (fun hf=>by simp at hf;exact hf.2))
   rw [hrk] at q1 q2 q3
   have er:({ r with k:=k,es:=r.es.take (s+l)++ys++r.es.drop (s+l+ys.length),flat:=r.flat&&fl }:zf)=⟨k,g,r.flat&&fl,r.es.take (s+l)++ys++r.es.drop (s+l+ys.length)⟩:=by rw [← hgen]
   refine ⟨_,_,ρ,O,.inl (run1 (Tt ht hts hu hi hfc hroom ?_)),q2.x,.refl ρ, ?_, ?_,fun j _ hn=>hn⟩
   ·have hst:=WP (P:=P) q3 hq.one
    have ea:p.base+(s+l) * k=p.base+s * p.k+l * i.size:=by rw [hpk,hrk,hsz,Nat.add_mul];omega
    simp only [addr_add]
    rw [← ea];exact hst
   ·rw [← er];exact q1
   ·exact .own id g g (some p) s _ _ _ _ hρ (Nat.le_refl _) hroom hcc (fun _=>rfl) (fun _=>.inr ⟨p,rfl,rfl,hlim⟩)
  split at he
  case isFalse=>cases he
  rename_i hnin hc
  obtain ⟨hgen,hrk,hsl,hbo⟩:=hc
  cases he
  obtain ⟨g',pl,ad,cap,hzx,hρ,hle,hlc,hcc,has,hpl⟩:=Te rx
  obtain ⟨hg',his⟩:=H.at hρ hrow
  have hgg:g=g':=by omega
  subst hgg
  simp only [uR,decide_eq_true_eq] at hbo
  rw [← hby] at hbo
  rw [hzx,hzy] at run1
  by_cases hroom:l+ys.length≤cap
  ·by_cases hc0:cap=0
   ·have hl0:l=0:=by omega
    have hy0:ys=[]:=List.eq_nil_of_length_eq_zero (by omega)
    subst hl0 hy0
    have hu0:us=[]:=List.eq_nil_of_length_eq_zero (by simpa using hul)
    subst hu0
    obtain ⟨q1,q2⟩:=H.unplace hρ hrow ⟨k,g+1,r.flat&&fl,(r.es.drop s).take 0++[]⟩ (by simp) rfl
    refine ⟨_,w,_,O,.inl (run1 (Tt ht hts hu hi hfc hroom ?_)),.refl w O,q2,q1, ?_, ?_⟩
    ·cases ad<;>simp [storeCells]
    ·exact .own _ _ _ _ _ _ _ _ _ (upd_same ρ _ _) (Nat.le_refl _) hroom hroom (fun h=>by omega) (fun _=>.inl hc0)
    ·intro j hj hn
     rw [upd_ne ρ _ (fun e=>by rw [e,hρ] at hn;cases hn)];exact hn
   ·rcases hpl rfl with hc1 | ⟨p,rfl,rfl,hlim⟩
    ·omega
    have hpk:p.k=r.k:=zm.k his
    obtain ⟨q1,q2,q3,q4⟩:=H.reroom hρ hrow (s:=s) (l:=l) (cap:=cap) (ys:=ys) (us:=us) (fl:=r.flat&&fl) hsl hlim hroom (fun g hg=>by rw [hrk];exact hyl g hg) (fun hf=>by simp at hf;exact hf.1)
     (hq.weak (fun hf=>by simp at hf;exact hf.2))
    rw [hrk] at q1 q2 q3 q4
    refine ⟨_,_,_,O,.inl (run1 (Tt ht hts hu hi hfc hroom ?_)),q3.x,q2,q1, ?_, ?_⟩
    ·have hst:=WP (P:=P) q4 hq.one
     have ea:p.base+(s+l) * k=p.base+s * p.k+l * i.size:=by rw [hpk,hrk,hsz,Nat.add_mul];omega
     simp only [addr_add]
     rw [← ea];exact hst
    ·exact .own _ _ _ _ _ _ _ _ _ (upd_same ρ _ _) (Nat.le_refl _) hroom hroom (fun _=>rfl) (fun _=>.inr ⟨_,rfl,by simp [hpk,hrk],by simp⟩)
    ·intro j hj hn
     rw [upd_ne ρ _ (fun e=>by rw [e,hρ] at hn;cases hn)];exact hn
  ·have hgx:oJ h k (.own id g s l c)=some ((r.es.drop s).take l,r.flat):=by
    simp [oJ,hrow,hgen,hrk,hsl]
   obtain ⟨adx,capx,usx,hzx2,hlx,hxl,hqx,hcx⟩:=gu H rx hgx
   have hxlen:((r.es.drop s).take l).length=l:=by simp;omega
   rw [hxlen] at hzx2
   rw [hzx] at hzx2
   cases hzx2
   have hxul:usx.length=l * k:=by rw [← hqx.1,yz hxl,hxlen]
   have hfo:=vG (P:=P) (w:=w.drew) (ad:=ad) (len:=l) (cap:=cap) (k:=k) (n:=l) (us:=usx) hxul hcx
   rw [← hsz] at hfo
   have hrun:=run1 (La ht hts hu hi hz (by omega) hfo hfd (by omega) hbo)
   have hge:=grownCap_ge w (l+ys.length) cap e
   have hqq:zQ (uh ρ w S O (r.flat&&fl)) ((r.es.drop s).take l++ys).flatten (usx++us):=by
    rw [List.flatten_append]
    exact (hqx.weak (fun hf=>by simp at hf;exact hf.1)).append (hq.weak (fun hf=>by simp at hf;exact hf.2))
   have hsz2:=za6 (c:=grownCap w (l+ys.length) cap e) hxul hul hzk hge
   obtain ⟨q1,q2⟩:=H.drew.regrow (id:=id) (x:=(g+1,some ⟨w.heap.size,0,k,grownCap w (l+ys.length) cap e⟩)) (fun g0 pl0 h0=>by rw [hρ] at h0;cases h0;exact Nat.lt_succ_self _) (Nat.le_of_lt (H.lt hρ))
    (usx.toArray++us.toArray++Builtin.zeroCells z.cells (grownCap w (l+ys.length) cap e - (l+ys.length))) e ⟨k,g+1,r.flat&&fl,(r.es.drop s).take l++ys⟩ (grownCap w (l+ys.length) cap e) (usx++us) rfl
    (by simp only [List.length_append,hxlen];exact hge) (Nat.le_of_eq hsz2.symm) (fun g hg=>by
     rcases List.mem_append.1 hg with hg | hg
     ·exact hxl g hg
     ·exact hyl g hg) (fun j hj=>by
     rw [Array.getElem?_append_left (by simpa using hj),← Array.getElem?_toList]
     simp) hqq.drew (h.set id ⟨k,g+1,r.flat&&fl,(r.es.drop s).take l++ys⟩) (by rw [List.getElem?_set_self (H.lt hρ)]) (fun j hj _=>by rw [List.getElem?_set_ne (Ne.symm hj)])
   refine LM.drew ⟨_,_,_,_,.inl hrun,(uB.alloc w.drew O _).x,q2,q1, ?_, ?_⟩
   ·exact .own _ _ _ _ _ _ _ _ _ (upd_same ρ _ _) (Nat.le_refl _) hge hge (fun _=>rfl) (fun _=>.inr ⟨_,rfl,by simp,by simp⟩)
   ·intro j hj hn
    rw [upd_ne ρ _ (fun e=>by rw [e,hρ] at hn;cases hn)];exact hn
 | data bo k' es full=>
  cases full with
  | false=>cases he
  | true=>
   obtain ⟨ad,cap,hzx,h1,h2,h3,h4⟩:=oK rx
   have hcap:=h2 rfl
   subst hcap
   rw [hzx,hzy] at run1
   cases es with
   | nil=>
    change (if uR ys.length bytes=true then some (AV.own h.length 0 0 ys.length ys.length,h++[⟨k,0,fl,ys⟩]) else none)=some (v,h') at he
    split at he
    case isFalse=>cases he
    rename_i hbo
    cases he
    simp only [uR,decide_eq_true_eq] at hbo
    rw [← hby] at hbo
    cases ys with
    | nil=>
     have hu0:us=[]:=List.eq_nil_of_length_eq_zero (by simpa using hul)
     subst hu0
     refine ⟨_,w,upd ρ h.length (0,none),O,.inl (run1 (Tt ht hts hu hi hfc (by simp) ?_)),.refl w O,zeN ρ _ (H.none_ge (Nat.le_refl _)),H.virtual ⟨k,0,fl,[]⟩ rfl, ?_,zb0 ρ _ (Nat.le_refl _)⟩
     ·cases ad<;>simp [storeCells]
     ·exact .own _ _ _ _ _ _ _ _ _ (upd_same ρ _ _) (Nat.le_refl _) (by simp) (by simp) (fun h=>by simp at h) (fun _=>.inl rfl)
    | cons y0 ys=>
     have hfo:=vG (P:=P) (w:=w.drew) (ad:=ad) (len:=0) (cap:=0) (k:=k) (n:=0) (us:=[]) (by simp) (.inl rfl)
     rw [← hsz] at hfo
     have hrun:=run1 (La ht hts hu hi hz (by omega) hfo hfd (by simp) (by simpa using hbo))
     have hge:=grownCap_ge w (0+(y0::ys).length) 0 e
     have hsz2:=za6 (c:=grownCap w (0+(y0::ys).length) 0 e) (olds:=[]) (by simp) hul hzk hge
     refine LM.drew (OpN.toOp (.alloc H.drew _ e ⟨k,0,fl,y0::ys⟩ (grownCap w (0+(y0::ys).length) 0 e) us (by simpa using hge) (Nat.le_of_eq hsz2.symm) hyl (fun j hj=> ?_) hq.drew hrun ?_))
     ·rw [Array.getElem?_append_left (by simpa using hj),← Array.getElem?_toList];simp
     ·have hz0:0+(y0::ys).length=(y0::ys).length:=Nat.zero_add _
      generalize hcc:grownCap w (0+(y0::ys).length) 0 e=cc at hge
      rw [hz0] at hge
      rw [show ([]:List (List AV)).length+(y0::ys).length=(y0::ys).length from Nat.zero_add _]
      exact .own _ _ _ _ _ _ _ _ _ (upd_same ρ _ _) (Nat.le_refl _) hge hge (fun _=>rfl) (fun _=>.inr ⟨_,rfl,by simp,by simp⟩)
   | cons e0 es=>
    cases ys with
    | nil=>
     change some (AV.data bo k' (e0::es) true,h)=some (v,h') at he
     cases he
     have hu0:us=[]:=List.eq_nil_of_length_eq_zero (by simpa using hul)
     subst hu0
     refine .pure H (run1 (Tt ht hts hu hi hfc (by simp) ?_)) (hzx ▸ rx)
     cases ad<;>simp [storeCells]
    | cons y0 ys=>
     change (if k'=k∧uR (es.length+1+(y0::ys).length) bytes=true∧(!bo||uC (e0::es))=true then some (AV.own h.length 0 0 (es.length+1+(y0::ys).length) (es.length+1+(y0::ys).length),h++[⟨k,0,fl,e0::es++(y0::ys)⟩]) else none)=some (v,h') at he
     split at he
     case isFalse=>cases he
     rename_i hbo
     obtain ⟨rfl,hbo,hpl⟩:=hbo
     cases he
     simp only [uR,decide_eq_true_eq] at hbo
     rw [← hby] at hbo
     have hgx:oJ h k' (.data bo k' (e0::es) true)=some (e0::es,true):=by
      show (if k'=k' then (if (!bo||uC (e0::es))=true then some (e0::es,true) else none) else none)=_
      rw [if_pos rfl,if_pos hpl]
     obtain ⟨adx,capx,usx,hzx2,hlx,hxl,hqx,hcx⟩:=gu H rx hgx
     rw [hzx] at hzx2
     cases hzx2
     have hxul:usx.length=(e0::es).length * k':=by rw [← hqx.1,yz hxl]
     have hfo:=vG (P:=P) (w:=w.drew) (ad:=ad) (len:=(e0::es).length) (cap:=(e0::es).length) (k:=k') (n:=(e0::es).length) (us:=usx) hxul hcx
     rw [← hsz] at hfo
     have hrun:=run1 (La ht hts hu hi hz (by omega) hfo hfd (by simp) hbo)
     have hge:=grownCap_ge w ((e0::es).length+(y0::ys).length) (e0::es).length e
     have hsz2:=za6 (c:=grownCap w ((e0::es).length+(y0::ys).length) (e0::es).length e) hxul hul hzk hge
     have hqq:zQ (uh ρ w S O fl) (e0::es++(y0::ys)).flatten (usx++us):=by
      rw [List.flatten_append]
      exact (hqx.weak (fun _=>rfl)).append hq
     refine LM.drew (OpN.toOp (.alloc H.drew _ e ⟨k',0,fl,e0::es++(y0::ys)⟩ (grownCap w ((e0::es).length+(y0::ys).length) (e0::es).length e) (usx++us) (by rw [List.length_append];exact hge) (Nat.le_of_eq hsz2.symm) (fun g hg=> ?_) (fun j hj=> ?_) hqq.drew hrun ?_))
     ·rcases List.mem_append.1 hg with hg | hg
      ·exact hxl g hg
      ·exact hyl g hg
     ·rw [Array.getElem?_append_left (by simpa using hj),← Array.getElem?_toList];simp
     ·exact .own _ _ _ _ _ _ _ _ _ (upd_same ρ _ _) (Nat.le_refl _) hge hge (fun _=>rfl) (fun _=>.inr ⟨_,rfl,by simp,by simp⟩)
 | _=>cases he
theorem zpr {k bytes:Nat} {x y:zD} (hop:zI P o.op (.appendD k bytes x y)=true) (R:Rel G ρ w S O env a) (H:Heap ρ w S O h) (he:aop G env h (.appendD k bytes x y)=some (v,h')):OpN ρ w S O h ((execOp a.eval o).run P w) v h':=by
 obtain ⟨vx,hx0,he⟩:=za.1 he
 obtain ⟨vy,hy0,he⟩:=za.1 he
 obtain ⟨v1,hev,e1⟩:=ze.1 he
 clear he
 cases e1
 obtain ⟨⟨ys,fl⟩,hg,he⟩:=za.1 hev
 clear hev
 rw [znk] at hop
 obtain ⟨x',y',t,u,e,i,z,u2,ts,heq,hts,hx,hy,ht,hu,hi,hsz,hby,hk0,hb0,hz,hzk⟩:=zgu hop
 have rx:=zN hx R hx0
 obtain ⟨ad2,cap2,us,hzy,hle2,hyl,hq,hcells⟩:=gu H (zN hy R hy0) hg
 have hul:us.length=ys.length * k:=by rw [← hq.1,yz hyl]
 have hfc:=vG (P:=P) (w:=w) (ad:=ad2) (len:=ys.length) (cap:=cap2) (k:=k) (n:=ys.length) (us:=us) hul hcells
 have hfd:=vG (P:=P) (w:=w.drew) (ad:=ad2) (len:=ys.length) (cap:=cap2) (k:=k) (n:=ys.length) (us:=us) hul hcells
 have run1:∀ {vv w'},(Builtin.append_ ts o.type #[a.eval x',a.eval y']).run P w=.ok vv w'→(execOp a.eval o).run P w=.ok (.value vv) w':=fun hr=>by
  simp [execOp,heq,resolve,invoke,builtin,hr]
 rw [← hsz] at hfc hfd
 split at he
 case h_2=>cases he
 rename_i k' es _
 split at he
 case isFalse=>cases he
 rename_i hc
 obtain ⟨hk',hfl,hbo⟩:=hc
 have hfl:fl=true:=hfl
 subst hfl
 cases he
 simp only [uR,decide_eq_true_eq] at hbo
 rw [← hby] at hbo
 obtain ⟨ad,cap,hzx,h1,h2,h3,h4⟩:=oK rx
 have hcap:=h2 rfl
 subst hcap
 rw [hzx,hzy] at run1
 have hxl:∀ g ∈ es,g.length=k:=fun g hg=>by
  have:=h3 g hg
  cases es with
  | nil=>simp at hg
  | cons e0 es=>simp at hk';omega
 cases ys with
 | nil=>
  have hu0:us=[]:=List.eq_nil_of_length_eq_zero (by simpa using hul)
  subst hu0
  have hrun:=run1 (Tt (w':=w) ht hts hu hi hfc (by simp) (by cases ad<;>simp [storeCells]))
  refine .pure H hrun ?_
  simp only [List.append_nil,List.length_nil,Nat.add_zero]
  refine NL (Nat.le_refl _) (fun h=>by cases h) hxl ?_
  rcases h4 with h4 | h4
  ·exact .inl h4
  ·refine .inr ?_
   cases es with
   | nil=>obtain ⟨b,off,val,q1,q2,q3,q4,q5,q6⟩:=h4;exact ⟨b,off,val,q1,q2,q3,q4,fun e j he=>by simp at he,q6⟩
   | cons e0 es=>
    simp at hk'
    subst hk'
    exact h4
 | cons y0 ys=>
  have hgx:oJ h k (.data false k es true)=some (es,true):=by simp [oJ]
  have rx':zB ρ w S O (.data false k es true) (.slice ad es.length es.length):=by
   rw [← hzx]
   cases es with
   | nil=>rw [hzx];exact .s (.data0 _ _ _ _ (fun _=>rfl))
   | cons e0 es=>simp at hk';subst hk';exact rx
  obtain ⟨adx,capx,usx,hzx2,hlx,hxl2,hqx,hcx⟩:=gu H rx' hgx
  cases hzx2
  have hxul:usx.length=es.length * k:=by rw [← hqx.1,yz hxl]
  have hfo:=vG (P:=P) (w:=w.drew) (ad:=ad) (len:=es.length) (cap:=es.length) (k:=k) (n:=es.length) (us:=usx) hxul hcx
  rw [← hsz] at hfo
  have hrun:=run1 (La ht hts hu hi hz (by omega) hfo hfd (by simp) hbo)
  have hge:=grownCap_ge w (es.length+(y0::ys).length) es.length e
  have hqq:zQ (uh ρ w S O true) (es++(y0::ys)).flatten (usx++us):=by
   rw [List.flatten_append]
   exact hqx.append hq
  rw [← List.length_append] at hrun hge
  refine OpN.drew (.frozen H.drew hrun (fun g hg=> ?_) hge (fun h=>by cases h) (fun j hj=> ?_) hqq.drew)
  ·rcases List.mem_append.1 hg with hg | hg
   ·exact hxl g hg
   ·exact hyl g hg
  ·rw [Array.getElem?_append_left (by simpa using hj),← Array.getElem?_toList];simp
theorem zkg {b lo hi:Nat} {arr:Array Value} {ty:TypeId} (hb:w.heap[b]? =some (.cells arr ty (lo,hi))):
  (w.freeze ⟨b,arr.size,none⟩ 1).heap[b]? =some (.cells arr ty (if lo==hi then (arr.size,arr.size+1) else (min lo arr.size,max hi (arr.size+1)))):=by
 simp only [World.freeze,Nat.one_ne_zero,if_false,Array.getElem?_modify,if_true,hb,Option.map_some]
theorem zlM {b lo hi:Nat} {arr:Array Value} {ty:TypeId} (hb:w.heap[b]? =some (.cells arr ty (lo,hi))) (h3:lo≤hi∧∀ j,j<arr.size→¬ (lo≤j∧j<hi)):
  ∃ lo' hi',(w.freeze ⟨b,arr.size,none⟩ 1).heap[b]? =some (.cells arr ty (lo',hi'))∧lo'≤hi'∧∀ j,j<arr.size→¬ (lo'≤j∧j<hi'):=by
 have hf:=zkg hb
 by_cases e:lo=hi
 ·rw [if_pos (by simpa using e)] at hf
  exact ⟨_,_,hf,Nat.le_succ _,fun j hj=>by omega⟩
 ·rw [if_neg (by simpa using e)] at hf
  have hlo:arr.size≤lo:=by
   rcases Nat.lt_or_ge lo arr.size with hh | hh
   ·exact absurd ⟨Nat.le_refl _,by have:=h3.1;omega⟩ (h3.2 lo hh)
   ·exact hh
  exact ⟨_,_,hf,by have:=h3.1;omega,fun j hj=>by omega⟩
theorem IK {b sz k:Nat} (hk:k≠b):(w.freeze ⟨b,sz,none⟩ 1).heap[k]? =w.heap[k]? :=by
 simp only [World.freeze,Nat.one_ne_zero,if_false,Array.getElem?_modify,if_neg (Ne.symm hk)]
theorem zdv {b sz:Nat}:(w.freeze ⟨b,sz,none⟩ 1).heap.size=w.heap.size:=by
 simp [World.freeze]
theorem uB.freeze {b sz:Nat} (hO:O b):uB w O (w.freeze ⟨b,sz,none⟩ 1) O:=
 ⟨by simp [World.freeze],by simp [World.freeze],by simp [World.freeze],by rw [zdv];exact Nat.le_refl _,fun k _ hk=>IK (fun e=>hk (e ▸ hO)),fun _ h=>h,fun _ h=>.inl h⟩
theorem Heap.mark {id g lo hi:Nat} {p:Pl} {arr:Array Value} {ty:TypeId} (hk1:∀ r,h[id]? =some r→r.k=1) (H:Heap ρ w S O h) (hρ:ρ id=some (g,some p)) (hb:w.heap[p.b]? =some (.cells arr ty (lo,hi))):
  Heap ρ (w.freeze ⟨p.b,arr.size,none⟩ 1) S O h∧uB w O (w.freeze ⟨p.b,arr.size,none⟩ 1) O:=by
 obtain ⟨r,hrow,hg,his⟩:=H.row id g _ hρ
 have R:zm ρ w S O r p:=his
 have hA:uB w O (w.freeze ⟨p.b,arr.size,none⟩ 1) O:=uB.freeze R.own
 refine ⟨H.step (.refl ρ) hA (fun b hb=>by rw [zdv];exact H.bd b (.inr hb)) (fun id' g' pl' hid=> ?_) H.inj,hA⟩
 by_cases hii:id'=id
 ·subst hii
  rw [hρ] at hid
  cases hid
  obtain ⟨arr',ty',lo',hi',h1,h2,h3,h4⟩:=R.block
  rw [hb] at h1
  cases h1
  obtain ⟨lo2,hi2,f1,f2⟩:=zlM hb ⟨h3.1,h3.2.1⟩
  refine .inr ⟨r,hrow,hg,R.k,R.lim,R.own,R.len,arr,ty,lo2,hi2,f1,h2,⟨f2.1,f2.2,fun h=>absurd (hk1 r hrow) h⟩,fun e j g c hg hc=> ?_⟩
  ·obtain ⟨x,q1,q2,q3,q4⟩:=h4 e j g c hg hc
   exact ⟨x,q1,q2,q3.adv (.refl ρ) hA,fun hf=>(q4 hf).adv hA⟩
 ·refine .inl ⟨hid,rfl,fun p' hp'=>IK (fun e=>hii ?_)⟩
  subst hp'
  exact H.inj id' id g' g p' p hid hρ e
theorem zxG {e:TypeId} (h:zuf P e=true):P.underlying e=some (.int .u8):=by
 unfold zuf at h
 split at h
 ·assumption
 ·cases h
theorem zB1 {x:zD} (hop:zI P o.op (.mark x)=true) (R:Rel G ρ w S O env a) (H:Heap ρ w S O h) (he:aop G env h (.mark x)=some (v,h')):LM ρ w S O h ((execOp a.eval o).run P w) v h':=by
 obtain ⟨v0,h0,he⟩:=za.1 he
 split at he
 case h_2=>cases he
 rename_i id g s l cc
 obtain ⟨r,hrow,he⟩:=za.1 he
 split at he
 case isFalse=>cases he
 rename_i hc
 cases he
 simp only [zI] at hop
 split at hop
 case h_2=>cases hop
 rename_i sr ds x' heq
 simp only [Bool.and_eq_true,beq_iff_eq] at hop
 obtain ⟨⟨hx,rfl⟩,hop⟩:=hop
 split at hop
 case h_2=>cases hop
 rename_i e hu
 have rx:=zN hx R h0
 obtain ⟨g',pl,ad,cap,hzx,hρ,hle,hlc,hcc,has,hpl⟩:=Te rx
 obtain ⟨hg',his⟩:=H.at hρ hrow
 rcases hpl (by omega) with hc0 | ⟨p,rfl,rfl,hlim⟩
 ·omega
 have RR:zm ρ w S O r p:=his
 obtain ⟨arr,ty,lo,hi,h1,_⟩:=RR.block
 obtain ⟨q1,q2⟩:=Heap.mark (fun r2 h2=>by rw [hrow] at h2;cases h2;exact hc.2.2) H hρ h1
 refine ⟨a.eval x',_,ρ,O,.inl ?_,q2.x,.refl ρ,q1,rx.adv (.refl ρ) q2,fun _ _ h=>h⟩
 have hsh:w.shape? p.b=some (ty,arr.size):=by simp [World.shape?,h1]
 simp [execOp,heq,convert,hzx,run_underlying hu,run_underlying (zxG hop),markStringish,hsh]
theorem zCE {x:zD} (hop:zI P o.op (.strb x)=true) (R:Rel G ρ w S O env a) (H:Heap ρ w S O h) (he:aop G env h (.strb x)=some (v,h')):OpN ρ w S O h ((execOp a.eval o).run P w) v h':=by
 obtain ⟨v0,h0,he⟩:=za.1 he
 split at he
 case h_2=>cases he
 rename_i s
 cases he
 simp only [zI] at hop
 split at hop
 case h_2=>cases hop
 rename_i sr ds x' heq
 simp only [Bool.and_eq_true] at hop
 obtain ⟨⟨hx,hus⟩,hop⟩:=hop
 obtain ⟨du,hdu⟩:=zbZ hus
 split at hop
 case h_2=>cases hop
 rename_i e hu
 simp only [Bool.and_eq_true] at hop
 have hzx:=Rf (zN hx R h0)
 have hrun:=Lib.run_convert_string_bytes (P:=P) w sr ds e s hdu hu (zxG hop.1)
 have hge:=grownCap_ge w s.size 0 e
 have hsize:(Lib.bytesCells w e s).size=grownCap w s.size 0 e:=by
  simp [Lib.bytesCells]
  have:s.data.size=s.size:=rfl
  omega
 have hlen:(LG s).length=s.size:=by simp [LG]
 have hq:zQ (uh ρ w S O true) (LG s).flatten (s.data.toList.map fun b=>Value.int .u8 b.toNat):=by
  have e:(LG s).flatten=s.data.toList.map fun b=>AV.int .u8 (b.toNat:Int):=by
   unfold LG
   induction s.data.toList with
   | nil=>rfl
   | cons b l ih=>simp [ih]
  rw [e]
  refine ⟨by simp,fun i c x hc hx=> ?_⟩
  rw [List.getElem?_map] at hc hx
  obtain ⟨b,hb,rfl⟩:=ze.1 hc
  rw [hb] at hx
  cases hx
  exact ⟨rfl,.s (.int _ _),fun _=>.int _ _⟩
 have H1:=H.drew.allocL (Lib.bytesCells w e s) e ⟨1,0,true,LG s⟩ (grownCap w s.size 0 e) _ (by rw [hlen];exact hge) (by rw [hsize,Nat.mul_one];exact Nat.le_refl _) (fun g hg=>by
  simp only [LG,List.mem_map] at hg
  obtain ⟨b,_,rfl⟩:=hg
  rfl) (fun i hi=>by
  simp only [Lib.bytesCells]
  rw [Array.getElem?_append_left (by simpa using hi),← Array.getElem?_toList];simp) hq.drew
 have hnew:(w.drew.alloc (.cells (Lib.bytesCells w e s) e)).heap[w.drew.heap.size]? =some (.cells (Lib.bytesCells w e s) e (0,0)):=heap_alloc_new _ _
 obtain ⟨H2,A2⟩:=Heap.mark (fun r2 h2=>by rw [List.getElem?_append_right (Nat.le_refl _),Nat.sub_self] at h2;cases h2;rfl) H1 (upd_same ρ _ _) hnew
 refine OpN.drew ⟨.slice (some ⟨w.heap.size,0,none⟩) s.size (grownCap w s.size 0 e),_,_,_, ?_,(uB.alloc w.drew O _).trans A2,fun b hb=> ?_,zdi (H.none_ge (Nat.le_refl _)),zkd (fun p hp=>by cases hp;exact Nat.le_refl _),H2, ?_,zb0 ρ _ (Nat.le_refl _),_,rfl⟩
 ·simp [execOp,heq,hzx,hrun,Lib.bytesWorld]
 ·rw [IK (Nat.ne_of_lt hb)]
  exact Below.heap_alloc w.drew _ b hb
 ·exact .own _ _ _ _ _ _ _ _ _ (upd_same ρ _ _) (Nat.le_refl _) hge hge (fun _=>rfl) (fun _=>.inr ⟨_,rfl,by simp,by simp⟩)
end
end Go.Proofs.YthcnhibjddomdaaGreat
namespace Go.Proofs.YthcnhibjddomdaaGreat
open Go Go.RowKit
variable [FrB]
section
variable {ρ:Rho} {w:World} {S O:Nat→Prop} {X:Nat→Prop}
def WO (R:AV→Value→Prop) (vs:List AV) (xs:List Value):Prop:=vs.length=xs.length∧∀ (i:Nat) v x,vs[i]? =some v→xs[i]? =some x→R v x
theorem WO.nil {R:AV→Value→Prop}:WO R [] []:=⟨rfl,fun i v x h=>by simp at h⟩
theorem WO.cons {R:AV→Value→Prop} {v:AV} {x:Value} {vs:List AV} {xs:List Value} (h:R v x) (t:WO R vs xs):WO R (v::vs) (x::xs):=
 ⟨by simp [t.1],fun i u y hu hy=>by
  cases i with
  | zero=>simp at hu hy;subst hu hy;exact h
  | succ i=>exact t.2 i u y (by simpa using hu) (by simpa using hy)⟩
theorem WO.uncons {R:AV→Value→Prop} {v:AV} {x:Value} {vs:List AV} {xs:List Value} (t:WO R (v::vs) (x::xs)):R v x∧WO R vs xs:=
 ⟨t.2 0 v x rfl rfl,by have:=t.1;simp at this;exact this,fun i u y hu hy=>t.2 (i+1) u y (by simpa using hu) (by simpa using hy)⟩
theorem WO.append {R:AV→Value→Prop} {vs us:List AV} {xs ys:List Value} (h:WO R vs xs) (t:WO R us ys):WO R (vs++us) (xs++ys):=by
 refine ⟨by simp [h.1,t.1],fun i v x hv hx=> ?_⟩
 by_cases hi:i<vs.length
 ·rw [List.getElem?_append_left hi] at hv
  rw [List.getElem?_append_left (by rw [← h.1];exact hi)] at hx
  exact h.2 i v x hv hx
 ·rw [List.getElem?_append_right (by omega)] at hv
  rw [List.getElem?_append_right (by rw [← h.1];omega),← h.1] at hx
  exact t.2 _ v x hv hx
theorem zaS {r:zf} {p:Pl} (R:zm ρ w S O r p) (hf:r.flat=true):∃ val:Nat→Nat→Value,(∀ (e j:Nat),e<r.es.length→j<r.k→w.cell? ⟨p.b,p.base+(e * r.k+j),none⟩=some (val e j)∧(val e j).oneCell'=true)∧
  ∀ (e j:Nat) g c,r.es[e]? =some g→g[j]? =some c→uj w (fun b=>S b∨O b) c (val e j):=by
 obtain ⟨arr,ty,lo,hi,h1,h2,h3,h4⟩:=R.block
 have hk:=R.k
 refine ⟨fun e j=>arr.getD (p.base+(e * r.k+j)) undef,fun e j he hj=> ?_,fun e j g c hg hc=> ?_⟩
 ·have hg:=List.getElem?_eq_getElem he
  have hgl:=R.len _ (List.mem_of_getElem? hg)
  obtain ⟨x,q1,q2,_⟩:=h4 e j _ _ hg (List.getElem?_eq_getElem (by omega))
  rw [cell_of_row w p.b _ arr ty _ h1]
  rw [hk,Nat.add_assoc] at q1
  simp [q1,q2]
 ·obtain ⟨x,q1,q2,q3,q4⟩:=h4 e j g c hg hc
  rw [hk,Nat.add_assoc] at q1
  simpa [q1] using q4 hf
theorem LQ {α:Type} {l:List α} {s n i:Nat} (_:s+n≤l.length) (hi:i<n):((l.drop s).take n)[i]? =l[s+i]? :=by
 rw [List.getElem?_take,if_pos hi,List.getElem?_drop]
theorem zjw {h:List zf} (H:Heap ρ w S O h) {id g s l c:Nat} {x:Value} {r:zf} (hv:zB ρ w S O (.own id g s l c) x) (hr:h[id]? =some r) (hg:r.gen=g) (hf:r.flat=true) (hsl:s+l≤r.es.length):
  ∃ a cap,x=.slice a ((r.es.drop s).take l).length cap∧((r.es.drop s).take l).length≤cap∧(∀ g ∈ (r.es.drop s).take l,g.length=r.k)∧((r.es.drop s).take l=[]∨∃ (b off:Nat) (val:Nat→Nat→Value),a=some ⟨b,off,none⟩∧O b∧IQ w b∧b<w.heap.size∧
   (∀ (e j:Nat),e<((r.es.drop s).take l).length→j<r.k→w.cell? ⟨b,off+(e * r.k+j),none⟩=some (val e j)∧(val e j).oneCell'=true)∧
   (∀ (e j:Nat) g c,((r.es.drop s).take l)[e]? =some g→g[j]? =some c→uj w (fun b=>S b∨O b) c (val e j))):=by
 obtain ⟨g',pl,a,cap,rfl,hρ,hle,hlc,_,has,hpl⟩:=Te hv
 obtain ⟨hg',his⟩:=H.at hρ hr
 have hll:((r.es.drop s).take l).length=l:=by simp;omega
 refine ⟨a,cap,by rw [hll],by rw [hll];exact hlc,fun g hg=> ?_, ?_⟩
 ·have hm:=List.mem_of_mem_drop (List.mem_of_mem_take hg)
  cases pl with
  | none=>have:r.es=[]:=his;rw [this] at hm;cases hm
  | some p=>exact (show zm ρ w S O r p from his).len g hm
 ·by_cases h0:l=0
  ·left;subst h0;simp
  ·rcases hpl (by omega) with hc | ⟨p,rfl,rfl,hlim⟩
   ·omega
   have R:zm ρ w S O r p:=his
   obtain ⟨val,c1,c2⟩:=zaS R hf
   refine .inr ⟨p.b,p.base+s * p.k,fun e j=>val (s+e) j,rfl,R.own,R.thaw,zm.lt R,fun e j he hj=> ?_,fun e j g c hg hc=> ?_⟩
   ·rw [hll] at he
    have:=c1 (s+e) j (by omega) hj
    rw [Nat.add_mul] at this
    rw [R.k]
    rw [show p.base+s * r.k+(e * r.k+j)=p.base+(s * r.k+e * r.k+j) from by omega]
    exact this
   ·have he:e<l:=by have:=(List.getElem?_eq_some_iff.1 hg).1;omega
    rw [LQ hsl he] at hg
    exact c2 (s+e) j g c hg hc
mutual
theorem zhM {h:List zf} (H:Heap ρ w S O h):∀ (v:AV) {v':AV} {x:Value},zB ρ w S O v x→ZC h v=some v'→zB (fun _=>none) w (fun b=>S b∨O b) (fun _=>False) v' x
 | .int _ _,_,_,hv,hw=>by cases hw;obtain rfl:=jc hv;exact .s (.int _ _)
 | .bool _,_,_,hv,hw=>by cases hw;obtain rfl:=TI hv;exact .s (.bool _)
 | .str _,_,_,hv,hw=>by cases hw;obtain rfl:=Rf hv;exact .s (.str _)
 | .nilfn,_,_,hv,hw=>by cases hw;obtain rfl:=DW hv;exact .s .nilfn
 | .nilptr,_,_,hv,hw=>by cases hw;obtain rfl:=Jc hv;exact .s .nilptr
 | .unk,_,_,_,hw=>by cases hw
 | .data bo k es full,_,_,hv,hw=>by
  cases hw
  obtain ⟨a,cap,rfl,h1,h2,h3,h4⟩:=oK hv
  refine NL h1 h2 h3 (h4.imp (fun h=>h) ?_)
  rintro ⟨b,off,val,q1,q2,q3,q4,q5,q6⟩
  exact ⟨b,off,val,q1,fun h=>h,fun hb=>⟨fun h=>h.elim (q3 hb).1 q2,(q3 hb).2⟩,q4,q5,fun e j g c hg hc=>(q6 e j g c hg hc).mono fun b hb=>hb.elim (fun h=>h.2.imp (fun h2=>⟨h.1,h2⟩) id) False.elim⟩
 | .dptr cs,_,_,hv,hw=>by
  cases hw
  obtain ⟨b,off,val,rfl,q1,q2,q3,q4⟩:=WB hv
  exact .dptr cs b off val (fun h=>h) q2 q3 fun j c hj=>(q4 j c hj).imp (fun b hb=>hb.elim (fun h=>h) False.elim) fun b hb=>False.elim hb
 | .own id g s l c,_,_,hv,hw=>by
  obtain ⟨r,hr,hw⟩:=za.1 hw
  split at hw
  case isFalse=>cases hw
  rename_i hc
  cases hw
  obtain ⟨a,cap,rfl,h1,h2,h3⟩:=zjw H hv hr hc.1 hc.2.1 hc.2.2
  refine NL h1 (fun h=>by cases h) h2 (h3.imp (fun h=>h) ?_)
  rintro ⟨b,off,val,q1,q2,_,q3,q4,q5⟩
  exact ⟨b,off,val,q1,fun h=>h,fun h=>Bool.noConfusion h,q3,q4,fun e j g c hg hc=>(q5 e j g c hg hc).mono fun b hb=>hb.elim (fun h=>Bool.noConfusion h.1) False.elim⟩
 | .ptr id g e o,_,_,hv,hw=>by
  obtain ⟨r,hr,hw⟩:=za.1 hw
  split at hw
  case isFalse=>cases hw
  rename_i hc
  obtain ⟨grp,hg,e1⟩:=ze.1 hw
  cases e1
  obtain ⟨g',pl,ad,rfl,hρ,hle,hpl⟩:=Io hv
  obtain ⟨hg',his⟩:=H.at hρ hr
  obtain ⟨p,rfl,rfl⟩:=hpl (by omega)
  have R:zm ρ w S O r p:=his
  obtain ⟨val,c1,c2⟩:=zaS R hc.2
  have hgl:=R.len grp (List.mem_of_getElem? hg)
  have he:=(List.getElem?_eq_some_iff.1 hg).1
  refine .dptr _ p.b _ (fun j=>val e (o+j)) (fun h=>h) (zm.lt R) (fun j hj=> ?_) fun j c hj=> ?_
  ·simp only [List.length_drop] at hj
   have:=c1 e (o+j) he (by omega)
   rw [R.k,show p.base+e * r.k+o+j=p.base+(e * r.k+(o+j)) from by omega]
   exact this
  ·rw [List.getElem?_drop] at hj
   exact .s ((c2 e (o+j) grp c hg hj).mono fun b hb=>hb.elim (fun h=>h) False.elim)
 | .agg cs,_,_,hv,hw=>by
  obtain ⟨cs',hw2,e⟩:=ze.1 hw
  cases e
  obtain ⟨vs,rfl,h1,h2,h3⟩:=IX hv
  have:=zab H cs ⟨h1,h3⟩ hw2
  exact .agg cs' vs this.1 h2 this.2
 | .tup cs,_,_,hv,hw=>by
  obtain ⟨cs',hw2,e⟩:=ze.1 hw
  cases e
  obtain ⟨vs,rfl,h1,h3⟩:=zlt hv
  have:=zab H cs ⟨h1,h3⟩ hw2
  exact .tup cs' vs this.1 this.2
 | .fn f asx bs,_,_,hv,hw=>by
  unfold ZC at hw
  split at hw
  case isFalse=>cases hw
  rename_i hc
  cases hw
  exact .s ((PH hv (by simpa [AV.stable] using hc)).mono fun b hb=>hb.elim (fun h=>h) False.elim)
theorem zab {h:List zf} (H:Heap ρ w S O h):∀ (vs:List AV) {vs':List AV} {xs:List Value},WO (zB ρ w S O) vs xs→yE h vs=some vs'→WO (zB (fun _=>none) w (fun b=>S b∨O b) (fun _=>False)) vs' xs
 | [],_,xs,hv,hw=>by
  cases hw
  have:xs=[]:=List.eq_nil_of_length_eq_zero hv.1.symm
  subst this;exact .nil
 | v::vs,_,xs,hv,hw=>by
  obtain ⟨u,hu,hw⟩:=za.1 hw
  obtain ⟨us,hus,e⟩:=ze.1 hw
  cases e
  cases xs with
  | nil=>have:=hv.1;simp at this
  | cons x xs=>
   obtain ⟨h1,h2⟩:=hv.uncons
   exact .cons (zhM H v h1 hu) (zab H vs h2 hus)
end
mutual
theorem zfl {h:List zf} {X:Nat→Prop} (H:Heap ρ w S O h) (hX:∀ b,X b→S b∨O b) (hOX:∀ b,O b→¬ X b):∀ (v:AV) {v':AV} {x:Value},zB ρ w S O v x→yn h v=some v'→uj w X v' x
 | .int _ _,_,_,hv,hw=>by cases hw;obtain rfl:=jc hv;exact .int _ _
 | .bool _,_,_,hv,hw=>by cases hw;obtain rfl:=TI hv;exact .bool _
 | .str _,_,_,hv,hw=>by cases hw;obtain rfl:=Rf hv;exact .str _
 | .nilfn,_,_,hv,hw=>by cases hw;obtain rfl:=DW hv;exact .nilfn
 | .nilptr,_,_,hv,hw=>by cases hw;obtain rfl:=Jc hv;exact .nilptr
 | .unk,_,_,_,hw=>by cases hw
 | .data true k es full,_,_,hv,hw=>by cases hw
 | .data false k es full,_,_,hv,hw=>by
  cases hw
  obtain ⟨a,cap,rfl,h1,h2,h3,h4⟩:=oK hv
  rcases h4 with rfl | ⟨b,off,val,rfl,q2,q3,q4,q5,q6⟩
  ·exact .data0 _ _ _ _ (fun h=>by cases h)
  ·exact .data k es false b off cap val h1 (fun h=>by cases h) h3 (fun hx=>(hX b hx).elim (q3 rfl).1 q2) q4 q5 (fun e j g c hg hc=>(q6 e j g c hg hc).mono fun b hb=>(hX b hb).imp (fun h=>⟨rfl,h⟩) id) (q3 rfl).2
 | .dptr cs,_,_,hv,hw=>by cases hw
 | .ptr ..,_,_,hv,hw=>by cases hw
 | .own id g s l c,_,_,hv,hw=>by
  obtain ⟨r,hr,hw⟩:=za.1 hw
  split at hw
  case isFalse=>cases hw
  rename_i hc
  cases hw
  obtain ⟨a,cap,rfl,h1,h2,h3⟩:=zjw H hv hr hc.1 hc.2.1 hc.2.2
  rcases h3 with h3 | ⟨b,off,val,rfl,q2,qt,q3,q4,q5⟩
  ·rw [h3];exact .data0 _ _ _ _ (fun h=>by cases h)
  ·exact .data _ _ false b off cap val h1 (fun h=>by cases h) h2 (hOX b q2) q3 q4 (fun e j g c hg hc=>(q5 e j g c hg hc).mono hX) (fun _=>qt)
 | .agg cs,_,_,hv,hw=>by
  obtain ⟨cs',hw2,e⟩:=ze.1 hw
  cases e
  obtain ⟨vs,rfl,h1,h2,h3⟩:=IX hv
  have:=Du H hX hOX cs ⟨h1,h3⟩ hw2
  exact .agg cs' vs this.1 h2 this.2
 | .tup cs,_,_,hv,hw=>by
  obtain ⟨cs',hw2,e⟩:=ze.1 hw
  cases e
  obtain ⟨vs,rfl,h1,h3⟩:=zlt hv
  have:=Du H hX hOX cs ⟨h1,h3⟩ hw2
  exact .tup cs' vs this.1 this.2
 | .fn f asx bs,_,_,hv,hw=>by
  unfold yn at hw
  split at hw
  case isFalse=>cases hw
  rename_i hc
  cases hw
  exact (PH hv (by simpa [AV.stable] using hc)).mono hX
theorem Du {h:List zf} {X:Nat→Prop} (H:Heap ρ w S O h) (hX:∀ b,X b→S b∨O b) (hOX:∀ b,O b→¬ X b):∀ (vs:List AV) {vs':List AV} {xs:List Value},WO (zB ρ w S O) vs xs→yc h vs=some vs'→WO (uj w X) vs' xs
 | [],_,xs,hv,hw=>by
  cases hw
  have:xs=[]:=List.eq_nil_of_length_eq_zero hv.1.symm
  subst this;exact .nil
 | v::vs,_,xs,hv,hw=>by
  obtain ⟨u,hu,hw⟩:=za.1 hw
  obtain ⟨us,hus,e⟩:=ze.1 hw
  cases e
  cases xs with
  | nil=>have:=hv.1;simp at this
  | cons x xs=>
   obtain ⟨h1,h2⟩:=hv.uncons
   exact .cons (zfl H hX hOX v h1 hu) (Du H hX hOX vs h2 hus)
end
end
end Go.Proofs.YthcnhibjddomdaaGreat
namespace Go.Proofs.YthcnhibjddomdaaGreat
open Go Go.RowKit
variable [FrB]
section
variable {P:Program} {G:Nat→Option (List AV)} {ρ:Rho} {w:World} {S O:Nat→Prop} {env:yF} {h:List zf} {a:Act} {o:Oper} {v:AV} {h':List zf}
theorem zci {f:AV→Option (AV×List Nat)}:∀ {vs us:List AV} {ids:List Nat},dvL f vs=some (us,ids)→us.length=vs.length∧∀ (j:Nat) u,us[j]? =some u→∃ c is,vs[j]? =some c∧f c=some (u,is)∧∀ i ∈ is,i ∈ ids
 | [],us,ids,hd=>by cases hd;exact ⟨rfl,fun j u h=>by simp at h⟩
 | v::vs,us,ids,hd=>by
  obtain ⟨⟨u0,i0⟩,h0,hd⟩:=za.1 hd
  obtain ⟨⟨us1,i1⟩,h1,hd⟩:=za.1 hd
  cases hd
  obtain ⟨l1,g1⟩:=zci h1
  refine ⟨by simp [l1],fun j u hj=> ?_⟩
  cases j with
  | zero=>simp at hj;subst hj;exact ⟨v,i0,by simp,h0,fun i hi=>by simp [hi]⟩
  | succ j=>
   obtain ⟨c,is,q1,q2,q3⟩:=g1 j u (by simpa using hj)
   exact ⟨c,is,by simpa using q1,q2,fun i hi=>by simp [q3 i hi]⟩
theorem zl7 {f:AV→Option (AV×List Nat)}:∀ {es fs:List (List AV)} {ids:List Nat},zFY f es=some (fs,ids)→fs.length=es.length∧∀ (e:Nat) g',fs[e]? =some g'→∃ g is,es[e]? =some g∧dvL f g=some (g',is)∧∀ i ∈ is,i ∈ ids
 | [],fs,ids,hd=>by cases hd;exact ⟨rfl,fun j u h=>by simp at h⟩
 | g::es,fs,ids,hd=>by
  obtain ⟨⟨u0,i0⟩,h0,hd⟩:=za.1 hd
  obtain ⟨⟨us1,i1⟩,h1,hd⟩:=za.1 hd
  cases hd
  obtain ⟨l1,g1⟩:=zl7 h1
  refine ⟨by simp [l1],fun j u hj=> ?_⟩
  cases j with
  | zero=>simp at hj;subst hj;exact ⟨g,i0,by simp,h0,fun i hi=>by simp [hi]⟩
  | succ j=>
   obtain ⟨c,is,q1,q2,q3⟩:=g1 j u (by simpa using hj)
   exact ⟨c,is,by simpa using q1,q2,fun i hi=>by simp [q3 i hi]⟩
theorem zyP {X:Nat→Prop} (H:Heap ρ w S O h) (hX:∀ b,X b→S b∨O b):∀ (n:Nat) (v u:AV) (ids:List Nat) (x:Value),dv h n v=some (u,ids)→(∀ id ∈ ids,∀ (g:Nat) p,ρ id=some (g,some p)→¬ X p.b)→zB ρ w S O v x→uj w X u x:=by
 intro n
 induction n with
 | zero=>intro v u ids x hd;cases hd
 | succ n ih=>
  intro v u ids x hd hI hv
  have stab:∀ v:AV,(if v.stable=true then some (v,([]:List Nat)) else none)=some (u,ids)→zB ρ w S O v x→uj w X u x:=fun v hd hv=>by
   split at hd
   case isFalse=>cases hd
   rename_i hs
   cases hd
   exact (PH hv hs).mono hX
  cases v with
  | own id g s l c=>
   obtain ⟨r,hr,hd⟩:=za.1 hd
   split at hd
   case isFalse=>cases hd
   rename_i hc
   obtain ⟨hg,hsl⟩:=hc
   obtain ⟨g',pl,ad,cap,rfl,hρ,hle,hlc,_,has,hpl⟩:=Te hv
   obtain ⟨hg',his⟩:=H.at hρ hr
   have hll:((r.es.drop s).take l).length=l:=by simp;omega
   have hkl:∀ gg ∈ (r.es.drop s).take l,gg.length=r.k:=fun gg hgg=>by
    have hm:=List.mem_of_mem_drop (List.mem_of_mem_take hgg)
    cases pl with
    | none=>have:r.es=[]:=his;rw [this] at hm;cases hm
    | some p=>exact (show zm ρ w S O r p from his).len gg hm
   split at hd
   ·rename_i hf
    cases hd
    by_cases h0:l=0
    ·subst h0;rw [List.take_zero];exact .data0 _ _ _ _ (fun h=>by cases h)
    rcases hpl (by omega) with hc | ⟨p,rfl,rfl,hlim⟩
    ·omega
    have R:zm ρ w S O r p:=his
    obtain ⟨val,c1,c2⟩:=zaS R hf
    have hd:=uj.data (w:=w) (X:=X) r.k ((r.es.drop s).take l) false p.b (p.base+s * p.k) cap (fun e j=>val (s+e) j) (by rw [hll];exact hlc) (fun h=>by cases h) hkl (hI id (by simp) g' p hρ) (zm.lt R) (fun e j he hj=>by
     rw [hll] at he
     have:=c1 (s+e) j (by omega) hj
     rw [Nat.add_mul] at this
     rw [R.k]
     rw [show p.base+s * r.k+(e * r.k+j)=p.base+(s * r.k+e * r.k+j) from by omega]
     exact this) (fun e j g c hg hc=>by
     have he:e<l:=by have:=(List.getElem?_eq_some_iff.1 hg).1;omega
     rw [LQ hsl he] at hg
     exact (c2 (s+e) j g c hg hc).mono hX) (fun _=>R.thaw)
    rwa [hll] at hd
   ·rename_i hf
    obtain ⟨⟨fs,is⟩,hdv,e⟩:=ze.1 hd
    cases e
    obtain ⟨fl,fg⟩:=zl7 hdv
    by_cases h0:l=0
    ·subst h0
     have:fs=[]:=List.eq_nil_of_length_eq_zero (by rw [fl,hll])
     subst this;exact .data0 _ _ _ _ (fun h=>by cases h)
    rcases hpl (by omega) with hc | ⟨p,rfl,rfl,hlim⟩
    ·omega
    have R:zm ρ w S O r p:=his
    obtain ⟨arr,ty,lo,hi,hb,hsz,_,hcell⟩:=R.block
    have hfl:fs.length=l:=by rw [fl,hll]
    have gk:∀ gg ∈ fs,gg.length=r.k:=fun gg hgg=>by
     obtain ⟨e,he⟩:=List.mem_iff_getElem?.1 hgg
     obtain ⟨g0,is0,q1,q2,q3⟩:=fg e gg he
     rw [(zci q2).1]
     exact hkl g0 (List.mem_of_getElem? q1)
    have hd:=uj.data (w:=w) (X:=X) r.k fs false p.b (p.base+s * p.k) cap (fun e j=>arr.getD (p.base+(s+e) * p.k+j) undef) (by rw [hfl];exact hlc) (fun h=>by cases h) gk (hI id (by simp) g' p hρ) (zm.lt R) (fun e j he hj=>by
     rw [hfl] at he
     obtain ⟨g0,hg0⟩:∃ g0,r.es[s+e]? =some g0:=⟨_,List.getElem?_eq_getElem (by omega)⟩
     have hgl:=R.len g0 (List.mem_of_getElem? hg0)
     obtain ⟨x,h1,h2,_⟩:=hcell (s+e) j g0 _ hg0 (List.getElem?_eq_getElem (by omega))
     have ea:p.base+s * p.k+(e * r.k+j)=p.base+(s+e) * p.k+j:=by rw [← R.k,Nat.add_mul];omega
     simp only [Array.getD_eq_getD_getElem?,h1,Option.getD_some,ea]
     exact ⟨by rw [cell_of_row w p.b _ arr ty _ hb];exact h1,h2⟩) (fun e j gg c hg hc=>by
     obtain ⟨g0,is0,q1,q2,q3⟩:=fg e gg hg
     obtain ⟨c0,is1,r1,r2,r3⟩:=(zci q2).2 j c hc
     have he:e<l:=by have:=(List.getElem?_eq_some_iff.1 q1).1;omega
     rw [LQ hsl he] at q1
     obtain ⟨x,h1,_,h3,_⟩:=hcell (s+e) j g0 c0 q1 r1
     simp only [Array.getD_eq_getD_getElem?,h1,Option.getD_some]
     exact ih c0 c is1 x r2 (fun id' hid'=>hI id' (by simp [q3 id' (r3 id' hid')])) h3) (fun _=>R.thaw)
    rwa [hfl] at hd
  | agg cs=>
   obtain ⟨⟨us,is⟩,hdv,e⟩:=ze.1 hd
   cases e
   obtain ⟨vs,rfl,h1,h2,h3⟩:=IX hv
   obtain ⟨l1,g1⟩:=zci hdv
   refine .agg us vs (l1.trans h1) h2 fun j c y hc hy=> ?_
   obtain ⟨c0,is0,q1,q2,q3⟩:=g1 j c hc
   exact ih c0 c is0 y q2 (fun id hid=>hI id (q3 id hid)) (h3 j c0 y q1 hy)
  | _=>exact stab _ hd hv
theorem zdp:∀ (is:List Nat) {h:List zf} {ρ:Rho} {O:Nat→Prop},Heap ρ w S O h→∃ ρ' O',UF w O w O'∧Ext ρ ρ'∧Heap ρ' w S O' (KD is h)∧(∀ b,O' b→O b)∧(∀ id ∈ is,∀ (g:Nat) p,ρ id=some (g,some p)→¬ O' p.b)∧∀ id,ρ id=none→ρ' id=none
 | [],h,ρ,O,H=>⟨ρ,O,.refl w O,.refl ρ,H,fun _ h=>h,fun id hid=>by simp at hid,fun _ h=>h⟩
 | i::is,h,ρ,O,H=>by
  rw [KD]
  cases e:h[i]? with
  | none=>
   obtain ⟨ρ',O',h1,h2,h3,h4,h5,h6⟩:=zdp is H
   refine ⟨ρ',O',h1,h2,h3,h4,fun id hid g p hp=> ?_,h6⟩
   rcases List.mem_cons.1 hid with rfl | hid
   ·obtain ⟨r,hr,_⟩:=H.row id g _ hp
    rw [e] at hr;cases hr
   ·exact h5 id hid g p hp
  | some r=>
   show ∃ ρ' O',UF w O w O'∧Ext ρ ρ'∧Heap ρ' w S O' (KD is (h.set i ⟨r.k,r.gen+1,true,[]⟩))∧_
   have hlt:=(List.getElem?_eq_some_iff.1 e).1
   have step:∃ ρ1 O1,UF w O w O1∧Ext ρ ρ1∧Heap ρ1 w S O1 (h.set i ⟨r.k,r.gen+1,true,[]⟩)∧(∀ b,O1 b→O b)∧(∀ (g:Nat) p,ρ i=some (g,some p)→¬ O1 p.b)∧(∀ id,ρ id=none→ρ1 id=none)∧∀ id,id≠i→ρ1 id=ρ id:=by
    cases hρ:ρ i with
    | none=>
     refine ⟨ρ,O,.refl w O,.refl ρ,⟨fun id g pl hid=> ?_,H.inj,H.bd,H.dis⟩,fun _ h=>h,fun g p hp=>(by cases hp),fun _ h=>h,fun _ _=>rfl⟩
     obtain ⟨r',hr',h1,h2⟩:=H.row id g pl hid
     have hne:i≠id:=fun e2=>by subst e2;rw [hρ] at hid;cases hid
     exact ⟨r',by rw [List.getElem?_set_ne hne];exact hr',h1,h2⟩
    | some y=>
     obtain ⟨g0,pl0⟩:=y
     obtain ⟨hg0,_⟩:=H.at hρ e
     have hE:Ext ρ (upd ρ i (g0+1,none)):=fun id g pl hid=>by
      by_cases hi:id=i
      ·subst hi
       rw [hρ] at hid;cases hid
       exact ⟨g0+1,none,upd_same ρ _ _,by omega,fun h=>by omega⟩
      ·exact ⟨g,pl,by rw [upd_ne ρ _ hi];exact hid,Nat.le_refl _,fun _=>rfl⟩
     have hA:UF w O w (fun b=>O b∧∀ p,pl0=some p→b≠p.b):=⟨rfl,rfl,rfl,Nat.le_refl _,fun _ _ _=>rfl,fun _ h=>.inl h.1⟩
     refine ⟨upd ρ i (g0+1,none),fun b=>O b∧∀ p,pl0=some p→b≠p.b,hA,hE,⟨fun id g pl hid=> ?_,fun id id' g g' p p' h1 h2 hb=> ?_,fun b hb=>H.bd b (hb.imp (fun h=>h) (fun h=>h.1)),fun b hb=>H.dis b hb.1⟩,fun _ h=>h.1,fun g p hp hO=> ?_,fun id hid=> ?_,fun id hi=>upd_ne ρ _ hi⟩
     ·by_cases hi:id=i
      ·subst hi
       rw [upd_same] at hid;cases hid
       exact ⟨_,List.getElem?_set_self hlt,by rw [← hg0],rfl⟩
      ·rw [upd_ne ρ _ hi] at hid
       obtain ⟨r',hr',h1,h2⟩:=H.row id g pl hid
       refine ⟨r',by rw [List.getElem?_set_ne (fun e2=>hi e2.symm)];exact hr',h1, ?_⟩
       cases pl with
       | none=>exact h2
       | some p=>
        have R:zm ρ w S O r' p:=h2
        exact zm.advX R hE hA ⟨R.own,fun p0 hp0 hb=>hi (H.inj id i g g0 p p0 hid (by rw [hρ,hp0]) hb)⟩ rfl
     ·by_cases hi:id=i
      ·subst hi;rw [upd_same] at h1;cases h1
      ·by_cases hi':id'=i
       ·subst hi';rw [upd_same] at h2;cases h2
       ·rw [upd_ne ρ _ hi] at h1;rw [upd_ne ρ _ hi'] at h2;exact H.inj id id' g g' p p' h1 h2 hb
     ·cases hp
      exact hO.2 p rfl rfl
     ·have hi:id≠i:=fun e2=>by subst e2;rw [hρ] at hid;cases hid
      rw [upd_ne ρ _ hi];exact hid
   obtain ⟨ρ1,O1,a1,a2,a3,a4,a5,a6,a7⟩:=step
   obtain ⟨ρ',O',h1,h2,h3,h4,h5,h6⟩:=zdp is a3
   refine ⟨ρ',O',a1.trans h1,a2.trans h2,h3,fun b hb=>a4 b (h4 b hb),fun id hid g p hp=> ?_,fun id hid=>h6 id (a6 id hid)⟩
   by_cases hi:id=i
   ·subst hi;exact fun hO=>a5 g p hp (h4 _ hO)
   ·rcases List.mem_cons.1 hid with hid | hid
    ·exact absurd hid hi
    ·exact h5 id hid g p (by rw [a7 id hi];exact hp)
theorem zCw {x:zD} (hop:zI P o.op (.melt x)=true) (R:Rel G ρ w S O env a) (H:Heap ρ w S O h) (he:aop G env h (.melt x)=some (v,h')):LM ρ w S O h ((execOp a.eval o).run P w) v h':=by
 obtain ⟨v0,h0,he⟩:=za.1 he
 obtain ⟨⟨u,ids⟩,hd,e⟩:=ze.1 he
 cases e
 obtain ⟨ρ',O',h1,h2,h3,h4,h5,h6⟩:=zdp (w:=w) ids H
 have fin:∀ y,zJ y x=true→(execOp a.eval o).run P w=.ok (.value (a.eval y)) w→LM ρ w S O h ((execOp a.eval o).run P w) u (KD ids h):=fun y hy hrun=>
  ⟨_,w,ρ',O',.inl hrun,h1,h2,h3,.s (zyP (X:=fun b=>S b∨O' b) H (fun b hb=>hb.imp (fun h=>h) (h4 b)) 8 v0 u ids _ hd (fun id hid g p hp hx=>by
   rcases hx with hx | hx
   ·obtain ⟨r,_,_,hR⟩:=H.row id g _ hp
    exact H.dis _ (show zm ρ w S O r p from hR).own hx
   ·exact h5 id hid g p hp hx) (zN hy R h0)),fun id _ hn=>h6 id hn⟩
 simp only [zI] at hop
 split at hop
 ·rename_i y heq;exact fin y hop (by simp [execOp,heq])
 ·rename_i y heq;exact fin y hop (by simp [execOp,heq])
 ·cases hop
theorem zv9 {agg:Bool} {m:Nat} {x:zD} (hop:zI P o.op (.loadd agg m x)=true) (R:Rel G ρ w S O env a) (he:aop G env h (.loadd agg m x)=some (v,h')):vE ρ w S O h ((execOp a.eval o).run P w) v h':=by
 obtain ⟨v0,h0,he⟩:=za.1 he
 obtain ⟨v1,h1,e⟩:=ze.1 he
 cases e
 simp only [zI] at hop
 split at hop
 case h_2=>cases hop
 rename_i t y heq
 simp only [Bool.and_eq_true,beq_iff_eq] at hop
 obtain ⟨⟨hx,hag⟩,hs⟩:=hop
 have hr:=zN hx R h0
 have fin:∀ z,(∃ u,(Instr.loadAt t z).run P w=.ok u w∧zB ρ w S O v u)→a.eval y=z→vE ρ w S O h ((execOp a.eval o).run P w) v h:=fun z ⟨u,h1,h2⟩ hz=>
  .pure (x:=u) (by simp [execOp,heq,hz,h1]) h2
 cases v0 with
 | dptr cs=>
  obtain ⟨b,off,val,hz,_,_,h5,h6⟩:=WB hr
  have:=DX (ρ:=ρ) (S:=S) (O:=O) (cs:=cs) (b:=b) (o:=off) (off:=0) (val:=val) hag hs h5 (fun j c hj=>(h6 j c hj).v) h1
  exact fin _ this hz
 | _=>cases h1
theorem zB3 {k:Nat} {x i:zD} (hop:zI P o.op (.idxd k x i)=true) (R:Rel G ρ w S O env a) (he:aop G env h (.idxd k x i)=some (v,h')):vE ρ w S O h ((execOp a.eval o).run P w) v h':=by
 obtain ⟨v0,h0,he⟩:=za.1 he
 obtain ⟨vi,hi0,he⟩:=za.1 he
 obtain ⟨v1,h1,e⟩:=ze.1 he
 cases e
 simp only [zI] at hop
 split at hop
 case h_2=>cases hop
 rename_i t y j heq
 simp only [Bool.and_eq_true] at hop
 obtain ⟨⟨hx,hj⟩,hop⟩:=hop
 split at hop
 case h_2=>cases hop
 rename_i e hu
 have hr:=zN hx R h0
 have hri:=zN hj R hi0
 have run:∀ (ad:Addr) (len cap:Nat) (kk:IntKind) (n:Int),0≤n→n<len→(Instr.indexAt t (.slice (some ad) len cap) (.int kk n)).run P w=.ok (.pointer (some (ad.add (n.toNat * k)))) w:=fun ad len cap kk n hn0 hn=>by
  simp [Instr.indexAt,asIntOf,run_underlying hu,hn0,hn,uQ hop]
 cases v0 with
 | data bo k' es f=>
  cases vi with
  | int kk n=>
   have h1:(if k'=k then if 0≤n then (es[n.toNat]?).map (zg3 bo) else none else none)=some v:=h1
   split at h1
   case isFalse=>cases h1
   rename_i hk
   split at h1
   case isFalse=>cases h1
   rename_i hn
   obtain ⟨g,hg,rfl⟩:=ze.1 h1
   subst hk
   have hlt:=(List.getElem?_eq_some_iff.1 hg).1
   obtain ⟨ad,cap,hz,hlc,_,hlen,hd⟩:=oK hr
   have e2:=jc hri
   rcases hd with rfl | ⟨b,off,val,rfl,hO,_,hb,hc,hrp⟩
   ·simp at hlt
   have hgl:=hlen g (List.mem_of_getElem? hg)
   refine .pure (x:=.pointer (some ⟨b,off+n.toNat * k',none⟩)) ?_ (ziT (val:=fun j=>val n.toNat j) hO hb (fun j hj=> ?_) fun j c hj=>hrp _ _ _ _ hg hj)
   ·simp only [execOp,heq,hz,e2,Sem.run_bind,run _ _ _ _ _ hn (show n<(es.length:Int) by omega),Result.andThen_ok,Sem.run_pure,addr_add]
   ·rw [Nat.add_assoc];exact hc _ _ hlt (by omega)
  | _=>cases h1
 | _=>cases vi<;>cases h1
end
end Go.Proofs.YthcnhibjddomdaaGreat
namespace Go.Proofs.YthcnhibjddomdaaGreat
open Go Go.RowKit
variable [FrB]
section
variable {ρ ρ2:Rho} {w:World} {S O S2 O2:Nat→Prop} {X:Nat→Prop} {h:List zf} {low off:Nat} {order:List Nat}
theorem RA (h:List zf) (low off:Nat) (order:List Nat):∀ vs:List AV,AV.renL h low off order vs=vs.map (AV.ren h low off order)
 | []=>rfl
 | v::vs=>by rw [AV.renL,RA h low off order vs];rfl
theorem zai:∀ {vs:List AV},AV.cleanL vs=true→∀ v ∈ vs,v.clean=true
 | v::vs,hc,u,hu=>by
  simp only [AV.cleanL,Bool.and_eq_true] at hc
  rcases List.mem_cons.1 hu with rfl | hu
  ·exact hc.1
  ·exact zai hc.2 u hu
theorem zaj {vs:List AV} {xs:List Value} (hl:vs.length=xs.length) (ih:∀ (i:Nat) c v,vs[i]? =some c→xs[i]? =some v→AV.ren h low off order c=c):AV.renL h low off order vs=vs:=by
 rw [RA]
 apply List.ext_getElem?
 intro i
 rw [List.getElem?_map]
 cases hc:vs[i]? with
 | none=>rfl
 | some c=>
  have hlt:i<xs.length:=by have:=(List.getElem?_eq_some_iff.1 hc).1;omega
  rw [Option.map_some,ih i c _ hc (List.getElem?_eq_getElem hlt)]
theorem zpl {v:AV} {x:Value} (hs:uj w X v x):AV.ren h low off order v=v:=by
 induction hs with
 | agg cs vs hl _ _ ih=>rw [AV.ren,zaj hl ih]
 | tup cs vs hl _ ih=>rw [AV.ren,zaj hl ih]
 | fn f asx bs xs ys h1 h2 _ _ i1 i2=>rw [AV.ren,zaj h1 i1,zaj h2 i2]
 | _=>simp [AV.ren]
structure zhi (ρ ρ2:Rho) (low off:Nat) (order:List Nat):Prop where
 low:∀ id,id<low→ρ2 id=ρ id
 ord:∀ (j id g:Nat) pl,order[j]? =some id→ρ id=some (g,pl)→ρ2 (off+j)=some (0,pl)
theorem NP {l:List Nat} {a j:Nat} (hj:l.idxOf? a=some j):l[j]? =some a:=by
 induction l generalizing j with
 | nil=>simp at hj
 | cons b l ih=>
  rw [List.idxOf?_cons] at hj
  split at hj
  ·rename_i hb
   cases hj
   simpa using (beq_iff_eq.1 hb)
  ·obtain ⟨k,hk,rfl⟩:=ze.1 hj
   simpa using ih hk
theorem Lt (H:Heap ρ w S O h) (M:zhi ρ ρ2 low off order) {v:AV} {x:Value} (hv:zB ρ w S O v x):zB ρ2 w S O (v.ren h low off order) x:=by
 have lst:∀ {vs:List AV} {xs:List Value},vs.length=xs.length→(∀ (i:Nat) c v,vs[i]? =some c→xs[i]? =some v→zB ρ2 w S O (AV.ren h low off order c) v)→
   (AV.renL h low off order vs).length=xs.length∧∀ (i:Nat) c v,(AV.renL h low off order vs)[i]? =some c→xs[i]? =some v→zB ρ2 w S O c v:=fun {vs xs} hl ih=>by
  rw [RA]
  refine ⟨by simp [hl],fun i c v hc hv=> ?_⟩
  rw [List.getElem?_map] at hc
  obtain ⟨c0,hc0,rfl⟩:=ze.1 hc
  exact ih i c0 v hc0 hv
 induction hv with
 | s hs=>rw [zpl hs];exact .s hs
 | agg cs vs hl h1 _ ih=>rw [AV.ren];exact .agg _ vs (lst hl ih).1 h1 (lst hl ih).2
 | tup cs vs hl _ ih=>rw [AV.ren];exact .tup _ vs (lst hl ih).1 (lst hl ih).2
 | fn f asx bs xs ys h1 h2 _ _ i1 i2=>rw [AV.ren];exact .fn f _ _ xs ys (lst h1 i1).1 (lst h2 i2).1 (lst h1 i1).2 (lst h2 i2).2
 | bor0 k full a cap hf=>simp only [AV.ren];exact .bor0 k full a cap hf
 | bor k es full b off cap val h1 h2 h3 hO hb hc hr=>simp only [AV.ren];exact .bor k es full b off cap val h1 h2 h3 hO hb hc hr
 | dptr cs b off val hO hb hc hr=>simp only [AV.ren];exact .dptr cs b off val hO hb hc hr
 | own id g g' pl s l c ad cap h1 h2 h3 hc h4 h5=>
  simp only [AV.ren]
  split
  ·rename_i hlt;exact .own id g g' pl s l c ad cap ((M.low id hlt).trans h1) h2 h3 hc h4 h5
  ·split
   ·rename_i r j hr hj
    split
    ·rename_i hg
     obtain ⟨hg',_⟩:=H.at h1 hr
     exact .own _ 0 0 pl s l c ad cap (M.ord j id g' pl (NP hj) h1) (Nat.le_refl _) h3 hc h4 (fun _=>h5 (by omega))
    ·exact .unk _
   ·exact .unk _
 | ptr id g g' pl e0 o ad h1 h2 h3=>
  simp only [AV.ren]
  split
  ·rename_i hlt;exact .ptr id g g' pl e0 o ad ((M.low id hlt).trans h1) h2 h3
  ·split
   ·rename_i r j hr hj
    split
    ·rename_i hg
     obtain ⟨hg',_⟩:=H.at h1 hr
     exact .ptr _ 0 0 pl e0 o ad (M.ord j id g' pl (NP hj) h1) (Nat.le_refl _) (fun _=>h3 (by omega))
    ·exact .unk _
   ·exact .unk _
 | unk x=>simp only [AV.ren];exact .unk x
theorem zcR {v:AV} {x:Value} (hX:∀ b,S2 b∨O2 b→S b∨O b) (hv:zB ρ w S O v x):v.clean=true→zB ρ w S2 O2 v x:=by
 have lst:∀ {vs:List AV} {xs:List Value},AV.cleanL vs=true→(∀ (i:Nat) c v,vs[i]? =some c→xs[i]? =some v→c.clean=true→zB ρ w S2 O2 c v)→
   ∀ (i:Nat) c v,vs[i]? =some c→xs[i]? =some v→zB ρ w S2 O2 c v:=fun {vs xs} hc ih i c v h1 h2=>ih i c v h1 h2 (zai hc c (List.mem_of_getElem? h1))
 induction hv with
 | s hs=>intro _;exact .s (hs.mono hX)
 | agg cs vs hl h1 _ ih=>intro hc;exact .agg _ vs hl h1 (lst (by simpa [AV.clean] using hc) ih)
 | tup cs vs hl _ ih=>intro hc;exact .tup _ vs hl (lst (by simpa [AV.clean] using hc) ih)
 | fn f asx bs xs ys h1 h2 _ _ i1 i2=>
  intro hc
  simp only [AV.clean,Bool.and_eq_true] at hc
  exact .fn f _ _ xs ys h1 h2 (lst hc.1 i1) (lst hc.2 i2)
 | bor0=>intro hc;simp [AV.clean] at hc
 | bor=>intro hc;simp [AV.clean] at hc
 | dptr=>intro hc;simp [AV.clean] at hc
 | own id g g' pl s l c ad cap h1 h2 h3 hc h4 h5=>intro _;exact .own id g g' pl s l c ad cap h1 h2 h3 hc h4 h5
 | ptr id g g' pl e0 o ad h1 h2 h3=>intro _;exact .ptr id g g' pl e0 o ad h1 h2 h3
 | unk x=>intro _;exact .unk x
mutual
theorem zjv:∀ {v:AV},v.clean=true→(v.ren h low off order).clean=true
 | .own id g s l c,_=>by
  rw [AV.ren]
  split
  ·rfl
  ·split
   ·split<;>rfl
   ·rfl
 | .ptr id g e o,_=>by
  rw [AV.ren]
  split
  ·rfl
  ·split
   ·split<;>rfl
   ·rfl
 | .agg cs,hc=>by rw [AV.ren];exact NC (vs:=cs) (by simpa [AV.clean] using hc)
 | .tup cs,hc=>by rw [AV.ren];exact NC (vs:=cs) (by simpa [AV.clean] using hc)
 | .fn f a b,hc=>by
  simp only [AV.clean,Bool.and_eq_true] at hc
  rw [AV.ren]
  simp only [AV.clean,Bool.and_eq_true]
  exact ⟨NC (vs:=a) hc.1,NC (vs:=b) hc.2⟩
 | .int _ _,_=>rfl
 | .bool _,_=>rfl
 | .str _,_=>rfl
 | .data _ _ _ _,hc=>hc
 | .dptr _,hc=>hc
 | .nilfn,_=>rfl
 | .nilptr,_=>rfl
 | .unk,_=>rfl
theorem NC:∀ {vs:List AV},AV.cleanL vs=true→AV.cleanL (AV.renL h low off order vs)=true
 | [],_=>rfl
 | v::vs,hc=>by
  simp only [AV.cleanL,Bool.and_eq_true] at hc
  rw [AV.renL]
  simp only [AV.cleanL,Bool.and_eq_true]
  exact ⟨zjv hc.1,NC hc.2⟩
end
theorem zmm (H:Heap ρ w S O h) (M:zhi ρ ρ2 low off order) (hX:∀ b,S2 b∨O2 b→S b∨O b) {v:AV} {x:Value} (hv:zB ρ w S O v x) (hc:v.clean=true):zB ρ2 w S2 O2 (v.ren h low off order) x:=
 zcR hX (Lt H M hv) (zjv hc)
theorem zl3 {r:zf} {pl:Option Pl} (hR:zbQ ρ w S O r pl) (conv:∀ g ∈ r.es,∀ c ∈ g,∀ x,r.flat=false→zB ρ w S O c x→zB ρ2 w S2 O2 (c.ren h low off order) x)
  (hX:∀ b,S2 b∨O2 b→S b∨O b) (hO:∀ b,O b→O2 b) (n:Nat):zbQ ρ2 w S2 O2 { r.ren h low off order with gen:=n } pl:=by
 cases hf:r.flat with
 | true=>
  have e:({ r.ren h low off order with gen:=n }:zf)={ r with gen:=n }:=by simp [zf.ren,hf]
  rw [e]
  cases pl with
  | none=>exact hR
  | some p=>
   have R:zm ρ w S O r p:=hR
   obtain ⟨arr,ty,lo,hi,h1,h2,h3,h4⟩:=R.block
   exact ⟨R.k,R.lim,hO _ R.own,R.len,arr,ty,lo,hi,h1,h2,h3,fun e j g c hg hc=>by
    obtain ⟨x,q1,q2,q3,q4⟩:=h4 e j g c hg hc
    exact ⟨x,q1,q2,.s ((q4 hf).mono hX),fun _=>(q4 hf).mono hX⟩⟩
 | false=>
  have e:({ r.ren h low off order with gen:=n }:zf)=⟨r.k,n,false,r.es.map (AV.renL h low off order)⟩:=by simp [zf.ren,hf]
  rw [e]
  cases pl with
  | none=>
   have:r.es=[]:=hR
   show r.es.map _=[]
   rw [this];rfl
  | some p=>
   have R:zm ρ w S O r p:=hR
   obtain ⟨arr,ty,lo,hi,h1,h2,h3,h4⟩:=R.block
   refine ⟨R.k,by simpa using R.lim,hO _ R.own,fun g hg=> ?_,arr,ty,lo,hi,h1,h2,h3,fun e j g c hg hc=> ?_⟩
   ·obtain ⟨g0,hg0,rfl⟩:=List.mem_map.1 hg
    rw [RA,List.length_map]
    exact R.len g0 hg0
   ·simp only [List.getElem?_map] at hg
    obtain ⟨g0,hg0,rfl⟩:=ze.1 hg
    rw [RA,List.getElem?_map] at hc
    obtain ⟨c0,hc0,rfl⟩:=ze.1 hc
    obtain ⟨x,q1,q2,q3,q4⟩:=h4 e j g0 c0 hg0 hc0
    exact ⟨x,q1,q2,conv g0 (List.mem_of_getElem? hg0) c0 (List.mem_of_getElem? hc0) x hf q3,fun h=>by cases h⟩
theorem FJ (f:zf→zf):∀ {l:List Nat},(∀ i ∈ l,i<h.length)→(l.filterMap fun i=>(h[i]?).map f).length=l.length∧∀ (j i:Nat) r,l[j]? =some i→h[i]? =some r→(l.filterMap fun i=>(h[i]?).map f)[j]? =some (f r)
 | [],_=>⟨rfl,fun j i r hj=>by simp at hj⟩
 | a::l,hl=>by
  obtain ⟨h1,h2⟩:=FJ f (l:=l) (fun i hi=>hl i (by simp [hi]))
  obtain ⟨ra,ha⟩:∃ ra,h[a]? =some ra:=⟨_,List.getElem?_eq_getElem (hl a (by simp))⟩
  have e:((a::l).filterMap fun i=>(h[i]?).map f)=f ra::l.filterMap fun i=>(h[i]?).map f:=by
   rw [List.filterMap_cons,ha];rfl
  rw [e]
  refine ⟨by simp [h1],fun j i r hj hr=> ?_⟩
  cases j with
  | zero=>simp at hj;subst hj;rw [ha] at hr;cases hr;rfl
  | succ j=>simpa using h2 j i r (by simpa using hj) hr
theorem DZ (hok:Wx h low order=true):order.Nodup∧∀ i ∈ order,low≤i∧i<h.length:=by
 simp only [Wx,Bool.and_eq_true,decide_eq_true_eq,List.all_eq_true] at hok
 exact hok
theorem zwB {h' h2:List zf} {ρ':Rho} {w':World} {O':Nat→Prop} {v v2:AV} {x:Value} (H:Heap ρ w S O h) (A:UF w (fun _=>False) w' O') (H':Heap ρ' w' (fun b=>S b∨O b) O' h') (hv:zB ρ' w' (fun b=>S b∨O b) O' v x)
  (ha:zc9 h h' v=some (v2,h2)):∃ ρ2,uB w O w' (fun b=>O b∨O' b)∧(∀ id y,ρ id=some y→ρ2 id=some y)∧(∀ (id g:Nat) p,ρ2 id=some (g,some p)→ρ id=some (g,some p)∨w.heap.size≤p.b)∧
   Heap ρ2 w' S (fun b=>O b∨O' b) h2∧zB ρ2 w' S (fun b=>O b∨O' b) v2 x∧(∀ id,id<h.length→ρ id=none→ρ2 id=none)∧∃ e,h2=h++e:=by
 unfold zc9 at ha
 simp only at ha
 generalize uD h' 0 64 v.ids []=order at ha
 split at ha
 case isFalse=>cases ha
 rename_i hc
 cases ha
 simp only [Bool.and_eq_true,List.all_eq_true] at hc
 obtain ⟨⟨hok,hcl⟩,hcr⟩:=hc
 obtain ⟨hnd,hin⟩:=DZ hok
 have hA:uB w O w' (fun b=>O b∨O' b):=⟨A.os,A.tape,A.output,A.size,fun b hb _=>A.same b hb (fun h=>h),fun b hb=>.inl hb,fun b hb=>hb.imp (fun h=>h) (fun h=>(A.new b h).elim False.elim (fun h=>h))⟩
 have hOn:∀ b,O' b→w.heap.size≤b:=fun b hb=>(A.new b hb).elim False.elim (fun h=>h)
 have hX:∀ b,S b∨(O b∨O' b)→(S b∨O b)∨O' b:=fun b hb=>by
  rcases hb with hb | hb | hb
  ·exact .inl (.inl hb)
  ·exact .inl (.inr hb)
  ·exact .inr hb
 refine ⟨fun id=>if id<h.length then ρ id else ((order[id - h.length]?).bind ρ').map fun y=>(0,y.2),hA, ?_, ?_, ?_, ?_, ?_,_,rfl⟩
 all_goals (try (generalize hρ2:(fun id=>if id<h.length then ρ id else ((order[id - h.length]?).bind ρ').map fun y=>((0:Nat),y.2))=ρ2))
 all_goals (try have e1:∀ id,id<h.length→ρ2 id=ρ id:=fun id hid=>by rw [← hρ2];simp [hid])
 all_goals (try have e2:∀ id,h.length≤id→ρ2 id=((order[id - h.length]?).bind ρ').map fun y=>(0,y.2):=fun id hid=>by rw [← hρ2];simp [Nat.not_lt.2 hid])
 all_goals (try have M:zhi ρ' ρ2 0 h.length order:=⟨fun id hid=>by omega,fun j id g pl hj hid=>by rw [e2 _ (by omega)];simp [hj,hid]⟩)
 ·intro id y hy
  rw [← hρ2]
  have:=H.lt (id:=id) (g:=y.1) (pl:=y.2) hy
  simp [this,hy]
 ·intro id g p hid
  by_cases hlt:id<h.length
  ·rw [e1 id hlt] at hid;exact .inl hid
  ·rw [e2 id (by omega)] at hid
   obtain ⟨y,hy,e⟩:=ze.1 hid
   obtain ⟨i0,hi0,hρ'⟩:=za.1 hy
   obtain ⟨g0,pl0⟩:=y
   simp only [Prod.mk.injEq] at e
   obtain ⟨rfl,rfl⟩:=e
   obtain ⟨r,_,_,hR⟩:=H'.row i0 g0 _ hρ'
   exact .inr (hOn _ (show zm ρ' w' _ O' r p from hR).own)
 ·have hext:Ext ρ ρ2:=fun id g pl hid=>⟨g,pl,by rw [e1 id (H.lt hid)];exact hid,Nat.le_refl _,fun _=>rfl⟩
  obtain ⟨rl,rg⟩:=FJ (h:=h') (fun r=>{ r.ren h' 0 h.length order with gen:=0 }) (l:=order) (fun i hi=>(hin i hi).2)
  refine ⟨fun id g pl hid=> ?_,fun i i' g g' p p' h1 h2 hb=> ?_,fun b hb=> ?_,fun b hb hs=> ?_⟩
  rotate_left
  rotate_left
  rotate_left
  ·rcases hb with hb | hb
   ·exact H.dis b hb hs
   ·have:=hOn b hb;have:=H.bd b (.inl hs);omega
  ·by_cases hlt:id<h.length
   ·rw [e1 id hlt] at hid
    obtain ⟨r,hr,hg,hR⟩:=H.row id g pl hid
    refine ⟨r,by rw [List.getElem?_append_left hlt];exact hr,hg, ?_⟩
    cases pl with
    | none=>exact hR
    | some p=>exact zm.adv hR hext hA (A.same _ (zm.lt (show zm ρ w S O r p from hR)) (fun h=>h))
   ·rw [e2 id (by omega)] at hid
    obtain ⟨y,hy,e⟩:=ze.1 hid
    obtain ⟨i0,hi0,hρ'⟩:=za.1 hy
    obtain ⟨g0,pl0⟩:=y
    simp only [Prod.mk.injEq] at e
    obtain ⟨rfl,rfl⟩:=e
    obtain ⟨r,hr,hg,hR⟩:=H'.row i0 g0 _ hρ'
    refine ⟨_,by rw [List.getElem?_append_right (by omega)];exact rg _ i0 r hi0 hr,rfl, ?_⟩
    refine zl3 hR (fun gg hgg c hcc x hf hcx=> ?_) hX (fun b hb=>.inr hb) 0
    have hrow:=hcr i0 (List.mem_of_getElem? hi0)
    rw [hr] at hrow
    simp only [hf,Bool.false_or,List.all_eq_true] at hrow
    exact zmm H' M hX hcx (zai (hrow gg hgg) c hcc)
  ·by_cases hi:i<h.length
   ·rw [e1 i hi] at h1
    by_cases hi':i'<h.length
    ·rw [e1 i' hi'] at h2
     exact H.inj i i' g g' p p' h1 h2 hb
    ·rw [e2 i' (by omega)] at h2
     obtain ⟨y,hy,e⟩:=ze.1 h2
     obtain ⟨i0,hi0,hρ'⟩:=za.1 hy
     obtain ⟨g0,pl0⟩:=y
     simp only [Prod.mk.injEq] at e
     obtain ⟨rfl,rfl⟩:=e
     obtain ⟨r,_,_,hR⟩:=H'.row i0 g0 _ hρ'
     obtain ⟨r1,_,_,hR1⟩:=H.row i g _ h1
     have q1:=zm.lt (show zm ρ w S O r1 p from hR1)
     have q2:=hOn _ (show zm ρ' w' _ O' r p' from hR).own
     omega
   ·rw [e2 i (by omega)] at h1
    obtain ⟨y,hy,e⟩:=ze.1 h1
    obtain ⟨i0,hi0,hρ'⟩:=za.1 hy
    obtain ⟨g0,pl0⟩:=y
    simp only [Prod.mk.injEq] at e
    obtain ⟨rfl,rfl⟩:=e
    obtain ⟨r,_,_,hR⟩:=H'.row i0 g0 _ hρ'
    have q2:=hOn _ (show zm ρ' w' _ O' r p from hR).own
    by_cases hi':i'<h.length
    ·rw [e1 i' hi'] at h2
     obtain ⟨r1,_,_,hR1⟩:=H.row i' g' _ h2
     have q1:=zm.lt (show zm ρ w S O r1 p' from hR1)
     omega
    ·rw [e2 i' (by omega)] at h2
     obtain ⟨y',hy',e'⟩:=ze.1 h2
     obtain ⟨i1,hi1,hρ1⟩:=za.1 hy'
     obtain ⟨g1,pl1⟩:=y'
     simp only [Prod.mk.injEq] at e'
     obtain ⟨rfl,rfl⟩:=e'
     have:=H'.inj i0 i1 g0 g1 p p' hρ' hρ1 hb
     subst this
     have:=(List.getElem?_inj (by have:=(List.getElem?_eq_some_iff.1 hi0).1;exact this) hnd).1 (hi0.trans hi1.symm)
     omega
  ·rcases hb with hb | hb | hb
   ·exact Nat.lt_of_lt_of_le (H.bd b (.inl hb)) A.size
   ·exact Nat.lt_of_lt_of_le (H.bd b (.inr hb)) A.size
   ·exact H'.bd b (.inr hb)
 ·exact zmm H' M hX hv hcl
 ·intro id hid hn
  rw [e1 id hid];exact hn
end
end Go.Proofs.YthcnhibjddomdaaGreat
namespace Go.Proofs.YthcnhibjddomdaaGreat
open Go Go.RowKit
variable [FrB]
section
variable {P:Program} {ρ:Rho} {w w':World} {S O O':Nat→Prop} {h:List zf}
theorem Heap.place {id g:Nat} {pl:Option Pl} {r':zf} {p':Pl} (H:Heap ρ w S O h) (hρ:ρ id=some (g,pl)) (hg:r'.gen=g+1) (hA:uB w O w' O') (hbd:∀ b,O' b→b<w'.heap.size)
  (hkeep:∀ (id' g':Nat) p,id'≠id→ρ id'=some (g',some p)→w'.heap[p.b]? =w.heap[p.b]? ∧p.b≠p'.b) (hrow:zm (upd ρ id (g+1,some p')) w' S O' r' p'):
  Heap (upd ρ id (g+1,some p')) w' S O' (h.set id r')∧Ext ρ (upd ρ id (g+1,some p')):=by
 have he:Ext ρ (upd ρ id (g+1,some p')):=fun i g0 pl0 hi=>by
  by_cases e:i=id
  ·subst e
   rw [hρ] at hi
   cases hi
   exact ⟨_,_,upd_same ρ _ _,Nat.le_succ _,fun e=>by omega⟩
  ·exact ⟨g0,pl0,by rw [upd_ne ρ _ e];exact hi,Nat.le_refl _,fun _=>rfl⟩
 refine ⟨H.step he hA hbd (fun id' g' pl' hid=> ?_) (fun i i' g1 g2 p1 p2 q1 q2 hb=> ?_),he⟩
 ·by_cases hii:id'=id
  ·subst hii
   rw [upd_same] at hid
   cases hid
   exact .inr ⟨r',by rw [List.getElem?_set_self (H.lt hρ)],hg,hrow⟩
  ·rw [upd_ne ρ _ hii] at hid
   refine .inl ⟨hid,by rw [List.getElem?_set_ne (Ne.symm hii)],fun p hp=> ?_⟩
   subst hp
   exact (hkeep id' g' p hii hid).1
 ·by_cases e:i=id
  ·by_cases e':i'=id
   ·rw [e,e']
   ·subst e
    rw [upd_same] at q1
    rw [upd_ne ρ _ e'] at q2
    cases q1
    exact absurd hb.symm (hkeep i' g2 p2 e' q2).2
  ·by_cases e':i'=id
   ·subst e'
    rw [upd_same] at q2
    rw [upd_ne ρ _ e] at q1
    cases q2
    exact absurd hb (hkeep i g1 p1 e q1).2
   ·rw [upd_ne ρ _ e] at q1
    rw [upd_ne ρ _ e'] at q2
    exact H.inj i i' g1 g2 p1 p2 q1 q2 hb
theorem Ic {k:Nat} {ts:Array TypeId} {ty t e:TypeId} (ets:ts[0]? =some t) (hu:P.underlying t=some (.slice e)) (hs:vP P e k=true) {b off l cap b2 off2 n2 cap2:Nat} {us:List Value} (hul:us.length=min n2 l * k)
  (hc:∀ j v,us[j]? =some v→w.cell? ⟨b2,off2+j,none⟩=some v) (ht:w.there b off us.length) (h1:∀ v ∈ us,v.oneCell'=true):
  (Builtin.copy_ ts ty #[.slice (some ⟨b,off,none⟩) l cap,.slice (some ⟨b2,off2,none⟩) n2 cap2]).run P w=.ok (goInt (min n2 l:Nat)) (w.setCells b off us):=by
 have hn:Nat.min n2 l=min n2 l:=rfl
 have hfc:=vG (P:=P) (w:=w) (ad:=some ⟨b2,off2,none⟩) (len:=n2) (cap:=cap2) (k:=k) (n:=min n2 l) (us:=us) hul (.inr ⟨b2,off2,rfl,hc⟩)
 have hst:=WP (P:=P) ht h1
 simp only [Builtin.copy_,ets]
 simp [run_underlying hu,Builtin.lenOf,uQ hs,hn,hfc,hst]
theorem zlb {k:Nat} {es:List (List AV)} {x:List AV} {us us2:List Value} {f1 f2:Bool} (hk:∀ g ∈ es,g.length=k) (i:Nat) (h1:zQ (uh ρ w S O f1) es.flatten us) (h2:zQ (uh ρ w S O f2) x us2):
  zQ (uh ρ w S O (f1&&f2)) (es.take i++[x]++es.drop i).flatten (us.take (i * k)++us2++us.drop (i * k)):=by
 have a1:=h1.weak (f':=f1&&f2) (fun h=>by simp at h;exact h.1)
 have a2:=h2.weak (f':=f1&&f2) (fun h=>by simp at h;exact h.2)
 rw [List.flatten_append,List.flatten_append,TT hk,Ph hk,List.flatten_cons,List.flatten_nil,List.append_nil]
 exact ((a1.take _).append a2).append (a1.drop _)
theorem zh8 {L us us2:List Value} {base n k i:Nat} (hus:us.length=n * k) (h2:us2.length=k) (hi:i≤n) (hL:base+(n+1) * k≤L.length) (h0:∀ j,j<i * k→L[base+j]? =us[j]?) (j:Nat) (hj:j<(us.take (i * k)++us2++us.drop (i * k)).length):
  (jD (base+i * k) us2 (jD (base+(i+1) * k) (us.drop (i * k)) L))[base+j]? =(us.take (i * k)++us2++us.drop (i * k))[j]? :=by
 have m1:i * k≤n * k:=Nat.mul_le_mul_right _ hi
 rw [Nat.add_mul] at hL
 have m2:(i+1) * k=i * k+k:=by rw [Nat.add_mul,Nat.one_mul]
 have l1:(us.take (i * k)).length=i * k:=by rw [List.length_take,hus];omega
 have l2:(us.drop (i * k)).length=n * k - i * k:=by rw [List.length_drop,hus]
 have p1:base+(i+1) * k+(us.drop (i * k)).length≤L.length:=by rw [l2,m2];omega
 simp only [List.length_append,l1,l2,h2] at hj
 rw [yS (by rw [yA p1,h2];omega),yS p1,l2,h2,m2]
 by_cases c1:j<i * k
 ·rw [if_neg (by omega),if_neg (by omega),h0 j c1,List.append_assoc,List.getElem?_append_left (by rw [l1];exact c1),List.getElem?_take,if_pos c1]
 ·by_cases c2:j<i * k+k
  ·rw [if_pos (by omega),List.append_assoc,List.getElem?_append_right (by rw [l1];omega),l1,List.getElem?_append_left (by rw [h2];omega)]
   congr 1;omega
  ·rw [if_neg (by omega),if_pos (by omega),List.append_assoc,List.getElem?_append_right (by rw [l1];omega),l1,List.getElem?_append_right (by rw [h2];omega),h2]
   congr 1;omega
theorem zie {L us us2:List Value} {base n k i:Nat} (hus:us.length=n * k) (h2:us2.length=k) (hi:i≤n) (hL:base+(n+1) * k≤L.length) (h0:∀ j,j<i * k→L[base+j]? =us[j]?) (j:Nat) (hj:j<(us.take (i * k)++us2++us.drop (i * k)).length):
  (jD (base+(i+1) * k) (us.drop (i * k)) (jD (base+i * k) us2 L))[base+j]? =(us.take (i * k)++us2++us.drop (i * k))[j]? :=by
 have m1:i * k≤n * k:=Nat.mul_le_mul_right _ hi
 rw [Nat.add_mul] at hL
 have m2:(i+1) * k=i * k+k:=by rw [Nat.add_mul,Nat.one_mul]
 have l1:(us.take (i * k)).length=i * k:=by rw [List.length_take,hus];omega
 have l2:(us.drop (i * k)).length=n * k - i * k:=by rw [List.length_drop,hus]
 have p1:base+i * k+us2.length≤L.length:=by rw [h2];omega
 simp only [List.length_append,l1,l2,h2] at hj
 rw [yS (by rw [yA p1,l2,m2];omega),yS p1,l2,h2,m2]
 by_cases c1:j<i * k
 ·rw [if_neg (by omega),if_neg (by omega),h0 j c1,List.append_assoc,List.getElem?_append_left (by rw [l1];exact c1),List.getElem?_take,if_pos c1]
 ·by_cases c2:j<i * k+k
  ·rw [if_neg (by omega),if_pos (by omega),List.append_assoc,List.getElem?_append_right (by rw [l1];omega),l1,List.getElem?_append_left (by rw [h2];omega)]
   congr 1;omega
  ·rw [if_pos (by omega),List.append_assoc,List.getElem?_append_right (by rw [l1];omega),l1,List.getElem?_append_right (by rw [h2];omega),h2]
   congr 1;omega
theorem zpw {k n i:Nat} {es:List (List AV)} {x:List AV} (hl:es.length=n) (hi:i≤n):(es.take i++[x]++es.drop i).length=n+1:=by
 simp [hl];omega
theorem zyX {k i:Nat} {es:List (List AV)} {x:List AV} (hk:∀ g ∈ es,g.length=k) (hx:x.length=k):∀ g ∈ es.take i++[x]++es.drop i,g.length=k:=by
 intro g hg
 rcases List.mem_append.1 hg with hg | hg
 ·rcases List.mem_append.1 hg with hg | hg
  ·exact hk g (List.mem_of_mem_take hg)
  ·simp only [List.mem_cons,List.not_mem_nil,or_false] at hg
   subst hg;exact hx
 ·exact hk g (List.mem_of_mem_drop hg)
theorem zuX {r:zf} {p:Pl} (R:zm ρ w S O r p) {c:Nat} (hc:c≤p.lim):w.there p.b p.base (c * r.k):=by
 obtain ⟨arr,ty,lo,hi,h1,h2,h3,_⟩:=R.block
 have hk:=R.k
 rw [hk] at h2
 have:c * r.k≤p.lim * r.k:=Nat.mul_le_mul_right _ hc
 intro j hj
 have hlt:p.base+j<arr.size:=by omega
 refine ⟨?_, ?_⟩
 ·simp [World.cell?,h1,hlt]
 ·have:=h3.2.1 _ hlt
  simp only [World.frozen?,h1]
  rw [Bool.eq_false_iff]
  intro hh
  simp at hh
  exact this hh
end
end Go.Proofs.YthcnhibjddomdaaGreat
namespace Go.Proofs.YthcnhibjddomdaaGreat
open Go Go.RowKit
variable [FrB]
section
variable {P:Program} {G:Nat→Option (List AV)} {ρ ρ2:Rho} {w:World} {S O S2 O2:Nat→Prop} {env:yF} {h:List zf} {a:Act} {o:Oper}
theorem znp (f:AV→AV) (s:Nat):∀ (env:yF),look (env.map fun p=>(p.1,f p.2)) s=(look env s).map f
 | []=>rfl
 | (k,u)::r=>by
  simp only [List.map_cons,look]
  split
  ·rfl
  ·exact znp f s r
theorem PV {s:Nat} (env:yF):∀ (live:List Nat),look (uy live env) s=if s ∈ live then look env s else none
 | []=>by simp [uy,look]
 | k::live=>by
  have ih:=PV (s:=s) env live
  unfold uy at *
  rw [List.filterMap_cons]
  cases hk:look env k with
  | none=>
   simp only [Option.map_none]
   rw [ih]
   by_cases e:s=k
   ·subst e;simp [hk]
   ·simp [e]
  | some v=>
   simp only [Option.map_some,look]
   by_cases e:k=s
   ·subst e;simp [hk]
   ·have e':¬ s=k:=fun h=>e h.symm
    simp [e,e',ih]
theorem Rel.keep (R:Rel G ρ w S O env a) (live:List Nat):Rel G ρ w S O (uy live env) a:=
 ⟨fun s v hs=>R.env s v (by
  rw [PV] at hs
  split at hs
  ·exact hs
  ·cases hs),R.glob⟩
theorem Rel.adv {w':World} {O':Nat→Prop} (R:Rel G ρ w S O env a) (e:Ext ρ ρ2) (A:UF w O w' O'):Rel G ρ2 w' S O' env a:=
 ⟨fun s v hs=>by obtain ⟨x,h1,h2⟩:=R.env s v hs;exact ⟨x,h1,h2.advX e A⟩,fun g cs hg=>(R.glob g cs hg).advX e A⟩
theorem Rel.put {d:Option Nat} {v:AV} {x:Value} (R:Rel G ρ w S O env a) (hv:zB ρ w S O v x) (hd:∀ t,d=some t→t<a.tmps.size):Rel G ρ w S O (LZ env d v) (a.put d x):=by
 cases d with
 | none=>exact R
 | some d=>
  have hlt:=hd d rfl
  refine ⟨fun s u hs=> ?_,R.glob⟩
  simp only [LZ,look] at hs
  simp only [Act.put]
  by_cases e:d=s
  ·subst e
   rw [if_pos rfl] at hs
   cases hs
   exact ⟨x,by simp [hlt],hv⟩
  ·rw [if_neg e] at hs
   obtain ⟨y,h1,h2⟩:=R.env s u hs
   exact ⟨y,by rw [Array.getElem?_setIfInBounds_ne e];exact h1,h2⟩
theorem zyf {base:Nat} {live:List Nat} {st:ASt} (H:Heap ρ w S O h) (R:Rel G ρ w S O env a) (hb:base≤h.length) (hg:agc base live ⟨env,h⟩=some st):
  ∃ ρ2,Heap ρ2 w S O st.h∧Rel G ρ2 w S O st.env a∧(∀ id,id<base→ρ2 id=ρ id)∧base≤st.h.length:=by
 unfold agc at hg
 simp only at hg
 generalize hord:uD h base 64 (AV.idsL ((uy live env).map (·.2))++(h.take base).flatMap zf.ids) []=order at hg
 split at hg
 case isFalse=>cases hg
 rename_i hok
 cases hg
 obtain ⟨hnd,hin⟩:=DZ hok
 refine ⟨fun id=>if id<base then ρ id else ((order[id - base]?).bind ρ).map fun y=>(0,y.2), ?_, ?_, ?_, ?_⟩
 all_goals (try (generalize hρ2:(fun id=>if id<base then ρ id else ((order[id - base]?).bind ρ).map fun y=>((0:Nat),y.2))=ρ2))
 all_goals (try have e1:∀ id,id<base→ρ2 id=ρ id:=fun id hid=>by rw [← hρ2];simp [hid])
 all_goals (try have e2:∀ id,base≤id→ρ2 id=((order[id - base]?).bind ρ).map fun y=>(0,y.2):=fun id hid=>by rw [← hρ2];simp [Nat.not_lt.2 hid])
 all_goals (try have M:zhi ρ ρ2 base base order:=⟨fun id hid=>e1 id hid,fun j id g pl hj hid=>by rw [e2 _ (by omega)];simp [hj,hid]⟩)
 ·have hlen:((h.take base).map (zf.ren h base base order)).length=base:=by simp;omega
  obtain ⟨rl,rg⟩:=FJ (h:=h) (fun r=>{ r.ren h base base order with gen:=0 }) (l:=order) (fun i hi=>(hin i hi).2)
  refine ⟨fun id g pl hid=> ?_,fun i i' g g' p p' h1 h2 hbb=> ?_,H.bd,H.dis⟩
  ·by_cases hlt:id<base
   ·rw [e1 id hlt] at hid
    obtain ⟨r,hr,hg,hR⟩:=H.row id g pl hid
    refine ⟨r.ren h base base order, ?_, ?_, ?_⟩
    ·rw [List.getElem?_append_left (by omega),List.getElem?_map,List.getElem?_take,if_pos hlt,hr];rfl
    ·rw [← hg];unfold zf.ren;split<;>rfl
    ·have:=zl3 (ρ2:=ρ2) (S2:=S) (O2:=O) (h:=h) (low:=base) (off:=base) (order:=order) hR (fun gg _ c _ x _ hcx=>Lt H M hcx) (fun _ hb=>hb) (fun _ hb=>hb) (r.ren h base base order).gen
     exact this
   ·rw [e2 id (by omega)] at hid
    obtain ⟨y,hy,e⟩:=ze.1 hid
    obtain ⟨i0,hi0,hρ'⟩:=za.1 hy
    obtain ⟨g0,pl0⟩:=y
    simp only [Prod.mk.injEq] at e
    obtain ⟨rfl,rfl⟩:=e
    obtain ⟨r,hr,hg,hR⟩:=H.row i0 g0 _ hρ'
    refine ⟨_,by rw [List.getElem?_append_right (by omega),hlen];exact rg _ i0 r hi0 hr,rfl, ?_⟩
    exact zl3 hR (fun gg _ c _ x _ hcx=>Lt H M hcx) (fun _ hb=>hb) (fun _ hb=>hb) 0
  ·by_cases hi:i<base
   ·rw [e1 i hi] at h1
    by_cases hi':i'<base
    ·rw [e1 i' hi'] at h2
     exact H.inj i i' g g' p p' h1 h2 hbb
    ·rw [e2 i' (by omega)] at h2
     obtain ⟨y,hy,e⟩:=ze.1 h2
     obtain ⟨i0,hi0,hρ'⟩:=za.1 hy
     obtain ⟨g0,pl0⟩:=y
     simp only [Prod.mk.injEq] at e
     obtain ⟨rfl,rfl⟩:=e
     have:=H.inj i i0 g g0 p p' h1 hρ' hbb
     have:=(hin i0 (List.mem_of_getElem? hi0)).1
     omega
   ·rw [e2 i (by omega)] at h1
    obtain ⟨y,hy,e⟩:=ze.1 h1
    obtain ⟨i0,hi0,hρ'⟩:=za.1 hy
    obtain ⟨g0,pl0⟩:=y
    simp only [Prod.mk.injEq] at e
    obtain ⟨rfl,rfl⟩:=e
    by_cases hi':i'<base
    ·rw [e1 i' hi'] at h2
     have:=H.inj i0 i' g0 g' p p' hρ' h2 hbb
     have:=(hin i0 (List.mem_of_getElem? hi0)).1
     omega
    ·rw [e2 i' (by omega)] at h2
     obtain ⟨y',hy',e'⟩:=ze.1 h2
     obtain ⟨i1,hi1,hρ1⟩:=za.1 hy'
     obtain ⟨g1,pl1⟩:=y'
     simp only [Prod.mk.injEq] at e'
     obtain ⟨rfl,rfl⟩:=e'
     have:=H.inj i0 i1 g0 g1 p p' hρ' hρ1 hbb
     subst this
     have:=(List.getElem?_inj (by have:=(List.getElem?_eq_some_iff.1 hi0).1;exact this) hnd).1 (hi0.trans hi1.symm)
     omega
 ·refine ⟨fun s v hs=> ?_,fun g cs hg=> ?_⟩
  ·rw [znp (fun v=>v.ren h base base order)] at hs
   obtain ⟨v0,hv0,rfl⟩:=ze.1 hs
   obtain ⟨x,hx,hr⟩:=(R.keep live).env s v0 hv0
   exact ⟨x,hx,Lt H M hr⟩
  ·have:=Lt (h:=h) H M (R.glob g cs hg)
   simpa [AV.ren] using this
 ·exact e1
 ·simp;omega
def Fw (ρ:Rho) (w:World) (S O:Nat→Prop) (h:List zf) (v:AV) (h':List zf) (x:Value) (w':World):Prop:=
 ∃ ρ' O',UF w O w' O'∧Ext ρ ρ'∧Heap ρ' w' S O' h'∧zB ρ' w' S O' v x∧∀ id,id<h.length→ρ id=none→ρ' id=none
def zk1 (ρ:Rho) (w:World) (S O:Nat→Prop) (h:List zf) (v:AV) (h':List zf) (x:Value) (w':World):Prop:=
 ∃ ρ' O',uB w O w' O'∧(∀ b,b<w.heap.size→w'.heap[b]? =w.heap[b]?)∧(∀ id y,ρ id=some y→ρ' id=some y)∧
  (∀ (id g:Nat) p,ρ' id=some (g,some p)→ρ id=some (g,some p)∨w.heap.size≤p.b)∧Heap ρ' w' S O' h'∧zB ρ' w' S O' v x∧(∀ id,id<h.length→ρ id=none→ρ' id=none)∧∃ e,h'=h++e
theorem zk1.toW {v:AV} {h':List zf} {x:Value} {w':World} (k:zk1 ρ w S O h v h' x w'):Fw ρ w S O h v h' x w':=by
 obtain ⟨ρ',O',h2,h3,h4,h5,h6,h7,h8,h9⟩:=k
 exact ⟨ρ',O',h2.x,fun id g pl hi=>⟨g,pl,h4 id _ hi,Nat.le_refl _,fun _=>rfl⟩,h6,h7,h8⟩
def Da (P:Program) (run:Result Next) (R:Value→World→Prop):Prop:=
 (∃ x w',(run=.ok (.value x) w'∨(run=.ok .skip w'∧x=undef))∧R x w')∨∃ f xs w0,run=.ok (.enter f xs) w0∧Calls P f xs w0 fun e w'=>∃ x,e=.returned x∧R x w'
theorem Da.mono {run:Result Next} {R R':Value→World→Prop} (k:Da P run R) (hr:∀ x w',R x w'→R' x w'):Da P run R':=by
 rcases k with ⟨x,w',h1,h2⟩ | ⟨f,xs,w0,h1,h2⟩
 ·exact .inl ⟨x,w',h1,hr _ _ h2⟩
 ·exact .inr ⟨f,xs,w0,h1,Calls.mono h2 fun e w' ⟨x,q1,q2⟩=>⟨x,q1,hr _ _ q2⟩⟩
theorem Da.upon {run:Result Next} {R:Value→World→Prop} {next:Act→World→Prop} {Q:Exit→Act→World→Prop} (k:Da P run R) (hn:∀ x w',R x w'→next (a.put o.dst x) w'):o.upon P a next Q run:=by
 rcases k with ⟨x,w',h1 | ⟨h1,rfl⟩,h2⟩ | ⟨f,xs,w0,h1,h2⟩
 ·rw [h1];exact hn _ _ h2
 ·rw [h1];exact hn _ _ h2
 ·rw [h1]
  refine Calls.mono h2 fun e w' ⟨x,q1,q2⟩=> ?_
  subst q1
  exact hn _ _ q2
def WW (P:Program) (G:Nat→Option (List AV)) (raw:uE):Prop:=
 ∀ (f:Nat) (args:List AV) (h:List zf) (v:AV) (h':List zf),raw f args h=some (v,h')→(∃ fn,P.funcs[f]? =some fn∧fn.name≠ "runtime.NumGoroutine" ∧fn.body.isSome=true)∧
  ∀ (ρ:Rho) (w:World) (S O:Nat→Prop) (xs:List Value),Heap ρ w S O h→(∀ g cs,G g=some cs→zB ρ w S O (.dptr cs) (.pointer (some ⟨g,0,none⟩)))→WO (zB ρ w S O) args xs→
   Calls P f xs.toArray w fun e w'=>∃ x,e=.returned x∧Fw ρ w S O h v h' x w'
theorem zb8 {f:Nat} {fn:Func} {xs:Array Value} (hf:P.funcs[f]? =some fn) (hn:fn.name≠ "runtime.NumGoroutine") (hb:fn.body.isSome=true):(callFunc f xs).run P w=.ok (.enter f xs) w:=by
 have h2:fn.body≠none:=by
  intro e
  rw [e] at hb;cases hb
 simp [callFunc,program,Sem.run,hf,hn,h2]
theorem zgH {xs:List Operand} {asx:List zD} {vs:List AV} (hc:LA xs asx=true) (R:Rel G ρ w S O env a) (he:asx.mapM (zo G env)=some vs):WO (zB ρ w S O) vs (xs.map a.eval):=by
 obtain ⟨h1,h2⟩:=zeO hc R he
 exact ⟨h1,h2⟩
end
end Go.Proofs.YthcnhibjddomdaaGreat
namespace Go.Proofs.YthcnhibjddomdaaGreat
open Go Go.RowKit
variable [FrB]
section
variable {P:Program} {G:Nat→Option (List AV)} {raw:uE} {ρ ρ2:Rho} {w:World} {S O S2 O2:Nat→Prop} {h:List zf} {v:AV} {h':List zf}
theorem Iw {v:AV} {x:Value} (hX:∀ b,S2 b∨O2 b→S b∨O b) (hO:∀ b,O2 b→O b) (hv:zB ρ w S O v x):zB ρ w S2 O2 v x:=by
 induction hv with
 | s hs=>exact .s (hs.mono hX)
 | agg cs vs hl h1 _ ih=>exact .agg cs vs hl h1 ih
 | tup cs vs hl _ ih=>exact .tup cs vs hl ih
 | fn f asx bs xs ys h1 h2 _ _ i1 i2=>exact .fn f asx bs xs ys h1 h2 i1 i2
 | bor0 k full a cap hf=>exact .bor0 k full a cap hf
 | bor k es full b off cap val h1 h2 h3 hb hl hc hr=>exact .bor k es full b off cap val h1 h2 h3 (fun h=>hb (hO b h)) hl hc fun e j g c hg hc=>(hr e j g c hg hc).mono fun b hb=>hb.imp id (hO b)
 | dptr cs b off val hb hl hc hr=>exact .dptr cs b off val (fun h=>hb (hO b h)) hl hc fun j c hj=>(hr j c hj).imp hX hO
 | own id g g' pl s l c ad cap h1 h2 h3 hc h4 h5=>exact .own id g g' pl s l c ad cap h1 h2 h3 hc h4 h5
 | ptr id g g' pl e0 o ad h1 h2 h3=>exact .ptr id g g' pl e0 o ad h1 h2 h3
 | unk x=>exact .unk x
theorem PM (f:Nat→Option (Nat×Nat)):∀ vs,AV.mapidL f vs=vs.map (AV.mapid f)
 | []=>rfl
 | v::vs=>by rw [AV.mapidL,PM f vs,List.map_cons]
theorem zph {w:World} {X:Nat→Prop} (f:Nat→Option (Nat×Nat)) {v:AV} {x:Value} (h:uj w X v x):v.mapid f=v:=by
 have lst:∀ {vs:List AV} {xs:List Value},vs.length=xs.length→(∀ (i:Nat) c v,vs[i]? =some c→xs[i]? =some v→c.mapid f=c)→AV.mapidL f vs=vs:=fun {vs xs} hl ih=>by
  rw [PM]
  apply List.ext_getElem?
  intro i
  rw [List.getElem?_map]
  cases e:vs[i]? with
  | none=>rfl
  | some c=>
   have hlt:i<xs.length:=by rw [← hl];exact (List.getElem?_eq_some_iff.1 e).1
   show some (c.mapid f)=some c
   rw [ih i c _ e (List.getElem?_eq_getElem hlt)]
 induction h with
 | agg cs vs hl _ _ ih=>rw [AV.mapid,lst hl ih]
 | tup cs vs hl _ ih=>rw [AV.mapid,lst hl ih]
 | fn g asx bs xs ys h1 h2 _ _ i1 i2=>rw [AV.mapid,lst h1 i1,lst h2 i2]
 | _=>rfl
theorem zi3 {f:Nat→Option (Nat×Nat)} (M:∀ (id g:Nat) (i:Nat×Nat) pl,ρ id=some (g,pl)→f id=some i→ρ2 i.1=some (i.2+g,pl)) {v:AV} {x:Value} (hv:zB ρ w S O v x):zB ρ2 w S O (v.mapid f) x:=by
 have lst:∀ {vs:List AV} {xs:List Value},vs.length=xs.length→(∀ (i:Nat) c v,vs[i]? =some c→xs[i]? =some v→zB ρ2 w S O (AV.mapid f c) v)→
   (AV.mapidL f vs).length=xs.length∧∀ (i:Nat) c v,(AV.mapidL f vs)[i]? =some c→xs[i]? =some v→zB ρ2 w S O c v:=fun {vs xs} hl ih=>by
  rw [PM]
  refine ⟨by simp [hl],fun i c v hc hv=> ?_⟩
  rw [List.getElem?_map] at hc
  obtain ⟨c0,hc0,rfl⟩:=ze.1 hc
  exact ih i c0 v hc0 hv
 induction hv with
 | s hs=>rw [zph f hs];exact .s hs
 | agg cs vs hl h1 _ ih=>rw [AV.mapid];exact .agg _ vs (lst hl ih).1 h1 (lst hl ih).2
 | tup cs vs hl _ ih=>rw [AV.mapid];exact .tup _ vs (lst hl ih).1 (lst hl ih).2
 | fn g asx bs xs ys h1 h2 _ _ i1 i2=>rw [AV.mapid];exact .fn g _ _ xs ys (lst h1 i1).1 (lst h2 i2).1 (lst h1 i1).2 (lst h2 i2).2
 | bor0 k full a cap hf=>exact .bor0 k full a cap hf
 | bor k es full b off cap val h1 h2 h3 hO hb hc hr=>exact .bor k es full b off cap val h1 h2 h3 hO hb hc hr
 | dptr cs b off val hO hb hc hr=>exact .dptr cs b off val hO hb hc hr
 | own id g g' pl s l c ad cap h1 h2 h3 hc h4 h5=>
  simp only [AV.mapid]
  split
  ·rename_i i hi;exact .own i.1 (i.2+g) (i.2+g') pl s l c ad cap (M id g' i pl h1 hi) (by omega) h3 hc h4 (fun e=>h5 (by omega))
  ·exact .unk _
 | ptr id g g' pl e0 o ad h1 h2 h3=>
  simp only [AV.mapid]
  split
  ·rename_i i hi;exact .ptr i.1 (i.2+g) (i.2+g') pl e0 o ad (M id g' i pl h1 hi) (by omega) (fun e=>h3 (by omega))
  ·exact .unk _
 | unk x=>exact .unk x
mutual
theorem FX {f:Nat→Option (Nat×Nat)}:∀ {v:AV},v.clean=true→(v.mapid f).clean=true
 | .own id g s l c,_=>by rw [AV.mapid];split<;>rfl
 | .ptr id g e o,_=>by rw [AV.mapid];split<;>rfl
 | .agg cs,hc=>by rw [AV.mapid];exact TQ (vs:=cs) (by simpa [AV.clean] using hc)
 | .tup cs,hc=>by rw [AV.mapid];exact TQ (vs:=cs) (by simpa [AV.clean] using hc)
 | .fn g a b,hc=>by
  simp only [AV.clean,Bool.and_eq_true] at hc
  rw [AV.mapid]
  simp only [AV.clean,Bool.and_eq_true]
  exact ⟨TQ (vs:=a) hc.1,TQ (vs:=b) hc.2⟩
 | .int _ _,_=>rfl
 | .bool _,_=>rfl
 | .str _,_=>rfl
 | .data _ _ _ _,hc=>hc
 | .dptr _,hc=>hc
 | .nilfn,_=>rfl
 | .nilptr,_=>rfl
 | .unk,_=>rfl
theorem TQ {f:Nat→Option (Nat×Nat)}:∀ {vs:List AV},AV.cleanL vs=true→AV.cleanL (AV.mapidL f vs)=true
 | [],_=>rfl
 | v::vs,hc=>by
  simp only [AV.cleanL,Bool.and_eq_true] at hc
  rw [AV.mapidL]
  simp only [AV.cleanL,Bool.and_eq_true]
  exact ⟨FX hc.1,TQ hc.2⟩
end
theorem zmv {r:zf} {pl:Option Pl} (F:List AV→List AV) (hlen:∀ g,(F g).length=g.length) (hget:∀ (g:List AV) (j:Nat) c,(F g)[j]? =some c→∃ c0,g[j]? =some c0∧∀ x,g ∈ r.es→r.flat=false→zB ρ w S O c0 x→zB ρ2 w S2 O2 c x)
  (hR:zbQ ρ w S O r pl) (hX:∀ b,S2 b∨O2 b→S b∨O b) (hown:∀ p,pl=some p→O2 p.b) (n:Nat):zbQ ρ2 w S2 O2 (if r.flat=true then { r with gen:=n } else ⟨r.k,n,false,r.es.map F⟩) pl:=by
 cases hf:r.flat with
 | true=>
  rw [if_pos rfl]
  cases pl with
  | none=>exact hR
  | some p=>
   have R:zm ρ w S O r p:=hR
   obtain ⟨arr,ty,lo,hi,h1,h2,h3,h4⟩:=R.block
   exact ⟨R.k,R.lim,hown p rfl,R.len,arr,ty,lo,hi,h1,h2,h3,fun e j g c hg hc=>by
    obtain ⟨x,q1,q2,q3,q4⟩:=h4 e j g c hg hc
    exact ⟨x,q1,q2,.s ((q4 hf).mono hX),fun _=>(q4 hf).mono hX⟩⟩
 | false=>
  rw [if_neg (by simp)]
  cases pl with
  | none=>
   have:r.es=[]:=hR
   show r.es.map _=[]
   rw [this];rfl
  | some p=>
   have R:zm ρ w S O r p:=hR
   obtain ⟨arr,ty,lo,hi,h1,h2,h3,h4⟩:=R.block
   refine ⟨R.k,by simpa using R.lim,hown p rfl,fun g hg=> ?_,arr,ty,lo,hi,h1,h2,h3,fun e j g c hg hc=> ?_⟩
   ·obtain ⟨g0,hg0,rfl⟩:=List.mem_map.1 hg
    rw [hlen]
    exact R.len g0 hg0
   ·simp only [List.getElem?_map] at hg
    obtain ⟨g0,hg0,rfl⟩:=ze.1 hg
    obtain ⟨c0,hc0,k0⟩:=hget g0 j c hc
    obtain ⟨x,q1,q2,q3,q4⟩:=h4 e j g0 c0 hg0 hc0
    exact ⟨x,q1,q2,k0 x (List.mem_of_getElem? hg0) hf q3,fun h=>by cases h⟩
theorem zrw (low off:Nat) (order:List Nat) (g:List AV) (j:Nat) (c:AV) (hc:(AV.renL h low off order g)[j]? =some c):∃ c0,g[j]? =some c0∧c=c0.ren h low off order:=by
 rw [RA,List.getElem?_map] at hc
 obtain ⟨c0,h1,h2⟩:=ze.1 hc
 exact ⟨c0,h1,h2.symm⟩
theorem zt2 (f:Nat→Option (Nat×Nat)) (g:List AV) (j:Nat) (c:AV) (hc:(AV.mapidL f g)[j]? =some c):∃ c0,g[j]? =some c0∧c=c0.mapid f:=by
 rw [PM,List.getElem?_map] at hc
 obtain ⟨c0,h1,h2⟩:=ze.1 hc
 exact ⟨c0,h1,h2.symm⟩
theorem znK (f:Nat→Option (Nat×Nat)) (o3:List Nat) (rs:List zf) (t i:Nat) (h:List zf):(Lu f o3 rs t i h).length=h.length:=by
 unfold Lu
 split
 ·split
  ·split<;>simp
  ·simp
 ·rfl
theorem zfI (f:Nat→Option (Nat×Nat)) (o3:List Nat) (rs:List zf) (t i:Nat) (h:List zf) {k:Nat} (hk:i≠k):(Lu f o3 rs t i h)[k]? =h[k]? :=by
 unfold Lu
 split
 ·split
  ·split
   ·rw [List.getElem?_set_ne hk]
   ·rfl
  ·rw [List.getElem?_set_ne hk]
 ·rfl
theorem Il (f:Nat→Option (Nat×Nat)) (o3:List Nat) (rs:List zf):∀ (t:Nat) (is:List Nat) (h:List zf),(YC f o3 rs t is h).length=h.length
 | _,[],_=>rfl
 | t,i::is,h=>by rw [YC,Il f o3 rs (t+1) is,znK]
theorem Rs (f:Nat→Option (Nat×Nat)) (o3:List Nat) (rs:List zf):∀ (t:Nat) (is:List Nat) (h:List zf) (k:Nat),k ∉ is→(YC f o3 rs t is h)[k]? =h[k]?
 | _,[],_,_,_=>rfl
 | t,i::is,h,k,hk=>by
  rw [YC,Rs f o3 rs (t+1) is _ k (fun h=>hk (by simp [h])),zfI f o3 rs t i h (fun e=>hk (by simp [e]))]
theorem FL (f:Nat→Option (Nat×Nat)) (o3:List Nat) (rs:List zf):∀ (t:Nat) (is:List Nat) (h:List zf) (j i:Nat) (x:zf),is.Nodup→is[j]? =some i→h[i]? =some x→
  (o3.contains (t+j)=true→∀ r,rs[t+j]? =some r→(YC f o3 rs t is h)[i]? =some { r.mapid f with gen:=x.gen+r.gen })∧(o3.contains (t+j)=false→(YC f o3 rs t is h)[i]? =some ⟨x.k,x.gen+1,true,[]⟩)
 | _,[],_,_,_,_,_,hj,_=>by simp at hj
 | t,i0::is,h,j,i,x,hn,hj,hx=>by
  rw [List.nodup_cons] at hn
  have hl:=(List.getElem?_eq_some_iff.1 hx).1
  cases j with
  | zero=>
   simp at hj
   subst hj
   refine ⟨fun hc r hr=> ?_,fun hc=> ?_⟩
   ·rw [YC,Rs f o3 rs (t+1) is _ i0 hn.1]
    unfold Lu
    rw [hx]
    simp only
    rw [if_pos (by simpa using hc),show rs[t]? =some r from hr]
    exact List.getElem?_set_self hl
   ·rw [YC,Rs f o3 rs (t+1) is _ i0 hn.1]
    unfold Lu
    rw [hx]
    simp only
    rw [if_neg (by rw [show t=t+0 from rfl,hc];simp)]
    exact List.getElem?_set_self hl
  | succ j=>
   have hj':is[j]? =some i:=by simpa using hj
   have hne:i0≠i:=fun e=>hn.1 (e ▸ List.mem_of_getElem? hj')
   have:=FL f o3 rs (t+1) is (Lu f o3 rs t i0 h) j i x hn.2 hj' (by rw [zfI f o3 rs t i0 h hne];exact hx)
   rw [YC]
   rw [show t+(j+1)=t+1+j from by omega]
   exact this
theorem zcQ {o3:List Nat} {rs:List zf}:∀ {t:Nat} {is:List Nat},zkj h o3 rs t is=true→∀ (j i:Nat),is[j]? =some i→o3.contains (t+j)=true→∃ r x,rs[t+j]? =some r∧r.cleanB=true∧h[i]? =some x∧r.k=x.k
 | _,[],_,j,i,hj,_=>by simp at hj
 | t,i0::is,hb,j,i,hj,hc=>by
  simp only [zkj,Bool.and_eq_true] at hb
  cases j with
  | zero=>
   simp at hj
   subst hj
   have h1:=hb.1
   rw [show t=t+0 from rfl,hc] at h1
   simp only [Bool.not_true,Bool.false_or] at h1
   cases e:rs[t+0]? with
   | none=>rw [e] at h1;simp at h1
   | some r=>
    rw [e] at h1
    simp only [Option.elim_some,Bool.and_eq_true] at h1
    cases e2:h[i0]? with
    | none=>rw [e2] at h1;simp at h1
    | some x=>rw [e2] at h1;simp at h1;exact ⟨r,x,rfl,h1.1,rfl,h1.2⟩
  | succ j=>
   rw [show t+(j+1)=t+1+j from by omega] at hc ⊢
   exact zcQ hb.2 j i (by simpa using hj) hc
theorem zl8 {r:zf} (hc:r.cleanB=true) (hf:r.flat=false) {g:List AV} (hg:g ∈ r.es):AV.cleanL g=true:=by
 simp only [zf.cleanB,hf,Bool.false_or,List.all_eq_true] at hc
 exact hc g hg
theorem zEK {f:Nat} {args:List AV} {xs:List Value} (K:WW P G raw) (H:Heap ρ w S O h) (hG:∀ g cs,G g=some cs→zB ρ w S O (.dptr cs) (.pointer (some ⟨g,0,none⟩))) (hv:WO (zB ρ w S O) args xs) (hr:zFs raw f args h=some (v,h')):
  (∃ fn,P.funcs[f]? =some fn∧fn.name≠ "runtime.NumGoroutine" ∧fn.body.isSome=true)∧Calls P f xs.toArray w fun e w'=>∃ x,e=.returned x∧Fw ρ w S O h v h' x w':=by
 obtain ⟨⟨args',sub,order⟩,hin,hr⟩:=za.1 hr
 obtain ⟨⟨v1,sub'⟩,hraw,hback⟩:=za.1 hr
 unfold zoJ at hin
 simp only at hin
 generalize uD h 0 64 (AV.idsL args) []=ord at hin
 split at hin
 case isFalse=>cases hin
 rename_i hc
 simp only [Option.some.injEq,Prod.mk.injEq] at hin
 obtain ⟨rfl,rfl,rfl⟩:=hin
 obtain ⟨hnd,hlt⟩:=DZ hc
 have hlt:∀ i ∈ ord,i<h.length:=fun i hi=>(hlt i hi).2
 obtain ⟨rl,rg⟩:=FJ (h:=h) (fun r=>{ r.ren h 0 0 ord with gen:=0 }) (l:=ord) hlt
 obtain ⟨k1,k2⟩:=K f _ _ v1 sub' hraw
 refine ⟨k1, ?_⟩
 generalize hOs:(fun b=>∃ (j i g:Nat) (p:Pl),ord[j]? =some i∧ρ i=some (g,some p)∧b=p.b)=Os
 generalize hSs:(fun b=>S b∨(O b∧¬ Os b))=Ss
 generalize hρs:(fun (j:Nat)=>((ord[j]?).bind ρ).map fun y=>((0:Nat),y.2))=ρs
 have o1:∀ b,Os b→O b:=fun b hb=>by
  rw [← hOs] at hb
  obtain ⟨j,i,g,p,h1,h2,rfl⟩:=hb
  obtain ⟨r,_,_,hR⟩:=H.row i g _ h2
  exact (show zm ρ w S O r p from hR).own
 have s1:∀ b,Ss b∨Os b→S b∨O b:=fun b hb=>by
  rw [← hSs] at hb
  rcases hb with (hb | hb) | hb
  ·exact .inl hb
  ·exact .inr hb.1
  ·exact .inr (o1 b hb)
 have ρ1:∀ (j i g:Nat) pl,ord[j]? =some i→ρ i=some (g,pl)→ρs j=some (0,pl):=fun j i g pl hj hi=>by rw [← hρs];simp [hj,hi]
 have M:zhi ρ ρs 0 0 ord:=⟨fun id hid=>by omega,fun j id g pl hj hid=>by rw [Nat.zero_add];exact ρ1 j id g pl hj hid⟩
 have Hs:Heap ρs w Ss Os (Fs h 0 0 ord):=by
  refine ⟨fun j g pl hj=> ?_,fun j j' g g' p p' h1 h2 hb=> ?_,fun b hb=>H.bd b (s1 b hb),fun b hb hs=> ?_⟩
  ·rw [← hρs] at hj
   obtain ⟨y,hy,e⟩:=ze.1 hj
   obtain ⟨i,hi,hy⟩:=za.1 hy
   obtain ⟨g0,pl0⟩:=y
   simp only [Prod.mk.injEq] at e
   obtain ⟨rfl,rfl⟩:=e
   obtain ⟨r,hr,hg,hR⟩:=H.row i g0 _ hy
   refine ⟨_,rg j i r hi hr,rfl, ?_⟩
   have:=zmv (ρ2:=ρs) (S2:=Ss) (O2:=Os) (AV.renL h 0 0 ord) (fun g=>by rw [RA,List.length_map]) (fun g j c hc=>by
    obtain ⟨c0,q1,rfl⟩:=zrw 0 0 ord g j c hc
    exact ⟨c0,q1,fun x _ _ hx=>Iw s1 o1 (Lt H M hx)⟩) hR s1 (fun p hp=>by subst hp;rw [← hOs];exact ⟨j,i,g0,p,hi,hy,rfl⟩) 0
   have e2:({ r.ren h 0 0 ord with gen:=0 }:zf)=if r.flat=true then { r with gen:=0 } else ⟨r.k,0,false,r.es.map (AV.renL h 0 0 ord)⟩:=by
    unfold zf.ren
    cases hf:r.flat<;>simp [hf]
   rw [e2];exact this
  ·rw [← hρs] at h1 h2
   obtain ⟨y,hy,e⟩:=ze.1 h1
   obtain ⟨i,hi,hy⟩:=za.1 hy
   obtain ⟨g0,pl0⟩:=y
   simp only [Prod.mk.injEq] at e
   obtain ⟨rfl,rfl⟩:=e
   obtain ⟨y',hy',e'⟩:=ze.1 h2
   obtain ⟨i',hi',hy'⟩:=za.1 hy'
   obtain ⟨g1,pl1⟩:=y'
   simp only [Prod.mk.injEq] at e'
   obtain ⟨rfl,rfl⟩:=e'
   have:=H.inj i i' g0 g1 p p' hy hy' hb
   subst this
   exact (List.getElem?_inj (List.getElem?_eq_some_iff.1 hi).1 hnd).1 (hi.trans hi'.symm)
  ·rw [← hSs] at hs
   rcases hs with hs | hs
   ·exact H.dis b (o1 b hb) hs
   ·exact hs.2 hb
 have hvs:WO (zB ρs w Ss Os) (AV.renL h 0 0 ord args) xs:=by
  refine ⟨by rw [RA,List.length_map];exact hv.1,fun i c x hc hx=> ?_⟩
  obtain ⟨c0,q1,rfl⟩:=zrw 0 0 ord args i c hc
  exact Iw s1 o1 (Lt H M (hv.2 i c0 x q1 hx))
 have hGs:∀ g cs,G g=some cs→zB ρs w Ss Os (.dptr cs) (.pointer (some ⟨g,0,none⟩)):=fun g cs hg=>by
  have:=Iw s1 o1 (Lt H M (hG g cs hg))
  simpa [AV.ren] using this
 refine Calls.mono (k2 ρs w Ss Os xs Hs hGs hvs) fun e w' ⟨x,e1,ρ',O',A,E,H',hx,hno⟩=>⟨x,e1, ?_⟩
 have hlen:(Fs h 0 0 ord).length=ord.length:=rl
 unfold zv4 at hback
 simp only at hback
 generalize uD sub' 0 64 (v1.ids++AV.idsL (AV.renL h 0 0 ord args)) []=o3 at hback
 unfold zpR at hback
 simp only at hback
 generalize ho2:(o3.filter fun i=>decide (ord.length≤i))=ord2 at hback
 split at hback
 case isFalse=>cases hback
 rename_i hc
 simp only [Option.some.injEq,Prod.mk.injEq] at hback
 obtain ⟨rfl,rfl⟩:=hback
 simp only [Bool.and_eq_true] at hc
 obtain ⟨⟨⟨hok2,hcv⟩,hbk⟩,hnw⟩:=hc
 obtain ⟨hnd3,hin3⟩:=DZ hok2
 have hnd2:ord2.Nodup:=by rw [← ho2];exact hnd3.filter _
 have hin2:∀ i ∈ ord2,ord.length≤i∧i<sub'.length:=fun i hi=>by
  rw [← ho2,List.mem_filter,decide_eq_true_eq] at hi
  exact ⟨hi.2,(hin3 i hi.1).2⟩
 have hba:=fun j i hj hc=>zcQ hbk j i hj (by rw [Nat.zero_add];exact hc)
 simp only [Nat.zero_add] at hba
 have hnw:∀ i ∈ ord2,∀ r,sub'[i]? =some r→r.cleanB=true:=fun i hi r hr=>by
  simp only [zDt,List.all_eq_true] at hnw
  have:=hnw i hi
  rw [hr] at this
  simpa using this
 generalize hψ:FO h ord o3 ord2=ψ
 have ψ1:∀ j i,ord[j]? =some i→o3.contains j=true→∃ r,h[i]? =some r∧ψ j=some (i,r.gen):=fun j i hj hc=>by
  have hi:=hlt i (List.mem_of_getElem? hj)
  refine ⟨h[i],List.getElem?_eq_getElem hi, ?_⟩
  rw [← hψ,FO,if_pos (List.getElem?_eq_some_iff.1 hj).1,if_pos hc,hj]
  simp [hi]
 have ψ2:∀ id i,ψ id=some i→(∃ r,ord[id]? =some i.1∧h[i.1]? =some r∧i.2=r.gen∧o3.contains id=true)∨∃ j,ord2[j]? =some id∧i=(h.length+j,0)∧ord.length≤id:=fun id i hi=>by
  rw [← hψ,FO] at hi
  split at hi
  ·split at hi
   ·rename_i hc
    obtain ⟨k,hk,hi⟩:=za.1 hi
    obtain ⟨r,hr,rfl⟩:=ze.1 hi
    exact .inl ⟨r,hk,hr,rfl,hc⟩
   ·cases hi
  ·rename_i hl
   obtain ⟨j,hj,rfl⟩:=ze.1 hi
   exact .inr ⟨j,NP hj,rfl,by omega⟩
 have hasI:∀ id,id ∈ ord→∃ j,ord[j]? =some id:=fun id hid=>List.mem_iff_getElem?.1 hid
 have hidx:∀ j j' i,ord[j]? =some i→ord[j']? =some i→j=j':=fun j j' i h1 h2=>(List.getElem?_inj (List.getElem?_eq_some_iff.1 h1).1 hnd).1 (h1.trans h2.symm)
 generalize hρn:(fun (id:Nat)=>if id<h.length then (match ord.idxOf? id with | some j=>if o3.contains j=true then (ρ' j).map fun y=>(((h[id]?).elim 0 zf.gen)+y.1,y.2) else (ρ id).map fun y=>(y.1+1,none) | none=>ρ id) else (ord2[id - h.length]?).bind ρ')=ρn
 have n0:∀ j i,ord[j]? =some i→ord.idxOf? i=some j:=fun j i hj=>by
  cases e:ord.idxOf? i with
  | none=>
   rw [List.idxOf?_eq_none_iff] at e
   exact absurd (List.mem_of_getElem? hj) e
  | some j'=>rw [hidx j j' i hj (NP e)]
 have n1:∀ j i r,ord[j]? =some i→h[i]? =some r→o3.contains j=true→ρn i=(ρ' j).map fun y=>(r.gen+y.1,y.2):=fun j i r hj hr hc=>by
  rw [← hρn]
  simp only [hlt i (List.mem_of_getElem? hj),if_true]
  rw [n0 j i hj]
  simp only [hr,Option.elim_some]
  exact if_pos hc
 have n1':∀ j i,ord[j]? =some i→o3.contains j=false→ρn i=(ρ i).map fun y=>(y.1+1,none):=fun j i hj hc=>by
  rw [← hρn]
  simp only [hlt i (List.mem_of_getElem? hj),if_true]
  rw [n0 j i hj]
  exact if_neg (by rw [hc];simp)
 have n2:∀ i,i<h.length→i ∉ ord→ρn i=ρ i:=fun i hi hn=>by
  rw [← hρn]
  simp only [hi,if_true]
  rw [List.idxOf?_eq_none_iff.2 hn]
 have n3:∀ i,h.length≤i→ρn i=(ord2[i - h.length]?).bind ρ':=fun i hi=>by
  rw [← hρn]
  simp [Nat.not_lt.2 hi]
 have Mn:∀ (id g:Nat) (i:Nat×Nat) pl,ρ' id=some (g,pl)→ψ id=some i→ρn i.1=some (i.2+g,pl):=fun id g i pl h1 h2=>by
  rcases ψ2 id i h2 with ⟨r,hj,hr,e,hc⟩ | ⟨j,hj,rfl,_⟩
  ·rw [n1 id i.1 r hj hr hc,h1,e];rfl
  ·rw [n3 _ (by simp)];simp [hj,h1]
 generalize hOn:(fun b=>(O b∧¬ Os b)∨O' b)=On
 have sX:∀ b,S b∨On b→Ss b∨O' b:=fun b hb=>by
  rw [← hOn] at hb
  rw [← hSs]
  rcases hb with hb | hb | hb
  ·exact .inl (.inl hb)
  ·exact .inl (.inr hb)
  ·exact .inr hb
 have An:UF w O w' On:=by
  refine ⟨A.os,A.tape,A.output,A.size,fun b hb hO=>A.same b hb (fun h=>hO (o1 b h)),fun b hb=> ?_⟩
  rw [← hOn] at hb
  rcases hb with hb | hb
  ·exact .inl hb.1
  ·exact (A.new b hb).imp (o1 b) (fun h=>h)
 have En:Ext ρ ρn:=fun id g pl hid=>by
  have hl:=H.lt hid
  by_cases hm:id ∈ ord
  ·obtain ⟨j,hj⟩:=hasI id hm
   obtain ⟨r,hr,hg,_⟩:=H.row id g pl hid
   cases hc:o3.contains j with
   | true=>
    obtain ⟨g',pl',q1,q2,q3⟩:=E j 0 pl (ρ1 j id g pl hj hid)
    exact ⟨g+g',pl',by rw [n1 j id r hj hr hc,q1,← hg];rfl,by omega,fun e=>q3 (by omega)⟩
   | false=>exact ⟨g+1,none,by rw [n1' j id hj hc,hid];rfl,by omega,fun e=>by omega⟩
  ·exact ⟨g,pl,by rw [n2 id hl hm];exact hid,Nat.le_refl _,fun _=>rfl⟩
 have rowc:∀ (i g:Nat) pl (r:zf) (n:Nat),ρ' i=some (g,pl)→sub'[i]? =some r→r.cleanB=true→zbQ ρn w' S On { r.mapid ψ with gen:=n } pl:=fun i g pl r n hi hr hc=>by
  obtain ⟨r',hr',hg,hR⟩:=H'.row i g pl hi
  obtain rfl:=Option.some.inj (hr.symm.trans hr')
  have:=zmv (ρ2:=ρn) (S2:=S) (O2:=On) (AV.mapidL ψ) (fun g=>by rw [PM,List.length_map]) (fun g j c hc'=>by
   obtain ⟨c0,q1,rfl⟩:=zt2 ψ g j c hc'
   exact ⟨c0,q1,fun x hgm hf hx=>zcR sX (zi3 Mn hx) (FX (zai (zl8 hc hf hgm) c0 (List.mem_of_getElem? q1)))⟩) hR sX (fun p hp=>by
    subst hp
    rw [← hOn]
    exact .inr (show zm ρ' w' Ss O' r p from hR).own) n
  have e2:({ r.mapid ψ with gen:=n }:zf)=if r.flat=true then { r with gen:=n } else ⟨r.k,n,false,r.es.map (AV.mapidL ψ)⟩:=by
   unfold zf.mapid
   obtain ⟨rk,rg0,rf,re⟩:=r
   cases rf<;>rfl
  rw [e2];exact this
 have genm:∀ (r:zf),(r.mapid ψ).gen=r.gen:=fun r=>by unfold zf.mapid;split<;>rfl
 have blen:(YC ψ o3 sub' 0 ord h).length=h.length:=Il ψ o3 sub' 0 ord h
 obtain ⟨nl,ng⟩:=FJ (h:=sub') (zf.mapid ψ) (l:=ord2) (fun i hi=>(hin2 i hi).2)
 refine ⟨ρn,On,An,En,⟨fun id g pl hid=> ?_,fun i i' g g' p p' h1 h2 hb=> ?_,fun b hb=> ?_,fun b hb hs=> ?_⟩,zcR sX (zi3 Mn hx) (FX hcv),fun id hid hn=> ?_⟩
 ·
  by_cases hl:id<h.length
  ·by_cases hm:id ∈ ord
   ·obtain ⟨j,hj⟩:=hasI id hm
    obtain ⟨x0,hx0⟩:∃ x0,h[id]? =some x0:=⟨_,List.getElem?_eq_getElem hl⟩
    have bat:=FL ψ o3 sub' 0 ord h j id x0 hnd hj hx0
    simp only [Nat.zero_add] at bat
    cases hc:o3.contains j with
    | true=>
     rw [n1 j id x0 hj hx0 hc] at hid
     obtain ⟨⟨g1,pl1⟩,hid1,e⟩:=ze.1 hid
     simp only [Prod.mk.injEq] at e
     obtain ⟨rfl,rfl⟩:=e
     obtain ⟨r,hr,hg,hR⟩:=H'.row j g1 pl1 hid1
     obtain ⟨r1,x1,q1,q2,q3,q4⟩:=hba j id hj hc
     obtain rfl:=Option.some.inj (hr.symm.trans q1)
     refine ⟨_, ?_, ?_,rowc j g1 pl1 r (x0.gen+r.gen) hid1 hr q2⟩
     ·rw [List.getElem?_append_left (by omega)]
      exact bat.1 hc r hr
     ·show x0.gen+r.gen=x0.gen+g1
      rw [hg]
    | false=>
     rw [n1' j id hj hc] at hid
     obtain ⟨y,hy,e⟩:=ze.1 hid
     obtain ⟨g0,pl0⟩:=y
     simp only [Prod.mk.injEq] at e
     obtain ⟨rfl,rfl⟩:=e
     obtain ⟨r,hr,hg,hR⟩:=H.row id g0 _ hy
     obtain rfl:=Option.some.inj (hr.symm.trans hx0)
     refine ⟨⟨r.k,r.gen+1,true,[]⟩, ?_, ?_,show ([]:List (List AV))=[] from rfl⟩
     ·rw [List.getElem?_append_left (by omega)]
      exact bat.2 hc
     ·show r.gen+1=g0+1
      rw [hg]
   ·rw [n2 id hl hm] at hid
    obtain ⟨r,hr,hg,hR⟩:=H.row id g pl hid
    refine ⟨r,by rw [List.getElem?_append_left (by omega),Rs ψ o3 sub' 0 ord h id hm];exact hr,hg, ?_⟩
    cases pl with
    | none=>exact hR
    | some p=>
     have R:zm ρ w S O r p:=hR
     have nOs:¬ Os p.b:=fun hb=>by
      rw [← hOs] at hb
      obtain ⟨j,i,g1,p1,q1,q2,q3⟩:=hb
      have:=H.inj id i g g1 p p1 hid q2 q3
      exact hm (this ▸ List.mem_of_getElem? q1)
     exact R.advX En An (by rw [← hOn];exact .inl ⟨R.own,nOs⟩) (A.same _ R.lt nOs)
  ·rw [n3 id (by omega)] at hid
   obtain ⟨i0,hi0,hid⟩:=za.1 hid
   obtain ⟨r,hr,hg,hR⟩:=H'.row i0 g pl hid
   have e3:r.mapid ψ={ r.mapid ψ with gen:=r.gen }:=by rw [← genm r]
   refine ⟨{ r.mapid ψ with gen:=r.gen }, ?_,hg,rowc i0 g pl r r.gen hid hr (hnw i0 (List.mem_of_getElem? hi0) r hr)⟩
   rw [List.getElem?_append_right (by omega),blen,← e3]
   exact ng _ i0 r hi0 hr
 ·
  have src:∀ i g p,ρn i=some (g,some p)→(i<h.length∧i ∉ ord∧ρ i=some (g,some p))∨∃ k g' x,ρ' k=some (g',some p)∧ψ k=some (i,x):=fun i g p hi=>by
   by_cases hl:i<h.length
   ·by_cases hm:i ∈ ord
    ·obtain ⟨j,hj⟩:=hasI i hm
     cases hc:o3.contains j with
     | true=>
      obtain ⟨r,hr,hψj⟩:=ψ1 j i hj hc
      rw [n1 j i r hj hr hc] at hi
      obtain ⟨⟨g1,pl1⟩,hi,e⟩:=ze.1 hi
      simp only [Prod.mk.injEq] at e
      obtain ⟨rfl,rfl⟩:=e
      exact .inr ⟨j,g1,_,hi,hψj⟩
     | false=>
      rw [n1' j i hj hc] at hi
      obtain ⟨y,_,e⟩:=ze.1 hi
      cases e
    ·rw [n2 i hl hm] at hi
     exact .inl ⟨hl,hm,hi⟩
   ·rw [n3 i (by omega)] at hi
    obtain ⟨i0,hi0,hi⟩:=za.1 hi
    refine .inr ⟨i0,g,0,hi, ?_⟩
    have h0:=(hin2 i0 (List.mem_of_getElem? hi0)).1
    rw [← hψ,FO,if_neg (by omega)]
    have:ord2.idxOf? i0=some (i - h.length):=by
     cases e:ord2.idxOf? i0 with
     | none=>
      rw [List.idxOf?_eq_none_iff] at e
      exact absurd (List.mem_of_getElem? hi0) e
     | some j'=>
      have:=(List.getElem?_inj (List.getElem?_eq_some_iff.1 hi0).1 hnd2).1 (hi0.trans (NP e).symm)
      rw [this]
    rw [this]
    show some (h.length+(i - h.length),0)=some (i,0)
    congr 2
    omega
  have away:∀ i g p k g' p',(i<h.length∧i ∉ ord∧ρ i=some (g,some p))→ρ' k=some (g',some p')→p.b≠p'.b:=fun i g p k g' p' ⟨_,hm,hi⟩ hk e=>by
   obtain ⟨r,_,_,hR⟩:=H.row i g _ hi
   have R:zm ρ w S O r p:=hR
   obtain ⟨r',_,_,hR'⟩:=H'.row k g' _ hk
   have hO':=(show zm ρ' w' Ss O' r' p' from hR').own
   rw [← e] at hO'
   rcases A.new _ hO' with hb | hb
   ·rw [← hOs] at hb
    obtain ⟨j,i1,g1,p1,q1,q2,q3⟩:=hb
    have:=H.inj i i1 g g1 p p1 hi q2 q3
    exact hm (this ▸ List.mem_of_getElem? q1)
   ·have:=R.lt;omega
  rcases src i g p h1 with a1 | ⟨k,g1,x1,a1,a2⟩
  ·rcases src i' g' p' h2 with b1 | ⟨k',g2,x2,b1,b2⟩
   ·exact H.inj i i' g g' p p' a1.2.2 b1.2.2 hb
   ·exact absurd hb (away i g p k' g2 p' a1 b1)
  ·rcases src i' g' p' h2 with b1 | ⟨k',g2,x2,b1,b2⟩
   ·exact absurd hb.symm (away i' g' p' k g1 p b1 a1)
   ·have:=H'.inj k k' g1 g2 p p' a1 b1 hb
    subst this
    rw [a2] at b2
    exact (Prod.mk.inj (Option.some.inj b2)).1
 ·rcases hb with hb | hb
  ·exact Nat.lt_of_lt_of_le (H.bd b (.inl hb)) A.size
  ·rw [← hOn] at hb
   rcases hb with hb | hb
   ·exact Nat.lt_of_lt_of_le (H.bd b (.inr hb.1)) A.size
   ·exact H'.bd b (.inr hb)
 ·rw [← hOn] at hb
  rcases hb with hb | hb
  ·exact H.dis b hb.1 hs
  ·exact H'.dis b hb (by rw [← hSs];exact .inl hs)
 ·by_cases hm:id ∈ ord
  ·obtain ⟨j,hj⟩:=hasI id hm
   cases hc:o3.contains j with
   | true=>
    rw [n1 j id _ hj (List.getElem?_eq_getElem hid) hc,hno j (by rw [hlen];exact (List.getElem?_eq_some_iff.1 hj).1) (by rw [← hρs];simp [hj,hn])]
    rfl
   | false=>rw [n1' j id hj hc,hn];rfl
  ·rw [n2 id hid hm];exact hn
theorem zBs {f:Nat} {args:List AV} {xs:List Value} (K:WW P G raw) (H:Heap ρ w S O h) (hG:∀ g cs,G g=some cs→zB ρ w S O (.dptr cs) (.pointer (some ⟨g,0,none⟩))) (hv:WO (zB ρ w S O) args xs) (hr:zzb raw f args h=some (v,h')):
  (∃ fn,P.funcs[f]? =some fn∧fn.name≠ "runtime.NumGoroutine" ∧fn.body.isSome=true)∧Calls P f xs.toArray w fun e w'=>∃ x,e=.returned x∧Fw ρ w S O h v h' x w':=by
 obtain ⟨⟨us,ids⟩,hd,hr⟩:=za.1 hr
 obtain ⟨r,hraw,hr⟩:=za.1 hr
 split at hr
 case isFalse=>cases hr
 rename_i hsc
 cases hr
 obtain ⟨k1,k2⟩:=K f us [] r.1 r.2 hraw
 refine ⟨k1, ?_⟩
 obtain ⟨ul,ug⟩:=zci hd
 generalize hX:(fun b=>(S b∨O b)∧¬ ∃ id ∈ ids,∃ (g:Nat) (p:Pl),ρ id=some (g,some p)∧b=p.b)=X
 have hXs:∀ b,X b→S b∨O b:=fun b hb=>by rw [← hX] at hb;exact hb.1
 have hXn:∀ b,X b∨(fun _:Nat=>False) b→X b:=fun b hb=>hb.elim (fun h=>h) False.elim
 have hargs:WO (zB (fun _=>none) w X (fun _=>False)) us xs:=by
  refine ⟨ul.trans hv.1,fun i u x hu hx=> ?_⟩
  obtain ⟨c,is,q1,q2,q3⟩:=ug i u hu
  exact .s ((zyP (X:=X) H hXs 8 c u is x q2 (fun id hid g p hp hb=>by
   rw [← hX] at hb
   exact hb.2 ⟨id,q3 id hid,g,p,hp,rfl⟩) (hv.2 i c x q1 hx)).mono hXn)
 refine Calls.mono (k2 (fun _=>none) w X (fun _=>False) xs ⟨fun id g pl h=>(nomatch h),fun id id' g g' p p' h=>(nomatch h),fun b hb=>hb.elim (fun h=>H.bd b (hXs b h)) False.elim,fun _ hb=>hb.elim⟩ (fun g cs hg=> ?_) hargs) fun e w' ⟨x,e1,ρ',O',A,_,_,hx,_⟩=>⟨x,e1,ρ,O, ?_,.refl ρ, ?_, ?_,fun _ _ h=>h⟩
 ·obtain ⟨b,off,val,e,q1,q2,q3,q4⟩:=WB (hG g cs hg)
  rw [e]
  exact .dptr cs b off val (fun h=>h) q2 q3 fun j c hj=>(q4 j c hj).imp (fun b hb=>hXs b (hXn b hb)) fun b hb=>False.elim hb
 ·exact ⟨A.os,A.tape,A.output,A.size,fun b hb _=>A.same b hb (fun h=>h),fun _ h=>.inl h⟩
 ·have A2:uB w O w' O:=⟨A.os,A.tape,A.output,A.size,fun b hb _=>A.same b hb (fun h=>h),fun _ h=>h,fun _ h=>.inl h⟩
  exact H.step (.refl ρ) A2 (fun b hb=>Nat.lt_of_lt_of_le (H.bd b (.inr hb)) A.size) (fun id g pl hid=>.inl ⟨hid,rfl,fun p hp=>by
   subst hp
   obtain ⟨r',_,_,hR⟩:=H.row id g _ hid
   exact A.same _ (zm.lt (show zm ρ w S O r' p from hR)) (fun h=>h)⟩) H.inj
 ·obtain ⟨v,hh⟩:=r
  have hs:v.stable=true∧∀ k es f,v≠.data false k es f:=by
   cases v<;>simp [AV.scalar] at hsc<;>simp [AV.stable]
  simp only at hx hsc ⊢
  cases v with
  | int k n=>cases hx with | s h=>cases h;exact .s (.int k n)
  | bool b=>cases hx with | s h=>cases h;exact .s (.bool b)
  | str s=>cases hx with | s h=>cases h;exact .s (.str s)
  | _=>simp [AV.scalar] at hsc
theorem zEC {f:Nat} {args:List AV} (hr:zFs raw f args h=some (v,h')):∀ (id:Nat) x,h[id]? =some x→∃ y,h'[id]? =some y∧y.k=x.k:=by
 obtain ⟨⟨args',sub,order⟩,hin,hr⟩:=za.1 hr
 obtain ⟨⟨v1,sub'⟩,hraw,hback⟩:=za.1 hr
 unfold zoJ at hin
 simp only at hin
 generalize uD h 0 64 (AV.idsL args) []=ord at hin
 split at hin
 case isFalse=>cases hin
 rename_i hc
 simp only [Option.some.injEq,Prod.mk.injEq] at hin
 obtain ⟨rfl,rfl,rfl⟩:=hin
 obtain ⟨hnd,hlt⟩:=DZ hc
 unfold zv4 zpR at hback
 simp only at hback
 generalize uD sub' 0 64 (v1.ids++AV.idsL (AV.renL h 0 0 ord args)) []=o3 at hback
 split at hback
 case isFalse=>cases hback
 rename_i hc2
 simp only [Option.some.injEq,Prod.mk.injEq] at hback
 obtain ⟨rfl,rfl⟩:=hback
 simp only [Bool.and_eq_true] at hc2
 have hba:=fun j i hj hc=>zcQ hc2.1.2 j i hj (by rw [Nat.zero_add];exact hc)
 simp only [Nat.zero_add] at hba
 intro id x hx
 have hl:=(List.getElem?_eq_some_iff.1 hx).1
 rw [List.getElem?_append_left (by rw [Il];exact hl)]
 by_cases hm:id ∈ ord
 ·obtain ⟨j,hj⟩:=List.mem_iff_getElem?.1 hm
  have bat:=FL (FO h ord o3 (o3.filter fun i=>decide (ord.length≤i))) o3 sub' 0 ord h j id x hnd hj hx
  simp only [Nat.zero_add] at bat
  cases hc:o3.contains j with
  | true=>
   obtain ⟨r,x',q1,q2,q3,q4⟩:=hba j id hj hc
   refine ⟨_,bat.1 hc r q1, ?_⟩
   obtain rfl:=Option.some.inj (hx.symm.trans q3)
   rw [← q4]
   show (r.mapid _).k=r.k
   unfold zf.mapid;split<;>rfl
  | false=>exact ⟨_,bat.2 hc,rfl⟩
 ·exact ⟨x,by rw [Rs _ o3 sub' 0 ord h id hm];exact hx,rfl⟩
theorem zCm {f:Nat} {args:List AV} (hr:zzb raw f args h=some (v,h')):∀ (id:Nat) x,h[id]? =some x→∃ y,h'[id]? =some y∧y.k=x.k:=by
 obtain ⟨_,_,hr⟩:=za.1 hr
 obtain ⟨r,_,hr⟩:=za.1 hr
 split at hr
 case isFalse=>cases hr
 cases hr
 exact fun id x hx=>⟨x,hx,rfl⟩
end
end Go.Proofs.YthcnhibjddomdaaGreat
namespace Go.Proofs.YthcnhibjddomdaaGreat
open Go Go.RowKit
variable [FrB]
section
variable {P:Program} {G:Nat→Option (List AV)} {raw:uE} {ρ:Rho} {w:World} {S O:Nat→Prop} {env:yF} {h:List zf} {a:Act} {o:Oper} {v:AV} {h':List zf} {op:AOp}
theorem zcW (hc:op.cls=.free) (hop:zI P o.op op=true) (R:Rel G ρ w S O env a) (HK:zoH ρ h) (he:zx G raw env h op=some (v,h')):vE ρ w S O h ((execOp a.eval o).run P w) v h':=by
 cases op with
 | mov x=>exact zFe hop R he
 | pick=>exact zCY hop R he
 | build=>exact zwI hop R he
 | nilchk=>exact zt0 hop R he
 | bin=>exact zFQ hop R he
 | eq=>exact ok_eq hop R he
 | isnil=>exact zwu hop R he
 | not=>exact zFE hop R he
 | neg=>exact zFf hop R he
 | conv=>exact zCH hop R he
 | rstr=>exact zBG hop R he
 | cvs=>exact zET hop R he
 | mkfn=>exact zCf hop R he
 | sl=>exact zHp hop R HK he
 | slstr=>exact zAA hop R he
 | faddr=>exact zzO hop R he
 | field=>exact zxJ hop R he
 | idxarr=>exact zuO hop R he
 | idxd=>exact zB3 hop R he
 | loadd=>exact zv9 hop R he
 | idxv=>exact zBA hop R he
 | idxs=>exact zBz hop R he
 | extract=>exact zpm hop R he
 | len=>exact zFC hop R he
 | lenarr=>exact ztT hop R he
 | max=>exact zE5 hop R he
 | min=>exact zEM hop R he
 | call md f args=>cases md<;>cases hc
 | _=>cases hc
theorem OpN.yield {run:Result Next} (k:OpN ρ w S O h run v h'):Da P run (zk1 ρ w S O h v h'):=by
 obtain ⟨x,w',ρ',O',h1,h2⟩:=k
 exact .inl ⟨x,w',.inl h1,ρ',O',h2⟩
theorem LM.yield {run:Result Next} (k:LM ρ w S O h run v h'):Da P run (Fw ρ w S O h v h'):=by
 obtain ⟨x,w',ρ',O',h1,h2⟩:=k
 exact .inl ⟨x,w',h1,ρ',O',h2⟩
theorem DT {f:Nat} {args:Array Operand} {ts:Array TypeId} {fn:Func} (ho:o.op=.call ⟨.value (.func f),args,ts⟩) (hf:P.funcs[f]? =some fn) (hn:fn.name≠ "runtime.NumGoroutine") (hb:fn.body.isSome=true):
  (execOp a.eval o).run P w=.ok (.enter f (args.toList.map a.eval).toArray) w:=by
 have e:(args.toList.map a.eval).toArray=args.map a.eval:=by apply Array.ext';simp
 rw [e]
 simp [execOp,ho,resolve,Deferred.ofValue,Act.eval,invoke,zb8 hf hn hb]
theorem zjE {f:Nat} {asx:List AV} {xs:List Value} {vs:List AV} {r:AV×List zf} (K:WW P G raw) (H:Heap ρ w S O h) (R:Rel G ρ w S O env a) (hv:WO (zB ρ w S O) vs xs) (hvw:yE h vs=some asx) (hr:raw f asx []=some r):
  (∃ fn,P.funcs[f]? =some fn∧fn.name≠ "runtime.NumGoroutine" ∧fn.body.isSome=true)∧
  Calls P f xs.toArray w fun e w'=>∃ x,e=.returned x∧∃ ρ' O',UF w (fun _=>False) w' O'∧Heap ρ' w' (fun b=>S b∨O b) O' r.2∧zB ρ' w' (fun b=>S b∨O b) O' r.1 x:=by
 obtain ⟨h1,h2⟩:=K f asx [] r.1 r.2 hr
 refine ⟨h1,Calls.mono (h2 (fun _=>none) w (fun b=>S b∨O b) (fun _=>False) xs ⟨fun id g pl h=>(nomatch h),fun id id' g g' p p' h=>(nomatch h),fun b hb=>hb.elim (H.bd b) False.elim,fun _ hb=>hb.elim⟩ (fun g cs hg=> ?_) (zab H vs hv hvw)) fun e w' ⟨x,q1,ρ',O',q2,_,q3,q4,_⟩=>⟨x,q1,ρ',O',q2,q3,q4⟩⟩
 exact zhM H (.dptr cs) (R.glob g cs hg) rfl
theorem UF.of_none {w':World} {O':Nat→Prop} (A:UF w (fun _=>False) w' O') (O:Nat→Prop):uB w O w' O:=
 ⟨A.os,A.tape,A.output,A.size,fun b hb _=>A.same b hb (fun h=>h),fun _ h=>h,fun _ h=>.inl h⟩
theorem FI (K:WW P G raw) (hc:op.cls=.new) (hop:zI P o.op op=true) (R:Rel G ρ w S O env a) (H:Heap ρ w S O h) (he:zx G raw env h op=some (v,h')):Da P ((execOp a.eval o).run P w) (zk1 ρ w S O h v h'):=by
 cases op with
 | mknil=>exact (zya hop R H he).yield
 | alloc=>exact (zy9 hop R H he).yield
 | box=>exact (zFG hop R H he).yield
 | mkslice=>exact (zpf hop R H he).yield
 | mkdata=>exact (zuy hop R H he).yield
 | load=>exact (zBl hop R H he).yield
 | bstr=>exact (zBJ hop R H he).yield
 | strb=>exact (zCE hop R H he).yield
 | mkrow=>exact (zzU hop R H he).yield
 | idx=>exact (zFp hop R H he).yield
 | appendD=>exact (zpr hop R H he).yield
 | call md f args=>
  obtain ⟨vs,hvs,he⟩:=za.1 he
  simp only [zI] at hop
  split at hop
  case h_2=>cases hop
  rename_i f' args' ts heq
  simp only [Bool.and_eq_true,beq_iff_eq] at hop
  obtain ⟨rfl,hargs⟩:=hop
  have hv:=zgH hargs R hvs
  cases md with
  | inl=>cases hc
  | iso=>cases hc
  | pk=>cases hc
  | frz=>
   obtain ⟨asx,has,he⟩:=za.1 he
   obtain ⟨r,hr,he⟩:=za.1 he
   obtain ⟨v1,hv1,e⟩:=ze.1 he
   cases e
   obtain ⟨⟨fn,q1,q2,q3⟩,q4⟩:=zjE K H R hv has hr
   refine .inr ⟨f,_,w,DT heq q1 q2 q3,Calls.mono q4 fun e w' ⟨x,e1,ρ',O',A,H',hx⟩=>⟨x,e1,ρ,O,A.of_none O,fun b hb=>A.same b hb (fun h=>h),fun _ _ h=>h,fun _ _ _ h=>.inl h, ?_, ?_,fun _ _ h=>h,[],by simp⟩⟩
   ·exact H.step (.refl ρ) (A.of_none O) (fun b hb=>Nat.lt_of_lt_of_le (H.bd b (.inr hb)) A.size) (fun id g pl hid=>.inl ⟨hid,rfl,fun p hp=>by
     subst hp
     obtain ⟨r',_,_,hR⟩:=H.row id g _ hid
     exact A.same _ (zm.lt (show zm ρ w S O r' p from hR)) (fun h=>h)⟩) H.inj
   ·exact .s (zfl H' (fun b hb=>.inl hb) (fun b hb hx=>by
     have:=(A.new b hb).elim False.elim (fun h=>h)
     have:=H.bd b hx
     omega) r.1 hx hv1)
  | adp=>
   obtain ⟨asx,has,he⟩:=za.1 he
   obtain ⟨r,hr,he⟩:=za.1 he
   obtain ⟨⟨fn,q1,q2,q3⟩,q4⟩:=zjE K H R hv has hr
   refine .inr ⟨f,_,w,DT heq q1 q2 q3,Calls.mono q4 fun e w' ⟨x,e1,ρ',O',A,H',hx⟩=>⟨x,e1, ?_⟩⟩
   obtain ⟨ρ2,t1,t2,t3,t4,t5,t6,t7⟩:=zwB H A H' hx he
   exact ⟨ρ2,_,t1,fun b hb=>A.same b hb (fun h=>h),t2,t3,t4,t5,t6,t7⟩
 | _=>cases hc
theorem zgC (K:WW P G raw) (hop:zI P o.op op=true) (R:Rel G ρ w S O env a) (H:Heap ρ w S O h) (he:zx G raw env h op=some (v,h')):Da P ((execOp a.eval o).run P w) (Fw ρ w S O h v h'):=by
 cases hc:op.cls with
 | free=>exact ((zcW hc hop R H.kinv he).toN H).yield.mono fun _ _=>zk1.toW
 | new=>exact (FI K hc hop R H he).mono fun _ _=>zk1.toW
 | change=>
  cases op with
  | store=>exact (zzZ hop R H he).yield
  | append=>exact (zuU hop R H he).yield
  | copy=>exact (zBo hop R H he).yield
  | clear=>exact (zyn hop R H he).yield
  | mark=>exact (zB1 hop R H he).yield
  | melt=>exact (zCw hop R H he).yield
  | call md f args=>
   obtain ⟨vs,hvs,he⟩:=za.1 he
   simp only [zI] at hop
   split at hop
   case h_2=>cases hop
   rename_i f' args' ts heq
   simp only [Bool.and_eq_true,beq_iff_eq] at hop
   obtain ⟨rfl,hargs⟩:=hop
   have hv:=zgH hargs R hvs
   cases md with
   | frz=>cases hc
   | adp=>cases hc
   | inl=>
    obtain ⟨⟨fn,q1,q2,q3⟩,q4⟩:=K f vs h v h' he
    exact .inr ⟨f,_,w,DT heq q1 q2 q3,q4 ρ w S O _ H R.glob hv⟩
   | iso=>
    obtain ⟨⟨fn,q1,q2,q3⟩,q4⟩:=zEK K H R.glob hv he
    exact .inr ⟨f,_,w,DT heq q1 q2 q3,q4⟩
   | pk=>
    obtain ⟨⟨fn,q1,q2,q3⟩,q4⟩:=zBs K H R.glob hv he
    exact .inr ⟨f,_,w,DT heq q1 q2 q3,q4⟩
  | callv x args=>
   obtain ⟨vf,hvf,he⟩:=za.1 he
   split at he
   case h_2=>cases he
   rename_i f fs cs
   obtain ⟨vs,hvs,he⟩:=za.1 he
   simp only [zI] at hop
   split at hop
   case h_2=>cases hop
   rename_i x' args' ts heq
   simp only [Bool.and_eq_true] at hop
   have hv:=zgH hop.2 R hvs
   obtain ⟨xs,ys,hz,l1,l2,r1,r2⟩:=zsu (zN hop.1 R hvf)
   obtain ⟨⟨fn,q1,q2,q3⟩,q4⟩:=K f _ h v h' he
   have hrun:(execOp a.eval o).run P w=.ok (.enter f (xs++args'.toList.map a.eval++ys).toArray) w:=by
    have e:(xs++args'.toList.map a.eval++ys).toArray=xs.toArray++args'.map a.eval++ys.toArray:=by apply Array.ext';simp
    rw [e]
    simp [execOp,heq,resolve,Deferred.ofValue,hz,invoke,zb8 q1 q2 q3]
   exact .inr ⟨f,_,w,hrun,q4 ρ w S O _ H R.glob ((WO.append ⟨l1,r1⟩ hv).append ⟨l2,r2⟩)⟩
  | _=>cases hc
end
end Go.Proofs.YthcnhibjddomdaaGreat
namespace Go.Proofs.YthcnhibjddomdaaGreat
open Go
section
variable {P:Program} {ops:Array Oper} {Q:Exit→Act→World→Prop}
def zdI (ops:Array Oper):List Nat:=ops.toList.filterMap (·.dst)
def Fe:Code→List Nat
 | .region _ ops _=>zdI ops
 | .seq a b=>Fe a++Fe b
 | .cond _ a b=>Fe a++Fe b
 | .block _ b=>Fe b
 | .loop b=>Fe b
 | _=>[]
def Kept (L:List Nat) (a a':Act):Prop:=∀ s,s ∉ L→a'.tmps[s]? =a.tmps[s]?
theorem Kept.refl (L:List Nat) (a:Act):Kept L a a:=fun _ _=>rfl
theorem Kept.trans {L:List Nat} {a b c:Act} (h:Kept L a b) (k:Kept L b c):Kept L a c:=fun s hs=>(k s hs).trans (h s hs)
theorem Kept.mono {L M:List Nat} {a b:Act} (h:Kept L a b) (hm:∀ s ∈ L,s ∈ M):Kept M a b:=fun s hs=>h s (fun hl=>hs (hm s hl))
def zjj (L:List Nat) (a0:Act) (Q:Exit→Act→World→Prop):Exit→Act→World→Prop:=Exit.then (fun a' w'=>Kept L a0 a'→Q .normal a' w') Q
theorem zfG {L:List Nat} {a0 a:Act} {d:Option Nat} {v:Value} (h:Kept L a0 a) (hd:∀ s,d=some s→s ∈ L):Kept L a0 (a.put d v):=by
 intro s hs
 cases d with
 | none=>exact h s hs
 | some t=>
  have:t≠s:=fun e=>hs (hd s (by rw [e]))
  simp only [Act.put]
  rw [Array.getElem?_setIfInBounds_ne this]
  exact h s hs
theorem zuz {o:Oper} {a a0:Act} {L:List Nat} {K K':Act→World→Prop} (hL:∀ s,o.dst=some s→s ∈ L) (ha:Kept L a0 a) (hK:∀ a w,Kept L a0 a→K' a w→K a w) {r:Result Next}
  (h:o.upon P a K' (zjj L a0 Q) r):o.upon P a K Q r:=by
 have hp:∀ v,Kept L a0 (a.put o.dst v):=fun v=>zfG ha hL
 cases r with
 | ok n w'=>
  cases n with
  | value v=>exact hK _ _ (hp v) h
  | skip=>exact hK _ _ (hp _) h
  | defer d=>exact hK _ _ (zfG (a:={ a with defers:=d::a.defers }) ha hL) h
  | enter f args=>
   refine Calls.mono h fun e w'' he=> ?_
   cases e with
   | returned v=>exact hK _ _ (hp v) he
   | panicked chain=>exact he
   | outgrown=>exact he
  | row row args=>exact Rows.mono h fun v w'' he=>hK _ _ (hp v) he
  | _=>exact h
 | halt x w'=>cases x<;>exact h
theorem zj1 {a a0:Act} {w:World} {i:Nat} {L:List Nat} {K K':Act→World→Prop} (hL:∀ o,ops[i]? =some o→∀ s,o.dst=some s→s ∈ L) (ha:Kept L a0 a) (hK:∀ a w,Kept L a0 a→K' a w→K a w)
  (h:wpOp P ops (zjj L a0 Q) i K' a w):wpOp P ops Q i K a w:=by
 unfold wpOp at *
 cases ho:ops[i]? with
 | none=>rw [ho] at h;exact hK _ _ ha h
 | some o=>
  rw [ho] at h
  simp only at h ⊢
  split
  ·rename_i hw
   rw [if_pos hw] at h
   exact h.imp (zuz (hL o ho) ha hK) id
  ·rename_i hw
   rw [if_neg hw] at h
   exact hK _ _ (zfG ha (hL o ho)) h
theorem zfK {L:List Nat} {a0:Act} (hL:∀ (i:Nat) o,ops[i]? =some o→∀ s,o.dst=some s→s ∈ L):∀ (l:List Nat) (a:Act) (w:World),Kept L a0 a→wpOps P ops (zjj L a0 Q) l a w→wpOps P ops Q l a w
 | [],a,w,ha,h=>h ha
 | i::l,a,w,ha,h=>by
  rw [wpOps_cons] at h ⊢
  exact zj1 (hL i) ha (fun a w ha h=>zfK hL l a w ha h) h
theorem zhn {L:List Nat} {a0:Act} {md:Region.Mode} (hL:∀ (i:Nat) o,ops[i]? =some o→∀ s,o.dst=some s→s ∈ L):∀ (fuel:Nat) (listed:Array Bool) (a:Act) (w:World),Kept L a0 a→wpAny P md ops (zjj L a0 Q) fuel listed a w→wpAny P md ops Q fuel listed a w
 | 0,listed,a,w,ha,h=>⟨h.1,h.2 ha⟩
 | fuel+1,listed,a,w,ha,h=>⟨fun hr=>h.1 hr ha,fun i hi=>zj1 (hL i) ha (fun a w ha h=>zhn hL fuel _ a w ha h) (h.2 i hi)⟩
theorem zjn (ops:Array Oper) (i:Nat) (o:Oper) (h:ops[i]? =some o) (s:Nat) (hs:o.dst=some s):s ∈ zdI ops:=by
 refine List.mem_filterMap.2 ⟨o, ?_,hs⟩
 have:=Array.mem_of_getElem? h
 simpa using this
end
end Go.Proofs.YthcnhibjddomdaaGreat
namespace Go.Proofs.YthcnhibjddomdaaGreat
open Go Go.RowKit
variable [FrB]
section
variable {D0:List Deferred×Nat} {P:Program} {G:Nat→Option (List AV)} {raw:uE} {ρ:Rho} {w:World} {S O:Nat→Prop} {env:yF} {h:List zf} {a:Act} {o:Oper} {ao:zb} {ops:Array Oper}
theorem LP (hc:Ri P ops o ao=true):o.dst=ao.dst∧zI P o.op ao.op=true∧
  ((o.guard=none∧ao.guard=none)∨∃ j s wt,o.guard=some (j,wt)∧ao.guard=some (s,wt)∧((ops[j]?).bind (·.dst))=some s):=by
 simp only [Ri,Bool.and_eq_true,beq_iff_eq] at hc
 obtain ⟨⟨h1,h2⟩,h3⟩:=hc
 refine ⟨h1,h2, ?_⟩
 split at h3
 ·rename_i e1 e2;exact .inl ⟨e1,e2⟩
 ·rename_i j wt s wt' e1 e2
  simp only [Bool.and_eq_true,beq_iff_eq] at h3
  obtain ⟨rfl,h3⟩:=h3
  exact .inr ⟨j,s,wt,e1,e2,h3⟩
 ·cases h3
theorem Ii {st:ASt}:PO G raw ao st=(goes ao st.env).bind fun b=>if b then (zx G raw st.env st.h ao.op).map fun r=>⟨LZ st.env ao.dst r.1,r.2⟩ else some ⟨LZ st.env ao.dst (.tup []),st.h⟩:=by
 unfold PO goes
 cases hg:ao.guard with
 | none=>rfl
 | some g=>
  obtain ⟨s,want⟩:=g
  simp only
  cases look st.env s with
  | none=>rfl
  | some v=>
   cases v with
   | bool b=>by_cases e:b=want<;>simp [e]
   | tup l=>cases l<;>rfl
   | _=>rfl
theorem zjU (hc:Ri P ops o ao=true) (R:∀ s wt,ao.guard=some (s,wt)→∀ v,look env s=some v→∃ x,a.tmps[s]? =some x∧zB ρ w S O v x) {b:Bool} (hg:goes ao env=some b):Region.wanted o (yielded ops a.tmps)=b:=by
 obtain ⟨_,_,h3⟩:=LP hc
 unfold goes at hg
 rcases h3 with ⟨e1,e2⟩ | ⟨j,s,wt,e1,e2,e3⟩
 ·rw [e2] at hg
  cases hg
  simp [Region.wanted,e1]
 ·rw [e2] at hg
  obtain ⟨v,hv,hg⟩:=za.1 hg
  obtain ⟨x,hx,hr⟩:=R s wt e2 v hv
  simp only [Region.wanted,e1,yielded,e3,Option.bind_some,hx]
  split at hg
  ·rename_i b'
   obtain rfl:=TI hr
   cases hg
   simp
  ·obtain ⟨vs,rfl,hl,_⟩:=zlt hr
   cases hg
   have:vs=[]:=List.eq_nil_of_length_eq_zero hl.symm
   subst this
   rfl
  ·cases hg
theorem zak:zB ρ w S O (.tup []) undef:=.tup [] [] rfl fun i c v hc=>by simp at hc
structure Good (D0:List Deferred×Nat) (G:Nat→Option (List AV)) (ρ0:Rho) (w0:World) (S O0:Nat→Prop) (base N:Nat) (env:yF) (h:List zf) (a:Act) (w:World) (ρ:Rho) (O:Nat→Prop):Prop where
 adv:UF w0 O0 w O
 ext:∀ id,id<base→∀ g pl,ρ0 id=some (g,pl)→∃ g' pl',ρ id=some (g',pl')∧g≤g'∧(g=g'→pl=pl')
 non:∀ id,id<base→ρ0 id=none→ρ id=none
 heap:Heap ρ w S O h
 rel:Rel G ρ w S O env a
 size:N≤a.tmps.size
 def0:a.defers=D0.1∧a.tmps.size=D0.2
 bas:base≤h.length
theorem size_put {a:Act} {d:Option Nat} {x:Value}:(a.put d x).tmps.size=a.tmps.size:=by cases d<;>simp [Act.put]
theorem NN {D0:List Deferred×Nat} {a:Act} {d:Option Nat} {x:Value} (h:a.defers=D0.1∧a.tmps.size=D0.2):(a.put d x).defers=D0.1∧(a.put d x).tmps.size=D0.2:=by
 cases d<;>simpa [Act.put] using h
def yg (h h':List zf):Prop:=∀ (id:Nat) x,h[id]? =some x→∃ y,h'[id]? =some y∧y.k=x.k
theorem yg.refl (h:List zf):yg h h:=fun _ x hx=>⟨x,hx,rfl⟩
theorem yg.trans {h h' h'':List zf} (p:yg h h') (q:yg h' h''):yg h h'':=fun id x hx=>by
 obtain ⟨y,hy,e⟩:=p id x hx
 obtain ⟨z,hz,e'⟩:=q id y hy
 exact ⟨z,hz,e'.trans e⟩
theorem yg.len {h h':List zf} (p:yg h h'):h.length≤h'.length:=by
 rcases Nat.lt_or_ge h'.length h.length with hl | hl
 ·obtain ⟨y,hy,_⟩:=p h'.length _ (List.getElem?_eq_getElem hl)
  have:=(List.getElem?_eq_some_iff.1 hy).1
  omega
 ·exact hl
theorem yg.app (h e:List zf):yg h (h++e):=fun id x hx=>⟨x,by rw [List.getElem?_append_left (List.getElem?_eq_some_iff.1 hx).1];exact hx,rfl⟩
theorem yg.set {h:List zf} {id:Nat} {r r':zf} (hr:h[id]? =some r) (hk:r'.k=r.k):yg h (h.set id r'):=fun i x hx=>by
 by_cases e:id=i
 ·subst e
  rw [hr] at hx
  cases hx
  exact ⟨r',by rw [List.getElem?_set_self (List.getElem?_eq_some_iff.1 hr).1],hk⟩
 ·exact ⟨x,by rw [List.getElem?_set_ne e];exact hx,rfl⟩
theorem zf6:∀ (is:List Nat) (h:List zf),yg h (KD is h)
 | [],h=>.refl h
 | i::is,h=>by
  rw [KD]
  cases e:h[i]? with
  | none=>exact zf6 is h
  | some r=>
   show yg h (KD is (h.set i ⟨r.k,r.gen+1,true,[]⟩))
   exact yg.trans (yg.set (r':=⟨r.k,r.gen+1,true,[]⟩) e rfl) (zf6 is _)
theorem zop {v:AV} {h':List zf} {op:AOp} (KL:∀ f asx h r,raw f asx h=some r→yg h r.2) (hc:op.cls=.change) (he:zx G raw env h op=some (v,h')):yg h h':=by
 cases op with
 | store agg m p x=>
  obtain ⟨vp,hp,he⟩:=za.1 he
  obtain ⟨vx,hx,he⟩:=za.1 he
  obtain ⟨h1,hst,e⟩:=ze.1 he
  cases e
  unfold IR at hst
  split at hst
  ·obtain ⟨r,hr,hst⟩:=za.1 hst
   split at hst
   ·obtain ⟨g,hg,hst⟩:=za.1 hst
    repeat' split at hst
    all_goals first
     | (cases hst;done)
     | (cases hst;exact .set hr rfl)
   ·cases hst
  ·cases hst
 | append k b x y=>
  obtain ⟨vp,hp,he⟩:=za.1 he
  obtain ⟨vx,hx,he⟩:=za.1 he
  obtain ⟨ys,hy,he⟩:=za.1 he
  split at he
  ·obtain ⟨r,hr,he⟩:=za.1 he
   split at he
   ·split at he
    ·rename_i hc;cases he;exact .set hr hc.2.1.symm
    ·cases he
   ·split at he
    ·rename_i hc;cases he;exact .set hr hc.2.1.symm
    ·cases he
  ·repeat' split at he
   all_goals first
    | (cases he;done)
    | (cases he;exact .app _ _)
    | (cases he;exact .refl _)
  ·cases he
 | copy k x y=>
  obtain ⟨vp,hp,he⟩:=za.1 he
  obtain ⟨vx,hx,he⟩:=za.1 he
  obtain ⟨ys,hy,he⟩:=za.1 he
  split at he
  ·obtain ⟨r,hr,he⟩:=za.1 he
   split at he
   ·cases he;exact .set hr rfl
   ·cases he
  ·cases he
 | clear z x=>
  obtain ⟨vp,hp,he⟩:=za.1 he
  split at he
  ·obtain ⟨r,hr,he⟩:=za.1 he
   split at he
   ·cases he;exact .set hr rfl
   ·cases he
  ·cases he
 | mark x=>
  obtain ⟨vp,hp,he⟩:=za.1 he
  split at he
  ·obtain ⟨r,hr,he⟩:=za.1 he
   split at he
   ·cases he;exact .refl _
   ·cases he
  ·cases he
 | melt x=>
  obtain ⟨vp,hp,he⟩:=za.1 he
  obtain ⟨p,_,e⟩:=ze.1 he
  cases e
  exact zf6 _ _
 | call md f args=>
  obtain ⟨vs,hvs,he⟩:=za.1 he
  cases md with
  | inl=>exact KL _ _ _ _ he
  | iso=>exact zEC he
  | pk=>exact zCm he
  | _=>cases hc
 | callv x args=>
  obtain ⟨vf,hvf,he⟩:=za.1 he
  split at he
  ·obtain ⟨vs,hvs,he⟩:=za.1 he
   exact KL _ _ _ _ he
  ·cases he
 | _=>cases hc
theorem zx8 {v:AV} {h':List zf} {op:AOp} (K:WW P G raw) (KL:∀ f asx h r,raw f asx h=some r→yg h r.2) (hop:zI P o.op op=true) (R:Rel G ρ w S O env a) (H:Heap ρ w S O h) (he:zx G raw env h op=some (v,h')):
  Da P ((execOp a.eval o).run P w) fun x w'=>Fw ρ w S O h v h' x w'∧h.length≤h'.length:=by
 cases hc:op.cls with
 | free=>
  obtain ⟨q1,q2⟩:=zcW hc hop R H.kinv he
  exact (zgC K hop R H he).mono fun x w' hx=>⟨hx,by rw [q2];exact Nat.le_refl _⟩
 | new=>exact (FI K hc hop R H he).mono fun x w' hx=>⟨hx.toW,by obtain ⟨_,_,_,_,_,_,_,_,_,e,he⟩:=hx;rw [he];simp⟩
 | change=>exact (zgC K hop R H he).mono fun x w' hx=>⟨hx,(zop KL hc he).len⟩
variable {ρ0:Rho} {w0:World} {O0:Nat→Prop} {base N:Nat} {st st':ASt}
def GoodS (D0:List Deferred×Nat) (G:Nat→Option (List AV)) (ρ0:Rho) (w0:World) (S O0:Nat→Prop) (base N:Nat) (st:ASt) (a:Act) (w:World):Prop:=∃ ρ O,Good D0 G ρ0 w0 S O0 base N st.env st.h a w ρ O
theorem Good.resW {v:AV} {h':List zf} {x:Value} {w':World} {d:Option Nat} (k:Good D0 G ρ0 w0 S O0 base N env h a w ρ O) (hd:∀ t,d=some t→t<N) (hr:Fw ρ w S O h v h' x w') (hl:h.length≤h'.length):
  GoodS D0 G ρ0 w0 S O0 base N ⟨LZ env d v,h'⟩ (a.put d x) w':=by
 obtain ⟨ρ',O',A,E,H,hv,hn⟩:=hr
 refine ⟨ρ',O',k.adv.trans A,fun id hid g pl h0=> ?_,fun id hid h0=>hn id (Nat.lt_of_lt_of_le hid k.bas) (k.non id hid h0),H,(k.rel.adv E A).put hv (fun t ht=>Nat.lt_of_lt_of_le (hd t ht) k.size),by rw [size_put];exact k.size,NN k.def0,Nat.le_trans k.bas hl⟩
 obtain ⟨g1,p1,e1,l1,q1⟩:=k.ext id hid g pl h0
 obtain ⟨g2,p2,e2,l2,q2⟩:=E id g1 p1 e1
 exact ⟨g2,p2,e2,Nat.le_trans l1 l2,fun e=>by
  have a1:g=g1:=by omega
  exact (q1 a1).trans (q2 (by omega))⟩
theorem zBH {next:Act→World→Prop} {Q:Exit→Act→World→Prop} (K:WW P G raw) (KL:∀ f asx h r,raw f asx h=some r→yg h r.2) (hc:Ri P ops o ao=true) (hd:∀ d,o.dst=some d→d<N) (hs:PO G raw ao st=some st')
  (k:GoodS D0 G ρ0 w0 S O0 base N st a w) (hn:∀ a' w',GoodS D0 G ρ0 w0 S O0 base N st' a' w'→next a' w'):
  if Region.wanted o (yielded ops a.tmps) then o.wp P a w next Q∨(o.asks P a w∧LetsOut Q) else next (a.put o.dst undef) w:=by
 obtain ⟨ρ,O,k⟩:=k
 obtain ⟨h1,h2,_⟩:=LP hc
 rw [Ii] at hs
 obtain ⟨b,hb,hs⟩:=za.1 hs
 rw [zjU hc (fun s wt _ v hv=>k.rel.env s v hv) hb]
 cases b with
 | true=>
  simp only [if_true] at hs ⊢
  obtain ⟨r,hr,e⟩:=ze.1 hs
  subst e
  refine .inl ((zx8 K KL h2 k.rel k.heap hr).upon fun x w' hx=>hn _ _ ?_)
  rw [h1]
  exact k.resW (by rw [← h1];exact hd) hx.1 hx.2
 | false=>
  simp only [Bool.false_eq_true,if_false] at hs ⊢
  cases hs
  refine hn _ _ ⟨ρ,O,k.adv,k.ext,k.non,k.heap, ?_,by rw [size_put];exact k.size,NN k.def0,k.bas⟩
  rw [h1]
  exact k.rel.put zak (fun t ht=>Nat.lt_of_lt_of_le (hd t (by rw [h1];exact ht)) k.size)
theorem zmq {aops':List zb} {Q:Exit→Act→World→Prop} (K:WW P G raw) (KL:∀ f asx h r,raw f asx h=some r→yg h r.2) (hc:PD P ops aops' N=true) (hs:jO G raw aops' st=some st')
  (k:GoodS D0 G ρ0 w0 S O0 base N st a w) (hn:∀ a' w',GoodS D0 G ρ0 w0 S O0 base N st' a' w'→Q .normal a' w'):wpOps P ops Q (List.range ops.size) a w:=by
 simp only [PD,Bool.and_eq_true,beq_iff_eq,List.all_eq_true] at hc
 obtain ⟨hsz,hall⟩:=hc
 have main:∀ (m i:Nat) (rest:List zb) (st:ASt) (a:Act) (w:World),i+m=ops.size→aops'.drop i=rest→jO G raw rest st=some st'→GoodS D0 G ρ0 w0 S O0 base N st a w→wpOps P ops Q (List.range' i m) a w:=by
  intro m
  induction m with
  | zero=>
   intro i rest st a w hi hr hs k
   have:rest=[]:=by rw [← hr];exact List.drop_eq_nil_of_le (by omega)
   subst this
   cases hs
   exact hn a w k
  | succ m ih=>
   intro i rest st a w hi hr hs k
   have hlt:i<ops.size:=by omega
   have hlt':i<aops'.length:=by omega
   rw [List.drop_eq_getElem_cons hlt'] at hr
   subst hr
   obtain ⟨st1,h1,hs⟩:=za.1 hs
   have ho:ops[i]? =some ops[i]:=by simp [hlt]
   have hm:(ops[i],aops'[i]) ∈ ops.toList.zip aops':=by
    refine List.mem_iff_getElem.2 ⟨i,by simp;omega, ?_⟩
    simp
   have hp:=hall _ hm
   simp only [Bool.and_eq_true] at hp
   show wpOps P ops Q (i::List.range' (i+1) m) a w
   rw [wpOps,ho]
   refine zBH K KL hp.1 (fun d hd=> ?_) h1 k fun a' w' k'=>ih (i+1) _ st1 a' w' (by omega) rfl hs k'
   have:=hp.2
   rw [hd] at this
   simpa using this
 rw [List.range_eq_range']
 exact main ops.size 0 aops' st a w (by omega) rfl hs k
theorem zps {id:Nat} {aops':List zb} {Q:Exit→Act→World→Prop} (K:WW P G raw) (KL:∀ f asx h r,raw f asx h=some r→yg h r.2) (hc:PD P ops aops' N=true) (hs:jO G raw aops' st=some st')
  (k:GoodS D0 G ρ0 w0 S O0 base N st a w) (hn:∀ a' w',GoodS D0 G ρ0 w0 S O0 base N st' a' w'→Kept (zdI ops) a a'→Q .normal a' w'):(Code.region id ops false).wp P Q a w:=
 wp_region (zfK (zjn ops) _ _ _ (Kept.refl _ _) (zmq (Q:=zjj (zdI ops) a Q) K KL hc hs k fun a' w' g hk=>hn a' w' g hk))
end
end Go.Proofs.YthcnhibjddomdaaGreat
