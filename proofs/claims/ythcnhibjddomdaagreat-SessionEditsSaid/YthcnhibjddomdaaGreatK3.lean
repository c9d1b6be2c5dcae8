/- Parts of the proof: M3. Conditions: as each statement says. -/
import Derived.Test.YthcnhibjddomdaaGreatK2
import Derived.WalkKit
import Derived.ProofKit
import Derived.OpenShut
import Derived.WideShapes
import Derived.ChangeShapes
set_option maxRecDepth 100000
set_option maxHeartbeats 8000000
set_option linter.unusedVariables false
set_option linter.unusedSimpArgs false
set_option linter.unusedSectionVars false
namespace Go.Proofs.YthcnhibjddomdaaGreat
open Go Go.RowKit
variable [FrB]
section
variable {P:Program} {G:Nat→Option (List AV)} {raw:uE} {env env':yF} {h h':List zf} {v:AV} {op:AOp}
theorem zi {x:zD} (hs:∀ s ∈ x.slots,look env' s=look env s):zo G env' x=zo G env x:=by
 cases x with
 | slot n=>exact hs n (by simp [zD.slots])
 | _=>rfl
theorem NI {x:Option zD} (hs:∀ s ∈ JH x,look env' s=look env s):zbG G env' x=zbG G env x:=by
 cases x with
 | none=>rfl
 | some x=>simp only [zbG];rw [zi hs]
theorem Lp {α β:Type} {f g:α→Option β}:∀ {l:List α},(∀ x ∈ l,f x=g x)→l.mapM f=l.mapM g
 | [],_=>rfl
 | a::l,hx=>by
  rw [List.mapM_cons,List.mapM_cons,hx a (by simp),Lp (l:=l) fun x h=>hx x (by simp [h])]
theorem zaf {l:List zD} (hs:∀ s ∈ l.flatMap zD.slots,look env' s=look env s):l.mapM (zo G env')=l.mapM (zo G env):=
 Lp fun x hx=>zi fun s h=>hs s (List.mem_flatMap.2 ⟨x,hx,h⟩)
theorem zmE {l:List (Nat×Nat×zD)} (hs:∀ s ∈ l.flatMap (·.2.2.slots),look env' s=look env s):
  (l.mapM fun (p:Nat×Nat×zD)=>(zo G env' p.2.2).map fun v=>(p.1,p.2.1,v))=l.mapM fun (p:Nat×Nat×zD)=>(zo G env p.2.2).map fun v=>(p.1,p.2.1,v):=
 Lp fun x hx=>by rw [zi fun s h=>hs s (List.mem_flatMap.2 ⟨x,hx,h⟩)]
theorem zb2 {l:List (Nat×zD)} (hs:∀ s ∈ l.flatMap (·.2.slots),look env' s=look env s):
  (l.mapM fun (p:Nat×zD)=>(zo G env' p.2).map fun v=>(p.1,v))=l.mapM fun (p:Nat×zD)=>(zo G env p.2).map fun v=>(p.1,v):=
 Lp fun x hx=>by rw [zi fun s h=>hs s (List.mem_flatMap.2 ⟨x,hx,h⟩)]
theorem zfE (hs:∀ s ∈ op.slots,look env' s=look env s):zx G raw env' h op=zx G raw env h op:=by
 cases op<;>simp only [AOp.slots,List.mem_append,or_imp,forall_and] at hs<;>simp only [zx,aop]
 case mov x=>rw [zi hs]
 case pick c x y=>
  rw [zi hs.1.1]
  congr 1
  funext v
  cases v with
  | bool c=>cases c<;>simp [zi hs.1.2,zi hs.2]
  | _=>rfl
 case box m x=>rw [zi hs]
 case build z ps=>rw [zmE hs]
 case mkslice k n z ps=>rw [zb2 hs]
 case mkdata k n z ps=>rw [zb2 hs]
 case load a m x=>rw [zi hs]
 case loadd a m x=>rw [zi hs]
 case melt x=>rw [zi hs]
 case idxd k x y=>rw [zi hs.1,zi hs.2]
 case store a m x y=>rw [zi hs.1,zi hs.2]
 case nilchk x=>rw [zi hs]
 case bin b x y=>rw [zi hs.1,zi hs.2]
 case eq a sh n x y=>rw [zi hs.1,zi hs.2]
 case isnil k n x=>rw [zi hs]
 case not x=>rw [zi hs]
 case neg x=>rw [zi hs]
 case conv k x=>rw [zi hs]
 case rstr x=>rw [zi hs]
 case bstr x=>rw [zi hs]
 case strb x=>rw [zi hs]
 case mark x=>rw [zi hs]
 case cvs x=>rw [zi hs]
 case mkfn f a b=>rw [zaf hs.1,zaf hs.2]
 case mkrow k b z x y=>rw [zi hs.1,zi hs.2]
 case sl k x lo hi mx=>rw [zi hs.1.1.1,NI hs.1.1.2,NI hs.1.2,NI hs.2]
 case slstr x lo hi=>rw [zi hs.1.1,NI hs.1.2,NI hs.2]
 case faddr o x=>rw [zi hs]
 case field a m o x=>rw [zi hs]
 case idx k x y=>rw [zi hs.1,zi hs.2]
 case idxarr k n x y=>rw [zi hs.1,zi hs.2]
 case idxv a m n x y=>rw [zi hs.1,zi hs.2]
 case idxs x y=>rw [zi hs.1,zi hs.2]
 case extract i x=>rw [zi hs]
 case len b x=>rw [zi hs]
 case append k b x y=>rw [zi hs.1,zi hs.2]
 case appendD k b x y=>rw [zi hs.1,zi hs.2]
 case copy k x y=>rw [zi hs.1,zi hs.2]
 case clear z x=>rw [zi hs]
 case max x y=>rw [zi hs.1,zi hs.2]
 case min x y=>rw [zi hs.1,zi hs.2]
 case call md f args=>rw [zaf hs]
 case callv x args=>rw [zi hs.1,zaf hs.2]
theorem zzs (hc:op.cls=.free) (he:zx G raw env h op=some (v,h')):h'=h:=by
 cases op<;>first
  | (cases hc;done)
  | (rename_i md _ _;cases md<;>cases hc;done)
  | (obtain ⟨u,_,he⟩:=za.1 he;split at he<;>first | (cases he;done) | (obtain ⟨_,_,e⟩:=ze.1 he;cases e;rfl))
  | (simp only [zx,aop,Option.bind_eq_some_iff,Option.map_eq_some_iff,Prod.mk.injEq,Option.some.injEq] at he;grind)
theorem zzh (hc:op.cls=.new) (he:zx G raw env h op=some (v,h')):∃ e,h'=h++e:=by
 cases op with
 | mknil=>cases he;exact ⟨_,rfl⟩
 | alloc=>cases he;exact ⟨_,rfl⟩
 | box m x=>
  obtain ⟨u,_,he⟩:=za.1 he
  obtain ⟨cs,_,he⟩:=za.1 he
  split at he<;>cases he
  exact ⟨_,rfl⟩
 | mkslice k n z ps=>
  obtain ⟨u,_,he⟩:=za.1 he
  obtain ⟨cs,_,e⟩:=ze.1 he
  cases e
  exact ⟨_,rfl⟩
 | mkdata k n z ps=>
  obtain ⟨u,_,he⟩:=za.1 he
  obtain ⟨cs,_,he⟩:=za.1 he
  split at he<;>cases he
  exact ⟨[],by simp⟩
 | load a m x=>
  obtain ⟨u,_,he⟩:=za.1 he
  obtain ⟨cs,_,e⟩:=ze.1 he
  cases e
  exact ⟨[],by simp⟩
 | bstr x=>
  obtain ⟨u,_,he⟩:=za.1 he
  obtain ⟨u,_,he⟩:=za.1 he
  obtain ⟨cs,_,e⟩:=ze.1 he
  cases e
  exact ⟨[],by simp⟩
 | strb x=>
  obtain ⟨u,_,he⟩:=za.1 he
  split at he<;>cases he
  exact ⟨_,rfl⟩
 | mkrow k b z x y=>
  obtain ⟨u,_,he⟩:=za.1 he
  obtain ⟨u',_,he⟩:=za.1 he
  split at he
  ·split at he<;>cases he
   exact ⟨_,rfl⟩
  ·cases he
 | idx k x y=>
  obtain ⟨u,_,he⟩:=za.1 he
  obtain ⟨u1,_,he⟩:=za.1 he
  obtain ⟨cs,_,e⟩:=ze.1 he
  cases e
  exact ⟨[],by simp⟩
 | appendD k b x y=>
  obtain ⟨u,_,he⟩:=za.1 he
  obtain ⟨u1,_,he⟩:=za.1 he
  obtain ⟨cs,_,e⟩:=ze.1 he
  cases e
  exact ⟨[],by simp⟩
 | call md f args=>
  obtain ⟨u,_,he⟩:=za.1 he
  cases md with
  | inl=>cases hc
  | iso=>cases hc
  | pk=>cases hc
  | frz=>
   obtain ⟨asx,has,he⟩:=za.1 he
   obtain ⟨r,hr,he⟩:=za.1 he
   obtain ⟨v1,hv1,e⟩:=ze.1 he
   cases e
   exact ⟨[],by simp⟩
  | adp=>
   obtain ⟨asx,has,he⟩:=za.1 he
   obtain ⟨r,hr,he⟩:=za.1 he
   unfold zc9 at he
   simp only at he
   split at he<;>cases he
   exact ⟨_,rfl⟩
 | _=>cases hc
theorem zxX (KL:∀ f asx h r,raw f asx h=some r→yg h r.2) (he:zx G raw env h op=some (v,h')):yg h h':=by
 cases hc:op.cls with
 | free=>rw [zzs hc he];exact .refl _
 | new=>obtain ⟨e,he⟩:=zzh hc he;rw [he];exact .app _ _
 | change=>exact zop KL hc he
theorem Dn:∀ (os:List Oper) (acc:List Nat) (j:Nat),j<acc.length→(ZZ os acc)[j]? =acc[j]?
 | [],_,_,_=>rfl
 | o::os,acc,j,hj=>by rw [ZZ,Dn os _ j (by simp;omega),List.getElem?_append_left hj]
theorem zdS:∀ (os:List Oper) (acc:List Nat) (j:Nat) (o:Oper),os[j]? =some o→∃ acc',(ZZ os acc)[acc.length+j]? =some (zb5 acc' o)∧acc'.length=acc.length+j∧∀ i,i<acc'.length→acc'[i]? =(ZZ os acc)[i]?
 | [],_,_,_,h=>by simp at h
 | o::os,acc,0,o',h=>by
  simp at h
  subst h
  refine ⟨acc, ?_,rfl,fun i hi=>(Dn (o::os) acc i hi).symm⟩
  rw [ZZ,Dn os _ _ (by simp)]
  simp
 | o::os,acc,j+1,o',h=>by
  obtain ⟨acc',h1,h2,h3⟩:=zdS os (acc++[zb5 acc o]) j o' (by simpa using h)
  simp only [List.length_append,List.length_singleton] at h1 h2
  refine ⟨acc', ?_,by omega,fun i hi=>h3 i hi⟩
  rw [ZZ,← h1]
  congr 1;omega
theorem zkC {acc:List Nat} {o:Oper} {i:Nat} (hb:(zb5 acc o).testBit i=true):∃ e ∈ o.after,Region.binds .any e=true∧(e.on=i∨(acc.getD e.on 0).testBit i=true):=by
 have main:∀ (l:List Edge) (s:Nat),(l.foldl (fun s e=>s ||| (2^e.on ||| acc.getD e.on 0)) s).testBit i=true→s.testBit i=true∨∃ e ∈ l,e.on=i∨(acc.getD e.on 0).testBit i=true:=by
  intro l
  induction l with
  | nil=>intro s h;exact .inl h
  | cons e l ih=>
   intro s h
   rcases ih _ h with h | ⟨e',h1,h2⟩
   ·rw [Nat.testBit_or,Nat.testBit_or,Bool.or_eq_true,Bool.or_eq_true,Nat.testBit_two_pow] at h
    rcases h with h | h | h
    ·exact .inl h
    ·exact .inr ⟨e,by simp,.inl (by simpa using h)⟩
    ·exact .inr ⟨e,by simp,.inr h⟩
   ·exact .inr ⟨e',by simp [h1],h2⟩
 rcases main _ 0 hb with h | ⟨e,h1,h2⟩
 ·simp at h
 ·rw [List.mem_filter] at h1
  exact ⟨e,by simpa using h1.1,h1.2,h2⟩
def Closed (ops:Array Oper) (D:Nat→Prop):Prop:=∀ j o,ops[j]? =some o→D j→∀ e ∈ o.after,Region.binds .any e=true→D e.on
theorem zih {ops:Array Oper} {D:Nat→Prop} (hcl:Closed ops D) (hlt:∀ j o,ops[j]? =some o→∀ e ∈ o.after,Region.binds .any e=true→e.on<j):
  ∀ (j i:Nat) (o:Oper),ops[j]? =some o→(∀ e ∈ o.after,Region.binds .any e=true→D e.on)→((ZZ ops.toList []).getD j 0).testBit i=true→D i:=by
 intro j
 induction j using Nat.strongRecOn with
 | _ j ih=>
  intro i o ho hd hb
  obtain ⟨acc,h1,h2,h3⟩:=zdS ops.toList [] j o (by simpa using ho)
  simp only [List.length_nil,Nat.zero_add] at h1 h2
  rw [List.getD_eq_getElem?_getD,h1,Option.getD_some] at hb
  obtain ⟨e,he,hbd,hor⟩:=zkC hb
  have hej:=hlt j o ho e he hbd
  have hDe:=hd e he hbd
  rcases hor with hor | hor
  ·rw [← hor];exact hDe
  ·have hjs:j<ops.size:=(Array.getElem?_eq_some_iff.1 ho).1
   have hoe:ops[e.on]? =some ops[e.on]:=by simp
   rw [List.getD_eq_getElem?_getD,h3 e.on (by omega),← List.getD_eq_getElem?_getD] at hor
   exact ih e.on hej i _ hoe (fun e' he' hb'=>hcl e.on _ hoe hDe e' he' hb') hor
theorem zb7 {pm:Nat→Nat} {qs bs:List Nat}:∀ {ys done:List zb} {j:Nat},done.length=j→zbr pm qs bs j done ys=true→∀ (b i:Nat) (x y:zb),i<j+b→ys[b]? =some y→(done++ys)[i]? =some x→UH qs i x (j+b) y=true→(bs.getD (pm (j+b)) 0).testBit (pm i)=true
 | [],_,_,_,_,b,i,x,y,_,hy,_,_=>by simp at hy
 | z::ys,done,j,hl,hc,b,i,x,y,hi,hy,hx,hcl=>by
  simp only [zbr,Bool.and_eq_true,List.all_eq_true] at hc
  cases b with
  | zero=>
   simp at hy
   subst hy
   rw [List.getElem?_append_left (by omega)] at hx
   have hm:(x,i) ∈ done.zipIdx:=by
    rw [List.mk_mem_zipIdx_iff_getElem?];exact hx
   have:=hc.1 _ hm
   simp only [Nat.add_zero] at hcl
   simp only [hcl,Bool.not_true,Bool.false_or] at this
   simpa using this
  | succ b=>
   have:=zb7 (ys:=ys) (done:=done++[z]) (j:=j+1) (by simp [hl]) hc.2 b i x y (by omega) (by simpa using hy) (by simpa using hx) (by rw [show j+1+b=j+(b+1) from by omega];exact hcl)
   rw [show j+(b+1)=j+1+b from by omega]
   exact this
theorem PN {ops:Array Oper} {jO:List zb} {pm:Nat→Nat} {qs:List (Nat×List Nat)} (hc:UN ops jO pm qs=true):(∀ (i j:Nat) x y,i<j→jO[i]? =some x→jO[j]? =some y→UH (qs.map (·.1)) i x j y=true→((ZZ ops.toList []).getD (pm j) 0).testBit (pm i)=true)∧
  (∀ q ∈ qs,zgU pm (qs.map (·.1)) (ZZ ops.toList []) jO q=true)∧∀ j o,ops[j]? =some o→∀ e ∈ o.after,Region.binds .any e=true→e.on<j:=by
 simp only [UN,Bool.and_eq_true,List.all_eq_true] at hc
 refine ⟨fun i j x y hij hx hy hcl=> ?_,fun q hq=>hc.1.2 q hq,fun j o ho e he hb=> ?_⟩
 ·have:=zb7 (done:=[]) (j:=0) rfl hc.1.1 j i x y (by omega) hy (by simpa using hx) (by rw [Nat.zero_add];exact hcl)
  simpa using this
 ·have hm:(o,j) ∈ ops.toList.zipIdx:=by
   rw [List.mk_mem_zipIdx_iff_getElem?];simpa using ho
  have:=hc.2 _ hm e (by simpa using he)
  simpa [hb] using this
end
end Go.Proofs.YthcnhibjddomdaaGreat
namespace Go.Proofs.YthcnhibjddomdaaGreat
open Go Go.RowKit
variable [FrB]
section
variable {P:Program} {G:Nat→Option (List AV)} {raw:uE} {ρ ρ':Rho} {w w':World} {S O O':Nat→Prop} {env:yF} {h h':List zf} {a:Act} {ops:Array Oper} {A:List zb}
def Wl (ρ:Rho) (n:Nat):Rho:=fun id=>if id<n then ρ id else none
theorem VX {n id:Nat} (hi:id<n):Wl ρ n id=ρ id:=if_pos hi
theorem zk8 {n id:Nat} (hi:n≤id):Wl ρ n id=none:=if_neg (Nat.not_lt.2 hi)
theorem SV {n id:Nat} {y:Nat×Option Pl} (hy:Wl ρ n id=some y):id<n∧ρ id=some y:=by
 unfold Wl at hy
 split at hy
 ·rename_i hi;exact ⟨hi,hy⟩
 ·cases hy
theorem KW {n:Nat} (hd:∀ id,n≤id→ρ id=none):Wl ρ n=ρ:=by
 funext id
 unfold Wl
 split
 ·rfl
 ·rename_i hi;exact (hd id (by omega)).symm
theorem zrq {n m:Nat} (hnm:n≤m):Ext (Wl ρ n) (Wl ρ m):=fun id g pl hid=>by
 obtain ⟨h1,h2⟩:=SV hid
 exact ⟨g,pl,by rw [VX (by omega)];exact h2,Nat.le_refl _,fun _=>rfl⟩
theorem Ext.cut (e:Ext ρ ρ') (n:Nat):Ext (Wl ρ n) (Wl ρ' n):=fun id g pl hid=>by
 obtain ⟨h1,h2⟩:=SV hid
 obtain ⟨g',pl',h3,h4⟩:=e id g pl h2
 exact ⟨g',pl',by rw [VX h1];exact h3,h4⟩
theorem zoH.cut {n:Nat} (hk:zoH ρ h):zoH (Wl ρ n) h:=fun id g p r hid hr=>hk id g p r (SV hid).2 hr
theorem zxW {cs:List AV} {x:Value} (hr:zB ρ w S O (.dptr cs) x):zB ρ' w S O (.dptr cs) x:=by
 obtain ⟨b,off,val,rfl,h1,h2,h3,h4⟩:=WB hr
 exact .dptr cs b off val h1 h2 h3 h4
theorem Heap.more (H:Heap ρ w S O h) (e:List zf):Heap ρ w S O (h++e):=
 ⟨fun id g pl hid=>by
  obtain ⟨r,h1,h2⟩:=H.row id g pl hid
  exact ⟨r,by rw [List.getElem?_append_left (H.lt hid)];exact h1,h2⟩,H.inj,H.bd,H.dis⟩
structure Trace (G:Nat→Option (List AV)) (raw:uE) (A:List zb) (T:Nat→ASt) (V:Nat→AV):Prop where
 env:∀ k ao,A[k]? =some ao→(T (k+1)).env=LZ (T k).env ao.dst (V k)
 run:∀ k ao,A[k]? =some ao→∃ b,goes ao (T k).env=some b∧((b=true∧zx G raw (T k).env (T k).h ao.op=some (V k,(T (k+1)).h))∨(b=false∧V k=.tup []∧(T (k+1)).h=(T k).h))
theorem zbA:∀ {A:List zb} {st st':ASt},jO G raw A st=some st'→∃ T V,Trace G raw A T V∧T 0=st∧T A.length=st'
 | [],st,st',hs=>by
  cases hs
  exact ⟨fun _=>st,fun _=>.unk,⟨fun k ao h=>by simp at h,fun k ao h=>by simp at h⟩,rfl,rfl⟩
 | ao::A,st,st',hs=>by
  obtain ⟨st1,h1,hs⟩:=za.1 hs
  obtain ⟨T,V,t1,t2,t3⟩:=zbA hs
  rw [Ii] at h1
  obtain ⟨b,hb,h1⟩:=za.1 h1
  obtain ⟨v,e1,e2⟩:∃ v,st1.env=LZ st.env ao.dst v∧((b=true∧zx G raw st.env st.h ao.op=some (v,st1.h))∨(b=false∧v=.tup []∧st1.h=st.h)):=by
   cases b with
   | true=>
    simp only [if_true] at h1
    obtain ⟨r,hr,e⟩:=ze.1 h1
    subst e
    exact ⟨r.1,rfl,.inl ⟨rfl,hr⟩⟩
   | false=>
    simp only [Bool.false_eq_true,if_false] at h1
    cases h1
    exact ⟨.tup [],rfl,.inr ⟨rfl,rfl,rfl⟩⟩
  refine ⟨fun k=>match k with | 0=>st | k+1=>T k,fun k=>match k with | 0=>v | k+1=>V k,⟨fun k o hk=> ?_,fun k o hk=> ?_⟩,rfl,by simpa using t3⟩
  ·cases k with
   | zero=>simp at hk;subst hk;simpa [t2] using e1
   | succ k=>exact t1.env k o (by simpa using hk)
  ·cases k with
   | zero=>simp at hk;subst hk;exact ⟨b,hb,by simpa [t2] using e2⟩
   | succ k=>exact t1.run k o (by simpa using hk)
theorem zmP:∀ {A:List zb} {acc:List ASt} {st:ASt} {Ts:List ASt},JK G raw A acc st=some Ts→∃ Us,Ts=acc++Us∧Us.length=A.length+1∧Us[0]? =some st∧∀ k ao,A[k]? =some ao→∃ s s',Us[k]? =some s∧Us[k+1]? =some s'∧PO G raw ao s=some s'
 | [],acc,st,Ts,hs=>by
  cases hs
  exact ⟨[st],rfl,rfl,rfl,fun k ao h=>by simp at h⟩
 | o::A,acc,st,Ts,hs=>by
  obtain ⟨st1,h1,hs⟩:=za.1 hs
  obtain ⟨Us,h2,h3,h4,h5⟩:=zmP hs
  refine ⟨st::Us,by rw [h2];simp,by simp [h3],rfl,fun k ao hk=> ?_⟩
  cases k with
  | zero=>simp at hk;subst hk;exact ⟨st,st1,rfl,by simpa using h4,h1⟩
  | succ k=>
   obtain ⟨s,s',q1,q2,q3⟩:=h5 k ao (by simpa using hk)
   exact ⟨s,s',by simpa using q1,by simpa using q2,q3⟩
theorem HZ {A:List zb} {st:ASt} {Ts:List ASt} (hs:JK G raw A [] st=some Ts):∃ V,Trace G raw A (fun k=>Ts.getD k st) V∧Ts.length=A.length+1∧Ts.getD 0 st=st:=by
 obtain ⟨Us,h1,h2,h3,h4⟩:=zmP hs
 rw [List.nil_append] at h1
 subst h1
 have g:∀ k s,Ts[k]? =some s→Ts.getD k st=s:=fun k s h=>by simp [List.getD_eq_getElem?_getD,h]
 have key:∀ k,∃ v,∀ ao,A[k]? =some ao→(Ts.getD (k+1) st).env=LZ (Ts.getD k st).env ao.dst v∧∃ b,goes ao (Ts.getD k st).env=some b∧((b=true∧zx G raw (Ts.getD k st).env (Ts.getD k st).h ao.op=some (v,(Ts.getD (k+1) st).h))∨(b=false∧v=.tup []∧(Ts.getD (k+1) st).h=(Ts.getD k st).h)):=fun k=>by
  cases ha:A[k]? with
  | none=>exact ⟨.unk,fun ao h=>by cases h⟩
  | some ao=>
   obtain ⟨s,s',q1,q2,h1⟩:=h4 k ao ha
   rw [Ii] at h1
   obtain ⟨b,hb,h1⟩:=za.1 h1
   cases b with
   | true=>
    simp only [if_true] at h1
    obtain ⟨r,hr,e⟩:=ze.1 h1
    subst e
    refine ⟨r.1,fun ao' h=> ?_⟩
    cases h
    rw [g _ _ q1,g _ _ q2]
    exact ⟨rfl,true,hb,.inl ⟨rfl,hr⟩⟩
   | false=>
    simp only [Bool.false_eq_true,if_false] at h1
    cases h1
    refine ⟨.tup [],fun ao' h=> ?_⟩
    cases h
    rw [g _ _ q1,g _ _ q2]
    exact ⟨rfl,false,hb,.inr ⟨rfl,rfl,rfl⟩⟩
 refine ⟨fun k=>Classical.choose (key k),⟨fun k ao h=>(Classical.choose_spec (key k) ao h).1,fun k ao h=>(Classical.choose_spec (key k) ao h).2⟩,h2,g _ _ h3⟩
theorem Lf (KL:∀ f asx h r,raw f asx h=some r→yg h r.2) {T:Nat→ASt} {V:Nat→AV} (t:Trace G raw A T V):∀ (m i:Nat),i+m≤A.length→yg (T i).h (T (i+m)).h
 | 0,_,_=>.refl _
 | m+1,i,hi=>by
  have h1:=Lf KL t m i (by omega)
  obtain ⟨ao,ha⟩:∃ ao,A[i+m]? =some ao:=⟨_,List.getElem?_eq_getElem (by omega)⟩
  obtain ⟨b,_,hb | hb⟩:=t.run _ ao ha
  ·exact h1.trans (zxX KL hb.2)
  ·rw [show i+(m+1)=i+m+1 from rfl,hb.2.2];exact h1
theorem PI (KL:∀ f asx h r,raw f asx h=some r→yg h r.2) {T:Nat→ASt} {V:Nat→AV} (t:Trace G raw A T V) (m i:Nat) (hi:i+m≤A.length):(T i).h.length≤(T (i+m)).h.length:=(Lf KL t m i hi).len
def zia (A:List zb) (T:Nat→ASt) (qs:List Nat):Prop:=∀ k ao,A[k]? =some ao→qs.contains k=true→∃ e,(T (k+1)).h=(T k).h++e
theorem PW {T:Nat→ASt} {V:Nat→AV} {qs:List Nat} (t:Trace G raw A T V) (hu:zia A T qs):∀ (m i:Nat),i+m≤A.length→(∀ k ao,i≤k→k<i+m→A[k]? =some ao→qc qs k ao≠.change)→∃ e,(T (i+m)).h=(T i).h++e
 | 0,_,_,_=>⟨[],by simp⟩
 | m+1,i,hi,hn=>by
  obtain ⟨e,he⟩:=PW t hu m i (by omega) fun k ao h1 h2 h3=>hn k ao h1 (by omega) h3
  obtain ⟨ao,ha⟩:∃ ao,A[i+m]? =some ao:=⟨_,List.getElem?_eq_getElem (by omega)⟩
  have hc:=hn _ ao (by omega) (by omega) ha
  unfold qc at hc
  split at hc
  ·rename_i hq
   obtain ⟨e',he'⟩:=hu _ ao ha hq
   exact ⟨e++e',by rw [show i+(m+1)=i+m+1 from rfl,he',he,List.append_assoc]⟩
  obtain ⟨b,_,hb | hb⟩:=t.run _ ao ha
  ·have hx:=hb.2
   cases hcl:ao.op.cls with
   | free=>exact ⟨e,by rw [show i+(m+1)=i+m+1 from rfl,zzs hcl hx];exact he⟩
   | new=>
    obtain ⟨e',he'⟩:=zzh hcl hx
    exact ⟨e++e',by rw [show i+(m+1)=i+m+1 from rfl,he',he,List.append_assoc]⟩
   | change=>exact absurd hcl hc
  ·exact ⟨e,by rw [show i+(m+1)=i+m+1 from rfl,hb.2.2];exact he⟩
theorem zaH {T:Nat→ASt} {V:Nat→AV} (t:Trace G raw A T V) (s:Nat):∀ (m i:Nat),i+m≤A.length→(∀ k ao,i≤k→k<i+m→A[k]? =some ao→ao.dst≠some s)→look (T (i+m)).env s=look (T i).env s
 | 0,_,_,_=>rfl
 | m+1,i,hi,hn=>by
  obtain ⟨ao,ha⟩:∃ ao,A[i+m]? =some ao:=⟨_,List.getElem?_eq_getElem (by omega)⟩
  have hd:=hn _ ao (by omega) (by omega) ha
  rw [show i+(m+1)=i+m+1 from rfl,t.env _ ao ha]
  rw [← zaH t s m i (by omega) fun k ao h1 h2 h3=>hn k ao h1 (by omega) h3]
  cases e:ao.dst with
  | none=>rfl
  | some d=>
   rw [e] at hd
   simp only [LZ,look]
   rw [if_neg (fun e=>hd (by rw [e]))]
end
end Go.Proofs.YthcnhibjddomdaaGreat
namespace Go.Proofs.YthcnhibjddomdaaGreat
open Go Go.RowKit
variable [FrB]
section
variable {D0:List Deferred×Nat} {P:Program} {G:Nat→Option (List AV)} {raw:uE} {ρ0 ρ ρ':Rho} {w0 w w':World} {S O0 O O':Nat→Prop} {a:Act} {B:Nat→Nat→Prop} {A:List zb} {T:Nat→ASt} {V:Nat→AV} {N:Nat} {D:Nat→Prop} {l M:Nat} {qs:List Nat}
theorem He (A:List zb) (qs:List Nat):∀ (m l:Nat),l+m=A.length→∃ M,l≤M∧M≤A.length∧(∀ k ao,l≤k→k<M→A[k]? =some ao→qc qs k ao≠.change)∧(M=A.length∨∃ ao,A[M]? =some ao∧qc qs M ao=.change)
 | 0,l,h=>⟨l,Nat.le_refl _,by omega,fun k ao h1 h2=>by omega,.inl (by omega)⟩
 | m+1,l,h=>by
  obtain ⟨ao,ha⟩:∃ ao,A[l]? =some ao:=⟨_,List.getElem?_eq_getElem (by omega)⟩
  by_cases hc:qc qs l ao=.change
  ·exact ⟨l,Nat.le_refl _,by omega,fun k ao h1 h2=>by omega,.inr ⟨ao,ha,hc⟩⟩
  ·obtain ⟨M,h1,h2,h3,h4⟩:=He A qs m (l+1) (by omega)
   refine ⟨M,by omega,h2,fun k ao' q1 q2 q3=> ?_,h4⟩
   by_cases e:k=l
   ·subst e;rw [ha] at q3;cases q3;exact hc
   ·exact h3 k ao' (by omega) q2 q3
def JO (B:Nat→Nat→Prop) (D:Nat→Prop):Prop:=∀ j i,D j→B j i→D i
structure Mid (D0:List Deferred×Nat) (G:Nat→Option (List AV)) (B:Nat→Nat→Prop) (A:List zb) (qs:List Nat) (T:Nat→ASt) (N:Nat) (S:Nat→Prop) (ρ0:Rho) (w0:World) (O0:Nat→Prop) (D:Nat→Prop) (a:Act) (w:World) (ρ:Rho) (O:Nat→Prop) (l M:Nat):Prop where
 closed:JO B D
 adv:UF w0 O0 w O
 ext0:Ext ρ0 ρ
 non0:∀ id,id<(T 0).h.length→ρ0 id=none→ρ id=none
 lM:l≤M
 Mn:M≤A.length
 b1:∀ k ao,k<l→A[k]? =some ao→qc qs k ao≠.free→D k
 b2:∀ k ao,l≤k→k<M→A[k]? =some ao→qc qs k ao≠.change
 b3:M=A.length∨∃ ao,A[M]? =some ao∧qc qs M ao=.change
 b4:∀ k ao,M≤k→A[k]? =some ao→qc qs k ao≠.free→¬ D k
 heap:∀ k,l≤k→k≤M→Heap (Wl ρ (T k).h.length) w S O (T k).h
 dom:∀ id,(T M).h.length≤id→ρ id=none
 pend:∀ k,k<A.length→¬ D k→∀ id,(T k).h.length≤id→id<(T (k+1)).h.length→ρ id=none
 slots:∀ i,i≤A.length→∀ s v,look (T i).env s=some v→(∀ k ao,k<i→A[k]? =some ao→ao.dst=some s→D k)→(∀ k ao,i≤k→A[k]? =some ao→ao.dst=some s→¬ D k)→
  ∃ x,a.tmps[s]? =some x∧zB (Wl ρ (T i).h.length) w S O v x
 glob:∀ g cs,G g=some cs→zB ρ w S O (.dptr cs) (.pointer (some ⟨g,0,none⟩))
 kinv:∀ i,i≤A.length→zoH ρ (T i).h
 size:N≤a.tmps.size
 def0:a.defers=D0.1∧a.tmps.size=D0.2
def Rn (B:Nat→Nat→Prop) (A:List zb) (qs:List Nat):Prop:=∀ D,JO B D→∀ (i j:Nat) x y,i<j→A[i]? =some x→A[j]? =some y→UH qs i x j y=true→D j→D i
theorem zi9 {x y:zb} {i j:Nat} (h:qc qs i x=.change) (h':qc qs j y≠.free):UH qs i x j y=true:=by
 unfold qc at h h'
 split at h
 ·cases h
 split at h'
 ·exact absurd rfl h'
 rename_i h1 h2
 have:(y.op.cls != .free)=true:=by simpa using h'
 simp only [UH,if_neg h1,if_neg h2,ztN.clash,h,this]
 simp
theorem zql {x y:zb} {i j:Nat} (h:qc qs j y=.change) (h':qc qs i x≠.free):UH qs i x j y=true:=by
 unfold qc at h h'
 split at h
 ·cases h
 split at h'
 ·exact absurd rfl h'
 rename_i h1 h2
 have:(x.op.cls != .free)=true:=by simpa using h'
 simp only [UH,if_neg h1,if_neg h2,ztN.clash,h,this]
 simp
theorem znA {x y:zb} {i j:Nat} (h:qc qs i x=.change) (hq:qs.contains j=true) (he:y.op.early=true):UH qs i x j y=true:=by
 unfold qc at h
 split at h
 ·cases h
 rename_i h1
 simp only [UH,if_neg h1,if_pos hq,he,h]
 simp
theorem zxD {x y:zb} {i j:Nat} {s:Nat} (h:x.dst=some s) (h':y.dst=some s):UH qs i x j y=true:=by simp [UH,h,h']
theorem zwU {x y:zb} {i j:Nat} {s:Nat} (h:x.dst=some s) (h':s ∈ y.reads):UH qs i x j y=true:=by simp [UH,h,h']
theorem zBc {x y:zb} {i j:Nat} {s:Nat} (h:s ∈ x.reads) (h':y.dst=some s):UH qs i x j y=true:=by simp [UH,h,h']
theorem zvd (k:Good D0 G ρ0 w0 S O0 (T 0).h.length N (T 0).env (T 0).h a w ρ O) (t:Trace G raw A T V) (hu:zia A T qs) (KL:∀ f asx h r,raw f asx h=some r→yg h r.2):∃ M,Mid D0 G B A qs T N S ρ w O (fun _=>False) a w ρ O 0 M:=by
 obtain ⟨M,h1,h2,h3,h4⟩:=He A qs A.length 0 (by omega)
 have hd:∀ id,(T 0).h.length≤id→ρ id=none:=fun id hid=>k.heap.none_ge hid
 have hl:∀ i,i≤A.length→(T 0).h.length≤(T i).h.length:=fun i hi=>by have:=PI KL t i 0 (by omega);simpa using this
 refine ⟨M,fun _ _ h=>h.elim,.refl w O,.refl ρ,fun _ _ h=>h,h1,h2,fun k ao h=>by omega,h3,h4,fun _ _ _ _ _ h=>h,fun i _ hi=> ?_,fun id hid=>hd id (Nat.le_trans (hl M h2) hid),fun i hi _ id hid _=>hd id (Nat.le_trans (hl i (by omega)) hid),fun i hi s v hs c1 _=> ?_,k.rel.glob,fun i hi id g p r hid hr=> ?_,k.size,k.def0⟩
 ·obtain ⟨e,he⟩:=PW t hu i 0 (by omega) fun k ao q1 q2 q3=>h3 k ao q1 (by omega) q3
  rw [Nat.zero_add] at he
  rw [KW fun id hid=>hd id (Nat.le_trans (hl i (by omega)) hid),he]
  exact k.heap.more e
 ·have:=zaH t s i 0 (by omega) fun k ao _ q2 q3 q4=>c1 k ao (by omega) q3 q4
  rw [Nat.zero_add] at this
  rw [this] at hs
  obtain ⟨x,hx,hr⟩:=k.rel.env s v hs
  exact ⟨x,hx,by rw [KW fun id hid=>hd id (Nat.le_trans (hl i hi) hid)];exact hr⟩
 ·obtain ⟨r0,hr0,_,hR⟩:=k.heap.row id g _ hid
  have hk:=Lf KL t i 0 (by omega) id r0 hr0
  rw [Nat.zero_add,hr] at hk
  obtain ⟨y,hy,e⟩:=hk
  cases hy
  exact (zm.k (show zm ρ w S O r0 p from hR)).trans e.symm
variable {i0:Nat} {ao:zb}
theorem zuB (J:Mid D0 G B A qs T N S ρ0 w0 O0 D a w ρ O l M) (hO:Rn B A qs) (ha:A[i0]? =some ao) (hr:∀ i,B i0 i→D i) (hn:¬ D i0) (s:Nat) (hs:s ∈ ao.reads) (v:AV) (hv:look (T i0).env s=some v):
  ∃ x,a.tmps[s]? =some x∧zB (Wl ρ (T i0).h.length) w S O v x:=by
 have hi:i0<A.length:=(List.getElem?_eq_some_iff.1 ha).1
 have hcl:JO B (fun k=>D k∨k=i0):=fun j i hj hb=>by
  rcases hj with hj | rfl
  ·exact .inl (J.closed j i hj hb)
  ·exact .inl (hr i hb)
 refine J.slots i0 (by omega) s v hv (fun k ak hk h1 h2=> ?_) fun k ak hk h1 h2 hd=> ?_
 ·rcases hO _ hcl k i0 ak ao hk h1 ha (zwU h2 hs) (.inr rfl) with h | h
  ·exact h
  ·omega
 ·by_cases e:k=i0
  ·subst e;exact hn hd
  ·exact hn (hO _ J.closed i0 k ao ak (by omega) ha h1 (zBc hs h2) hd)
theorem KX (J:Mid D0 G B A qs T N S ρ0 w0 O0 D a w ρ O l M) (t:Trace G raw A T V) (KL:∀ f asx h r,raw f asx h=some r→yg h r.2) (hO:Rn B A qs) (ha:A[i0]? =some ao) (hn:¬ D i0) (hd:∀ d,ao.dst=some d→d<N) {x:Value} (Aw:UF w O w' O') (E:Ext ρ ρ')
  (hx:zB (Wl ρ' (T (i0+1)).h.length) w' S O' (V i0) x):∀ i,i≤A.length→∀ s v,look (T i).env s=some v→(∀ k ao,k<i→A[k]? =some ao→ao.dst=some s→D k∨k=i0)→(∀ k ao,i≤k→A[k]? =some ao→ao.dst=some s→¬ (D k∨k=i0))→
  ∃ x',(a.put ao.dst x).tmps[s]? =some x'∧zB (Wl ρ' (T i).h.length) w' S O' v x':=by
 intro i hi s v hv c1 c2
 by_cases hs:ao.dst=some s
 ·have hlt:i0<i:=by
   rcases Nat.lt_or_ge i0 i with h | h
   ·exact h
   ·exact absurd (.inr rfl) (c2 i0 ao h ha hs)
  have hlk:=zaH t s (i - (i0+1)) (i0+1) (by omega) fun k ak q1 q2 q3 q4=>by
   rcases c1 k ak (by omega) q3 q4 with h | h
   ·exact hn (hO _ J.closed i0 k ao ak (by omega) ha q3 (zxD hs q4) h)
   ·omega
  rw [show i0+1+(i - (i0+1))=i from by omega,t.env i0 ao ha,hs] at hlk
  rw [hlk] at hv
  simp only [LZ,look,if_true] at hv
  cases hv
  have hsz:=Nat.lt_of_lt_of_le (hd s hs) J.size
  refine ⟨x,by rw [hs];simp [Act.put,hsz],hx.adv (zrq ?_) (.refl w' O')⟩
  have:=PI KL t (i - (i0+1)) (i0+1) (by omega)
  rwa [show i0+1+(i - (i0+1))=i from by omega] at this
 ·obtain ⟨x',h1,h2⟩:=J.slots i hi s v hv (fun k ak q1 q2 q3=>(c1 k ak q1 q2 q3).resolve_right (fun e=>by subst e;rw [ha] at q2;cases q2;exact hs q3)) fun k ak q1 q2 q3 hd=>c2 k ak q1 q2 q3 (.inl hd)
  refine ⟨x', ?_,h2.advX (E.cut _) Aw⟩
  cases e:ao.dst with
  | none=>exact h1
  | some d=>
   rw [e] at hs
   simp only [Act.put]
   rw [Array.getElem?_setIfInBounds_ne (fun e=>hs (by rw [e]))]
   exact h1
theorem SQ (J:Mid D0 G B A qs T N S ρ0 w0 O0 D a w ρ O l M) (hr:∀ i,B i0 i→D i):JO B (fun k=>D k∨k=i0):=fun j i hj hb=>by
 rcases hj with hj | rfl
 ·exact .inl (J.closed j i hj hb)
 ·exact .inl (hr i hb)
theorem znm (J:Mid D0 G B A qs T N S ρ0 w0 O0 D a w ρ O l M) (t:Trace G raw A T V) (KL:∀ f asx h r,raw f asx h=some r→yg h r.2) (hO:Rn B A qs) (ha:A[i0]? =some ao) (hr:∀ i,B i0 i→D i) (hn:¬ D i0) (hd:∀ d,ao.dst=some d→d<N)
  (hc:qc qs i0 ao=.free) {x:Value} (hx:zB (Wl ρ (T i0).h.length) w S O (V i0) x) (hh:(T (i0+1)).h=(T i0).h):Mid D0 G B A qs T N S ρ0 w0 O0 (fun k=>D k∨k=i0) (a.put ao.dst x) w ρ O l M:=
 ⟨SQ J hr,J.adv,J.ext0,J.non0,J.lM,J.Mn,fun k ak h1 h2 h3=>.inl (J.b1 k ak h1 h2 h3),J.b2,J.b3,fun k ak h1 h2 h3 hk=>hk.elim (J.b4 k ak h1 h2 h3) (fun e=>by subst e;rw [ha] at h2;cases h2;exact h3 hc),J.heap,J.dom,
  fun k h1 h2=>J.pend k h1 (fun h=>h2 (.inl h)),KX J t KL hO ha hn hd (.refl w O) (.refl ρ) (by rw [hh];exact hx),J.glob,J.kinv,by rw [size_put];exact J.size,NN J.def0⟩
theorem zq5 (J:Mid D0 G B A qs T N S ρ0 w0 O0 D a w ρ O l M) (t:Trace G raw A T V) (hu:zia A T qs) (KL:∀ f asx h r,raw f asx h=some r→yg h r.2) (hO:Rn B A qs) (ha:A[i0]? =some ao) (hr:∀ i,B i0 i→D i) (hn:¬ D i0) (hd:∀ d,ao.dst=some d→d<N)
  (hc:qc qs i0 ao=.new):(l≤i0∧i0<M)∧∀ {x:Value} {w':World},zk1 (Wl ρ (T i0).h.length) w S O (T i0).h (V i0) (T (i0+1)).h x w'→∃ ρ' O',Mid D0 G B A qs T N S ρ0 w0 O0 (fun k=>D k∨k=i0) (a.put ao.dst x) w' ρ' O' l M:=by
 have hcl:=SQ J hr
 have hi:i0<A.length:=(List.getElem?_eq_some_iff.1 ha).1
 have hnf:qc qs i0 ao≠.free:=by rw [hc];decide
 have hl:l≤i0:=by
  rcases Nat.lt_or_ge i0 l with h | h
  ·exact absurd (J.b1 i0 ao h ha hnf) hn
  ·exact h
 have hM:i0<M:=by
  rcases Nat.lt_or_ge i0 M with h | h
  ·exact h
  ·rcases J.b3 with e | ⟨am,h1,h2⟩
   ·omega
   ·by_cases e:i0=M
    ·subst e;rw [ha] at h1;cases h1;rw [hc] at h2;cases h2
    ·rcases hO _ hcl M i0 am ao (by omega) h1 ha (zi9 h2 hnf) (.inr rfl) with h | h
     ·exact absurd h (J.b4 M am (Nat.le_refl _) h1 (by rw [h2];decide))
     ·omega
 refine ⟨⟨hl,hM⟩,fun {x w'} hres=> ?_⟩
 obtain ⟨ρ1,O',Aw,keep,exact',fresh,H1,hv,non1,⟨e1,he1⟩⟩:=hres
 have len1:(T i0).h.length≤(T (i0+1)).h.length:=by rw [he1];simp
 have lenle:∀ i j,i≤j→j≤A.length→(T i).h.length≤(T j).h.length:=fun i j hij hj=>by
  have:=PI KL t (j - i) i (by omega)
  rwa [show i+(j - i)=j from by omega] at this
 have pend0:∀ id,(T i0).h.length≤id→id<(T (i0+1)).h.length→ρ id=none:=J.pend i0 hi hn
 obtain ⟨ρ',hρ'⟩:∃ ρ':Rho,ρ'=fun id=>if id<(T i0).h.length then ρ id else if id<(T (i0+1)).h.length then ρ1 id else ρ id:=⟨_,rfl⟩
 have p1:∀ id,id<(T i0).h.length→ρ' id=ρ id:=fun id h=>by rw [hρ'];simp [h]
 have p2:∀ id,(T i0).h.length≤id→id<(T (i0+1)).h.length→ρ' id=ρ1 id:=fun id h h'=>by rw [hρ'];simp [Nat.not_lt.2 h,h']
 have p3:∀ id,(T (i0+1)).h.length≤id→ρ' id=ρ id:=fun id h=>by rw [hρ'];simp [Nat.not_lt.2 h,Nat.not_lt.2 (Nat.le_trans len1 h)]
 have f1:Wl ρ' (T (i0+1)).h.length=ρ1:=by
  funext id
  rcases Nat.lt_or_ge id (T (i0+1)).h.length with h | h
  ·rw [VX h]
   rcases Nat.lt_or_ge id (T i0).h.length with h' | h'
   ·rw [p1 id h']
    cases hy:ρ id with
    | none=>exact (non1 id h' (by rw [VX h'];exact hy)).symm
    | some y=>exact (exact' id y (by rw [VX h'];exact hy)).symm
   ·exact p2 id h' h
  ·rw [zk8 h];exact (H1.none_ge h).symm
 have f2:∀ k,k≤i0→Wl ρ' (T k).h.length=Wl ρ (T k).h.length:=fun k hk=>by
  funext id
  rcases Nat.lt_or_ge id (T k).h.length with h | h
  ·rw [VX h,VX h]
   exact p1 id (Nat.lt_of_lt_of_le h (lenle k i0 hk (by omega)))
  ·rw [zk8 h,zk8 h]
 have f3:∀ id y,ρ id=some y→ρ' id=some y:=fun id y hy=>by
  rcases Nat.lt_or_ge id (T i0).h.length with h | h
  ·rw [p1 id h];exact hy
  ·rcases Nat.lt_or_ge id (T (i0+1)).h.length with h' | h'
   ·rw [pend0 id h h'] at hy;cases hy
   ·rw [p3 id h'];exact hy
 have E:Ext ρ ρ':=fun id g pl hid=>⟨g,pl,f3 id _ hid,Nat.le_refl _,fun _=>rfl⟩
 have bd':∀ b,O' b→b<w'.heap.size:=fun b hb=>H1.bd b (.inr hb)
 refine ⟨ρ',O',hcl,J.adv.trans Aw.x,J.ext0.trans E,fun id h1 h2=>by rw [p1 id (Nat.lt_of_lt_of_le h1 (lenle 0 i0 (by omega) (by omega)))];exact J.non0 id h1 h2,J.lM,J.Mn,fun k ak h1 h2 h3=>.inl (J.b1 k ak h1 h2 h3),J.b2,J.b3,
  fun k ak h1 h2 h3 hk=>hk.elim (J.b4 k ak h1 h2 h3) (fun e=>by omega),fun k hk1 hk2=> ?_,fun id hid=> ?_,fun k hk1 hk2 id h1 h2=> ?_,KX J t KL hO ha hn hd Aw.x E (by rw [f1];exact hv),fun g cs hg=>(J.glob g cs hg).adv E Aw,fun i hi id g p r hid hr=> ?_,by rw [size_put];exact J.size,NN J.def0⟩
 ·have HJ:=J.heap k hk1 hk2
  have blk:∀ {id g:Nat} {pl:Option Pl},Wl ρ (T k).h.length id=some (g,pl)→∀ p,pl=some p→w'.heap[p.b]? =w.heap[p.b]? :=fun {id g pl} hid p hp=>by
   subst hp
   obtain ⟨r,_,_,hR⟩:=HJ.row id g _ hid
   exact keep _ (zm.lt (show zm _ w S O r p from hR))
  rcases Nat.lt_or_ge i0 k with hik | hik
  ·obtain ⟨e2,he2⟩:=PW t hu (k - (i0+1)) (i0+1) (by have:=J.Mn;omega) fun j aj q1 q2 q3=>J.b2 j aj (by omega) (by omega) q3
   rw [show i0+1+(k - (i0+1))=k from by omega] at he2
   have split:∀ {id g:Nat} {pl:Option Pl},Wl ρ' (T k).h.length id=some (g,pl)→Wl ρ (T k).h.length id=some (g,pl)∨((T i0).h.length≤id∧ρ1 id=some (g,pl)):=fun {id g pl} hid=>by
    obtain ⟨q1,q2⟩:=SV hid
    rcases Nat.lt_or_ge id (T i0).h.length with h | h
    ·left;rw [VX q1,← p1 id h];exact q2
    ·rcases Nat.lt_or_ge id (T (i0+1)).h.length with h' | h'
     ·right;exact ⟨h,by rw [← p2 id h h'];exact q2⟩
     ·left;rw [VX q1,← p3 id h'];exact q2
   have newb:∀ {id g:Nat} {p:Pl},(T i0).h.length≤id→ρ1 id=some (g,some p)→w.heap.size≤p.b:=fun {id g p} hid h1=>by
    rcases fresh id g p h1 with h | h
    ·have:=(SV h).1;omega
    ·exact h
   have oldb:∀ {id g:Nat} {p:Pl},Wl ρ (T k).h.length id=some (g,some p)→p.b<w.heap.size:=fun {id g p} h1=>by
    obtain ⟨r,_,_,hR⟩:=HJ.row id g _ h1
    exact zm.lt (show zm _ w S O r p from hR)
   refine HJ.step (E.cut _) Aw bd' (fun id g pl hid=> ?_) (fun id id' g g' p p' h1 h2 hb=> ?_)
   ·rcases split hid with h | ⟨h,h'⟩
    ·exact .inl ⟨h,rfl,blk h⟩
    ·obtain ⟨r,q1,q2,q3⟩:=H1.row id g pl h'
     refine .inr ⟨r,by rw [he2,List.getElem?_append_left (H1.lt h')];exact q1,q2, ?_⟩
     cases pl with
     | none=>exact q3
     | some p=>exact zm.adv (show zm ρ1 w' S O' r p from q3) (by rw [← f1];exact zrq (lenle _ _ (by omega) (by have:=J.Mn;omega))) (.refl w' O') rfl
   ·rcases split h1 with h1 | ⟨l1,h1⟩<;>rcases split h2 with h2 | ⟨l2,h2⟩
    ·exact HJ.inj id id' g g' p p' h1 h2 hb
    ·have:=oldb h1;have:=newb l2 h2;omega
    ·have:=oldb h2;have:=newb l1 h1;omega
    ·exact H1.inj id id' g g' p p' h1 h2 hb
  ·rw [f2 k hik]
   exact HJ.step (.refl _) Aw bd' (fun id g pl hid=>.inl ⟨hid,rfl,blk hid⟩) HJ.inj
 ·rw [p3 id (Nat.le_trans (lenle (i0+1) M hM J.Mn) hid)];exact J.dom id hid
 ·have hne:k≠i0:=fun e=>hk2 (.inr e)
  have hnd:¬ D k:=fun h=>hk2 (.inl h)
  rcases Nat.lt_or_ge k i0 with h | h
  ·rw [p1 id (Nat.lt_of_lt_of_le h2 (lenle (k+1) i0 h (by omega)))];exact J.pend k hk1 hnd id h1 h2
  ·rw [p3 id (Nat.le_trans (lenle (i0+1) k (by omega) (by omega)) h1)];exact J.pend k hk1 hnd id h1 h2
 ·rcases Nat.lt_or_ge id (T i0).h.length with h | h
  ·rw [p1 id h] at hid;exact J.kinv i hi id g p r hid hr
  ·rcases Nat.lt_or_ge id (T (i0+1)).h.length with h' | h'
   ·rw [p2 id h h'] at hid
    obtain ⟨r1,q1,_,q3⟩:=H1.row id g _ hid
    have hlt:=(List.getElem?_eq_some_iff.1 hr).1
    have hii:i0+1≤i:=by
     rcases Nat.lt_or_ge i0 i with h2 | h2
     ·exact h2
     ·have:=lenle i i0 h2 (by omega);omega
    have hk:=Lf KL t (i - (i0+1)) (i0+1) (by omega) id r1 q1
    rw [show i0+1+(i - (i0+1))=i from by omega,hr] at hk
    obtain ⟨y,hy,e⟩:=hk
    cases hy
    exact (zm.k (show zm ρ1 w' S O' r1 p from q3)).trans e.symm
   ·rw [p3 id h'] at hid;exact J.kinv i hi id g p r hid hr
theorem zgG (J:Mid D0 G B A qs T N S ρ0 w0 O0 D a w ρ O l M) (t:Trace G raw A T V) (hu:zia A T qs) (KL:∀ f asx h r,raw f asx h=some r→yg h r.2) (hO:Rn B A qs) (ha:A[i0]? =some ao) (hr:∀ i,B i0 i→D i) (hn:¬ D i0) (hd:∀ d,ao.dst=some d→d<N)
  (hc:qc qs i0 ao=.change):(i0=M∧Heap ρ w S O (T i0).h∧Wl ρ (T i0).h.length=ρ)∧∀ {x:Value} {w':World},Fw ρ w S O (T i0).h (V i0) (T (i0+1)).h x w'→∃ ρ' O' l' M',Mid D0 G B A qs T N S ρ0 w0 O0 (fun k=>D k∨k=i0) (a.put ao.dst x) w' ρ' O' l' M':=by
 have hcl:=SQ J hr
 have hi:i0<A.length:=(List.getElem?_eq_some_iff.1 ha).1
 have hnf:qc qs i0 ao≠.free:=by rw [hc];decide
 have hiM:i0=M:=by
  rcases Nat.lt_or_ge i0 l with h | h
  ·exact absurd (J.b1 i0 ao h ha hnf) hn
  rcases Nat.lt_or_ge i0 M with h' | h'
  ·exact absurd hc (J.b2 i0 ao h h' ha)
  rcases J.b3 with e | ⟨am,h1,h2⟩
  ·omega
  by_cases e:i0=M
  ·exact e
  ·rcases hO _ hcl M i0 am ao (by omega) h1 ha (zi9 h2 hnf) (.inr rfl) with h | h
   ·exact absurd h (J.b4 M am (Nat.le_refl _) h1 (by rw [h2];decide))
   ·omega
 subst hiM
 have hcut:Wl ρ (T i0).h.length=ρ:=KW J.dom
 have HM:Heap ρ w S O (T i0).h:=by have:=J.heap i0 J.lM (Nat.le_refl _);rwa [hcut] at this
 refine ⟨⟨rfl,HM,hcut⟩,fun {x w'} hres=> ?_⟩
 obtain ⟨ρ',O',Aw,E,H1,hv,non1⟩:=hres
 have lenle:∀ i j,i≤j→j≤A.length→(T i).h.length≤(T j).h.length:=fun i j hij hj=>by
  have:=PI KL t (j - i) i (by omega)
  rwa [show i+(j - i)=j from by omega] at this
 obtain ⟨M',m1,m2,m3,m4⟩:=He A qs (A.length - (i0+1)) (i0+1) (by omega)
 have dom1:∀ id,(T (i0+1)).h.length≤id→ρ' id=none:=fun id hid=>H1.none_ge hid
 have cut1:∀ k,i0+1≤k→k≤A.length→Wl ρ' (T k).h.length=ρ':=fun k hk hk'=>KW fun id hid=>dom1 id (Nat.le_trans (lenle _ _ hk hk') hid)
 have done:∀ k ak,k<i0→A[k]? =some ak→qc qs k ak≠.free→D k:=fun k ak hk h1 h2=>by
  rcases hO _ hcl k i0 ak ao hk h1 ha (zql hc h2) (.inr rfl) with h | h
  ·exact h
  ·omega
 refine ⟨ρ',O',i0+1,M',hcl,J.adv.trans Aw,J.ext0.trans E,fun id h1 h2=>non1 id (Nat.lt_of_lt_of_le h1 (lenle 0 i0 (by omega) (by omega))) (J.non0 id h1 h2),m1,m2,fun k ak h1 h2 h3=> ?_,m3,m4,fun k ak h1 h2 h3 hk=> ?_,fun k hk1 hk2=> ?_,fun id hid=>dom1 id (Nat.le_trans (lenle _ _ m1 m2) hid),
  fun k hk1 hk2 id h1 h2=> ?_,KX J t KL hO ha hn hd Aw E (by rw [cut1 (i0+1) (Nat.le_refl _) hi];exact hv),fun g cs hg=>(J.glob g cs hg).advX E Aw,fun i hi' id g p r hid hr=> ?_,by rw [size_put];exact J.size,NN J.def0⟩
 ·by_cases e:k=i0
  ·exact .inr e
  ·exact .inl (done k ak (by omega) h2 h3)
 ·rcases hk with hk | hk
  ·exact J.b4 k ak (by omega) h2 h3 hk
  ·omega
 ·obtain ⟨e2,he2⟩:=PW t hu (k - (i0+1)) (i0+1) (by omega) fun j aj q1 q2 q3=>m3 j aj (by omega) (by omega) q3
  rw [show i0+1+(k - (i0+1))=k from by omega] at he2
  rw [cut1 k hk1 (by omega),he2]
  exact H1.more e2
 ·have hne:k≠i0:=fun e=>hk2 (.inr e)
  have hnd:¬ D k:=fun h=>hk2 (.inl h)
  rcases Nat.lt_or_ge k i0 with h | h
  ·exact non1 id (Nat.lt_of_lt_of_le h2 (lenle (k+1) i0 h (by omega))) (J.pend k hk1 hnd id h1 h2)
  ·exact dom1 id (Nat.le_trans (lenle _ _ (by omega) (by omega)) h1)
 ·obtain ⟨r1,q1,_,q3⟩:=H1.row id g _ hid
  have hp:=zm.k (show zm ρ' w' S O' r1 p from q3)
  rcases Nat.lt_or_ge i0 i with h2 | h2
  ·have hk:=Lf KL t (i - (i0+1)) (i0+1) (by omega) id r1 q1
   rw [show i0+1+(i - (i0+1))=i from by omega,hr] at hk
   obtain ⟨y,hy,e⟩:=hk
   cases hy
   exact hp.trans e.symm
  ·have hk:=Lf KL t (i0+1 - i) i (by omega) id r hr
   rw [show i+(i0+1 - i)=i0+1 from by omega,q1] at hk
   obtain ⟨y,hy,e⟩:=hk
   cases hy
   exact hp.trans e
theorem zBM {n:Nat} {v:AV} {x:Value} (h:zB ρ w S O v x) (hi:∀ i ∈ v.ids,i<n):zB (Wl ρ n) w S O v x:=by
 have idsL_mem:∀ {cs:List AV} {i:Nat} {c:AV},cs[i]? =some c→∀ k ∈ c.ids,k ∈ AV.idsL cs:=by
  intro cs
  induction cs with
  | nil=>intro i c h;simp at h
  | cons y cs ih=>
   intro i c h k hk
   rw [AV.idsL]
   cases i with
   | zero=>simp at h;subst h;exact List.mem_append_left _ hk
   | succ i=>exact List.mem_append_right _ (ih (by simpa using h) k hk)
 induction h with
 | s h=>exact .s h
 | agg cs vs hl h1 _ ih=>exact .agg cs vs hl h1 fun i c v hc hv=>ih i c v hc hv fun k hk=>hi k (by rw [AV.ids];exact idsL_mem hc k hk)
 | tup cs vs hl _ ih=>exact .tup cs vs hl fun i c v hc hv=>ih i c v hc hv fun k hk=>hi k (by rw [AV.ids];exact idsL_mem hc k hk)
 | fn f asx bs xs ys h1 h2 _ _ ih1 ih2=>
  exact .fn f asx bs xs ys h1 h2 (fun i c v hc hv=>ih1 i c v hc hv fun k hk=>hi k (by rw [AV.ids];exact List.mem_append_left _ (idsL_mem hc k hk)))
   (fun i c v hc hv=>ih2 i c v hc hv fun k hk=>hi k (by rw [AV.ids];exact List.mem_append_right _ (idsL_mem hc k hk)))
 | bor0 k full a cap h=>exact .bor0 k full a cap h
 | bor k es full b off cap val h1 h2 h3 h4 h5 h6 h7=>exact .bor k es full b off cap val h1 h2 h3 h4 h5 h6 h7
 | dptr cs b off val h1 h2 h3 h4=>exact .dptr cs b off val h1 h2 h3 h4
 | own id g g' pl s l c a cap h1 h2 h3 h4 h5 h6=>exact .own id g g' pl s l c a cap (by rw [VX (hi id (by simp [AV.ids]))];exact h1) h2 h3 h4 h5 h6
 | ptr id g g' pl e off a h1 h2 h3=>exact .ptr id g g' pl e off a (by rw [VX (hi id (by simp [AV.ids]))];exact h1) h2 h3
 | unk x=>exact .unk x
theorem zvE (J:Mid D0 G B A qs T N S ρ0 w0 O0 D a w ρ O l M) (t:Trace G raw A T V) (KL:∀ f asx h r,raw f asx h=some r→yg h r.2) (hO:Rn B A qs) (ha:A[i0]? =some ao) (hr:∀ i,B i0 i→D i) (hn:¬ D i0) (hd:∀ d,ao.dst=some d→d<N)
  (hc:qc qs i0 ao=.free) (hh:(T (i0+1)).h=(T i0).h) (hids:∀ i ∈ (V i0).ids,i<(T i0).h.length) {x:Value} {w':World} (hres:zk1 ρ w S O (T M).h (V i0) (T M).h x w'):∃ O',Mid D0 G B A qs T N S ρ0 w0 O0 (fun k=>D k∨k=i0) (a.put ao.dst x) w' ρ O' l M:=by
 obtain ⟨ρ1,O',Aw,keep,exact',fresh,H1,hv,non1,_⟩:=hres
 have hρ:ρ1=ρ:=by
  funext id
  rcases Nat.lt_or_ge id (T M).h.length with h | h
  ·cases hy:ρ id with
   | none=>exact non1 id h hy
   | some y=>exact exact' id y hy
  ·rw [H1.none_ge h,J.dom id h]
 subst hρ
 have bd':∀ b,O' b→b<w'.heap.size:=fun b hb=>H1.bd b (.inr hb)
 refine ⟨O',SQ J hr,J.adv.trans Aw.x,J.ext0,J.non0,J.lM,J.Mn,fun k ak h1 h2 h3=>.inl (J.b1 k ak h1 h2 h3),J.b2,J.b3,fun k ak h1 h2 h3 hk=>hk.elim (J.b4 k ak h1 h2 h3) (fun e=>by subst e;rw [ha] at h2;cases h2;exact h3 hc),fun k hk1 hk2=> ?_,J.dom,
  fun k h1 h2=>J.pend k h1 (fun h=>h2 (.inl h)),KX J t KL hO ha hn hd Aw.x (.refl ρ1) (by rw [hh];exact zBM hv hids),fun g cs hg=>(J.glob g cs hg).adv (.refl ρ1) Aw,J.kinv,by rw [size_put];exact J.size,NN J.def0⟩
 have HJ:=J.heap k hk1 hk2
 exact HJ.step (.refl _) Aw bd' (fun id g pl hid=>.inl ⟨hid,rfl,fun p hp=>by
  subst hp
  obtain ⟨r,_,_,hR⟩:=HJ.row id g _ hid
  exact keep _ (zm.lt (show zm _ w S O r p from hR))⟩) HJ.inj
theorem zm.flat_any {ρ2:Rho} {r:zf} {p:Pl} (h:zm ρ w S O r p) (hf:r.flat=true):zm ρ2 w S O r p:=by
 obtain ⟨h1,h2,h3,h4,arr,ty,lo,hi,q1,q2,q3,q4⟩:=h
 refine ⟨h1,h2,h3,h4,arr,ty,lo,hi,q1,q2,q3,fun e j g c hg hc=> ?_⟩
 obtain ⟨x,x1,x2,_,x4⟩:=q4 e j g c hg hc
 exact ⟨x,x1,x2,.s (x4 hf),x4⟩
theorem zo2 {env:yF} {h h':List zf} {v:AV} {op:AOp} (he:op.early=true) (hx:zx G raw env h op=some (v,h')):
  ∃ row,h'=h++[row]∧row.gen=0∧∃ mk:Nat→AV,v=mk h.length∧(∀ hm,zx G raw env hm op=some (mk hm.length,hm++[row]))∧((∃ n,mk=fun i=>.own i 0 0 n n)∨mk=fun i=>.ptr i 0 0 0):=by
 cases op<;>simp only [AOp.early,Bool.false_eq_true] at he
 case mkslice k n z ps=>
  obtain ⟨u,hu,hx⟩:=za.1 hx
  obtain ⟨cs,hcs,e⟩:=ze.1 hx
  cases e
  exact ⟨_,rfl,rfl,fun i=>.own i 0 0 n n,rfl,fun hm=>za.2 ⟨u,hu,ze.2 ⟨cs,hcs,rfl⟩⟩,.inl ⟨n,rfl⟩⟩
 case alloc z=>
  cases hx
  exact ⟨_,rfl,rfl,fun i=>.ptr i 0 0 0,rfl,fun hm=>rfl,.inr rfl⟩
theorem zvH (J:Mid D0 G B A qs T N S ρ0 w0 O0 D a w ρ O l M) (t:Trace G raw A T V) (hu:zia A T qs) (KL:∀ f asx h r,raw f asx h=some r→yg h r.2) (hO:Rn B A qs) (ha:A[i0]? =some ao) (hr:∀ i,B i0 i→D i) (hn:¬ D i0) (hd:∀ d,ao.dst=some d→d<N)
  (hc:qc qs i0 ao=.free) (hiM:i0<M) {row:zf} (hrow:(T (i0+1)).h=(T i0).h++[row]) (hgen:row.gen=0) (hfl:row.flat=true) (hm:(T M).h[(T i0).h.length]? =some row) {mk:Nat→AV} (hmk:(∃ n,mk=fun i=>.own i 0 0 n n)∨mk=fun i=>.ptr i 0 0 0) (hV:V i0=mk (T i0).h.length)
  {x:Value} {w':World} (hres:zk1 ρ w S O (T M).h (mk (T M).h.length) ((T M).h++[row]) x w'):∃ ρ' O',Mid D0 G B A qs T N S ρ0 w0 O0 (fun k=>D k∨k=i0) (a.put ao.dst x) w' ρ' O' l M:=by
 have hi:i0<A.length:=(List.getElem?_eq_some_iff.1 ha).1
 obtain ⟨ρ1,O',Aw,keep,exact',fresh,H1,hv,non1,_⟩:=hres
 have lenle:∀ i j,i≤j→j≤A.length→(T i).h.length≤(T j).h.length:=fun i j hij hj=>by
  have:=PI KL t (j - i) i (by omega)
  rwa [show i+(j - i)=j from by omega] at this
 have len1:(T (i0+1)).h.length=(T i0).h.length+1:=by rw [hrow];simp
 have lenM:(T i0).h.length+1≤(T M).h.length:=by rw [← len1];exact lenle _ _ hiM J.Mn
 have pend0:ρ (T i0).h.length=none:=J.pend i0 hi hn _ (Nat.le_refl _) (by omega)
 obtain ⟨pl,hpl⟩:∃ pl,ρ1 (T M).h.length=some (0,pl):=by
  have:∃ g pl,ρ1 (T M).h.length=some (g,pl):=by
   rcases hmk with ⟨n,rfl⟩ | rfl
   ·cases hv with
    | s h=>cases h
    | own _ _ g' pl _ _ _ _ _ h1=>exact ⟨_,_,h1⟩
   ·cases hv with
    | s h=>cases h
    | ptr _ _ g' pl _ _ _ h1=>exact ⟨_,_,h1⟩
  obtain ⟨g,pl,hg⟩:=this
  obtain ⟨r,q1,q2,_⟩:=H1.row _ g pl hg
  rw [List.getElem?_append_right (Nat.le_refl _),Nat.sub_self] at q1
  simp at q1
  subst q1
  rw [hgen] at q2
  subst q2
  exact ⟨pl,hg⟩
 obtain ⟨r,q1,q2,hRow⟩:=H1.row _ _ _ hpl
 rw [List.getElem?_append_right (Nat.le_refl _),Nat.sub_self] at q1
 simp at q1
 subst q1
 have hρ:∀ id,id≠(T M).h.length→ρ1 id=ρ id:=fun id hid=>by
  rcases Nat.lt_or_ge id (T M).h.length with h | h
  ·cases hy:ρ id with
   | none=>exact non1 id h hy
   | some y=>exact exact' id y hy
  ·rw [H1.none_ge (by simp;omega),J.dom id h]
 obtain ⟨ρ',hρ'⟩:∃ ρ':Rho,ρ'=fun id=>if id=(T i0).h.length then some (0,pl) else ρ id:=⟨_,rfl⟩
 have p1:ρ' (T i0).h.length=some (0,pl):=by rw [hρ'];simp
 have p2:∀ id,id≠(T i0).h.length→ρ' id=ρ id:=fun id h=>by rw [hρ'];simp [h]
 have E:Ext ρ ρ':=fun id g pl' hid=>⟨g,pl',by rw [p2 id (fun e=>by rw [e,pend0] at hid;cases hid)];exact hid,Nat.le_refl _,fun _=>rfl⟩
 have bd':∀ b,O' b→b<w'.heap.size:=fun b hb=>H1.bd b (.inr hb)
 have newb:∀ p,pl=some p→w.heap.size≤p.b:=fun p hp=>by
  subst hp
  rcases fresh _ _ p hpl with h | h
  ·rw [J.dom _ (Nat.le_refl _)] at h;cases h
  ·exact h
 have rowAny:∀ ρ2,zbQ ρ2 w' S O' row pl:=fun ρ2=>by
  cases pl with
  | none=>exact hRow
  | some p=>exact zm.flat_any (show zm ρ1 w' S O' row p from hRow) hfl
 have hx:zB (Wl ρ' (T (i0+1)).h.length) w' S O' (V i0) x:=by
  have hc1:Wl ρ' (T (i0+1)).h.length (T i0).h.length=some (0,pl):=by rw [VX (by omega)];exact p1
  rw [hV]
  rcases hmk with ⟨n,rfl⟩ | rfl
  ·cases hv with
   | s h=>cases h
   | own _ _ g' pl' _ _ _ a0 cap h1 h2 h3 h4 h5 h6=>
    rw [hpl] at h1
    cases h1
    exact .own _ 0 0 pl 0 n n a0 cap hc1 (Nat.le_refl _) h3 h4 h5 h6
  ·cases hv with
   | s h=>cases h
   | ptr _ _ g' pl' _ _ a0 h1 h2 h3=>
    rw [hpl] at h1
    cases h1
    exact .ptr _ 0 0 pl 0 0 a0 hc1 (Nat.le_refl _) h3
 refine ⟨ρ',O',SQ J hr,J.adv.trans Aw.x,J.ext0.trans E,fun id h1 h2=>by rw [p2 id (by have:=lenle 0 i0 (by omega) (by omega);omega)];exact J.non0 id h1 h2,J.lM,J.Mn,fun k ak h1 h2 h3=>.inl (J.b1 k ak h1 h2 h3),J.b2,J.b3,fun k ak h1 h2 h3 hk=>hk.elim (J.b4 k ak h1 h2 h3) (fun e=>by subst e;rw [ha] at h2;cases h2;exact h3 hc),
  fun k hk1 hk2=> ?_,fun id hid=>by rw [p2 id (by omega)];exact J.dom id hid,fun k hk1 hk2 id h1 h2=> ?_,KX J t KL hO ha hn hd Aw.x E hx,fun g cs hg=>(J.glob g cs hg).adv E Aw,fun i hi' id g p r hid hr'=> ?_,by rw [size_put];exact J.size,NN J.def0⟩
 ·have HJ:=J.heap k hk1 hk2
  have oldb:∀ {id g:Nat} {p:Pl},Wl ρ (T k).h.length id=some (g,some p)→p.b<w.heap.size:=fun {id g p} h1=>by
   obtain ⟨r,_,_,hR⟩:=HJ.row id g _ h1
   exact zm.lt (show zm _ w S O r p from hR)
  have split:∀ {id g:Nat} {pl':Option Pl},Wl ρ' (T k).h.length id=some (g,pl')→Wl ρ (T k).h.length id=some (g,pl')∨(id=(T i0).h.length∧g=0∧pl'=pl∧id<(T k).h.length):=fun {id g pl'} hid=>by
   obtain ⟨u1,u2⟩:=SV hid
   by_cases e:id=(T i0).h.length
   ·subst e
    rw [p1] at u2
    cases u2
    exact .inr ⟨rfl,rfl,rfl,u1⟩
   ·left;rw [VX u1,← p2 id e];exact u2
  refine HJ.step (E.cut _) Aw bd' (fun id g pl' hid=> ?_) (fun id id' g g' p p' h1 h2 hb=> ?_)
  ·rcases split hid with h | ⟨rfl,rfl,rfl,h⟩
   ·exact .inl ⟨h,rfl,fun p hp=>by subst hp;obtain ⟨r,_,_,hR⟩:=HJ.row id g _ h;exact keep _ (zm.lt (show zm _ w S O r p from hR))⟩
   ·obtain ⟨e2,he2⟩:=PW t hu (M - k) k (by have:=J.Mn;omega) fun j aj q1 q2 q3=>J.b2 j aj (by omega) (by omega) q3
    rw [show k+(M - k)=M from by omega] at he2
    rw [he2,List.getElem?_append_left h] at hm
    exact .inr ⟨row,hm,hgen,rowAny _⟩
  ·rcases split h1 with h1 | ⟨e1,_,r1,_⟩<;>rcases split h2 with h2 | ⟨e2,_,r2,_⟩
   ·exact HJ.inj id id' g g' p p' h1 h2 hb
   ·have:=oldb h1;have:=newb p' r2.symm;omega
   ·have:=oldb h2;have:=newb p r1.symm;omega
   ·omega
 ·have hne:k≠i0:=fun e=>hk2 (.inr e)
  have hnd:¬ D k:=fun h=>hk2 (.inl h)
  rw [p2 id (by
   rcases Nat.lt_or_ge k i0 with h | h
   ·have:=lenle (k+1) i0 h (by omega);omega
   ·have:=lenle (i0+1) k (by omega) (by omega);omega)]
  exact J.pend k hk1 hnd id h1 h2
 ·by_cases e:id=(T i0).h.length
  ·subst e
   rw [p1] at hid
   cases hid
   have hlt:=(List.getElem?_eq_some_iff.1 hr').1
   have hii:i0+1≤i:=by
    rcases Nat.lt_or_ge i0 i with h2 | h2
    ·exact h2
    ·have:=lenle i i0 h2 (by omega);omega
   have hk:=Lf KL t (i - (i0+1)) (i0+1) (by omega) (T i0).h.length row (by rw [hrow,List.getElem?_append_right (Nat.le_refl _),Nat.sub_self];rfl)
   rw [show i0+1+(i - (i0+1))=i from by omega,hr'] at hk
   obtain ⟨y,hy,e⟩:=hk
   cases hy
   exact (zm.k (show zm ρ1 w' S O' row p from hRow)).trans e.symm
  ·rw [p2 id e] at hid
   exact J.kinv i hi' id g p r hid hr'
end
end Go.Proofs.YthcnhibjddomdaaGreat
namespace Go.Proofs.YthcnhibjddomdaaGreat
open Go Go.RowKit
variable [FrB]
section
variable {D0:List Deferred×Nat} {P:Program} {G:Nat→Option (List AV)} {raw:uE} {ρ0 ρ ρ':Rho} {w0 w w':World} {S O0 O O':Nat→Prop} {a:Act} {ops:Array Oper} {B:Nat→Nat→Prop} {A:List zb} {T:Nat→ASt} {V:Nat→AV} {N:Nat} {D:Nat→Prop} {l M:Nat} {qs:List Nat}
theorem zfo {ao:zb} {env env':yF} (hs:∀ s ∈ ao.reads,look env' s=look env s):goes ao env'=goes ao env:=by
 unfold goes
 cases hg:ao.guard with
 | none=>rfl
 | some g=>
  obtain ⟨s,wt⟩:=g
  simp only
  rw [hs s (by simp [zb.reads,hg])]
theorem zzN {D':Nat→Prop} (hD:∀ k,D k↔D' k) (J:Mid D0 G B A qs T N S ρ0 w0 O0 D a w ρ O l M):Mid D0 G B A qs T N S ρ0 w0 O0 D' a w ρ O l M:=by
 have:D=D':=funext fun k=>propext (hD k)
 rw [← this];exact J
def zzr (D0:List Deferred×Nat) (G:Nat→Option (List AV)) (B:Nat→Nat→Prop) (A:List zb) (qs:List Nat) (T:Nat→ASt) (N:Nat) (S:Nat→Prop) (ρ0:Rho) (w0:World) (O0:Nat→Prop) (D:Nat→Prop) (a:Act) (w:World):Prop:=∃ ρ O l M,Mid D0 G B A qs T N S ρ0 w0 O0 D a w ρ O l M
def zbS (G:Nat→Option (List AV)) (raw:uE) (B:Nat→Nat→Prop) (A:List zb) (qs:List Nat) (T:Nat→ASt) (V:Nat→AV):Prop:=∀ i0 ao,A[i0]? =some ao→qs.contains i0=true→ao.op.cls=.new∧(goes ao (T i0).env=some true→
 ∀ D M,JO B D→(∀ i,B i0 i→D i)→¬ D i0→M≤A.length→(M=A.length∨∃ am,A[M]? =some am∧qc qs M am=.change∧¬ D M)→(∀ k ak,k<M→A[k]? =some ak→qc qs k ak=.change→D k)→
  (ao.op.early=false→(T (i0+1)).h=(T i0).h∧(∀ i ∈ (V i0).ids,i<(T i0).h.length)∧zx G raw (T i0).env (T M).h ao.op=some (V i0,(T M).h))∧
  (ao.op.early=true→∃ row,(T (i0+1)).h[(T i0).h.length]? =some row∧row.flat=true∧(T M).h[(T i0).h.length]? =some row))
theorem mid_step {i0:Nat} {ao:zb} {o:Oper} {next:Act→World→Prop} {Q:Exit→Act→World→Prop} (J:zzr D0 G B A qs T N S ρ0 w0 O0 D a w) (t:Trace G raw A T V) (hu:zia A T qs) (hQ:zbS G raw B A qs T V) (K:WW P G raw) (KL:∀ f asx h r,raw f asx h=some r→yg h r.2) (hO:Rn B A qs)
  (ha:A[i0]? =some ao) (hchk:Ri P ops o ao=true) (hr:∀ i,B i0 i→D i) (hn:¬ D i0) (hd:∀ d,o.dst=some d→d<N)
  (hnext:∀ a' w',zzr D0 G B A qs T N S ρ0 w0 O0 (fun k=>D k∨k=i0) a' w'→next a' w'):
  if Region.wanted o (yielded ops a.tmps) then o.wp P a w next Q∨(o.asks P a w∧LetsOut Q) else next (a.put o.dst undef) w:=by
 obtain ⟨ρ,O,l,M,J⟩:=J
 obtain ⟨h1,h2,_⟩:=LP hchk
 rw [h1] at hd
 have rd:=zuB J hO ha hr hn
 have R:Rel G (Wl ρ (T i0).h.length) w S O (uy ao.reads (T i0).env) a:=⟨fun s v hs=>(by
  rw [PV] at hs
  split at hs
  ·rename_i hm;exact rd s hm v hs
  ·cases hs),fun g cs hg=>zxW (J.glob g cs hg)⟩
 have lk:∀ s ∈ ao.reads,look (uy ao.reads (T i0).env) s=look (T i0).env s:=fun s hs=>by rw [PV,if_pos hs]
 obtain ⟨b,hb,hrun⟩:=t.run i0 ao ha
 rw [← zfo lk] at hb
 rw [zjU hchk (fun s wt _ v hv=>R.env s v hv) hb]
 rcases hrun with ⟨rfl,hx⟩ | ⟨rfl,hV,hh⟩
 ·simp only [if_true]
  rw [← zfE (env':=uy ao.reads (T i0).env) (fun s hs=>lk s (by simp [zb.reads,hs]))] at hx
  refine .inl ?_
  by_cases hq:qs.contains i0=true
  ·obtain ⟨c1,c2⟩:=hQ i0 ao ha hq
   have hfree:qc qs i0 ao=.free:=by unfold qc;rw [if_pos hq]
   have hcut:Wl ρ (T M).h.length=ρ:=KW J.dom
   have HM:Heap ρ w S O (T M).h:=by have:=J.heap M J.lM (Nat.le_refl _);rwa [hcut] at this
   have RM:Rel G ρ w S O (uy ao.reads (T i0).env) a:=R.adv (fun id g pl hid=>⟨g,pl,(SV hid).2,Nat.le_refl _,fun _=>rfl⟩) (.refl w O)
   obtain ⟨c3,c4⟩:=c2 ((zfo lk).symm.trans hb) D M J.closed hr hn J.Mn (by
    rcases J.b3 with e | ⟨am,h1,h2⟩
    ·exact .inl e
    ·exact .inr ⟨am,h1,h2,J.b4 M am (Nat.le_refl _) h1 (by rw [h2];decide)⟩) fun k ak h1 h2 h3=>(by
    rcases Nat.lt_or_ge k l with h | h
    ·exact J.b1 k ak h h2 (by rw [h3];decide)
    ·exact absurd h3 (J.b2 k ak h h1 h2))
   have lkx:∀ hm,zx G raw (uy ao.reads (T i0).env) hm ao.op=zx G raw (T i0).env hm ao.op:=fun hm=>zfE (fun s hs=>lk s (by simp [zb.reads,hs]))
   rw [lkx] at hx
   cases he:ao.op.early with
   | false=>
    obtain ⟨d1,d2,d3⟩:=c3 he
    rw [← lkx] at d3
    refine (FI K c1 h2 RM HM d3).upon fun x' w' hxw=>hnext _ _ ?_
    obtain ⟨O',J'⟩:=zvE J t KL hO ha hr hn hd hfree d1 d2 hxw
    rw [h1]
    exact ⟨ρ,O',l,M,J'⟩
   | true=>
    obtain ⟨row,d1,d2,d3⟩:=c4 he
    obtain ⟨row',f1,f2,mk,f3,f4,f5⟩:=zo2 he hx
    have:row'=row:=by
     rw [f1,List.getElem?_append_right (Nat.le_refl _),Nat.sub_self] at d1
     simpa using d1
    subst this
    have hiM:i0<M:=by
     rcases Nat.lt_or_ge i0 M with h | h
     ·exact h
     ·exfalso
      have hi:=(List.getElem?_eq_some_iff.1 ha).1
      rcases J.b3 with e | ⟨am,g1,g2⟩
      ·omega
      ·by_cases e:i0=M
       ·subst e;rw [ha] at g1;cases g1;rw [hfree] at g2;cases g2
       ·rcases hO _ (SQ J hr) M i0 am ao (by omega) g1 ha (znA g2 hq he) (.inr rfl) with h' | h'
        ·exact J.b4 M am (Nat.le_refl _) g1 (by rw [g2];decide) h'
        ·omega
    have hx2:=f4 (T M).h
    rw [← lkx] at hx2
    refine (FI K c1 h2 RM HM hx2).upon fun x' w' hxw=>hnext _ _ ?_
    obtain ⟨ρ',O',J'⟩:=zvH J t hu KL hO ha hr hn hd hfree hiM f1 f2 d2 d3 f5 f3 hxw
    rw [h1]
    exact ⟨ρ',O',l,M,J'⟩
  have hqc:qc qs i0 ao=ao.op.cls:=by unfold qc;rw [if_neg hq]
  cases hc:ao.op.cls with
  | free=>
   rw [hc] at hqc
   obtain ⟨⟨x,q1,q2⟩,q3⟩:=zcW hc h2 R (J.kinv i0 (Nat.le_of_lt (List.getElem?_eq_some_iff.1 ha).1)).cut hx
   have:Da P ((execOp a.eval o).run P w) (fun x' w'=>x'=x∧w'=w):=.inl ⟨x,w,.inl q1,rfl,rfl⟩
   refine this.upon fun x' w' hxw=>hnext _ _ ?_
   obtain ⟨rfl,rfl⟩:=hxw
   rw [h1]
   exact ⟨ρ,O,l,M,znm J t KL hO ha hr hn hd hqc q2 q3⟩
  | new=>
   rw [hc] at hqc
   obtain ⟨⟨m1,m2⟩,m3⟩:=zq5 J t hu KL hO ha hr hn hd hqc
   refine (FI K hc h2 R (J.heap i0 m1 (by omega)) hx).upon fun x' w' hxw=>hnext _ _ ?_
   obtain ⟨ρ',O',J'⟩:=m3 hxw
   rw [h1]
   exact ⟨ρ',O',l,M,J'⟩
  | change=>
   rw [hc] at hqc
   obtain ⟨⟨m1,m2,m4⟩,m3⟩:=zgG J t hu KL hO ha hr hn hd hqc
   rw [m4] at R
   refine (zgC K h2 R m2 hx).upon fun x' w' hxw=>hnext _ _ ?_
   obtain ⟨ρ',O',l',M',J'⟩:=m3 hxw
   rw [h1]
   exact ⟨ρ',O',l',M',J'⟩
 ·simp only [Bool.false_eq_true,if_false]
  rw [h1]
  refine hnext _ _ ?_
  cases hc:qc qs i0 ao with
  | free=>exact ⟨ρ,O,l,M,znm J t KL hO ha hr hn hd hc (by rw [hV];exact zak) hh⟩
  | new=>
   obtain ⟨⟨m1,m2⟩,m3⟩:=zq5 J t hu KL hO ha hr hn hd hc
   obtain ⟨ρ',O',J'⟩:=m3 (x:=undef) (w':=w) (by
    rw [hV,hh]
    exact ⟨_,O,.refl w O,fun _ _=>rfl,fun _ _ h=>h,fun _ _ _ h=>.inl h,J.heap i0 m1 (by omega),zak,fun _ _ h=>h,[],by simp⟩)
   exact ⟨ρ',O',l,M,J'⟩
  | change=>
   obtain ⟨⟨m1,m2,m4⟩,m3⟩:=zgG J t hu KL hO ha hr hn hd hc
   obtain ⟨ρ',O',l',M',J'⟩:=m3 (x:=undef) (w':=w) (by
    rw [hV,hh]
    exact ⟨ρ,O,.refl w O,.refl ρ,m2,zak,fun _ _ h=>h⟩)
   exact ⟨ρ',O',l',M',J'⟩
theorem mid_end (J:zzr D0 G B A qs T N S ρ0 w0 O0 D a w) (hall:∀ k,k<A.length→D k):∃ ρ O,UF w0 O0 w O∧Ext ρ0 ρ∧(∀ id,id<(T 0).h.length→ρ0 id=none→ρ id=none)∧Heap ρ w S O (T A.length).h∧Rel G ρ w S O (T A.length).env a∧N≤a.tmps.size∧a.defers=D0.1∧a.tmps.size=D0.2:=by
 obtain ⟨ρ,O,l,M,J⟩:=J
 have hM:M=A.length:=by
  rcases J.b3 with h | ⟨am,h1,h2⟩
  ·exact h
  ·exact absurd (hall M (List.getElem?_eq_some_iff.1 h1).1) (J.b4 M am (Nat.le_refl _) h1 (by rw [h2];decide))
 subst hM
 have hcut:Wl ρ (T A.length).h.length=ρ:=KW J.dom
 have HM:=J.heap A.length J.lM (Nat.le_refl _)
 rw [hcut] at HM
 refine ⟨ρ,O,J.adv,J.ext0,J.non0,HM,⟨fun s v hs=> ?_,J.glob⟩,J.size,J.def0⟩
 obtain ⟨x,h1,h2⟩:=J.slots A.length (Nat.le_refl _) s v hs (fun k ao hk _ _=>hall k hk) fun k ao hk h _=>by have:=(List.getElem?_eq_some_iff.1 h).1;omega
 rw [hcut] at h2
 exact ⟨x,h1,h2⟩
def Done (listed:Array Bool) (k:Nat):Prop:=listed.getD k false=true
theorem zwn {listed:Array Bool} {i:Nat} (hi:i<listed.size) (k:Nat):Done (listed.setIfInBounds i true) k↔(Done listed k∨k=i):=by
 unfold Done
 simp only [Array.getD_eq_getD_getElem?,Array.getElem?_setIfInBounds]
 by_cases e:i=k
 ·subst e;simp [hi]
 ·have e':¬ k=i:=fun h=>e h.symm
  simp [e,e']
theorem count_set {listed:Array Bool} {i:Nat} (h:listed.getD i true=false):(listed.setIfInBounds i true).toList.count false+1=listed.toList.count false∧i<listed.size:=by
 have hi:i<listed.size:=by
  rcases Nat.lt_or_ge i listed.size with h' | h'
  ·exact h'
  ·simp [Array.getElem?_eq_none h'] at h
 have hv:listed[i]=false:=by simpa [hi] using h
 refine ⟨?_,hi⟩
 rw [Array.toList_setIfInBounds,List.count_set (by simpa using hi)]
 have hm:false ∈ listed.toList:=by rw [List.mem_iff_getElem];exact ⟨i,by simpa using hi,by simpa using hv⟩
 have hp:=List.count_pos_iff.2 hm
 have e:listed.toList[i]'(by simpa using hi)=false:=by simpa using hv
 rw [e]
 simp only [beq_self_eq_true,if_true]
 have e2:(true==false)=false:=rfl
 rw [e2]
 simp only [Bool.false_eq_true,if_false]
 omega
theorem zvi {Q:Exit→Act→World→Prop} {pm:Nat→Nat} (t:Trace G raw A T V) (hu:zia A T qs) (hB:∀ j i,B j i→i<A.length∧∃ o,ops[pm j]? =some o∧∃ e ∈ o.after,Region.binds .any e=true∧e.on=pm i) (hQ:zbS G raw B A qs T V) (K:WW P G raw) (KL:∀ f asx h r,raw f asx h=some r→yg h r.2) (hO:Rn B A qs) (hsz:ops.size=A.length)
  (hinj:∀ i j,i<A.length→j<A.length→pm i=pm j→i=j) (hsur:∀ m,m<ops.size→∃ k,k<A.length∧pm k=m) (hpl:∀ k,k<A.length→pm k<ops.size) (hlt:∀ j o,ops[j]? =some o→∀ e ∈ o.after,Region.binds .any e=true→e.on<j)
  (hall:∀ (k:Nat) o ao,k<A.length→ops[pm k]? =some o→A[k]? =some ao→Ri P ops o ao=true∧∀ d,o.dst=some d→d<N)
  (hend:∀ a' w' D,zzr D0 G B A qs T N S ρ0 w0 O0 D a' w'→(∀ k,k<A.length→D k)→Q .normal a' w'):
  ∀ (fuel:Nat) (listed:Array Bool) (a:Act) (w:World),listed.size=ops.size→listed.toList.count false≤fuel→zzr D0 G B A qs T N S ρ0 w0 O0 (fun k=>k<A.length∧Done listed (pm k)) a w→wpAny P .any ops Q fuel listed a w:=by
 have ready_all:∀ (listed:Array Bool),listed.size=ops.size→Region.ready .any ops listed=[]→∀ k,k<ops.size→Done listed k:=by
  intro listed hl hrd k
  induction k using Nat.strongRecOn with
  | _ k ih=>
   intro hk
   by_cases hd:Done listed k
   ·exact hd
   ·exfalso
    have hks:k<ops.size:=hk
    have hmem:k ∈ Region.ready .any ops listed:=mem_ready.2 ⟨by
     unfold Done at hd
     simp only [Array.getD_eq_getD_getElem?] at hd ⊢
     have:listed[k]? =some listed[k]:=by simp [hl,hks]
     rw [this] at hd ⊢
     simpa using hd,ops[k],by simp [hks],fun e he hb=>ih e.on (hlt k _ (by simp [hks]) e he hb) (by have:=hlt k _ (by simp [hks]) e he hb;omega)⟩
    rw [hrd] at hmem
    cases hmem
 intro fuel
 induction fuel with
 | zero=>
  intro listed a w hl hcnt J
  have h0:listed.toList.count false=0:=by omega
  have hall':∀ k,k<ops.size→Done listed k:=fun k hk=>by
   have hks:k<listed.size:=by omega
   unfold Done
   rw [List.count_eq_zero] at h0
   have hx:listed[k]≠false:=fun e=>h0 (by rw [List.mem_iff_getElem];exact ⟨k,by simpa using hks,by simpa using e⟩)
   simpa [hks] using hx
  refine ⟨?_,hend a w _ J fun k hk=>⟨hk,hall' _ (hpl k hk)⟩⟩
  apply List.eq_nil_iff_forall_not_mem.2
  intro i hi
  obtain ⟨h1,o,ho,_⟩:=mem_ready.1 hi
  have his:i<ops.size:=(Array.getElem?_eq_some_iff.1 ho).1
  have:=hall' i (by omega)
  unfold Done at this
  have e:listed[i]? =some listed[i]:=by simp [hl,his]
  simp only [Array.getD_eq_getD_getElem?,e,Option.getD_some] at this h1
  rw [h1] at this;cases this
 | succ fuel ih=>
  intro listed a w hl hcnt J
  refine ⟨fun hrd=>hend a w _ J fun k hk=>⟨hk,ready_all listed hl hrd _ (hpl k hk)⟩,fun i hi=> ?_⟩
  obtain ⟨h1,o,ho,hafter⟩:=mem_ready.1 hi
  have his:i<ops.size:=(Array.getElem?_eq_some_iff.1 ho).1
  obtain ⟨k,hk,rfl⟩:=hsur i his
  obtain ⟨ao,hao⟩:∃ ao,A[k]? =some ao:=⟨_,List.getElem?_eq_getElem hk⟩
  obtain ⟨c1,c2⟩:=count_set h1
  obtain ⟨q1,q2⟩:=hall k o ao hk ho hao
  unfold wpOp
  rw [ho]
  refine mid_step J t hu hQ K KL hO hao q1 (fun i hb=> ?_) (fun hd=> ?_) q2 fun a' w' J'=>ih _ a' w' (by simpa using hl) (by omega) ?_
  ·obtain ⟨hi,o',ho',e,he,hbd,hon⟩:=hB k i hb
   rw [ho] at ho'
   cases ho'
   exact ⟨hi,by rw [← hon];exact hafter e he hbd⟩
  ·have hd:=hd.2
   unfold Done at hd
   have e:listed[pm k]? =some listed[pm k]:=by simp [hl,his]
   simp only [Array.getD_eq_getD_getElem?,e,Option.getD_some] at hd h1
   rw [h1] at hd;cases hd
  ·obtain ⟨ρ,O,l,M,J'⟩:=J'
   exact ⟨ρ,O,l,M,zzN (fun i=>by
    rw [zwn c2]
    constructor
    ·rintro (⟨hi,hd⟩ | rfl)
     ·exact ⟨hi,.inl hd⟩
     ·exact ⟨hk,.inr rfl⟩
    ·rintro ⟨hi,hd | he⟩
     ·exact .inl ⟨hi,hd⟩
     ·exact .inr (hinj _ _ hi hk he)) J'⟩
def zdH (ops:Array Oper) (n:Nat) (pm:Nat→Nat) (j i:Nat):Prop:=i<n∧∃ o,ops[pm j]? =some o∧∃ e ∈ o.after,Region.binds .any e=true∧e.on=pm i
structure Perm (ops:Array Oper) (n:Nat) (pm:Nat→Nat):Prop where
 size:ops.size=n
 inj:∀ i j,i<n→j<n→pm i=pm j→i=j
 sur:∀ m,m<ops.size→∃ k,k<n∧pm k=m
 lt:∀ k,k<n→pm k<ops.size
theorem Perm.closed {pm:Nat→Nat} {n:Nat} (p:Perm ops n pm) (hlt:∀ j o,ops[j]? =some o→∀ e ∈ o.after,Region.binds .any e=true→e.on<j) {D:Nat→Prop} (h:JO (zdH ops n pm) D):Closed ops (fun m=>∃ k,k<n∧pm k=m∧D k):=by
 rintro j o ho ⟨k,hk,rfl,hd⟩ e he hb
 have:=hlt _ o ho e he hb
 obtain ⟨i,hi,hpi⟩:=p.sur e.on (by have:=p.lt k hk;omega)
 exact ⟨i,hi,hpi,h k i hd ⟨hi,o,ho,e,he,hb,hpi.symm⟩⟩
theorem Perm.before {pm:Nat→Nat} {n:Nat} (p:Perm ops n pm) (hlt:∀ j o,ops[j]? =some o→∀ e ∈ o.after,Region.binds .any e=true→e.on<j) {D:Nat→Prop} (h:JO (zdH ops n pm) D) {j i:Nat} (hj:j<n) (hr:∀ i,zdH ops n pm j i→D i)
  (hb:((ZZ ops.toList []).getD (pm j) 0).testBit (pm i)=true) (hi:i<n):D i:=by
 have hjs:=p.lt j hj
 have ho:ops[pm j]? =some ops[pm j]:=by simp [hjs]
 obtain ⟨k,hk,e,hd⟩:=zih (p.closed hlt h) hlt (pm j) (pm i) _ ho (fun e he hbd=>by
  have:=hlt _ _ ho e he hbd
  obtain ⟨i,hi,hpi⟩:=p.sur e.on (by omega)
  exact ⟨i,hi,hpi,hr i ⟨hi,_,ho,e,he,hbd,hpi.symm⟩⟩) hb
 rw [p.inj _ _ hi hk e.symm];exact hd
theorem zo4 {aops':List zb} {pm:Nat→Nat} {qs:List (Nat×List Nat)} (hc:UN ops aops' pm qs=true) (p:Perm ops aops'.length pm):Rn (zdH ops aops'.length pm) aops' (qs.map (·.1)):=by
 obtain ⟨h1,_,h2⟩:=PN hc
 intro D hD i j x y hij hx hy hcl hj
 have hjs:j<aops'.length:=(List.getElem?_eq_some_iff.1 hy).1
 exact p.before h2 hD hjs (fun i hw=>hD j i hj hw) (h1 i j x y hij hx hy hcl) (by omega)
theorem zbM {qs:List (Nat×List Nat)} {i:Nat} (h:(qs.map (·.1)).contains i=true):∃ q ∈ qs,q.1=i:=by
 rw [List.contains_iff_mem,List.mem_map] at h
 exact h
theorem gY {α:Type} {x:Option α} {f:α→Bool} (h:x.elim false f=true):∃ y,x=some y∧f y=true:=by
 cases x with
 | none=>cases h
 | some y=>exact ⟨y,rfl,h⟩
theorem zzu {aops':List zb} {pm:Nat→Nat} {qs:List (Nat×List Nat)} {Ts:List ASt} {st:ASt} {V:Nat→AV} (hc:UN ops aops' pm qs=true) (p:Perm ops aops'.length pm) (hl:Ts.length=aops'.length+1) (t:Trace G raw aops' (fun k=>Ts.getD k st) V) (hq:Wy G raw aops' qs Ts=true):
  zia aops' (fun k=>Ts.getD k st) (qs.map (·.1))∧zbS G raw (zdH ops aops'.length pm) aops' (qs.map (·.1)) (fun k=>Ts.getD k st) V:=by
 obtain ⟨_,hcov,hlt⟩:=PN hc
 have g:∀ k s,Ts[k]? =some s→Ts.getD k st=s:=fun k s h=>by simp [List.getD_eq_getElem?_getD,h]
 simp only [Wy,List.all_eq_true] at hq
 have one:∀ q ∈ qs,∀ M ∈ q.2,∀ ao,aops'[q.1]? =some ao→goes ao (Ts.getD q.1 st).env=some true→
   (ao.op.early=false→(Ts.getD (q.1+1) st).h=(Ts.getD q.1 st).h∧(∀ i ∈ (V q.1).ids,i<(Ts.getD q.1 st).h.length)∧zx G raw (Ts.getD q.1 st).env (Ts.getD M st).h ao.op=some (V q.1,(Ts.getD M st).h))∧
   (ao.op.early=true→∃ row,(Ts.getD (q.1+1) st).h[(Ts.getD q.1 st).h.length]? =some row∧row.flat=true∧(Ts.getD M st).h[(Ts.getD q.1 st).h.length]? =some row):=by
  intro q hqm M hM ao ha hg
  have h:=hq q hqm M hM
  unfold Rb at h
  obtain ⟨o,h0,h⟩:=gY h
  rw [ha] at h0
  cases h0
  obtain ⟨s,h1,h⟩:=gY h
  obtain ⟨s',h2,h⟩:=gY h
  obtain ⟨m,h3,h⟩:=gY h
  have he:=t.env q.1 ao ha
  simp only [g _ _ h1,g _ _ h2] at he
  rw [g _ _ h1] at hg
  rw [g _ _ h1,g _ _ h2,g _ _ h3]
  unfold UU at h
  rw [hg] at h
  simp only [Option.elim_some,if_true] at h
  refine ⟨fun hea=> ?_,fun hea=> ?_⟩
  ·rw [if_neg (by simp [hea]),Bool.and_eq_true,decide_eq_true_eq] at h
   obtain ⟨h4,h⟩:=h
   obtain ⟨d,h6,h⟩:=gY h
   obtain ⟨r,h7,h⟩:=gY h
   simp only [Bool.and_eq_true,decide_eq_true_eq,List.all_eq_true] at h
   obtain ⟨⟨h8,h9⟩,h10⟩:=h
   rw [he,h6] at h8
   simp only [LZ,look,if_true,Option.some.injEq] at h8
   exact ⟨h4,fun i hi=>by simpa using h10 i (by rw [← h8];exact hi),by rw [h7,h8,← h9]⟩
  ·rw [if_pos hea] at h
   obtain ⟨r,h4,h⟩:=gY h
   rw [Bool.and_eq_true,decide_eq_true_eq] at h
   exact ⟨r,h4,h.1,h.2⟩
 have cov:∀ q ∈ qs,∃ ao,aops'[q.1]? =some ao∧ao.op.cls=.new∧∀ M,M≤aops'.length→M ∈ q.2∨(∃ y,aops'[M]? =some y∧(qc (qs.map (·.1)) M y≠.change∨((ZZ ops.toList []).getD (pm q.1) 0).testBit (pm M)=true))∨∃ c,c<M∧∃ y,aops'[c]? =some y∧qc (qs.map (·.1)) c y=.change∧((ZZ ops.toList []).getD (pm c) 0).testBit (pm q.1)=true:=by
  intro q hqm
  have h:=hcov q hqm
  unfold zgU at h
  rw [Bool.and_eq_true,Bool.and_eq_true] at h
  obtain ⟨ao,h1,h2⟩:=gY h.1.1
  refine ⟨ao,h1,by simpa using h2,fun M hM=> ?_⟩
  have:=List.all_eq_true.1 h.2 M (by simp;omega)
  simp only [Bool.or_eq_true] at this
  rcases this with (h3 | h3) | h3
  ·exact .inl (by simpa using h3)
  ·obtain ⟨y,h4,h5⟩:=gY h3
   refine .inr (.inl ⟨y,h4, ?_⟩)
   simp only [Bool.or_eq_true,decide_eq_true_eq] at h5
   exact h5
  ·obtain ⟨c,h4,h5⟩:=List.any_eq_true.1 h3
   obtain ⟨y,h6,h7⟩:=gY h5
   simp only [Bool.and_eq_true,decide_eq_true_eq] at h7
   exact .inr (.inr ⟨c,by simpa using h4,y,h6,h7⟩)
 refine ⟨fun k ao ha hk=> ?_,fun i0 ao ha hk=> ?_⟩
 ·obtain ⟨q,hqm,rfl⟩:=zbM hk
  obtain ⟨ao',h1,h2,_⟩:=cov q hqm
  rw [ha] at h1
  cases h1
  obtain ⟨b,_,hb | hb⟩:=t.run q.1 ao ha
  ·exact zzh h2 hb.2
  ·exact ⟨[],by rw [hb.2.2];simp⟩
 ·obtain ⟨q,hqm,rfl⟩:=zbM hk
  obtain ⟨ao',h1,h2,h3⟩:=cov q hqm
  rw [ha] at h1
  cases h1
  have hql:=(List.getElem?_eq_some_iff.1 ha).1
  refine ⟨h2,fun hg D M hcl hr hn hMl hst hch=> ?_⟩
  rcases h3 M hMl with h | ⟨y,h4,h5⟩ | ⟨c,h4,y,h5,h6,h7⟩
  ·exact one q hqm M h ao ha hg
  ·exfalso
   rcases hst with e | ⟨am,e1,e2,e3⟩
   ·subst e;rw [List.getElem?_eq_none (Nat.le_refl _)] at h4;cases h4
   ·rw [e1] at h4;cases h4
    rcases h5 with h5 | h5
    ·exact h5 e2
    ·exact e3 (p.before hlt hcl hql hr h5 (List.getElem?_eq_some_iff.1 e1).1)
  ·exfalso
   exact hn (p.before hlt hcl (List.getElem?_eq_some_iff.1 h5).1 (fun i hw=>hcl c i (hch c y h4 h5 h6) hw) h7 hql)
theorem zgZ {aops':List zb} {pm:Nat→Nat} {qs:List (Nat×List Nat)} {st st':ASt} {T:Nat→ASt} {V:Nat→AV} {base:Nat} {Q:Exit→Act→World→Prop} (hm:P.follows .mixedOrders=true) (K:WW P G raw) (KL:∀ f asx h r,raw f asx h=some r→yg h r.2) (p:Perm ops aops'.length pm)
  (hall:∀ (k:Nat) o ao,k<aops'.length→ops[pm k]? =some o→aops'[k]? =some ao→Ri P ops o ao=true∧∀ d,o.dst=some d→d<N) (hord:UN ops aops' pm qs=true)
  (t:Trace G raw aops' T V) (t0:T 0=st) (t1:T aops'.length=st') (hu:zia aops' T (qs.map (·.1))) (hQ:zbS G raw (zdH ops aops'.length pm) aops' (qs.map (·.1)) T V)
  (k:GoodS D0 G ρ0 w0 S O0 base N st a w) (hn:∀ a' w',GoodS D0 G ρ0 w0 S O0 base N st' a' w'→Q .normal a' w'):wpAny P .any ops Q ops.size (Array.replicate ops.size false) a w.drew:=by
 obtain ⟨ρ,O,k⟩:=k
 subst t0
 have k1:Good D0 G ρ w S O (T 0).h.length N (T 0).env (T 0).h a w.drew ρ O:=
  ⟨(uB.drew w O).x,fun id _ g pl h=>⟨g,pl,h,Nat.le_refl _,fun _=>rfl⟩,fun id _ h=>h,k.heap.drew,k.rel.adv (.refl ρ) (uB.drew w O).x,k.size,k.def0,Nat.le_refl _⟩
 obtain ⟨M,J⟩:=zvd (B:=zdH ops aops'.length pm) (qs:=qs.map (·.1)) k1 t hu KL
 refine zvi t hu (fun j i h=>h) hQ K KL (zo4 hord p) p.size p.inj p.sur p.lt (PN hord).2.2 hall (fun a' w' D J' hD=> ?_) ops.size _ a _ (by simp) (by simp) ⟨ρ,O,0,M,zzN (fun k=> ?_) J⟩
 ·obtain ⟨ρ2,O2,A1,E1,N1,H1,R1,s1,d1⟩:=mid_end J' hD
  rw [t1] at H1 R1
  refine hn _ _ ⟨ρ2,O2,k.adv.trans ((uB.drew w O).x.trans A1),fun id hid g pl h0=> ?_,fun id hid h0=>N1 id (Nat.lt_of_lt_of_le hid k.bas) (k.non id hid h0),H1,R1,s1,d1, ?_⟩
  ·obtain ⟨g1,p1,e1,l1,q1⟩:=k.ext id hid g pl h0
   obtain ⟨g2,p2,e2,l2,q2⟩:=E1 id g1 p1 e1
   exact ⟨g2,p2,e2,Nat.le_trans l1 l2,fun e=>by
    have a1:g=g1:=by omega
    exact (q1 a1).trans (q2 (by omega))⟩
  ·have:=PI KL t aops'.length 0 (by omega)
   rw [Nat.zero_add,t1] at this
   exact Nat.le_trans k.bas this
 ·unfold Done
  simp only [false_iff]
  rintro ⟨_,hh⟩
  by_cases hk:pm k<ops.size
  ·simp [hk] at hh
  ·simp [hk] at hh
theorem zau {id:Nat} {aops':List zb} {pm:Nat→Nat} {qs:List (Nat×List Nat)} {st st':ASt} {T:Nat→ASt} {V:Nat→AV} {base:Nat} {Q:Exit→Act→World→Prop} (hm:P.follows .mixedOrders=true) (K:WW P G raw) (KL:∀ f asx h r,raw f asx h=some r→yg h r.2) (p:Perm ops aops'.length pm)
  (hall:∀ (k:Nat) o ao,k<aops'.length→ops[pm k]? =some o→aops'[k]? =some ao→Ri P ops o ao=true∧∀ d,o.dst=some d→d<N) (hord:UN ops aops' pm qs=true)
  (t:Trace G raw aops' T V) (t0:T 0=st) (t1:T aops'.length=st') (hu:zia aops' T (qs.map (·.1))) (hQ:zbS G raw (zdH ops aops'.length pm) aops' (qs.map (·.1)) T V)
  (k:GoodS D0 G ρ0 w0 S O0 base N st a w) (hn:∀ a' w',GoodS D0 G ρ0 w0 S O0 base N st' a' w'→Kept (zdI ops) a a'→Q .normal a' w'):(Code.region id ops true).wp P Q a w:=
 wp_region_any hm (zhn (zjn ops) _ _ _ _ (Kept.refl _ _) (zgZ (Q:=zjj (zdI ops) a Q) hm K KL p hall hord t t0 t1 hu hQ k fun a' w' g hk=>hn a' w' g hk))
theorem zpd {id:Nat} {aops':List zb} {st st':ASt} {base:Nat} {Q:Exit→Act→World→Prop} (hm:P.follows .mixedOrders=true) (K:WW P G raw) (KL:∀ f asx h r,raw f asx h=some r→yg h r.2) (hc:PD P ops aops' N=true) (hord:UN ops aops' (fun k=>k) []=true) (hs:jO G raw aops' st=some st')
  (k:GoodS D0 G ρ0 w0 S O0 base N st a w) (hn:∀ a' w',GoodS D0 G ρ0 w0 S O0 base N st' a' w'→Kept (zdI ops) a a'→Q .normal a' w'):(Code.region id ops true).wp P Q a w:=by
 simp only [PD,Bool.and_eq_true,beq_iff_eq,List.all_eq_true] at hc
 obtain ⟨hsz,hall⟩:=hc
 obtain ⟨T,V,t,t0,t1⟩:=zbA hs
 refine zau hm K KL ⟨hsz,fun i j _ _ h=>h,fun m hm=>⟨m,by omega,rfl⟩,fun k hk=>by rw [hsz];exact hk⟩ (fun i o ao _ ho hao=> ?_) hord t t0 t1 (fun k ao _ h=>by simp at h) (fun k ao _ h=>by simp at h) k hn
 have hm:(o,ao) ∈ ops.toList.zip aops':=by
  rw [List.mem_iff_getElem?]
  refine ⟨i, ?_⟩
  rw [List.getElem?_zip_eq_some]
  exact ⟨by simpa using ho,hao⟩
 have hp:=hall _ hm
 simp only [Bool.and_eq_true] at hp
 refine ⟨hp.1,fun d hd=> ?_⟩
 have:=hp.2
 rw [hd] at this
 simpa using this
theorem zlh {id:Nat} {aops':List zb} {pm:List Nat} {qs:List (Nat×List Nat)} {st st':ASt} {base:Nat} {Q:Exit→Act→World→Prop} (hm:P.follows .mixedOrders=true) (K:WW P G raw) (KL:∀ f asx h r,raw f asx h=some r→yg h r.2) (hc:zba P ops aops' pm N=true) (hord:UN ops aops' (pm.getD · 0) qs=true) (hs:zgx G raw aops' qs st=some st')
  (k:GoodS D0 G ρ0 w0 S O0 base N st a w) (hn:∀ a' w',GoodS D0 G ρ0 w0 S O0 base N st' a' w'→Kept (zdI ops) a a'→Q .normal a' w'):(Code.region id ops true).wp P Q a w:=by
 obtain ⟨Ts,h1,hs⟩:=za.1 hs
 split at hs
 case isFalse=>cases hs
 rename_i hq
 obtain ⟨V,t,h2,h3⟩:=HZ h1
 simp only [zba,Bool.and_eq_true,beq_iff_eq,List.all_eq_true,decide_eq_true_eq] at hc
 obtain ⟨⟨⟨⟨⟨hsz,hpl⟩,hnd⟩,hsur⟩,hlt⟩,hall⟩:=hc
 have gd:∀ k (hk:k<aops'.length),pm.getD k 0=pm[k]'(by omega):=fun k hk=>by
  rw [List.getD_eq_getElem?_getD,List.getElem?_eq_getElem (by omega)];rfl
 have p:Perm ops aops'.length (pm.getD · 0):=by
  refine ⟨hsz,fun i j hi hj h=> ?_,fun m hm=> ?_,fun k hk=> ?_⟩
  ·simp only [gd i hi,gd j hj] at h
   have ne:=List.pairwise_iff_getElem.1 hnd
   rcases Nat.lt_trichotomy i j with hij | hij | hij
   ·exact absurd h (ne i j (by omega) (by omega) hij)
   ·exact hij
   ·exact absurd h.symm (ne j i (by omega) (by omega) hij)
  ·have:=hsur m (by simpa using hm)
   rw [List.contains_iff_mem] at this
   obtain ⟨k,hk,e⟩:=List.mem_iff_getElem.1 this
   exact ⟨k,by omega,by simp only [gd k (by omega)];exact e⟩
  ·simp only [gd k hk]
   exact hlt _ (List.getElem_mem _)
 obtain ⟨hu,hQ⟩:=zzu hord p h2 t hq
 refine zau hm K KL p (fun i o ao hi ho hao=> ?_) hord t h3 ?_ hu hQ k hn
 ·have hm:(pm[i]'(by omega),ao) ∈ pm.zip aops':=by
   rw [List.mem_iff_getElem?]
   refine ⟨i, ?_⟩
   rw [List.getElem?_zip_eq_some]
   exact ⟨List.getElem?_eq_getElem (by omega),hao⟩
  have hp:=hall _ hm
  obtain ⟨o',ho',hp⟩:=gY hp
  simp only [gd i hi] at ho
  rw [ho] at ho'
  cases ho'
  simp only [Bool.and_eq_true] at hp
  refine ⟨hp.1,fun d hd=> ?_⟩
  have:=hp.2
  rw [hd] at this
  simpa using this
 ·rw [List.getLast?_eq_getElem?,h2] at hs
  simp only [Nat.add_sub_cancel] at hs
  show Ts.getD aops'.length st=st'
  rw [List.getD_eq_getElem?_getD,hs];rfl
end
end Go.Proofs.YthcnhibjddomdaaGreat
namespace Go.Proofs.YthcnhibjddomdaaGreat
open Go Go.RowKit
variable [FrB]
section
variable {D0:List Deferred×Nat} {P:Program} {G:Nat→Option (List AV)} {F:Nat→Option Dj} {ρ0 ρ:Rho} {w0 w:World} {S O0 O:Nat→Prop} {a:Act} {N base:Nat}
theorem zzg {raw:uE} (KL:∀ f asx h r,raw f asx h=some r→yg h r.2):∀ {os:List zb} {st st':ASt},jO G raw os st=some st'→yg st.h st'.h
 | [],st,st',hs=>by cases hs;exact .refl _
 | o::os,st,st',hs=>by
  obtain ⟨st1,h1,hs⟩:=za.1 hs
  refine yg.trans ?_ (zzg KL hs)
  rw [Ii] at h1
  obtain ⟨b,_,h1⟩:=za.1 h1
  cases b with
  | true=>
   simp only [if_true] at h1
   obtain ⟨r,hr,e⟩:=ze.1 h1
   subst e
   exact zxX KL hr
  | false=>
   simp only [Bool.false_eq_true,if_false] at h1
   cases h1
   exact .refl _
def zjT (base:Nat) (h h':List zf):Prop:=yg (h.take base) (h'.take base)
theorem yg.toB {h h':List zf} (p:yg h h'):zjT base h h':=fun id x hx=>by
 rw [List.getElem?_take] at hx
 split at hx
 ·rename_i hi
  obtain ⟨y,hy,e⟩:=p id x hx
  exact ⟨y,by rw [List.getElem?_take,if_pos hi];exact hy,e⟩
 ·cases hx
theorem zGz {live:List Nat} {st st':ASt} (hg:agc base live st=some st'):zjT base st.h st'.h:=by
 unfold agc at hg
 simp only at hg
 generalize uD st.h base 64 (AV.idsL ((uy live st.env).map (·.2))++(st.h.take base).flatMap zf.ids) []=order at hg
 split at hg
 case isFalse=>cases hg
 cases hg
 intro id x hx
 rw [List.getElem?_take] at hx
 split at hx
 ·rename_i hi
  refine ⟨x.ren st.h base base order, ?_, ?_⟩
  ·rw [List.getElem?_take,if_pos hi,List.getElem?_append_left (by have:=(List.getElem?_eq_some_iff.1 hx).1;simp;omega),List.getElem?_map,List.getElem?_take,if_pos hi,hx]
   rfl
  ·unfold zf.ren;split<;>rfl
 ·cases hx
def zG4 (F:Nat→Option Dj):Prop:=∀ f E,F f=some (.ext E)→∀ args h r,E args h=some r→yg h r.2
theorem zCx (hK:zG4 F):∀ (n:Nat),(∀ base c st r,gM G F n base c st=some r→zjT base st.h r.2.h)∧∀ f asx h r,gH (gM G F n) F f asx h=some r→yg h r.2:=by
 have fn_of:∀ n,(∀ base c st r,gM G F n base c st=some r→zjT base st.h r.2.h)→∀ f asx h r,gH (gM G F n) F f asx h=some r→yg h r.2:=by
  intro n ih f asx h r hr
  obtain ⟨ent,hf,hr⟩:=za.1 hr
  cases ent with
  | ext E=>exact hK f E hf asx h r hr
  | fn fn=>
   obtain ⟨r1,h1,hr⟩:=za.1 hr
   have:=ih _ _ _ _ h1
   have hk:yg h r1.2.h:=fun id x hx=>by
    have hlt:=(List.getElem?_eq_some_iff.1 hx).1
    obtain ⟨y,hy,e⟩:=this id x (by simp only [List.take_length];exact hx)
    rw [List.getElem?_take,if_pos hlt] at hy
    exact ⟨y,hy,e⟩
   split at hr
   ·cases hr
   ·obtain ⟨v,_,e⟩:=ze.1 hr
    subst e
    exact hk
 intro n
 induction n with
 | zero=>
  have h0:∀ base c st r,gM G F 0 base c st=some r→zjT base st.h r.2.h:=fun base c st r h=>(nomatch h)
  exact ⟨h0,fn_of 0 h0⟩
 | succ n ih=>
  have h1:∀ base c st r,gM G F (n+1) base c st=some r→zjT base st.h r.2.h:=by
   intro base c st r hr
   cases c with
   | skip=>cases hr;exact yg.refl _
   | exit id=>cases hr;exact yg.refl _
   | ret=>cases hr;exact yg.refl _
   | dead=>cases hr
   | region ops d live=>
    obtain ⟨st',h1,e⟩:=ze.1 hr
    subst e
    exact (zzg (G:=G) (st':=st') ih.2 h1).toB
   | regionQ ops pm qs live=>
    obtain ⟨st',h1,e⟩:=ze.1 hr
    subst e
    obtain ⟨Ts,q1,h1⟩:=za.1 h1
    split at h1
    case isFalse=>cases h1
    obtain ⟨V,t,q2,q3⟩:=HZ q1
    have:=Lf ih.2 t ops.length 0 (by omega)
    rw [List.getLast?_eq_getElem?,q2] at h1
    simp only [Nat.add_sub_cancel] at h1
    simp only [Nat.zero_add,q3] at this
    rw [List.getD_eq_getElem?_getD,h1] at this
    exact this.toB
   | seq x y=>
    obtain ⟨r1,h1,hr⟩:=za.1 hr
    have:=ih.1 _ _ _ _ h1
    split at hr
    ·exact yg.trans this (ih.1 _ _ _ _ hr)
    ·cases hr;exact this
   | cond c x y=>
    obtain ⟨v,_,hr⟩:=za.1 hr
    split at hr
    ·exact ih.1 _ _ _ _ hr
    ·cases hr
   | block id b=>
    obtain ⟨r1,h1,e⟩:=ze.1 hr
    subst e
    exact ih.1 _ _ _ r1 h1
   | loop live b=>
    obtain ⟨st1,h0,hr⟩:=za.1 hr
    obtain ⟨r1,h1,hr⟩:=za.1 hr
    have:=yg.trans (zGz h0) (ih.1 _ _ _ _ h1)
    split at hr
    ·exact yg.trans this (ih.1 _ _ _ _ hr)
    ·cases hr;exact this
  exact ⟨h1,fn_of (n+1) h1⟩
theorem zpa {t:TypeId} {agg:Bool} {m:Nat} {v0 v:AV} {z:Value} {h:List zf} (H:Heap ρ w S O h) (hr:zB ρ w S O v0 z) (hag:jL P t=some agg) (hs:vP P t m=true) (h1:UL h agg m v0=some v):
  ∃ u,(do loadVar t (← asAddr z):Sem Value).run P w=.ok u w∧zB ρ w S O v u:=by
 have fin:∀ ad,(∃ u,(Instr.loadAt t (.pointer (some ad))).run P w=.ok u w∧zB ρ w S O v u)→∃ u,(do loadVar t (← asAddr (.pointer (some ad))):Sem Value).run P w=.ok u w∧zB ρ w S O v u:=fun ad ⟨u,h1,h2⟩=>
  ⟨u,by simpa [Instr.loadAt,Instr.sureAddr,asAddr] using h1,h2⟩
 cases v0 with
 | ptr id g e off=>
  obtain ⟨r,hrow,h1⟩:=za.1 h1
  split at h1
  case isFalse=>cases h1
  rename_i hgen
  obtain ⟨grp,hg,hcut⟩:=za.1 h1
  obtain ⟨g',pl,ad,rfl,hρ,hle,hpl⟩:=Io hr
  obtain ⟨hg',his⟩:=H.at hρ hrow
  obtain ⟨p,rfl,rfl⟩:=hpl (by omega)
  obtain ⟨arr,ty,lo,hi,hb,hsz,_,hcell⟩:=zm.block his
  have hlen:=zm.len his grp (List.mem_of_getElem? hg)
  refine fin _ (DX (cs:=grp) (b:=p.b) (o:=p.base+e * p.k) (off:=off) (val:=fun j=>arr.getD (p.base+e * p.k+j) undef) hag hs (fun j hj=> ?_) (fun j c hj=> ?_) hcut)
  ·obtain ⟨x,h1,h2,_⟩:=hcell e j grp _ hg (List.getElem?_eq_getElem hj)
   simp only [Array.getD_eq_getD_getElem?,h1,Option.getD_some]
   exact ⟨by rw [cell_of_row w p.b _ arr ty _ hb];exact h1,h2⟩
  ·obtain ⟨x,h1,_,h3,_⟩:=hcell e j grp c hg hj
   simp only [Array.getD_eq_getD_getElem?,h1,Option.getD_some]
   exact h3
 | dptr cs=>
  obtain ⟨b,off,val,rfl,_,_,h5,h6⟩:=WB hr
  exact fin _ (DX (ρ:=ρ) (S:=S) (O:=O) (cs:=cs) (b:=b) (o:=off) (off:=0) (val:=val) hag hs h5 (fun j c hj=>(h6 j c hj).v) h1)
 | _=>cases h1
def zpN (tmps:Array Value):ResultVar→Sem Value
 | .tmp t=>pure (tmps.getD t undef)
 | .cell c t=>do loadVar t (← asAddr (tmps.getD c undef))
theorem zpY (fn:Func) (tmps:Array Value):results fn tmps=(do let vs ← fn.results.mapM (zpN tmps);pure (if h:vs.size=1 then vs[0] else .tuple vs)):=by
 rfl
theorem zgi {env:yF} {h:List zf} (H:Heap ρ w S O h) (R:Rel G ρ w S O env a):∀ {rs:List ResultVar} {asx:List zdj} {vs:List AV},zbp P rs asx=true→asx.mapM (ziv env h)=some vs→
  ∃ xs:List Value,(rs.mapM (zpN a.tmps)).run P w=.ok xs w∧WO (zB ρ w S O) vs xs
 | [],[],vs,_,hm=>by simp at hm;subst hm;exact ⟨[],rfl,.nil⟩
 | .tmp t::rs,.slot n::asx,vs,hc,hm=>by
  simp only [zbp,Bool.and_eq_true,beq_iff_eq] at hc
  obtain ⟨rfl,hc⟩:=hc
  rw [List.mapM_cons] at hm
  obtain ⟨v,hv,hm⟩:=za.1 hm
  obtain ⟨vs',hvs,hm⟩:=za.1 hm
  cases hm
  obtain ⟨xs,h1,h2⟩:=zgi H R hc hvs
  obtain ⟨x,hx,hr⟩:=R.env _ _ hv
  refine ⟨x::xs, ?_,.cons hr h2⟩
  rw [List.mapM_cons,Sem.run_bind]
  have:(zpN a.tmps (.tmp t)).run P w=.ok x w:=by simp [zpN,hx]
  rw [this]
  simp [h1]
 | .cell t ty::rs,.cell n agg m::asx,vs,hc,hm=>by
  simp only [zbp,Bool.and_eq_true,beq_iff_eq] at hc
  obtain ⟨⟨⟨rfl,hag⟩,hs⟩,hc⟩:=hc
  rw [List.mapM_cons] at hm
  obtain ⟨v,hv,hm⟩:=za.1 hm
  obtain ⟨vs',hvs,hm⟩:=za.1 hm
  cases hm
  obtain ⟨xs,h1,h2⟩:=zgi H R hc hvs
  obtain ⟨vp,hp,hl⟩:=za.1 hv
  obtain ⟨x,hx,hr⟩:=R.env _ _ hp
  obtain ⟨u,hu,hru⟩:=zpa H hr hag hs hl
  refine ⟨u::xs, ?_,.cons hru h2⟩
  rw [List.mapM_cons,Sem.run_bind]
  have:(zpN a.tmps (.cell t ty)).run P w=.ok u w:=by
   simp only [zpN,Array.getD_eq_getD_getElem?,hx,Option.getD_some]
   exact hu
  rw [this]
  simp [h1]
 | [],_::_,_,hc,_=>by cases hc
 | .tmp _::_,[],_,hc,_=>by cases hc
 | .cell _ _::_,[],_,hc,_=>by cases hc
 | .tmp _::_,.cell .. ::_,_,hc,_=>by cases hc
 | .cell _ _::_,.slot _::_,_,hc,_=>by cases hc
theorem zf3 {fn:Func} {res:List zdj} {st:ASt} {v:AV} (H:Heap ρ w S O st.h) (R:Rel G ρ w S O st.env a) (hc:zbp P fn.results.toList res=true) (hv:YL res st=some v):∃ x,(results fn a.tmps).run P w=.ok x w∧zB ρ w S O v x:=by
 obtain ⟨vs,hvs,e⟩:=ze.1 hv
 obtain ⟨xs,h1,h2⟩:=zgi H R hc hvs
 have hrun:(results fn a.tmps).run P w=.ok (if h:xs.toArray.size=1 then xs.toArray[0] else .tuple xs.toArray) w:=by
  rw [zpY,← Array.toArray_toList (xs:=fn.results),List.mapM_toArray,Sem.run_bind]
  have:(List.toArray <$> (fn.results.toList.mapM (zpN a.tmps))).run P w=.ok xs.toArray w:=by
   rw [map_eq_pure_bind,Sem.run_bind,h1];rfl
  rw [this];rfl
 rw [hrun]
 refine ⟨_,rfl, ?_⟩
 cases vs with
 | nil=>
  have:xs=[]:=List.eq_nil_of_length_eq_zero h2.1.symm
  subst this
  subst e
  exact .tup [] [] rfl h2.2
 | cons v1 vs=>
  cases xs with
  | nil=>have:=h2.1;simp at this
  | cons x1 xs=>
   cases vs with
   | nil=>
    have:xs=[]:=by have:=h2.1;simp at this;exact this
    subst this
    subst e
    exact h2.2 0 v1 x1 rfl rfl
   | cons v2 vs=>
    cases xs with
    | nil=>have:=h2.1;simp at this
    | cons x2 xs=>
     subst e
     have:¬ (x1::x2::xs).toArray.size=1:=by simp
     rw [dif_neg this]
     exact .tup _ _ h2.1 h2.2
def zaV:AEx→Exit
 | .normal=>.normal
 | .exit id=>.exit id
 | .ret=>.ret
def zax (P:Program) (G:Nat→Option (List AV)) (F:Nat→Option Dj):Prop:=∀ f ent,F f=some ent→match ent with
 | .fn fn=>zC P f fn=true
 | .ext E=>∀ args h v h',E args h=some (v,h')→yg h h'∧(∃ fn,P.funcs[f]? =some fn∧fn.name≠ "runtime.NumGoroutine" ∧fn.body.isSome=true)∧
   ∀ (ρ:Rho) (w:World) (S O:Nat→Prop) (xs:List Value),Heap ρ w S O h→(∀ g cs,G g=some cs→zB ρ w S O (.dptr cs) (.pointer (some ⟨g,0,none⟩)))→WO (zB ρ w S O) args xs→
    Calls P f xs.toArray w fun e w'=>∃ x,e=.returned x∧Fw ρ w S O h v h' x w'
theorem zax.k (hE:zax P G F):zG4 F:=fun f E hf args h r hr=>(hE f _ hf args h r.1 r.2 hr).1
theorem zqT (args:List AV) (s:Nat):look (zl args) s=args[s]? :=by
 have main:∀ (args:List AV) (k:Nat),look ((args.zipIdx k).map fun p=>(p.2,p.1)) s=if k≤s then args[s - k]? else none:=by
  intro args
  induction args with
  | nil=>intro k;simp [look]
  | cons v args ih=>
   intro k
   rw [List.zipIdx_cons,List.map_cons]
   simp only [look]
   rw [ih (k+1)]
   by_cases e:k=s
   ·subst e;simp
   ·rw [if_neg e]
    by_cases h1:k+1≤s
    ·rw [if_pos h1,if_pos (by omega),show s - k=(s - (k+1))+1 from by omega,List.getElem?_cons_succ]
    ·rw [if_neg h1,if_neg (by omega)]
 have:=main args 0
 simpa [zl] using this
theorem GoodS.keep {st:ASt} (k:GoodS D0 G ρ0 w0 S O0 base N st a w) (live:List Nat):GoodS D0 G ρ0 w0 S O0 base N ⟨uy live st.env,st.h⟩ a w:=by
 obtain ⟨ρ,O,k⟩:=k
 exact ⟨ρ,O,k.adv,k.ext,k.non,k.heap,k.rel.keep live,k.size,k.def0,k.bas⟩
theorem GoodS.agc {live:List Nat} {st st':ASt} (k:GoodS D0 G ρ0 w0 S O0 base N st a w) (hg:agc base live st=some st'):GoodS D0 G ρ0 w0 S O0 base N st' a w:=by
 obtain ⟨ρ,O,k⟩:=k
 obtain ⟨ρ2,h1,h2,h3,h4⟩:=zyf k.heap k.rel k.bas hg
 exact ⟨ρ2,O,k.adv,fun id hid g pl h0=>by rw [h3 id hid];exact k.ext id hid g pl h0,fun id hid h0=>by rw [h3 id hid];exact k.non id hid h0,h1,h2,k.size,k.def0,h4⟩
def zyD (P:Program) (G:Nat→Option (List AV)) (F:Nat→Option Dj) (n:Nat):Prop:=
 ∀ (N base:Nat) (c:Code) (ac:zt) (st:ASt) (r:AEx×ASt),gM G F n base ac st=some r→jK P N c ac=true→∀ (D0:List Deferred×Nat) (ρ0:Rho) (w0:World) (S O0:Nat→Prop) (Q:Exit→Act→World→Prop) (a:Act) (w:World),
  GoodS D0 G ρ0 w0 S O0 base N st a w→(∀ a' w',GoodS D0 G ρ0 w0 S O0 base N r.2 a' w'→Kept (Fe c) a a'→Q (zaV r.1) a' w')→c.wp P Q a w
def zxR (P:Program) (G:Nat→Option (List AV)) (F:Nat→Option Dj) (n:Nat):Prop:=
 ∀ (N base:Nat) (live:List Nat) (c:Code) (ac:zt) (st:ASt) (r:AEx×ASt),gM G F n base (.loop live ac) st=some r→jK P N c ac=true→∀ (D0:List Deferred×Nat) (ρ0:Rho) (w0:World) (S O0:Nat→Prop) (Q:Exit→Act→World→Prop) (a:Act) (w:World),
  GoodS D0 G ρ0 w0 S O0 base N st a w→(∀ a' w',GoodS D0 G ρ0 w0 S O0 base N r.2 a' w'→Kept (Fe c) a a'→Q (zaV r.1) a' w')→Code.rounds P c Q n a w
theorem zcg (hE:zax P G F) (n:Nat) (hC:zyD P G F n):WW P G (gH (gM G F n) F):=by
 intro f args h v h' hr
 obtain ⟨ent,hf,hr⟩:=za.1 hr
 have hent:=hE f ent hf
 cases ent with
 | ext E=>exact (hent args h v h' hr).2
 | fn fn=>
  obtain ⟨r,hrun,hr⟩:=za.1 hr
  have hent:zC P f fn=true:=hent
  unfold zC at hent
  split at hent
  case h_2=>cases hent
  rename_i pf hpf
  simp only [Bool.and_eq_true] at hent
  obtain ⟨⟨hnm,hbody⟩,hres⟩:=hent
  split at hbody
  case h_2=>cases hbody
  rename_i c hpc
  have hne:∀ id,r.1≠.exit id:=fun id e=>by rw [e] at hr;cases hr
  obtain ⟨v1,hv1,e⟩:∃ v1,YL fn.res r.2=some v1∧(v1,r.2.h)=(v,h'):=by
   split at hr
   ·rename_i id e;exact absurd e (hne id)
   ·exact ze.1 hr
  simp only [Prod.mk.injEq] at e
  obtain ⟨rfl,rfl⟩:=e
  refine ⟨⟨pf,hpf,by simpa using hnm,by rw [hpc];rfl⟩,fun ρ w S O xs H hG hargs=> ?_⟩
  refine calls_of_wp hpf hpc (hC pf.ntmps h.length c fn.body ⟨zl args,h⟩ r hrun hbody ([],_) ρ w S O _ _ _ ⟨ρ,O,.refl w O,fun id _ g pl h=>⟨g,pl,h,Nat.le_refl _,fun _=>rfl⟩,fun id _ h=>h,H,⟨fun s u hs=> ?_,hG⟩, ?_,⟨rfl,rfl⟩,Nat.le_refl _⟩ fun a' w' k _=> ?_)
  ·rw [zqT] at hs
   have hlt:s<xs.length:=by have:=(List.getElem?_eq_some_iff.1 hs).1;rw [← hargs.1];exact this
   exact ⟨xs[s],by rw [Array.getElem?_append_left (by simpa using hlt)];simp [hlt],hargs.2 s u _ hs (List.getElem?_eq_getElem hlt)⟩
  ·simp;omega
  ·obtain ⟨ρ',O',k⟩:=k
   obtain ⟨x,hx,hrx⟩:=zf3 k.heap k.rel hres hv1
   have fin:bodyPost P pf (fun e w'=>∃ x,e=.returned x∧Fw ρ w S O h v1 r.2.h x w') .ret a' w':=by
    refine ⟨k.def0.1,x,hx,x,rfl,ρ',O',k.adv,fun id g pl h0=> ?_,k.heap,hrx,k.non⟩
    exact k.ext id (H.lt h0) g pl h0
   cases e:r.1 with
   | normal=>exact fin
   | ret=>exact fin
   | exit id=>exact absurd e (hne id)
theorem zmd (hm:P.follows .mixedOrders=true) (hE:zax P G F):∀ n,zyD P G F n∧zxR P G F n:=by
 intro n
 induction n with
 | zero=>exact ⟨fun N base c ac st r h=>(nomatch h),fun N base live c ac st r h=>(nomatch h)⟩
 | succ n ih=>
  obtain ⟨ih,ihL⟩:=ih
  have loop:zxR P G F (n+1):=by
   intro N base live c ac st r hr hc D0 ρ0 w0 S O0 Q a w k hQ
   obtain ⟨st1,h0,hr⟩:=za.1 hr
   obtain ⟨r1,h1,hr⟩:=za.1 hr
   rw [rounds_succ]
   refine ih N base c ac st1 r1 h1 hc D0 ρ0 w0 S O0 _ a w (k.agc h0) fun a' w' k' hk=> ?_
   cases e:r1.1 with
   | normal=>
    rw [e] at hr
    exact ihL N base live c ac r1.2 r hr hc D0 ρ0 w0 S O0 Q a' w' k' fun a2 w2 k2 hk2=>hQ a2 w2 k2 (hk.trans hk2)
   | exit id=>
    rw [e] at hr
    cases hr
    have:=hQ a' w' k' hk
    rw [e] at this
    exact this
   | ret=>
    rw [e] at hr
    cases hr
    have:=hQ a' w' k' hk
    rw [e] at this
    exact this
  refine ⟨?_,loop⟩
  intro N base c ac st r hr hc D0 ρ0 w0 S O0 Q a w k hQ
  have K:=zcg hE n ih
  have KL:=(zCx (G:=G) (F:=F) hE.k n).2
  cases ac with
  | dead=>cases hr
  | skip=>
   cases c<;>simp only [jK,Bool.false_eq_true] at hc
   cases hr
   exact wp_skip (hQ a w k (Kept.refl _ _))
  | exit id=>
   cases c<;>simp only [jK,Bool.false_eq_true] at hc
   cases hr
   simp only [beq_iff_eq] at hc
   subst hc
   exact wp_exit (hQ a w k (Kept.refl _ _))
  | ret=>
   cases c<;>simp only [jK,Bool.false_eq_true] at hc
   cases hr
   exact wp_ret (hQ a w k (Kept.refl _ _))
  | region ao d live=>
   cases c<;>simp only [jK,Bool.false_eq_true] at hc
   rename_i id ops d'
   simp only [Bool.and_eq_true,beq_iff_eq] at hc
   obtain ⟨⟨rfl,hc1⟩,hc2⟩:=hc
   obtain ⟨st',h1,e⟩:=ze.1 hr
   subst e
   cases d' with
   | false=>exact zps K KL hc1 h1 k fun a' w' k' hk=>hQ a' w' (k'.keep live) hk
   | true=>exact zpd hm K KL hc1 (by simpa using hc2) h1 k fun a' w' k' hk=>hQ a' w' (k'.keep live) hk
  | regionQ ao pm qs live=>
   cases c<;>simp only [jK,Bool.false_eq_true] at hc
   rename_i id ops d'
   simp only [Bool.and_eq_true] at hc
   obtain ⟨⟨rfl,hc1⟩,hc2⟩:=hc
   obtain ⟨st',h1,e⟩:=ze.1 hr
   subst e
   exact zlh hm K KL hc1 hc2 h1 k fun a' w' k' hk=>hQ a' w' (k'.keep live) hk
  | seq x y=>
   cases c<;>simp only [jK,Bool.false_eq_true] at hc
   rename_i cx cy
   simp only [Bool.and_eq_true] at hc
   obtain ⟨r1,h1,hr⟩:=za.1 hr
   refine wp_seq (ih N base cx x st r1 h1 hc.1 D0 ρ0 w0 S O0 _ a w k fun a' w' k' hk1=> ?_)
   have hk:=hk1.mono (M:=Fe (.seq cx cy)) fun s hs=>List.mem_append_left _ hs
   cases e:r1.1 with
   | normal=>
    rw [e] at hr
    exact ih N base cy y r1.2 r hr hc.2 D0 ρ0 w0 S O0 Q a' w' k' fun a2 w2 k2 hk2=>hQ a2 w2 k2 (hk.trans (hk2.mono fun s hs=>List.mem_append_right _ hs))
   | exit id=>
    rw [e] at hr
    cases hr
    have:=hQ a' w' k' hk
    rw [e] at this
    exact this
   | ret=>
    rw [e] at hr
    cases hr
    have:=hQ a' w' k' hk
    rw [e] at this
    exact this
  | cond ax x y=>
   cases c<;>simp only [jK,Bool.false_eq_true] at hc
   rename_i cx x' y'
   simp only [Bool.and_eq_true] at hc
   obtain ⟨v,hv,hr⟩:=za.1 hr
   split at hr
   case h_2=>cases hr
   rename_i t
   obtain ⟨ρ,O,k0⟩:=k
   have hb:=TI (zN hc.1.1 k0.rel hv)
   refine wp_cond hb ?_
   cases t with
   | true=>exact ih N base x' x st r hr hc.1.2 D0 ρ0 w0 S O0 Q a w ⟨ρ,O,k0⟩ fun a2 w2 k2 hk2=>hQ a2 w2 k2 (hk2.mono fun s hs=>List.mem_append_left _ hs)
   | false=>exact ih N base y' y st r hr hc.2 D0 ρ0 w0 S O0 Q a w ⟨ρ,O,k0⟩ fun a2 w2 k2 hk2=>hQ a2 w2 k2 (hk2.mono fun s hs=>List.mem_append_right _ hs)
  | block id b=>
   cases c<;>simp only [jK,Bool.false_eq_true] at hc
   rename_i id' b'
   simp only [Bool.and_eq_true,beq_iff_eq] at hc
   obtain ⟨rfl,hc⟩:=hc
   obtain ⟨r1,h1,e⟩:=ze.1 hr
   subst e
   refine wp_block (ih N base b' b st r1 h1 hc D0 ρ0 w0 S O0 _ a w k fun a' w' k' hk=> ?_)
   have:=hQ a' w' k' hk
   cases e:r1.1 with
   | normal=>rw [e] at this;simpa [zaV,Exit.inBlock] using this
   | ret=>rw [e] at this;simpa [zaV,Exit.inBlock] using this
   | exit i=>
    rw [e] at this
    by_cases hi:i=id'
    ·subst hi;simpa [zaV,Exit.inBlock] using this
    ·simpa [zaV,Exit.inBlock,hi] using this
  | loop live b=>
   cases c<;>simp only [jK,Bool.false_eq_true] at hc
   rename_i b'
   exact wp_loop_rounds (n+1) (loop N base live b' b st r hr hc D0 ρ0 w0 S O0 Q a w k hQ)
theorem znZ (hm:P.follows .mixedOrders=true) (hE:zax P G F):WW P G (aR G F):=by
 intro f args h v h' hr
 obtain ⟨n,hn⟩:=zpL G F hr
 exact zcg hE n (zmd hm hE n).1 f args h v h' (hn n (Nat.le_refl _))
end
end Go.Proofs.YthcnhibjddomdaaGreat
namespace Go.Proofs.YthcnhibjddomdaaGreat
open Go Go.RowKit
instance bs0:FrB:=⟨fun _=>False⟩
inductive Ty where
 | int (k:IntKind)
 | bool
 | str
 | sl (e:List Ty)
mutual
def PX:Ty→AV→Prop
 | .int k,v=>∃ n,v=.int k n∧k.min≤n∧n≤k.max
 | .bool,v=>∃ b,v=.bool b
 | .str,v=>∃ s:ByteArray,v=.str s∧s.size≤9223372036854775807
 | .sl e,v=>∃ (es:List (List AV)) (f:Bool),v=.data false e.length es f∧es.length≤9223372036854775807∧∀ g ∈ es,yV e g
def yV:List Ty→List AV→Prop
 | [],[]=>True
 | t::ts,v::vs=>PX t v∧yV ts vs
 | _,_=>False
end
theorem yV.len:∀ {ts:List Ty} {vs:List AV},yV ts vs→vs.length=ts.length
 | [],[],_=>rfl
 | t::ts,v::vs,h=>by
  simp only [yV] at h
  simp [yV.len h.2]
 | [],_::_,h=>by simp [yV] at h
 | _::_,[],h=>by simp [yV] at h
theorem yV.append:∀ {ts us:List Ty} {vs xs:List AV},yV ts vs→yV us xs→yV (ts++us) (vs++xs)
 | [],_,[],_,_,h=>by simpa using h
 | t::ts,us,v::vs,xs,h,h2=>by
  simp only [yV,List.cons_append] at h ⊢
  exact ⟨h.1,yV.append h.2 h2⟩
 | [],_,_::_,_,h,_=>by simp [yV] at h
 | _::_,_,[],_,h,_=>by simp [yV] at h
def Im (P:Program) (go:TypeId→Option (List Ty)):List Field→Nat→Option (List Ty)
 | [],_=>some []
 | f::r,off=>match go f.type with
  | some ks=>if f.offset=off∧ks.length=P.cellsOf f.type then (Im P go r (off+ks.length)).map (ks++·) else none
  | none=>none
def RL (P:Program):Nat→TypeId→Option (List Ty)
 | 0,_=>none
 | d+1,t=>match P.underlying t with
  | some .bool=>some [.bool]
  | some (.int k)=>some [.int k]
  | some .string=>some [.str]
  | some (.slice e)=>match RL P d e with
   | some ks=>if ks.length=P.cellsOf e∧0<ks.length then some [.sl ks] else none
   | none=>none
  | some (.array n e)=>match RL P d e with
   | some ks=>if ks.length=P.cellsOf e∧P.cellsOf t=n * ks.length then some (List.replicate n ks).flatten else none
   | none=>none
  | some (.struct fs)=>match Im P (RL P d) fs.toList 0 with
   | some ks=>if ks.length=P.cellsOf t then some ks else none
   | none=>none
  | _=>none
def zqP (w:World) (asx:List AV) (cs:List Value):Prop:=
 asx.length=cs.length∧(∀ v ∈ cs,v.oneCell'=true)∧∀ (i:Nat) c v,asx[i]? =some c→cs[i]? =some v→uj w (fun _=>False) c v
def TyC (w:World) (ts:List Ty) (cs:List Value):Prop:=∃ asx,yV ts asx∧zqP w asx cs
theorem zqP.append {w:World} {asx bs:List AV} {cs ds:List Value} (h:zqP w asx cs) (k:zqP w bs ds):zqP w (asx++bs) (cs++ds):=by
 obtain ⟨h1,h2,h3⟩:=h
 obtain ⟨k1,k2,k3⟩:=k
 refine ⟨by simp [h1,k1],fun v hv=>(List.mem_append.1 hv).elim (h2 v) (k2 v),fun i c v hc hv=> ?_⟩
 by_cases hi:i<asx.length
 ·rw [List.getElem?_append_left hi] at hc
  rw [List.getElem?_append_left (by omega)] at hv
  exact h3 i c v hc hv
 ·rw [List.getElem?_append_right (by omega)] at hc
  rw [List.getElem?_append_right (by omega),← h1] at hv
  exact k3 _ c v hc hv
theorem TyC.append {w:World} {ts us:List Ty} {cs ds:List Value} (h:TyC w ts cs) (k:TyC w us ds):TyC w (ts++us) (cs++ds):=by
 obtain ⟨asx,h1,h2⟩:=h
 obtain ⟨bs,k1,k2⟩:=k
 exact ⟨asx++bs,h1.append k1,h2.append k2⟩
theorem TyC.nil {w:World}:TyC w [] []:=⟨[],by simp [yV],rfl,fun _ h=>by simp at h,fun i c v h=>by simp at h⟩
theorem TyC.one {w:World} {t:Ty} {a:AV} {v:Value} (h:PX t a) (ho:v.oneCell'=true) (hr:uj w (fun _=>False) a v):TyC w [t] [v]:=
 ⟨[a],by simp [yV,h],rfl,fun x hx=>by simp at hx;subst hx;exact ho,fun i c x hc hx=>by
  cases i with
  | zero=>simp at hc hx;subst hc hx;exact hr
  | succ i=>simp at hc⟩
theorem zCI {w:World} {n:Nat} {ks:List Ty}:∀ {cs:List Value},cs.length=n * ks.length→(∀ i,i<n→TyC w ks ((cs.drop (i * ks.length)).take ks.length))→TyC w (List.replicate n ks).flatten cs:=by
 induction n with
 | zero=>intro cs hl _;simp at hl;subst hl;simpa using TyC.nil
 | succ n ih=>
  intro cs hl h
  rw [List.replicate_succ,List.flatten_cons]
  have hl':cs.length=ks.length+n * ks.length:=by rw [hl,Nat.succ_mul];omega
  have h0:=h 0 (by omega)
  simp only [Nat.zero_mul,List.drop_zero] at h0
  have h1:=ih (cs:=cs.drop ks.length) (by simp;omega) (fun i hi=>by
   have:=h (i+1) (by omega)
   rw [List.drop_drop]
   rwa [show ks.length+i * ks.length=(i+1) * ks.length by rw [Nat.succ_mul];omega])
  have:=h0.append h1
  rwa [List.take_append_drop] at this
section
variable {H:Type} {enc:TypeId×Value→H} {P:Program} {w:World} {base:Nat} {spare:Nat→Bool} {held:Bool}
theorem zww {fuel:Nat} {go:TypeId→Option (List Ty)} {all:List Value}
  (hgo:∀ (t:TypeId) (ks:List Ty) (cs:List Value) (x:DataW H×List MemPlace),go t=some ks→DataW.trod enc P w base spare held fuel t cs=some x→TyC w ks cs):
  ∀ (fs:List Field) (off:Nat) (ks:List Ty),Im P go fs off=some ks→(∀ f ∈ fs,∃ x,DataW.trod enc P w base spare held fuel f.type ((all.drop f.offset).take (P.cellsOf f.type))=some x)→
   off+ks.length=all.length→TyC w ks (all.drop off)
 | [],off,ks,h,_,hl=>by
  simp only [Im,Option.some.injEq] at h;subst h
  rw [List.drop_eq_nil_of_le (by simp at hl;omega)]
  exact TyC.nil
 | f::r,off,ks,h,ht,hl=>by
  unfold Im at h
  cases hg:go f.type with
  | none=>rw [hg] at h;cases h
  | some k1=>
   rw [hg] at h
   simp only at h
   split at h
   ·rename_i hc
    obtain ⟨ho,hk⟩:=hc
    cases hr:Im P go r (off+k1.length) with
    | none=>rw [hr] at h;cases h
    | some k2=>
     rw [hr] at h
     simp only [Option.map_some,Option.some.injEq] at h
     subst h
     simp only [List.length_append] at hl
     obtain ⟨x,hx⟩:=ht f (by simp)
     have i1:=hgo _ _ _ _ hg hx
     rw [ho,← hk] at i1
     have i2:=zww hgo r (off+k1.length) k2 hr (fun f' hf'=>ht f' (by simp [hf'])) (by omega)
     have:=i1.append i2
     rw [← List.drop_drop] at this
     rwa [List.take_append_drop] at this
   ·cases h
theorem znY {f:Nat→Option Value}:∀ {n:Nat} {cs:List Value},(List.range n).mapM f=some cs→cs.length=n∧∀ j,j<n→f j=cs[j]? :=by
 intro n cs h
 have hl:=mapM_some_length h
 refine ⟨by simpa using hl,fun j hj=> ?_⟩
 exact mapM_some_get h j j (List.getElem?_range hj)
theorem zhy {b off n:Nat} {sp:Option Nat} {a:Addr} {cs:List Value} (ha:a=⟨b,off,sp⟩) (h:w.cells? base a n=some cs):cs.length=n∧(0<n→sp=none)∧∀ j,j<n→w.cell? ⟨b,off+j,none⟩=cs[j]? :=by
 unfold World.cells? at h
 split at h
 ·obtain ⟨hl,hj⟩:=znY h
  subst ha
  have h0:0<n→sp=none:=fun h0=>by
   have:=hj 0 h0
   rw [List.getElem?_eq_getElem (by omega)] at this
   have h1:w.cell? ⟨b,off,sp⟩=some cs[0]:=by simpa [Addr.add] using this
   have:=World.cell?_spot h1
   simpa using this
  refine ⟨hl,h0,fun j hjn=> ?_⟩
  obtain rfl:=h0 (by omega)
  have:=hj j hjn
  rw [← this]
  congr 1
  unfold Addr.add
  split<;>simp_all
 ·cases h
theorem ztX {e:TypeId} {ks:List Ty} {n0 c0 m:Nat} {a:Addr} {elems:List (DataW H×List MemPlace)} (hc:ks.length=P.cellsOf e) (hpos:0<ks.length) (hl:n0≤c0) (hm:c0≤maxLen) (hlen:elems.length=n0)
  (hel:∀ i,i<n0→(w.cells? base (a.add (i * P.cellsOf e)) (P.cellsOf e)).bind (DataW.trod enc P w base spare held m e)=elems[i]?)
  (hgo:∀ (cs:List Value) (x:DataW H×List MemPlace),DataW.trod enc P w base spare held m e cs=some x→TyC w ks cs):
  ∃ av,PX (.sl ks) av∧uj w (fun _=>False) av (.slice (some a) n0 c0):=by
 have hm':n0≤9223372036854775807:=by unfold maxLen at hm;omega
 rcases Nat.eq_zero_or_pos n0 with h0 | h0
 ·subst h0
  refine ⟨.data false ks.length [] false,⟨[],false,rfl,by simp,fun g hg=>by simp at hg⟩,.data0 _ _ _ _ (fun h=>by cases h)⟩
 ·obtain ⟨b,off,sp⟩:=a
  have each:∀ i,i<n0→∃ asx cs,yV ks asx∧zqP w asx cs∧cs.length=ks.length∧sp=none∧b<w.heap.size∧∀ j,j<ks.length→w.cell? ⟨b,off+(i * ks.length+j),none⟩=cs[j]? :=by
   intro i hi
   have h1:=hel i hi
   rw [List.getElem?_eq_getElem (by omega),← hc] at h1
   have h00:=hel 0 (by omega)
   rw [List.getElem?_eq_getElem (by omega),← hc] at h00
   cases hq:w.cells? base (Addr.add ⟨b,off,sp⟩ (i * ks.length)) ks.length with
   | none=>rw [hq] at h1;simp at h1
   | some cs=>
    rw [hq] at h1
    simp only [Option.bind_some] at h1
    cases hq0:w.cells? base (Addr.add ⟨b,off,sp⟩ (0 * ks.length)) ks.length with
    | none=>rw [hq0] at h00;simp at h00
    | some cs0=>
     have s0:=(zhy (b:=b) (off:=off) (sp:=sp) (by simp [Addr.add]) hq0).2.1 hpos
     subst s0
     have ha:(Addr.add ⟨b,off,none⟩ (i * ks.length))=⟨b,off+i * ks.length,none⟩:=by unfold Addr.add;split<;>simp_all
     obtain ⟨hl2,_,hc2⟩:=zhy ha hq
     obtain ⟨asx,t1,t2⟩:=hgo _ _ h1
     refine ⟨asx,cs,t1,t2,hl2,rfl, ?_,fun j hj=>by rw [← hc2 j hj,Nat.add_assoc]⟩
     have hcell:=hc2 0 hpos
     rw [List.getElem?_eq_getElem (by omega)] at hcell
     unfold World.cell? at hcell
     by_cases hb:b<w.heap.size
     ·exact hb
     ·rw [Array.getElem?_eq_none (by simpa using hb)] at hcell
      simp at hcell
  obtain ⟨_,_,_,_,_,hsp,hbd,_⟩:=each 0 h0
  subst hsp
  have hes:∃ es:List (List AV),es.length=n0∧∀ i,i<n0→∃ asx cs,es[i]? =some asx∧yV ks asx∧zqP w asx cs∧cs.length=ks.length∧∀ j,j<ks.length→w.cell? ⟨b,off+(i * ks.length+j),none⟩=cs[j]? :=by
   refine ⟨(List.range n0).map fun i=>if h:i<n0 then Classical.choose (each i h) else [],by simp,fun i hi=> ?_⟩
   obtain ⟨cs,h1,h2,h3,_,_,h4⟩:=Classical.choose_spec (each i hi)
   exact ⟨_,cs,by rw [List.getElem?_map,List.getElem?_range hi];simp [hi],h1,h2,h3,h4⟩
  obtain ⟨es,hesl,hes⟩:=hes
  refine ⟨.data false ks.length es (decide (c0=n0)),⟨es,_,rfl,by omega,fun g hg=> ?_⟩, ?_⟩
  ·obtain ⟨i,hi,rfl⟩:=List.mem_iff_getElem.1 hg
   obtain ⟨asx,cs,h1,h2,_⟩:=hes i (by omega)
   rw [List.getElem?_eq_getElem hi] at h1
   cases h1
   exact h2
  ·have:uj w (fun _=>False) (.data false ks.length es (decide (c0=n0))) (.slice (some ⟨b,off,none⟩) es.length c0):=by
    refine .data ks.length es _ b off c0 (fun e j=>(w.cell? ⟨b,off+(e * ks.length+j),none⟩).getD undef) (by omega) (fun h=>by simp at h;omega) (fun g hg=> ?_) (fun h=>h) hbd (fun e0 j he hj=> ?_) (fun e0 j g c hg hcj=> ?_) False.elim
    ·obtain ⟨i,hi,rfl⟩:=List.mem_iff_getElem.1 hg
     obtain ⟨asx,cs,h1,h2,_⟩:=hes i (by omega)
     rw [List.getElem?_eq_getElem hi] at h1
     cases h1
     exact h2.len
    ·obtain ⟨asx,cs,h1,h2,h3,h4,h5⟩:=hes e0 (by omega)
     have h6:=h5 j hj
     rw [List.getElem?_eq_getElem (by omega)] at h6
     simp only [h6,Option.getD_some,true_and]
     exact h3.2.1 _ (List.getElem_mem _)
    ·obtain ⟨hi,_⟩:=List.getElem?_eq_some_iff.1 hg
     obtain ⟨asx,cs,h1,h2,h3,h4,h5⟩:=hes e0 (by omega)
     rw [hg] at h1
     cases h1
     have hj:j<ks.length:=by rw [← h2.len];exact (List.getElem?_eq_some_iff.1 hcj).1
     have h6:=h5 j hj
     rw [List.getElem?_eq_getElem (by omega)] at h6
     simp only [h6,Option.getD_some]
     exact h3.2.2 j _ _ hcj (List.getElem?_eq_getElem (by omega))
   rwa [hesl] at this
theorem zce:∀ (d:Nat) {t:TypeId} {ts:List Ty},RL P d t=some ts→∀ {fuel:Nat} {cs:List Value} {x:DataW H×List MemPlace},DataW.trod enc P w base spare held fuel t cs=some x→TyC w ts cs
 | 0,_,_,h,_,_,_,_=>by simp [RL] at h
 | d+1,t,ks,h,fuel,cs,x,hx=>by
  unfold RL at h
  split at h
  ·rename_i hu
   simp only [Option.some.injEq] at h;subst h
   obtain ⟨b,rfl,_⟩:=DataW.trod_bool hu hx
   exact TyC.one (a:=.bool b) ⟨b,rfl⟩ rfl (.bool b)
  ·rename_i k hu
   simp only [Option.some.injEq] at h;subst h
   obtain ⟨n,rfl,_,hw⟩:=DataW.trod_int hu hx
   simp only [Lit.wf,Bool.and_eq_true,decide_eq_true_eq] at hw
   exact TyC.one (a:=.int k n) ⟨n,rfl,hw.1,hw.2⟩ rfl (.int k n)
  ·rename_i hu
   simp only [Option.some.injEq] at h;subst h
   obtain ⟨s,rfl,_,hw⟩:=DataW.trod_string hu hx
   exact TyC.one (a:=.str s) ⟨s,rfl,by unfold maxLen at hw;omega⟩ rfl (.str s)
  ·rename_i e hu
   cases hr:RL P d e with
   | none=>rw [hr] at h;cases h
   | some k1=>
    rw [hr] at h
    simp only at h
    split at h
    ·rename_i hc
     simp only [Option.some.injEq] at h;subst h
     rcases DataW.trod_slice hu hx with ⟨rfl,_⟩ | ⟨a,len,cap,elems,rest,n,_,rfl,_,hb,hl,hm,hlen,hel,_,_⟩
     ·exact TyC.one (a:=.data false k1.length [] true) ⟨[],true,rfl,by simp,fun g hg=>by simp at hg⟩ rfl (.data0 _ _ _ _ (fun _=>rfl))
     ·obtain ⟨av,h1,h2⟩:=ztX hc.1 hc.2 hl hm hlen hel (fun cs x hx=>zce d hr hx)
      exact TyC.one h1 rfl h2
    ·cases h
  ·rename_i n e hu
   cases hr:RL P d e with
   | none=>rw [hr] at h;cases h
   | some k1=>
    rw [hr] at h
    simp only at h
    split at h
    ·rename_i hc
     simp only [Option.some.injEq] at h;subst h
     obtain ⟨xs,m,rfl,_,hl,hxl,hel⟩:=DataW.trod_array hu hx
     refine zCI (by rw [hl,hc.2]) (fun i hi=> ?_)
     have:=hel i hi
     rw [List.getElem?_eq_getElem (by omega),← hc.1] at this
     exact zce d hr this
    ·cases h
  ·rename_i fs hu
   cases hr:Im P (RL P d) fs.toList 0 with
   | none=>rw [hr] at h;cases h
   | some k1=>
    rw [hr] at h
    simp only at h
    split at h
    ·rename_i hc
     simp only [Option.some.injEq] at h;subst h
     obtain ⟨xs,m,rfl,_,hl,hxl,hel⟩:=DataW.trod_struct hu hx
     have:=zww (enc:=enc) (w:=w) (base:=base) (spare:=spare) (held:=held) (fuel:=m) (go:=RL P d) (all:=cs) (fun t ks cs x h1 h2=>zce d h1 h2) fs.toList 0 k1 hr (fun f hf=>by
      obtain ⟨i,hi,hfi⟩:=List.mem_iff_getElem.1 hf
      have h3:=hel i f (by simp at hi;rw [Array.getElem?_eq_getElem hi];simpa using hfi)
      rw [List.getElem?_eq_getElem (by simp at hi;omega)] at h3
      exact ⟨_,h3⟩) (by omega)
     simpa using this
    ·cases h
  ·cases h
theorem zty {d b0:Nat} {t:TypeId} {ts:List Ty} {v:Value} {r:Reach} {dd:DataW H} {ps:List MemPlace} (hf:RL P d t=some ts) (ht:(∃ fs,P.underlying t=some (.struct fs))∨∃ n e,P.underlying t=some (.array n e))
  (hval:Value.okWide P w r b0 t v) (h:DataW.Trod enc P w base spare held t v dd ps):∃ asx,yV ts asx∧zB (fun _=>none) w (fun _=>False) (fun _=>False) (.agg asx) v:=by
 have hv:∃ cs,v=.agg cs:=by
  rcases ht with ⟨fs,ht⟩ | ⟨n,e,ht⟩<;>simp only [Value.okWide,ht] at hval<;>exact ⟨_,hval.choose_spec.1⟩
 obtain ⟨cs,rfl⟩:=hv
 obtain ⟨fuel,hx⟩:=h
 obtain ⟨asx,h1,h2,h3,h4⟩:=zce d hf hx
 simp only [Value.cells] at h2 h3 h4
 refine ⟨asx,h1,.s ?_⟩
 have:=uj.agg (w:=w) (X:=fun _=>False) asx cs.toList h2 h3 h4
 simpa using this
theorem zeK {d:Nat} {t:TypeId} {ty:Ty} {v:Value} {dd:DataW H} {ps:List MemPlace} (hf:RL P d t=some [ty]) (hv:v.cells= #[v])
  (h:DataW.Trod enc P w base spare held t v dd ps):∃ a,PX ty a∧zB (fun _=>none) w (fun _=>False) (fun _=>False) a v:=by
 obtain ⟨fuel,hx⟩:=h
 rw [hv] at hx
 obtain ⟨asx,h1,h2,h3,h4⟩:=zce d hf hx
 cases asx with
 | nil=>simp at h2
 | cons a asx=>
  cases asx with
  | cons b asx=>simp at h2
  | nil=>
   simp only [yV,and_true] at h1
   refine ⟨a,h1,.s ?_⟩
   have:=h4 0 a v rfl rfl
   simpa using this
end
end Go.Proofs.YthcnhibjddomdaaGreat
namespace Go.Proofs.YthcnhibjddomdaaGreat
open Go
theorem zaY (h:List zf) (low:Nat):∀ (n:Nat) (ws:List Nat),(∀ i ∈ ws,i<low)→uD h low n ws []=[]
 | 0,_,_=>rfl
 | n+1,[],_=>by simp [uD]
 | n+1,i::ws,hw=>by
  have hi:i<low:=hw i (by simp)
  rw [uD,if_pos (.inl hi)]
  exact zaY h low n ws fun j hj=>hw j (by simp [hj])
mutual
theorem zlC (h:List zf) (low off:Nat) (order:List Nat):∀ (v:AV),(∀ i ∈ v.ids,i<low)→v.ren h low off order=v
 | .own id g s l c,hv=>by rw [AV.ren,if_pos (hv id (by simp [AV.ids]))]
 | .ptr id g e o,hv=>by rw [AV.ren,if_pos (hv id (by simp [AV.ids]))]
 | .agg cs,hv=>by rw [AV.ren,JB h low off order cs (by simpa [AV.ids] using hv)]
 | .tup cs,hv=>by rw [AV.ren,JB h low off order cs (by simpa [AV.ids] using hv)]
 | .fn f a b,hv=>by
  simp only [AV.ids,List.mem_append] at hv
  rw [AV.ren,JB h low off order a (fun i hi=>hv i (.inl hi)),JB h low off order b (fun i hi=>hv i (.inr hi))]
 | .int _ _,_=>by simp [AV.ren]
 | .bool _,_=>by simp [AV.ren]
 | .str _,_=>by simp [AV.ren]
 | .data _ _ _ _,_=>by simp [AV.ren]
 | .dptr _,_=>by simp [AV.ren]
 | .nilfn,_=>by simp [AV.ren]
 | .nilptr,_=>by simp [AV.ren]
 | .unk,_=>by simp [AV.ren]
theorem JB (h:List zf) (low off:Nat) (order:List Nat):∀ (vs:List AV),(∀ i ∈ AV.idsL vs,i<low)→AV.renL h low off order vs=vs
 | [],_=>by simp [AV.renL]
 | v::vs,hv=>by
  simp only [AV.idsL,List.mem_append] at hv
  rw [AV.renL,zlC h low off order v (fun i hi=>hv i (.inl hi)),JB h low off order vs (fun i hi=>hv i (.inr hi))]
end
theorem zg2 {i:Nat}:∀ {vs:List AV},i ∈ AV.idsL vs↔∃ v ∈ vs,i ∈ v.ids
 | []=>by simp [AV.idsL]
 | v::vs=>by simp [AV.idsL,zg2 (vs:=vs)]
def vT (h:List zf):Prop:=∀ r ∈ h,∀ i ∈ r.ids,i<h.length
theorem zdW {h:List zf} {low off:Nat} {order:List Nat} {r:zf} (hr:∀ i ∈ r.ids,i<low):r.ren h low off order=r:=by
 unfold zf.ren
 split
 ·rfl
 ·rename_i hf
  have hids:r.ids=r.es.flatMap AV.idsL:=by simp [zf.ids,hf]
  rw [hids] at hr
  have:r.es.map (AV.renL h low off order)=r.es:=by
   conv=>rhs;rw [← List.map_id r.es]
   apply List.map_congr_left
   intro g hg
   exact JB h low off order g fun i hi=>hr i (List.mem_flatMap.2 ⟨g,hg,hi⟩)
  rw [this]
theorem zCZ {h:List zf} {live:List Nat} {env:yF} (hC:vT h) (hE:∀ p ∈ uy live env,∀ i ∈ p.2.ids,i<h.length):agc h.length live ⟨env,h⟩=some ⟨uy live env,h⟩:=by
 have ho:uD h h.length 64 (AV.idsL ((uy live env).map (·.2))++(h.take h.length).flatMap zf.ids) []=[]:=by
  refine zaY h _ 64 _ fun i hi=> ?_
  rcases List.mem_append.1 hi with hi | hi
  ·obtain ⟨v,hv,hi⟩:=zg2.1 hi
   obtain ⟨p,hp,rfl⟩:=List.mem_map.1 hv
   exact hE p hp i hi
  ·obtain ⟨r,hr,hi⟩:=List.mem_flatMap.1 hi
   rw [List.take_length] at hr
   exact hC r hr i hi
 unfold agc
 simp only [ho]
 have e1:(uy live env).map (fun p=>(p.1,p.2.ren h h.length h.length []))=uy live env:=by
  conv=>rhs;rw [← List.map_id (uy live env)]
  apply List.map_congr_left
  intro p hp
  rw [zlC h _ _ _ p.2 (hE p hp)]
  rfl
 have e2:(h.take h.length).map (zf.ren h h.length h.length [])=h:=by
  rw [List.take_length]
  conv=>rhs;rw [← List.map_id h]
  apply List.map_congr_left
  intro r hr
  exact zdW (hC r hr)
 rw [e1,e2]
 simp [Wx,Fs]
theorem znj {h e:List zf} {live:List Nat} {env:yF} (hC:vT h) (hE:∀ p ∈ uy live env,∀ i ∈ p.2.ids,i<h.length):agc h.length live ⟨env,h++e⟩=some ⟨uy live env,h⟩:=by
 have ht:(h++e).take h.length=h:=List.take_left' rfl
 have ho:uD (h++e) h.length 64 (AV.idsL ((uy live env).map (·.2))++((h++e).take h.length).flatMap zf.ids) []=[]:=by
  refine zaY _ _ 64 _ fun i hi=> ?_
  rcases List.mem_append.1 hi with hi | hi
  ·obtain ⟨v,hv,hi⟩:=zg2.1 hi
   obtain ⟨p,hp,rfl⟩:=List.mem_map.1 hv
   exact hE p hp i hi
  ·obtain ⟨r,hr,hi⟩:=List.mem_flatMap.1 hi
   rw [ht] at hr
   exact hC r hr i hi
 unfold agc
 simp only [ho]
 have e1:(uy live env).map (fun p=>(p.1,p.2.ren (h++e) h.length h.length []))=uy live env:=by
  conv=>rhs;rw [← List.map_id (uy live env)]
  apply List.map_congr_left
  intro p hp
  rw [zlC _ _ _ _ p.2 (hE p hp)]
  rfl
 have e2:((h++e).take h.length).map (zf.ren (h++e) h.length h.length [])=h:=by
  rw [ht]
  conv=>rhs;rw [← List.map_id h]
  apply List.map_congr_left
  intro r hr
  exact zdW (hC r hr)
 rw [e1,e2]
 simp [Wx,Fs]
theorem vT.set {h:List zf} {id:Nat} {r:zf} (hC:vT h) (hr:r.flat=true):vT (h.set id r):=fun r' hr' i hi=>by
 rw [List.length_set]
 rcases List.mem_or_eq_of_mem_set hr' with h1 | h1
 ·exact hC r' h1 i hi
 ·subst h1;simp [zf.ids,hr] at hi
theorem zBS {G:Nat→Option (List AV)} {F:Nat→Option Dj} (n:Nat) {f:Nat} {args:List AV} {v:AV} (h:((gH (gM G F n) F f args []).bind fun r=>yn r.2 r.1)=some v):aP G F f args=some v:=by
 obtain ⟨r,h1,h2⟩:=za.1 h
 exact za.2 ⟨r,Rw F (Sq G F n) _ _ _ _ h1,h2⟩
section
variable (G:Nat→Option (List AV)) (raw:uE) (env:yF) (h:List zf)
def zwV (h:List zf) (zero:List AV):AV→Option (AV×List zf)
 | .own id gen s l _=>(h[id]?).bind fun r=>if r.gen=gen∧r.k=zero.length∧s+l≤r.es.length then
   some (.tup [],h.set id ⟨r.k,r.gen,r.flat&&AV.stableL zero,r.es.take s++List.replicate l zero++r.es.drop (s+l)⟩) else none
 | _=>none
theorem zAy (zero:List AV) (x:zD):zx G raw env h (.clear zero x)=(zo G env x).bind (zwV h zero):=by
 simp only [zx,aop]
 congr 1
end
end Go.Proofs.YthcnhibjddomdaaGreat
namespace Go.Proofs.YthcnhibjddomdaaGreat
open Go
theorem zFU (b:zt) (r:List zdj):(AFn.mk b r).body=b:=rfl
theorem zGX (b:zt) (r:List zdj):(AFn.mk b r).res=r:=rfl
theorem zGi (e:yF) (h:List zf):(ASt.mk e h).env=e:=rfl
theorem y_h (e:yF) (h:List zf):(ASt.mk e h).h=h:=rfl
theorem zG2 {α β:Type} (a:α) (b:β):(a,b).1=a:=rfl
theorem zGR {α β:Type} (a:α) (b:β):(a,b).2=b:=rfl
theorem y_k (k g:Nat) (f:Bool) (es:List (List AV)):(zf.mk k g f es).k=k:=rfl
theorem zG7 (k g:Nat) (f:Bool) (es:List (List AV)):(zf.mk k g f es).gen=g:=rfl
theorem zF1 (k g:Nat) (f:Bool) (es:List (List AV)):(zf.mk k g f es).flat=f:=rfl
theorem zHL (k g:Nat) (f:Bool) (es:List (List AV)):(zf.mk k g f es).es=es:=rfl
theorem zHi (k g:Nat) (f:Bool) (es:List (List AV)) (e:Nat) (x:List AV) (st:Bool):(zf.mk k g f es).put e x st=⟨k,g,f&&st,es.set e x⟩:=rfl
theorem zHT:(false=true)=False:=by simp
theorem zHG (b:Bool):(b==true)=b:=by cases b<;>rfl
theorem zHA (b:Bool):(b==false)= !b:=by cases b<;>rfl
theorem zHW (b:Bool):(b != true)= !b:=by cases b<;>rfl
theorem zHD (b:Bool):(b != false)=b:=by cases b<;>rfl
theorem zBP (n:Nat):Int.toNat (OfNat.ofNat n:Int)=(OfNat.ofNat n:Nat):=rfl
section
variable (G:Nat→Option (List AV)) (F:Nat→Option Dj) (raw:uE)
noncomputable def zsH (base:Nat) (b:zt) (r:AEx×ASt):Option (AEx×ASt):=match r.1 with
 | .normal=>aE G F base b r.2
 | _=>some r
theorem zGF (base:Nat) (a b:zt) (st:ASt):aE G F base (.seq a b) st=(aE G F base a st).bind (zsH G F base b):=zEB G F base a b st
theorem zEF (base:Nat) (b:zt) (st:ASt):zsH G F base b (.normal,st)=aE G F base b st:=rfl
theorem zqA (base:Nat) (b:zt) (st:ASt):zsH G F base b (.ret,st)=some (.ret,st):=rfl
theorem zmB (base id:Nat) (b:zt) (st:ASt):zsH G F base b (.exit id,st)=some (.exit id,st):=rfl
def zhd (id:Nat) (r:AEx×ASt):AEx×ASt:=(if r.1=.exit id then .normal else r.1,r.2)
theorem zCX (base id:Nat) (b:zt) (st:ASt):aE G F base (.block id b) st=(aE G F base b st).map (zhd id):=zAC G F base id b st
theorem zCi (id:Nat) (st:ASt):zhd id (.normal,st)=(.normal,st):=rfl
theorem znQ (id:Nat) (st:ASt):zhd id (.ret,st)=(.ret,st):=rfl
theorem zkI (id i:Nat) (st:ASt):zhd id (.exit i,st)=if i=id then (.normal,st) else (.exit i,st):=by
 unfold zhd
 by_cases h:i=id
 ·subst h;simp
 ·simp [h]
theorem zFh (base:Nat) (c:zD) (a b:zt) (st:ASt):aE G F base (.cond c a b) st=((zo G st.env c).bind zr9).bind fun t=>if t=true then aE G F base a st else aE G F base b st:=by
 rw [zBT]
 cases zo G st.env c with
 | none=>rfl
 | some v=>
  cases v with
  | bool t=>cases t<;>rfl
  | _=>rfl
noncomputable def zkV (base:Nat) (live:List Nat) (b:zt) (r:AEx×ASt):Option (AEx×ASt):=match r.1 with
 | .normal=>aE G F base (.loop live b) r.2
 | _=>some r
theorem zn (base:Nat) (live:List Nat) (b:zt) (st:ASt):aE G F base (.loop live b) st=(agc base live st).bind fun st=>(aE G F base b st).bind (zkV G F base live b):=zlr G F base live b st
theorem zCg (base:Nat) (live:List Nat) (b:zt) (st:ASt):zkV G F base live b (.normal,st)=aE G F base (.loop live b) st:=rfl
theorem zmy (base:Nat) (live:List Nat) (b:zt) (st:ASt):zkV G F base live b (.ret,st)=some (.ret,st):=rfl
theorem zk6 (base id:Nat) (live:List Nat) (b:zt) (st:ASt):zkV G F base live b (.exit id,st)=some (.exit id,st):=rfl
def zFg (live:List Nat) (st:ASt):AEx×ASt:=(.normal,⟨uy live st.env,st.h⟩)
theorem zw2 (base:Nat) (ops:List zb) (d:Bool) (live:List Nat) (env:yF) (h:List zf):aE G F base (.region ops d live) ⟨env,h⟩=(jO G (aR G F) ops ⟨env,h⟩).map (zFg live):=zuI G F base ops d live _
def aqs (A:List zb) (qs:List (Nat×List Nat)) (Ts:List ASt):Option ASt:=if Wy G raw A qs Ts=true then Ts.getLast? else none
theorem zvh (base:Nat) (ops:List zb) (pm:List Nat) (qs:List (Nat×List Nat)) (live:List Nat) (env:yF) (h:List zf):aE G F base (.regionQ ops pm qs live) ⟨env,h⟩=((JK G (aR G F) ops [] ⟨env,h⟩).bind (aqs G (aR G F) ops qs)).map (zFg live):=zoS G F base ops pm qs live _
theorem zGo (A:List zb) (qs:List (Nat×List Nat)) (Ts:List ASt):aqs G raw A qs Ts=if Wy G raw A qs Ts=true then Ts.getLast? else none:=rfl
theorem zCq (s:ASt):[s].getLast?=some s:=rfl
theorem zBU (s t:ASt) (l:List ASt):(s::t::l).getLast?=(t::l).getLast?:=by simp
theorem zB7 (acc:List ASt) (st:ASt):JK G raw [] acc st=some (acc++[st]):=rfl
theorem zyk (acc:List ASt) (env:yF) (h:List zf) (d:Option Nat) (op:AOp) (os:List zb):JK G raw (⟨d,none,op⟩::os) acc ⟨env,h⟩=(zx G raw env h op).bind fun r=>JK G raw os (acc++[⟨env,h⟩]) ⟨LZ env d r.1,r.2⟩:=by
 rw [JK]
 simp only [PO]
 cases zx G raw env h op<;>rfl
def zqi (e':yF) (d:Nat) (h hm:List zf) (r:Option (AV×List zf)):Bool:=r.elim false fun r=>decide (look e' d=some r.1)&&decide (r.2=hm)&&r.1.ids.all fun i=>decide (i<h.length)
theorem zBZ (e':yF) (d:Nat) (h hm h2:List zf) (v:AV):zqi e' d h hm (some (v,h2))=(decide (look e' d=some v)&&decide (h2=hm)&&v.ids.all fun i=>decide (i<h.length)):=rfl
theorem zlk (A:List zb) (Ts:List ASt):Wy G raw A [] Ts=true:=rfl
def zb6 (A:List zb) (x:Nat) (Ms:List Nat) (Ts:List ASt):Bool:=Ms.all fun M=>Rb G raw A Ts x M
theorem ziI (A:List zb) (x:Nat) (Ms:List Nat) (qs:List (Nat×List Nat)) (Ts:List ASt):Wy G raw A ((x,Ms)::qs) Ts=(zb6 G raw A x Ms Ts&&Wy G raw A qs Ts):=rfl
theorem zzX (A:List zb) (x:Nat) (Ts:List ASt):zb6 G raw A x [] Ts=true:=rfl
theorem zvn (A:List zb) (x M:Nat) (Ms:List Nat) (Ts:List ASt):zb6 G raw A x (M::Ms) Ts=(Rb G raw A Ts x M&&zb6 G raw A x Ms Ts):=rfl
def zkG (raw:uE) (o:Option zb) (s s' m:Option ASt):Bool:=o.elim false fun o=>s.elim false fun s=>s'.elim false fun s'=>m.elim false fun m=>UU G raw o s s' m.h
theorem zox (A:List zb) (Ts:List ASt) (x M:Nat):Rb G raw A Ts x M=zkG G raw A[x]? Ts[x]? Ts[x+1]? Ts[M]? :=rfl
def zFj (h h' hm:List zf):Bool:=(h'[h.length]?).elim false fun r=>r.flat&&decide (hm[h.length]? =some r)
def zGQ (raw:uE) (d:Nat) (op:AOp) (e e':yF) (h h' hm:List zf):Bool:=if op.early=true then zFj h h' hm else decide (h'=h)&&zqi e' d h hm (zx G raw e hm op)
theorem zpA (d m:Nat) (b:Bool) (x:zD) (e e':yF) (h h' hm:List zf):zGQ G raw d (.load b m x) e e' h h' hm=(decide (h'=h)&&zqi e' d h hm (zx G raw e hm (.load b m x))):=rfl
theorem zzY (d:Nat) (op:AOp) (e e' em:yF) (h h' hm:List zf):zkG G raw (some ⟨some d,none,op⟩) (some ⟨e,h⟩) (some ⟨e',h'⟩) (some ⟨em,hm⟩)=zGQ G raw d op e e' h h' hm:=by
 simp only [zkG,UU,goes,Option.elim_some,if_true];rfl
theorem zGW (live:List Nat) (env:yF) (h:List zf):zFg live ⟨env,h⟩=(.normal,⟨uy live env,h⟩):=rfl
def zh (res:List zdj) (r:AEx×ASt):Option (AV×List zf):=match r.1 with
 | .exit _=>none
 | _=>(YL res r.2).map (·,r.2.h)
theorem zX {f:Nat} {fn:AFn} (hf:F f=some (.fn fn)) (args:List AV) (h:List zf):aR G F f args h=(aE G F h.length fn.body ⟨zl args,h⟩).bind (zh fn.res):=zGY G F hf args h
theorem zGN (res:List zdj) (st:ASt):zh res (.normal,st)=(YL res st).map (·,st.h):=rfl
theorem zuu (res:List zdj) (st:ASt):zh res (.ret,st)=(YL res st).map (·,st.h):=rfl
end
section
variable (h:List zf)
theorem zCB (off:Nat) (cs g:List AV):patch off cs g=g.take off++cs++g.drop (off+cs.length):=rfl
theorem zon (m id gen e off:Nat) (cs:List AV):IR h true m (.ptr id gen e off) (.agg cs)=(h[id]?).bind fun r=>if r.gen=gen then (r.es[e]?).bind fun g=>if cs.length=m∧off+m≤g.length then some (h.set id (r.put e (patch off cs g) (AV.stableL cs))) else none else none:=rfl
theorem zn0 (m id gen e off:Nat) (k:IntKind) (n:Int):IR h false m (.ptr id gen e off) (.int k n)=(h[id]?).bind fun r=>if r.gen=gen then (r.es[e]?).bind fun g=>if off<g.length then some (h.set id (r.put e (g.set off (.int k n)) true)) else none else none:=rfl
theorem zkM (m id gen e off:Nat) (b:Bool):IR h false m (.ptr id gen e off) (.bool b)=(h[id]?).bind fun r=>if r.gen=gen then (r.es[e]?).bind fun g=>if off<g.length then some (h.set id (r.put e (g.set off (.bool b)) true)) else none else none:=rfl
theorem zkP (m id gen e off:Nat) (b:Bool) (k:Nat) (es:List (List AV)) (f:Bool):IR h false m (.ptr id gen e off) (.data b k es f)=(h[id]?).bind fun r=>if r.gen=gen then (r.es[e]?).bind fun g=>if off<g.length then some (h.set id (r.put e (g.set off (.data b k es f)) (!b))) else none else none:=rfl
theorem zmw (m id gen e off i g s l c:Nat):IR h false m (.ptr id gen e off) (.own i g s l c)=(h[id]?).bind fun r=>if r.gen=gen then (r.es[e]?).bind fun gr=>if off<gr.length then some (h.set id (r.put e (gr.set off (.own i g s l c)) false)) else none else none:=rfl
theorem zqS (m id gen e off:Nat) (f:Fn) (a b:List AV):IR h false m (.ptr id gen e off) (.fn f a b)=(h[id]?).bind fun r=>if r.gen=gen then (r.es[e]?).bind fun gr=>if off<gr.length then some (h.set id (r.put e (gr.set off (.fn f a b)) (AV.stableL a&&AV.stableL b))) else none else none:=rfl
theorem zGD (k k':IntKind) (a b:Int):PS .shr (.int k a) (.int k' b)=if b<0 then none else some (.int k (a.fdiv (2^min b.toNat k.bits))):=rfl
theorem zHY (k:IntKind) (a b:Int):WJ .ki (.int k a) (.int k b)=some (decide (a=b)):=by
 have e:(a==b)=decide (a=b):=by by_cases h:a=b<;>simp [h]
 simp [WJ,e]
theorem zHS (a b:ByteArray):WJ .ks (.str a) (.str b)=some (a==b):=rfl
theorem zuq:vR [] [] []=some true:=rfl
theorem zqX (s:Sh) (ss:List Sh) (a b:AV) (asx bs:List AV):vR (s::ss) (a::asx) (b::bs)=(WJ s a b).bind fun x=>(vR ss asx bs).bind fun y=>some (x&&y):=rfl
theorem zxS (sh:List Sh) (asx bs:List AV):aeq true sh (.agg asx) (.agg bs)=vR sh asx bs:=rfl
theorem zzM (s:Sh) (a b:AV):aeq false [s] a b=WJ s a b:=rfl
theorem zt5:zg4 .kf .nilfn=some true:=rfl
theorem zyl (f:Fn) (a b:List AV):zg4 .kf (.fn f a b)=some false:=rfl
theorem zpB (b:Bool) (k:Nat) (e:List AV) (es:List (List AV)) (f:Bool):zg4 .ks (.data b k (e::es) f)=some false:=rfl
def zzV (h:List zf) (k id gen s l c:Nat) (r:zf) (ys:List (List AV)×Bool):Option (AV×List zf):=if r.gen=gen∧r.k=k∧s+(l+ys.1.length)≤r.es.length then
    some (.own id gen s (l+ys.1.length) c,h.set id ⟨k,gen,r.flat&&ys.2,r.es.take (s+l)++ys.1++r.es.drop (s+l+ys.1.length)⟩) else none
def zsK (h:List zf) (k bytes id gen s l:Nat) (r:zf) (ys:List (List AV)×Bool):Option (AV×List zf):=if r.gen=gen∧r.k=k∧s+l≤r.es.length∧uR (l+ys.1.length) bytes=true then
    some (.own id (gen+1) 0 (l+ys.1.length) (l+ys.1.length),h.set id ⟨k,gen+1,r.flat&&ys.2,(r.es.drop s).take l++ys.1⟩) else none
theorem zvm (k bytes id gen s l c:Nat) (y:AV):zkx h k bytes (.own id gen s l c) y=(oJ h k y).bind fun ys=>(h[id]?).bind fun r=>if l<c∧l+ys.1.length≤c then zzV h k id gen s l c r ys else zsK h k bytes id gen s l r ys:=rfl
theorem zxb (k id gen s l c kk g:Nat) (f:Bool) (es ys:List (List AV)) (fl:Bool):zzV h k id gen s l c ⟨kk,g,f,es⟩ (ys,fl)=if g=gen∧kk=k∧s+(l+ys.length)≤es.length then
    some (.own id gen s (l+ys.length) c,h.set id ⟨k,gen,f&&fl,es.take (s+l)++ys++es.drop (s+l+ys.length)⟩) else none:=rfl
theorem zuY (k bytes id gen s l kk g:Nat) (f:Bool) (es ys:List (List AV)) (fl:Bool):zsK h k bytes id gen s l ⟨kk,g,f,es⟩ (ys,fl)=if g=gen∧kk=k∧s+l≤es.length∧uR (l+ys.length) bytes=true then
    some (.own id (gen+1) 0 (l+ys.length) (l+ys.length),h.set id ⟨k,gen+1,f&&fl,(es.drop s).take l++ys⟩) else none:=rfl
theorem zyV (n bytes:Nat):uR n bytes=decide (n * bytes≤140737488355328):=rfl
theorem zFn (k bytes k':Nat) (es:List (List AV)) (y:AV):zhE h k bytes (.data false k' es true) y=(oJ h k y).bind fun ys=>if (es.isEmpty||k'==k)=true∧ys.2=true∧uR (es.length+ys.1.length) bytes=true then some (.data false k (es++ys.1) false) else none:=rfl
theorem zlW (b:Nat):om b none=some b:=rfl
theorem zkm (b:Nat) (k:IntKind) (i:Int):om b (some (.int k i))=if 0≤i then some i.toNat else none:=rfl
theorem zAj (k id gen s l c:Nat) (lo hi mx:Option AV):zcr h k (.own id gen s l c) lo hi mx=(om 0 lo).bind fun a=>(om l hi).bind fun b=>(om c mx).bind fun m=>
   (h[id]?).bind fun r=>if r.gen=gen∧r.k=k then if a≤b∧b≤m∧m≤c then some (.own id gen (s+a) (b - a) (m - a)) else none else none:=rfl
theorem zus (k:Nat) (bor:Bool) (k':Nat) (es:List (List AV)) (full:Bool) (lo hi:Option AV):zcr h k (.data bor k' es full) lo hi none=(om 0 lo).bind fun a=>(om es.length hi).bind fun b=>
   if k'=k then if a≤b∧b≤es.length then some (.data bor k ((es.take b).drop a) (full&&decide (b=es.length))) else none else none:=by
 simp only [zcr,om,Option.bind_some,Nat.le_refl,and_true]
theorem zpW (k:Nat) (bor:Bool) (k':Nat) (es:List (List AV)) (full:Bool) (lo hi:Option AV) (mx:AV):zcr h k (.data bor k' es full) lo hi (some mx)=(om 0 lo).bind fun a=>(om es.length hi).bind fun b=>(om es.length (some mx)).bind fun m=>
   if k'=k then if a≤b∧b≤m∧m≤es.length then some (.data bor k ((es.take b).drop a) (decide (m=b))) else none else none:=rfl
theorem zEP (agg:Bool) (m n:Nat) (cs:List AV) (k:IntKind) (i:Int):zAd agg m n (.agg cs) (.int k i)=if 0≤i∧i<n then zaq agg m (i.toNat * m) cs else none:=rfl
theorem zoo (zero:List AV):Db zero []=some zero:=rfl
theorem zkz (zero:List AV) (off m:Nat) (v:AV) (ps:List (Nat×Nat×AV)):Db zero ((off,m,v)::ps)=v.cells.bind fun cs=>if cs.length=m∧off+m≤zero.length then Db (patch off cs zero) ps else none:=rfl
theorem zpu (k:Nat) (es:List (List AV)):Dv k es []=some es:=rfl
theorem zmN (k:Nat) (es:List (List AV)) (i:Nat) (v:AV) (ps:List (Nat×AV)):Dv k es ((i,v)::ps)=v.cells.bind fun cs=>if cs.length=k∧i<es.length then Dv k (es.set i cs) ps else none:=rfl
theorem zqk:Sv []=true:=rfl
theorem zn8 (e:List AV) (es:List (List AV)):Sv (e::es)=(AV.stableL e&&Sv es):=rfl
theorem zvU:AV.stableL []=true:=by rw [AV.stableL]
theorem zoU (v:AV) (vs:List AV):AV.stableL (v::vs)=(v.stable&&AV.stableL vs):=by rw [AV.stableL]
theorem zwR (k:IntKind) (n:Int):(AV.int k n).stable=true:=by rw [AV.stable]
theorem zuj (b:Bool):(AV.bool b).stable=true:=by rw [AV.stable]
theorem zpV:AV.nilfn.stable=true:=by rw [AV.stable]
theorem ztV (b:Bool) (k:Nat) (es:List (List AV)) (f:Bool):(AV.data b k es f).stable= !b:=by rw [AV.stable]
theorem zxz (a b c d e:Nat):(AV.own a b c d e).stable=false:=by rw [AV.stable]
theorem zyM (a b c d:Nat):(AV.ptr a b c d).stable=false:=by rw [AV.stable]
theorem zu7 (a b c d e:Nat):(AV.own a b c d e).ids=[a]:=by rw [AV.ids]
theorem zua (a b c d:Nat):(AV.ptr a b c d).ids=[a]:=by rw [AV.ids]
theorem zuW (cs:List AV):(AV.agg cs).ids=AV.idsL cs:=by rw [AV.ids]
theorem zwp (f:Fn) (a b:List AV):(AV.fn f a b).ids=AV.idsL a++AV.idsL b:=by rw [AV.ids]
theorem ztI (k:IntKind) (n:Int):(AV.int k n).ids=[]:=by simp [AV.ids]
theorem zp9 (b:Bool):(AV.bool b).ids=[]:=by simp [AV.ids]
theorem zoG (b:Bool) (k:Nat) (es:List (List AV)) (f:Bool):(AV.data b k es f).ids=[]:=by simp [AV.ids]
theorem zqD:AV.idsL []=[]:=by rw [AV.idsL]
theorem znx (v:AV) (vs:List AV):AV.idsL (v::vs)=v.ids++AV.idsL vs:=by rw [AV.idsL]
section
variable (low off:Nat) (order:List Nat)
theorem zvT (id g s l c:Nat):(AV.own id g s l c).ren h low off order=if id<low then .own id g s l c else (h[id]?).elim .unk fun r=>(order.idxOf? id).elim .unk fun j=>if r.gen=g then .own (off+j) 0 s l c else .unk:=by
 rw [AV.ren]
 cases h[id]? <;>cases order.idxOf? id<;>rfl
theorem zuA (id g e o:Nat):(AV.ptr id g e o).ren h low off order=if id<low then .ptr id g e o else (h[id]?).elim .unk fun r=>(order.idxOf? id).elim .unk fun j=>if r.gen=g then .ptr (off+j) 0 e o else .unk:=by
 rw [AV.ren]
 cases h[id]? <;>cases order.idxOf? id<;>rfl
theorem zvB (cs:List AV):(AV.agg cs).ren h low off order=.agg (AV.renL h low off order cs):=by rw [AV.ren]
theorem zwA (f:Fn) (a b:List AV):(AV.fn f a b).ren h low off order=.fn f (AV.renL h low off order a) (AV.renL h low off order b):=by rw [AV.ren]
theorem zvs (k:IntKind) (n:Int):(AV.int k n).ren h low off order=.int k n:=by simp [AV.ren]
theorem zoE (b:Bool):(AV.bool b).ren h low off order=.bool b:=by simp [AV.ren]
theorem zpE (b:Bool) (k:Nat) (es:List (List AV)) (f:Bool):(AV.data b k es f).ren h low off order=.data b k es f:=by simp [AV.ren]
theorem zqJ:AV.renL h low off order []=[]:=by rw [AV.renL]
theorem zor (v:AV) (vs:List AV):AV.renL h low off order (v::vs)=v.ren h low off order::AV.renL h low off order vs:=by rw [AV.renL]
theorem zqC (k g:Nat) (es:List (List AV)):(zf.mk k g true es).ren h low off order=⟨k,g,true,es⟩:=rfl
theorem zuJ (k g:Nat) (es:List (List AV)):(zf.mk k g false es).ren h low off order=⟨k,g,false,es.map (AV.renL h low off order)⟩:=rfl
theorem zm7 (k g:Nat) (es:List (List AV)):(zf.mk k g true es).ids=[]:=rfl
theorem zqc (k g:Nat) (es:List (List AV)):(zf.mk k g false es).ids=es.flatMap AV.idsL:=rfl
theorem zmI (low n:Nat) (acc:List Nat):uD h low (n+1) [] acc=acc:=by simp [uD]
theorem zly (low n i:Nat) (ws acc:List Nat):uD h low (n+1) (i::ws) acc=if i<low then uD h low n ws acc else if acc.contains i=true then uD h low n ws acc else (h[i]?).elim (uD h low n ws acc) fun r=>uD h low n (ws++r.ids) (acc++[i]):=by
 rw [uD]
 by_cases h1:i<low
 ·simp [h1]
 ·by_cases h2:acc.contains i=true
  ·simp only [h1,h2,or_true,if_true,if_false]
  ·simp only [h1,h2,or_false,if_false]
   cases h[i]? <;>rfl
def nodupB:List Nat→Bool
 | []=>true
 | i::is=> !is.contains i&&nodupB is
theorem zjX:∀ l:List Nat,decide l.Nodup=nodupB l
 | []=>by simp [nodupB]
 | i::is=>by
  rw [nodupB,← zjX is]
  by_cases h1:i ∈ is<;>by_cases h2:is.Nodup<;>simp [h1,h2]
def zaT (h:List zf) (low:Nat):List Nat→Bool
 | []=>true
 | i::is=>decide (low≤i)&&decide (i<h.length)&&zaT h low is
theorem ziM (low:Nat):∀ l:List Nat,(l.all fun i=>decide (low≤i)&&decide (i<h.length))=zaT h low l
 | []=>rfl
 | i::is=>by rw [zaT,← ziM low is];rfl
theorem zuw (low:Nat) (order:List Nat):Wx h low order=(nodupB order&&zaT h low order):=by
 unfold Wx
 rw [ziM,zjX]
theorem zm3:nodupB []=true:=rfl
theorem zlo (i:Nat) (is:List Nat):nodupB (i::is)=(!is.contains i&&nodupB is):=rfl
theorem zuH (low:Nat):zaT h low []=true:=rfl
theorem zp4 (low i:Nat) (is:List Nat):zaT h low (i::is)=(decide (low≤i)&&decide (i<h.length)&&zaT h low is):=rfl
def IG (h:List zf) (low off:Nat) (order:List Nat):List Nat→List zf
 | []=>[]
 | i::is=>(h[i]?).elim (IG h low off order is) fun r=>{ r.ren h low off order with gen:=0 }::IG h low off order is
theorem zjH:∀ (l:List Nat),(l.filterMap fun i=>(h[i]?).map fun r=>{ r.ren h low off order with gen:=0 })=IG h low off order l
 | []=>rfl
 | i::is=>by
  rw [IG,← zjH is]
  cases e:h[i]? <;>simp [e]
theorem zGb:Fs h low off order=IG h low off order order:=zjH h low off order order
theorem zvM:IG h low off order []=[]:=rfl
theorem ztR (i:Nat) (is:List Nat):IG h low off order (i::is)=(h[i]?).elim (IG h low off order is) fun r=>⟨(r.ren h low off order).k,0,(r.ren h low off order).flat,(r.ren h low off order).es⟩::IG h low off order is:=rfl
end
def zqm (base:Nat) (env:yF) (h:List zf) (order:List Nat):Option ASt:=
 if Wx h base order=true then some ⟨env.map fun p=>(p.1,p.2.ren h base base order),(h.take base).map (zf.ren h base base order)++Fs h base base order⟩ else none
def zwX (base:Nat) (h:List zf) (env:yF):Option ASt:=zqm base env h (uD h base 64 (AV.idsL (env.map (·.2))++(h.take base).flatMap zf.ids) [])
theorem zHJ (base:Nat) (live:List Nat) (env:yF) (h:List zf):agc base live ⟨env,h⟩=zwX base h (uy live env):=rfl
theorem zBn (base:Nat) (h:List zf) (env:yF):zwX base h env=zqm base env h (uD h base 64 (AV.idsL (env.map (·.2))++(h.take base).flatMap zf.ids) []):=rfl
theorem zCl (base:Nat) (env:yF) (h:List zf) (order:List Nat):zqm base env h order=if Wx h base order=true then some ⟨env.map fun p=>(p.1,p.2.ren h base base order),(h.take base).map (zf.ren h base base order)++Fs h base base order⟩ else none:=rfl
theorem zqM (id g s l c:Nat):ZC h (.own id g s l c)=(h[id]?).bind fun r=>if r.gen=g∧r.flat=true∧s+l≤r.es.length then some (.data true r.k ((r.es.drop s).take l) false) else none:=by rw [ZC]
theorem zoA (cs:List AV):ZC h (.agg cs)=(yE h cs).map .agg:=by rw [ZC]
theorem zoz (k:IntKind) (n:Int):ZC h (.int k n)=some (.int k n):=by simp [ZC]
theorem zl5 (b:Bool) (k:Nat) (es:List (List AV)) (f:Bool):ZC h (.data b k es f)=some (.data b k es f):=by simp [ZC]
theorem znt:yE h []=some []:=by rw [yE]
theorem zkL (v:AV) (vs:List AV):yE h (v::vs)=(ZC h v).bind fun x=>(yE h vs).map (x::·):=by rw [yE]
theorem zjs (id g s l c:Nat):yn h (.own id g s l c)=(h[id]?).bind fun r=>if r.gen=g∧r.flat=true∧s+l≤r.es.length then some (.data false r.k ((r.es.drop s).take l) false) else none:=by rw [yn]
theorem zp8 (k:Nat) (es:List (List AV)) (f:Bool):yn h (.data false k es f)=some (.data false k es false):=by rw [yn]
theorem zi8 (cs:List AV):yn h (.agg cs)=(yc h cs).map .agg:=by rw [yn]
theorem zjI (cs:List AV):yn h (.tup cs)=(yc h cs).map .tup:=by rw [yn]
theorem zvN (k:IntKind) (n:Int):yn h (.int k n)=some (.int k n):=by rw [yn]
theorem zpJ (b:Bool):yn h (.bool b)=some (.bool b):=by rw [yn]
theorem zwo (f:Fn) (a b:List AV):yn h (.fn f a b)=if (AV.stableL a&&AV.stableL b)=true then some (.fn f a b) else none:=by rw [yn]
theorem zqt:yc h []=some []:=by rw [yc]
theorem znU (v:AV) (vs:List AV):yc h (v::vs)=(yn h v).bind fun x=>(yc h vs).map (x::·):=by rw [yc]
theorem zyg (k:IntKind) (n:Int):(AV.int k n).clean=true:=by simp [AV.clean]
theorem zz5 (a b c d e:Nat):(AV.own a b c d e).clean=true:=by simp [AV.clean]
theorem zpi:AV.nilfn.clean=true:=by simp [AV.clean]
theorem zmx:AV.nilptr.clean=true:=by simp [AV.clean]
theorem zu0:AV.cleanL []=true:=by rw [AV.cleanL]
theorem zqh (v:AV) (vs:List AV):AV.cleanL (v::vs)=(v.clean&&AV.cleanL vs):=by rw [AV.cleanL]
def zdf:Option zf→Bool
 | some r=>r.flat||r.es.all AV.cleanL
 | none=>false
theorem zCj (k g:Nat) (f:Bool) (es:List (List AV)):zdf (some ⟨k,g,f,es⟩)=(f||es.all AV.cleanL):=rfl
def zjz (h h':List zf) (r:AV) (order:List Nat):Option (AV×List zf):=
 if (Wx h' 0 order&&r.clean&&order.all (fun i=>zdf h'[i]?))=true then some (r.ren h' 0 h.length order,h++Fs h' 0 h.length order) else none
theorem zCO (h h':List zf) (r:AV):zc9 h h' r=zjz h h' r (uD h' 0 64 r.ids []):=rfl
theorem zqE (h h':List zf) (r:AV) (order:List Nat):zjz h h' r order=if (Wx h' 0 order&&r.clean&&order.all (fun i=>zdf h'[i]?))=true then some (r.ren h' 0 h.length order,h++Fs h' 0 h.length order) else none:=rfl
theorem zB0 (zero:List AV) (id gen s l c:Nat):zwV h zero (.own id gen s l c)=(h[id]?).bind fun r=>if r.gen=gen∧r.k=zero.length∧s+l≤r.es.length then
   some (.tup [],h.set id ⟨r.k,r.gen,r.flat&&AV.stableL zero,r.es.take s++List.replicate l zero++r.es.drop (s+l)⟩) else none:=rfl
end
section
variable (G:Nat→Option (List AV)) (raw:uE) (env:yF) (h:List zf)
theorem zku (b:Bool) (k:Nat) (es:List (List AV)) (f:Bool):zos (.data b k es f)=some (.data b k es f):=rfl
end
section
variable (G:Nat→Option (List AV)) (raw:uE) (env:yF) (h:List zf) (n:Nat)
theorem zBk (agg:Bool) (m:Nat) (cs:List AV):zx3 agg m (.dptr cs)=zaq agg m 0 cs:=rfl
theorem zyh (cs:List AV):dv h (n+1) (.agg cs)=(dvL (dv h n) cs).map fun p=>(.agg p.1,p.2):=rfl
end
theorem zws (b:Bool):zez b []=[]:=rfl
theorem zuQ (b:Bool) (v:AV) (g:List AV):zez b (v::g)=v.tob b::zez b g:=rfl
theorem zyJ (b:Bool) (g:List AV):zg3 b g=.dptr (zez b g):=rfl
theorem zy2 (b:Bool) (k:Nat) (es:List (List AV)) (f:Bool):AV.tob b (.data false k es f)=.data b k es f:=by cases b<;>rfl
theorem zCJ (b:Bool) (k:IntKind) (n:Int):AV.tob b (.int k n)=.int k n:=rfl
def za8 (g:List AV):Bool:=g.all AV.plain
theorem zmo:uC []=true:=rfl
theorem Pz (g:List AV) (es:List (List AV)):uC (g::es)=(za8 g&&uC es):=rfl
theorem zpt:za8 []=true:=rfl
theorem zno (v:AV) (g:List AV):za8 (v::g)=(v.plain&&za8 g):=rfl
theorem zur (k:IntKind) (n:Int):AV.plain (.int k n)=true:=rfl
theorem zu3 (s:ByteArray):AV.plain (.str s)=true:=rfl
end Go.Proofs.YthcnhibjddomdaaGreat
namespace Go.Proofs.YthcnhibjddomdaaGreat
open Go
def jm (k:Nat):List AV→List zf→Option (AV×List zf)
 | [.data b k' es _],[]=>if k'=k∧es.length≤1000000∧(!b||uC es)=true then some (.own 0 1 0 es.length es.length,[⟨k,1,true,es⟩]) else none
 | _,_=>none
def KV (k:Nat):List AV→List zf→Option (AV×List zf)
 | [.own id g s n c,.int .i64 i,.own id2 g2 s2 m c2],h=>(h[id]?).bind fun r=>(h[id2]?).bind fun r2=>
   match r2.es with
   | x::_=>if s=0∧s2=0∧m=1∧n=c∧id≠id2∧r.gen=g∧r.k=k∧r.es.length=n∧r2.gen=g2∧r2.k=k∧0≤i∧i≤n∧n≤1000000 then
     some (.own id (g+1) 0 (n+1) (n+1),h.set id ⟨k,g+1,r.flat&&r2.flat,r.es.take i.toNat++[x]++r.es.drop i.toNat⟩) else none
   | []=>none
 | _,_=>none
abbrev Pc:=Int×Int×List Int×Bool
def byt (l:List Int):List (List AV):=l.map fun x=>[.int .u8 x]
theorem zjh (l:List Int):uC (byt l)=true:=by simp [uC,byt,AV.plain]
def UK (x:Pc):List AV:=[.int .i64 x.1,.int .i64 x.2.1,.data false 1 (byt x.2.2.1) x.2.2.2]
def pcs (q:List Pc):List (List AV):=q.map UK
def VG (m a:Int) (n:Nat):Bool:=decide (1≤m)&&decide (m≤8)&&decide (1≤a)&&decide (a≤1073741824)&&decide ((1:Int)≤n)&&decide ((n:Int)≤16)
def jG:Int→List Pc→Bool
 | _,[]=>true
 | n,x::q=>VG x.1 x.2.1 x.2.2.1.length&&decide (n+x.2.2.1.length≤64)&&jG (n+x.2.2.1.length) q
def zV (q:List Pc):Nat:=(q.map fun x=>x.2.2.1.length).sum
def zgM (t:List (List AV)):Option (List Int):=t.mapM fun g=>match g with | [.int .u8 x]=>some x | _=>none
def zt1:List AV→Option Pc
 | [.int .i64 m,.int .i64 a,.data false 1 t f]=>(zgM t).map fun l=>(m,a,l,f)
 | _=>none
def zbL:List AV→List zf→Option (AV×List zf)
 | [.data _ 3 es _],h=>(es.mapM zt1).bind fun q=>if q.length≤1000000∧(∀ x ∈ q,x.2.2.1.length≤1000000)∧zV q≤1000000 then some (.int .i64 (if jG 0 q=true then zV q else 0),h) else none
 | _,_=>none
def ziA (n:Nat) (a:AFn):Nat→Option Dj:=fun f=>if f=n then some (.fn a) else none
end Go.Proofs.YthcnhibjddomdaaGreat
namespace Go.Proofs.YthcnhibjddomdaaGreat
open Go
def ints (l:List Int):List (List AV):=l.map fun n=>[.int .i64 n]
theorem yh:ints []=[]:=rfl
theorem uz (x:Int) (l:List Int):ints (x::l)=[.int .i64 x]::ints l:=rfl
theorem uw (l m:List Int):ints (l++m)=ints l++ints m:=by simp [ints]
theorem zw (l:List Int):(ints l).length=l.length:=by simp [ints]
theorem zt4 (l:List Int) (i:Nat):(ints l)[i]? =(l[i]?).map fun n=>[.int .i64 n]:=by simp [ints]
theorem ints_at {l:List Int} {i:Nat} (h:i<l.length):(ints l)[i]? =some [.int .i64 l[i]]:=by simp [ints,h]
theorem ints_set (l:List Int) (i:Nat) (x:Int):(ints l).set i [.int .i64 x]=ints (l.set i x):=by simp [ints,List.map_set]
theorem zdh (l:List Int) (i:Nat):(ints l).take i=ints (l.take i):=by simp [ints,List.map_take]
theorem zuD (l:List Int) (i:Nat):(ints l).drop i=ints (l.drop i):=by simp [ints,List.map_drop]
theorem zaW (l:List Int):uC (ints l)=true:=by simp [uC,ints,AV.plain]
theorem zH {n:Nat} (h:n<9223372036854775807):IntKind.i64.wrap ((n:Int)+1)=((n+1:Nat):Int):=by
 rw [ZV _ (by omega) (by omega)];rfl
theorem zrM {G:Nat→Option (List AV)} {F:Nat→Option Dj} {base:Nat} {live:List Nat} {b:zt} {st s:ASt} (h1:agc base live st=some s) (h2:agc base live s=some s):aE G F base (.loop live b) st=aE G F base (.loop live b) s:=by
 rw [zlr,zlr,h1,h2]
end Go.Proofs.YthcnhibjddomdaaGreat
namespace Go.Proofs.YthcnhibjddomdaaGreat
open Go
abbrev Qa:= @zBp
abbrev Qb:= @zFm
abbrev Qc:= @zCM
abbrev Qd:= @zwZ
abbrev Qe:= @zvr
abbrev Qf:= @zoX
abbrev Qg:= @zqf
abbrev Qh:= @zmu
abbrev Qi:= @zBX
abbrev Qj:= @zxr
abbrev Ql:= @zBC
abbrev Qm:= @zBB
abbrev Qn:= @zAH
abbrev Qo:= @zBW
abbrev Qp:= @zBL
abbrev Qq:= @zxt
abbrev Qr:= @zFi
abbrev Qs:= @zxi
abbrev Qt:= @zzo
abbrev Qu:= @zBx
abbrev Qv:= @zys
abbrev Qw:= @zE9
abbrev Qx:= @zqV
abbrev Qy:= @zmM
abbrev Qz:= @zmC
abbrev Q0:= @zkZ
abbrev Q1:= @zy0
abbrev Q2:= @zqy
abbrev Q3:= @zug
abbrev Q4:= @zCT
abbrev Q5:= @zzm
abbrev Q6:= @zAt
abbrev Q9:= @zvf
abbrev Xa:= @zEN
abbrev Xb:= @zGL
abbrev Xc:= @zAZ
abbrev Xd:= @zFq
abbrev Xe:= @zBr
abbrev Xg:= @zBy
abbrev Xi:= @zBi
abbrev Xj:= @zBu
abbrev Xl:= @zvL
abbrev Xm:= @zuM
abbrev Xn:= @zHu
abbrev Xp:= @zz4
abbrev Xs:= @zGe
abbrev Xt:= @zvO
abbrev Xu:= @zCK
abbrev Xw:= @zvR
abbrev Xx:= @zqU
abbrev Xy:= @zGh
abbrev X0:= @ztL
abbrev X1:= @zoC
abbrev X4:= @zEU
abbrev X5:= @zCy
abbrev X6:= @zBK
abbrev X8:= @zBR
abbrev X9:= @zCu
abbrev Ya:= @zBV
abbrev Yb:= @zCL
abbrev Yc:= @zC1
abbrev Yd:= @zB6
abbrev Ye:= @zCc
abbrev Yg:= @zCh
abbrev Yh:= @zvY
abbrev Yj:= @zvQ
abbrev Yk:= @zvv
abbrev Yn:= @zoW
abbrev Yo:= @zuK
abbrev Yr:= @zw4
abbrev Ys:= @zuV
abbrev Yt:= @zAR
abbrev Yu:= @zCv
abbrev Yv:= @ztW
abbrev Yw:= @zoY
abbrev Yx:= @zBF
abbrev Yy:= @zw7
abbrev Yz:= @zoD
abbrev Y1:= @zwg
abbrev Y2:= @zpT
abbrev Y3:= @zmO
abbrev Y4:= @zC4
abbrev Y5:= @zB5
abbrev Y6:= @zBQ
abbrev Y7:= @zAW
abbrev Y8:= @zx5
abbrev Y9:= @zu8
abbrev Za:= @zvz
abbrev Zb:= @zpQ
abbrev Zc:= @zvo
abbrev Zd:= @zvx
abbrev Ze:= @elim_some
abbrev Zf:= @zuk
abbrev Zg:= @zfY
abbrev Zh:= @zt3
abbrev Zi:= @List.zipIdx_cons
abbrev Zj:= @List.zipIdx_nil
abbrev Zk:= @List.map_cons
abbrev Zl:= @List.map_nil
abbrev Zm:= @List.length_nil
abbrev Zn:= @List.length_cons
abbrev Zo:= @zvb
abbrev Zp:= @ztK
abbrev Zq:= @zuF
abbrev Zr:= @zFU
abbrev Zs:= @zGX
abbrev Zt:= @zGi
abbrev Zu:= @y_h
abbrev Zv:= @zG2
abbrev Zw:= @zGR
abbrev Zx:= @y_k
abbrev Zy:= @zG7
abbrev Zz:= @zF1
abbrev Z0:= @zHL
abbrev Z1:= @zHi
abbrev Z3:= @zHT
abbrev Ja:= @zHG
abbrev Jb:= @zHA
abbrev Jg:= @zHW
abbrev Jh:= @zHD
abbrev Jj:= @zGF
abbrev Jk:= @zEF
abbrev Jl:= @zqA
abbrev Jm:= @zmB
abbrev Jn:= @zCX
abbrev Jo:= @zCi
abbrev Jp:= @znQ
abbrev Jq:= @zkI
abbrev Jr:= @zFh
abbrev Js:= @zCg
abbrev Jt:= @zmy
abbrev Ju:= @zk6
abbrev Jv:= @zw2
abbrev Jw:= @zGN
abbrev Jx:= @zuu
abbrev J1:= @zCB
abbrev J2:= @zon
abbrev J3:= @zn0
abbrev J4:= @zkM
abbrev J6:= @zkP
abbrev J7:= @zmw
abbrev J9:= @zqS
abbrev Ke:= @zGD
abbrev Kh:= @zHY
abbrev Kj:= @zHS
abbrev Kk:= @zuq
abbrev Kl:= @zqX
abbrev Km:= @zxS
abbrev Kn:= @zzM
abbrev Ko:= @zt5
abbrev Kq:= @zyl
abbrev Ku:= @zpB
abbrev Kv:= @zvm
abbrev Kx:= @zyV
abbrev Ky:= @zFn
abbrev K0:= @zlW
abbrev K1:= @zkm
abbrev K2:= @zAj
abbrev K3:= @zus
abbrev K4:= @zpW
abbrev K6:= @zEP
abbrev K8:= @zoo
abbrev K9:= @zkz
abbrev Ua:= @zpu
abbrev Ub:= @zmN
abbrev Uc:= @zqk
abbrev Ud:= @zn8
abbrev Ue:= @zvU
abbrev Uf:= @zoU
abbrev Ug:= @zwR
abbrev Uh:= @zuj
abbrev Uj:= @zpV
abbrev Ul:= @ztV
abbrev Uq:= @zxz
abbrev Ur:= @zyM
abbrev Us:= @zu7
abbrev Ut:= @zua
abbrev Uu:= @zuW
abbrev Uw:= @zwp
abbrev Ux:= @ztI
abbrev Uy:= @zp9
abbrev U0:= @zoG
abbrev U4:= @zqD
abbrev U5:= @znx
abbrev U6:= @zvT
abbrev U7:= @zuA
abbrev U8:= @zvB
abbrev Va:= @zwA
abbrev Vb:= @zvs
abbrev Vc:= @zoE
abbrev Ve:= @zpE
abbrev Vi:= @zqJ
abbrev Vj:= @zor
abbrev Vk:= @zqC
abbrev Vl:= @zuJ
abbrev Vm:= @zm7
abbrev Vn:= @zqc
abbrev Vo:= @zmI
abbrev Vp:= @zly
abbrev Vq:= @zuw
abbrev Vr:= @zm3
abbrev Vs:= @zlo
abbrev Vt:= @zuH
abbrev Vu:= @zp4
abbrev Vv:= @zGb
abbrev Vw:= @zvM
abbrev Vx:= @ztR
abbrev Vy:= @zHJ
abbrev Vz:= @zBn
abbrev V0:= @zCl
abbrev V1:= @zqM
abbrev V3:= @zoA
abbrev V6:= @zoz
abbrev V9:= @zl5
abbrev Wd:= @znt
abbrev We:= @zkL
abbrev Wf:= @zjs
abbrev Wg:= @zp8
abbrev Wh:= @zi8
abbrev Wi:= @zjI
abbrev Wj:= @zvN
abbrev Wk:= @zpJ
abbrev Wp:= @zqt
abbrev Wq:= @znU
abbrev Ww:= @zyg
abbrev Wz:= @zz5
abbrev W1:= @zpi
abbrev W2:= @zmx
abbrev W3:= @zu0
abbrev W4:= @zqh
abbrev W5:= @zCj
abbrev W6:= @zCO
abbrev W7:= @zqE
abbrev W8:= @zB0
abbrev Hf:= @zku
abbrev Hh:= @List.getElem?_cons_zero
abbrev Hi:= @List.getElem?_cons_succ
abbrev Hk:= @List.set_cons_zero
abbrev Hl:= @List.set_cons_succ
abbrev Hn:= @List.length_set
abbrev Ho:= @List.take_succ_cons
abbrev Hp:= @List.take_zero
abbrev Hq:= @List.take_nil
abbrev Hr:= @List.drop_succ_cons
abbrev Hs:= @List.drop_zero
abbrev Ht:= @List.drop_nil
abbrev Hu:= @List.cons_append
abbrev Hv:= @List.nil_append
abbrev Hw:= @List.append_nil
abbrev Hx:= @List.length_append
abbrev Hy:= @List.all_cons
abbrev Hz:= @List.all_nil
abbrev H0:= @List.flatMap_cons
abbrev H1:= @List.flatMap_nil
abbrev H2:= @List.replicate_zero
abbrev H3:= @List.replicate_succ
abbrev H4:= @List.contains_cons
abbrev H5:= @List.contains_nil
abbrev H6:= @List.idxOf?_cons
abbrev H8:= @Nat.zero_add
abbrev H9:= @Nat.add_zero
abbrev Na:= @Nat.sub_zero
abbrev Nb:= @Nat.sub_self
abbrev Nc:= @Nat.mul_one
abbrev Ne:= @Nat.zero_mul
abbrev Nf:= @Nat.zero_le
abbrev Ng:= @Nat.le_refl
abbrev Nh:= @Nat.lt_irrefl
abbrev Ni:= @Int.toNat_natCast
abbrev Nk:= @Int.natCast_nonneg
abbrev Nl:= @decide_true
abbrev Nm:= @decide_false
abbrev Nn:= @decide_eq_true_eq
abbrev No:= @Bool.and_true
abbrev Np:= @Bool.true_and
abbrev Nq:= @Bool.and_false
abbrev Nr:= @Bool.false_and
abbrev Ns:= @Bool.or_true
abbrev Nt:= @Bool.true_or
abbrev Nu:= @Bool.or_false
abbrev Nv:= @Bool.false_or
abbrev Nw:= @Bool.not_true
abbrev Nx:= @Bool.not_false
abbrev Nz:= @and_true
abbrev N0:= @true_and
abbrev N1:= @and_false
abbrev N2:= @false_and
abbrev Bb:= @zAy
abbrev Be:= @zGW
abbrev Bf:= @zxb
abbrev Bg:= @zuY
abbrev Bh:= @Int.cast_ofNat_Int
abbrev Bi:= @zBP
abbrev Bn:= @zBk
abbrev Bq:= @zyh
abbrev BD:= @zvh
abbrev BE:= @zGo
abbrev BF:= @zCq
abbrev BG:= @zBU
abbrev BH:= @zB7
abbrev BI:= @zyk
abbrev BK:= @zBZ
abbrev BL:= @zlk
abbrev BM:= @ziI
abbrev BN:= @zzX
abbrev BO:= @zvn
abbrev BP:= @zox
abbrev BQ:= @zzY
abbrev BY:= @zpA
abbrev Ma:= @zws
abbrev Mb:= @zuQ
abbrev Md:= @zyJ
abbrev Me:= @zy2
abbrev Mf:= @zCJ
abbrev Mk:= @zjh
abbrev Ml:= @zaW
abbrev Mm:= @zmo
abbrev Mn:= @Pz
abbrev Mo:= @zpt
abbrev Mp:= @zno
abbrev Mq:= @zur
abbrev Ms:= @zu3
end Go.Proofs.YthcnhibjddomdaaGreat
namespace Go.Proofs.YthcnhibjddomdaaGreat
open Go Go.RowKit
theorem zx4 {h:List zf} {v:AV} {b:Bool} (hf:yn h v=some (.bool b)):v=.bool b:=by
 cases v with
 | bool c=>simpa [yn] using hf
 | own id g s l c=>
  rw [zjs] at hf
  obtain ⟨r,_,hf⟩:=za.1 hf
  split at hf<;>simp at hf
 | data bo k es f=>cases bo<;>simp [yn] at hf
 | agg cs=>rw [zi8] at hf;obtain ⟨x,_,hf⟩:=ze.1 hf;cases hf
 | tup cs=>rw [zjI] at hf;obtain ⟨x,_,hf⟩:=ze.1 hf;cases hf
 | fn f a b=>rw [zwo] at hf;split at hf<;>simp at hf
 | _=>simp [yn] at hf
theorem zmD {R:AV→Value→Prop}:WO R [] []:=⟨rfl,fun i c v h=>by simp at h⟩
theorem SK {R:AV→Value→Prop} {a:AV} {asx:List AV} {x:Value} {xs:List Value} (h:R a x) (k:WO R asx xs):WO R (a::asx) (x::xs):=by
 refine ⟨by simp [k.1],fun i c v hc hv=> ?_⟩
 cases i with
 | zero=>simp at hc hv;subst hc hv;exact h
 | succ i=>exact k.2 i c v (by simpa using hc) (by simpa using hv)
def InK (k:IntKind) (n:Int):Prop:=k.min≤n∧n≤k.max
theorem zBm {n:Int}:InK .i64 n↔ -9223372036854775808≤n∧n≤9223372036854775807:=by
 simp [InK,IntKind.min,IntKind.max,IntKind.signed,IntKind.bits]
theorem Td {k:IntKind} {a:AV} (h:PX (.int k) a):∃ n,a=.int k n∧InK k n:=by
 simp only [PX] at h
 exact h
theorem zzv {k:IntKind} {g:List AV} (h:yV [.int k] g):∃ n,g=[.int k n]∧InK k n:=by
 cases g with
 | nil=>simp [yV] at h
 | cons a g=>
  cases g with
  | cons b g=>simp [yV] at h
  | nil=>
   simp only [yV,and_true] at h
   obtain ⟨n,rfl,hn⟩:=Td h
   exact ⟨n,rfl,hn⟩
theorem zch {α:Type} {Q:α→Prop} {f:α→List AV}:∀ (es:List (List AV)),(∀ g ∈ es,∃ x,g=f x∧Q x)→∃ l:List α,es=l.map f∧∀ x ∈ l,Q x
 | [],_=>⟨[],rfl,by simp⟩
 | g::es,h=>by
  obtain ⟨x,rfl,hx⟩:=h g (by simp)
  obtain ⟨l,rfl,hl⟩:=zch es (fun g hg=>h g (by simp [hg]))
  exact ⟨x::l,rfl,fun y hy=>by
   rcases List.mem_cons.1 hy with rfl | hy
   ·exact hx
   ·exact hl y hy⟩
theorem zBt {a:AV} (h:PX (.sl [.int .i64]) a):∃ l f,a=.data false 1 (ints l) f∧l.length≤9223372036854775807∧∀ x ∈ l,InK .i64 x:=by
 simp only [PX] at h
 obtain ⟨es,f,rfl,hl,he⟩:=h
 obtain ⟨l,rfl,hq⟩:=zch (Q:=InK .i64) (f:=fun n=>[AV.int .i64 n]) es (fun g hg=>zzv (he g hg))
 exact ⟨l,f,rfl,by simpa using hl,hq⟩
theorem zcc {g:List AV} (h:yV [] g):g=[]:=by cases g<;>simp [yV] at h ⊢
theorem ol {t:Ty} {ts:List Ty} {g:List AV} (h:yV (t::ts) g):∃ a asx,g=a::asx∧PX t a∧yV ts asx:=by
 cases g with
 | nil=>simp [yV] at h
 | cons a g=>simp only [yV] at h;exact ⟨a,g,rfl,h.1,h.2⟩
end Go.Proofs.YthcnhibjddomdaaGreat
