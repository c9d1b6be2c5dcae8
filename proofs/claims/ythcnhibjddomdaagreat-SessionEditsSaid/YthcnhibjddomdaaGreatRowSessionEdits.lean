/- The statement of SessionEdits: for every input the law returns true and its arguments read as before. Conditions: none. -/
import Derived.Test.YthcnhibjddomdaaGreatRows
import Derived.Test.YthcnhibjddomdaaGreatK5
import Derived.Test.YthcnhibjddomdaaGreatK3
import Derived.Test.YthcnhibjddomdaaGreatK8
import Derived.ChangeOld
set_option maxRecDepth 100000
set_option maxHeartbeats 8000000
set_option linter.unusedVariables false
set_option linter.unusedSimpArgs false
set_option linter.unusedSectionVars false
namespace Go.Proofs.YthcnhibjddomdaaGreat.rowSessionEdits
open Go.ChangeShapes Go.WideShapes Go.ChangeAt Go.RowKit
open Go.ChangeMaps (open_string shut_string)
theorem own:ownKnob Tryz.prog.godebug=none:=by kernel_rfl
theorem laidOut:laidOutB Tryz.prog=true:=by kernel_rfl
theorem lifted (os:Os) (started:os.Started) (H:Type) (enc:TypeId×Value→H):
  ReturnsInHanded {} Tryz.checked os 3 .any (Rows.sessionEditsSpec.pre6 enc Tryz.prog Tryz.f3 Rows.sessionEditsRow.domain false) (Rows.sessionEditsSpec.post enc Tryz.prog Tryz.f3 false true false false):=by
 refine returnsInHanded_of_change (C:=Tryz.checked) own started (by kernel_rfl) Tryz.func3
  (ChangeSpec.witness6 (enc:=enc) (C:=Tryz.checked) false ⟨#[], #[.agg #[.slice none 0 0,.int .i64 0,.slice none 0 0,.slice none 0 0,.int .i64 0,.int .i64 0,.int .i64 0,.int .i64 0,.int .i64 0,.int .i64 0,.int .i64 0,.int .i64 0,.int .i64 0,.int .i64 0,.int .i64 0,.int .i64 0,.int .i64 0,.int .i64 0,.int .i64 0,.int .i64 0,.int .i64 0,.int .i64 0,.int .i64 0,.int .i64 0,.int .i64 0,.int .i64 0,.int .i64 0,.int .i64 0,.int .i64 0,.int .i64 0,.int .i64 0,.int .i64 0,.int .i64 0],.int .i64 0,.int .i64 0,.int .i64 0,.agg #[.int .i64 0,.slice none 0 0,.int .i64 0,.int .i64 0],.int .i64 0],[]⟩ 8 (by kernel_rfl) (by kernel_rfl) (by kernel_rfl) (by kernel_rfl)) ?_
 intro W base args ds gs before hval0 hW hcnd _
 have hval:∀ (j:Nat) t v,Tryz.f3.params[j]? =some t→args[j]? =some v→Value.okWide Tryz.prog W .any base t v:=hval0
 have hW':=hW
 obtain ⟨p,q,hA0,hV,rfl,hfz,hnd⟩:=hW
 have hA:DataW.TrodAll enc Tryz.prog W 0 (fun _=>true) true Tryz.f3.params.toList args.toList ds p:=hA0
 rw [Tryz.params3] at hA hval
 obtain ⟨v0,vs0,d0,ds0,p0,q0,hargs,rfl,rfl,h0,r0⟩:=trodAll_cons hA
 obtain ⟨v1,vs1,d1,ds1,p1,q1,rfl,rfl,rfl,h1,r1⟩:=trodAll_cons r0
 obtain ⟨v2,vs2,d2,ds2,p2,q2,rfl,rfl,rfl,h2,r2⟩:=trodAll_cons r1
 obtain ⟨v3,vs3,d3,ds3,p3,q3,rfl,rfl,rfl,h3,r3⟩:=trodAll_cons r2
 obtain ⟨v4,vs4,d4,ds4,p4,q4,rfl,rfl,rfl,h4,r4⟩:=trodAll_cons r3
 obtain ⟨v5,vs5,d5,ds5,p5,q5,rfl,rfl,rfl,h5,r5⟩:=trodAll_cons r4
 obtain ⟨rfl,rfl,rfl⟩:=trodAll_nil r5
 obtain rfl:args= #[v0,v1,v2,v3,v4,v5]:=by cases args;simp_all
 obtain ⟨rfl,rfl⟩:=trodVars_none hV
 have k0:=h0
 have lt0:∀ x ∈ p0,x.block<W.heap.size:=by obtain ⟨m,hm⟩:=k0;exact DataW.trod_lt m _ _ _ hm
 obtain ⟨a0,t0,e0⟩:=zty (d:=8) (t:=32) (ts:=[.sl [.int .i64,.int .i64],.int .i64,.sl [.int .i64],.sl [.int .i64,.int .i64,.sl [.int .u8]],.int .i64,.int .i64,.int .i64,.int .i64,.int .i64,.int .i64,.int .i64,.int .i64,.int .i64,.int .i64,.int .i64,.int .i64,.int .i64,.int .i64,.int .i64,.int .i64,.int .i64,.int .i64,.int .i64,.int .i64,.int .i64,.int .i64,.int .i64,.int .i64,.int .i64,.int .i64,.int .i64,.int .i64,.int .i64]) (by kernel_rfl) (.inl ⟨_,Tryz.underlying32⟩) (hval 0 32 v0 rfl rfl) h0
 have k1:=h1
 have lt1:∀ x ∈ p1,x.block<W.heap.size:=by obtain ⟨m,hm⟩:=k1;exact DataW.trod_lt m _ _ _ hm
 obtain ⟨a1,t1,e1⟩:=zeK (d:=8) (t:=3) (ty:=.int .i64) (by kernel_rfl) (show v1.cells= #[v1] by obtain ⟨_,rfl,_⟩:=open_int Tryz.underlying3 (hval 1 3 v1 rfl rfl) h1;rfl) h1
 have k2:=h2
 have lt2:∀ x ∈ p2,x.block<W.heap.size:=by obtain ⟨m,hm⟩:=k2;exact DataW.trod_lt m _ _ _ hm
 obtain ⟨a2,t2,e2⟩:=zeK (d:=8) (t:=33) (ty:=.int .i64) (by kernel_rfl) (show v2.cells= #[v2] by obtain ⟨_,rfl,_⟩:=open_int Tryz.underlying33 (hval 2 33 v2 rfl rfl) h2;rfl) h2
 have k3:=h3
 have lt3:∀ x ∈ p3,x.block<W.heap.size:=by obtain ⟨m,hm⟩:=k3;exact DataW.trod_lt m _ _ _ hm
 obtain ⟨a3,t3,e3⟩:=zeK (d:=8) (t:=3) (ty:=.int .i64) (by kernel_rfl) (show v3.cells= #[v3] by obtain ⟨_,rfl,_⟩:=open_int Tryz.underlying3 (hval 3 3 v3 rfl rfl) h3;rfl) h3
 have k4:=h4
 have lt4:∀ x ∈ p4,x.block<W.heap.size:=by obtain ⟨m,hm⟩:=k4;exact DataW.trod_lt m _ _ _ hm
 obtain ⟨a4,t4,e4⟩:=zty (d:=8) (t:=37) (ts:=[.int .i64,.sl [.int .u8],.int .i64,.int .i64]) (by kernel_rfl) (.inl ⟨_,Tryz.underlying37⟩) (hval 4 37 v4 rfl rfl) h4
 have k5:=h5
 have lt5:∀ x ∈ p5,x.block<W.heap.size:=by obtain ⟨m,hm⟩:=k5;exact DataW.trod_lt m _ _ _ hm
 obtain ⟨a5,t5,e5⟩:=zeK (d:=8) (t:=3) (ty:=.int .i64) (by kernel_rfl) (show v5.cells= #[v5] by obtain ⟨_,rfl,_⟩:=open_int Tryz.underlying3 (hval 5 3 v5 rfl rfl) h5;rfl) h5
 clear hA0 hval0
 obtain ⟨ss,rfl⟩:=zF5 t0
 obtain ⟨id,rfl,_⟩:=Td t1
 obtain ⟨role,rfl,_⟩:=Td t2
 obtain ⟨num,rfl,_⟩:=Td t3
 obtain ⟨dd,rfl⟩:=zBI t4
 obtain ⟨nn,rfl,hn⟩:=Td t5
 refine (zyY ss id role num dd nn (zBm.1 hn).2 W v0 v1 v2 v3 v4 v5 (SK e0 (SK e1 (SK e2 (SK e3 (SK e4 (SK e5 zmD))))))).mono fun e W' ⟨he,bel⟩=> ?_
 subst he
 exact ⟨_,rfl,_,_,_,[],_,[],hW',trodAll_mk1 (shut_bool Tryz.underlying4 _),(trodAll_cons_mk (Below.trod laidOut (by kernel_rfl) (of_decide_eq_true (by kernel_rfl)) k0 bel lt0) (trodAll_cons_mk (Below.trod laidOut (by kernel_rfl) (of_decide_eq_true (by kernel_rfl)) k1 bel lt1) (trodAll_cons_mk (Below.trod laidOut (by kernel_rfl) (of_decide_eq_true (by kernel_rfl)) k2 bel lt2) (trodAll_cons_mk (Below.trod laidOut (by kernel_rfl) (of_decide_eq_true (by kernel_rfl)) k3 bel lt3) (trodAll_cons_mk (Below.trod laidOut (by kernel_rfl) (of_decide_eq_true (by kernel_rfl)) k4 bel lt4) (trodAll_cons_mk (Below.trod laidOut (by kernel_rfl) (of_decide_eq_true (by kernel_rfl)) k5 bel lt5) trodAll_mk0)))))),rfl,bel.frame _,fun h=>by cases h⟩
theorem over:Rows.sessionEditsRow.holds Tryz.pinned (OpenSpec.ofChange Rows.sessionEditsSpec):=
 OpenClaim.holds_of_wide 3 Tryz.f3 rfl rfl rfl rfl rfl rfl rfl ⟨rfl,rfl,rfl,rfl,rfl⟩ rfl rfl rfl rfl rfl (by kernel_rfl) Tryz.func3 (by kernel_rfl)
  (of_decide_eq_true (by kernel_rfl)) (by unfold Func.isWrapper;first | (rw [if_pos (by decide+kernel)];kernel_rfl) | (rw [if_neg (by decide+kernel)];exact ⟨rfl,rfl⟩))
  (fun os started H enc _=>lifted os started H enc)
end Go.Proofs.YthcnhibjddomdaaGreat.rowSessionEdits
namespace Go.Proofs.YthcnhibjddomdaaGreat
theorem sessionEdits_holds:Rows.SessionEditsSaid:=rowSessionEdits.over
#print axioms sessionEdits_holds
end Go.Proofs.YthcnhibjddomdaaGreat
