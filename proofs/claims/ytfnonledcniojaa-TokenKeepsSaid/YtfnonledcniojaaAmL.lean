/- Each operation of the small machine stands for the program's operation: equality, nil, bytes, structs. Conditions: none. -/
import Derived.Test.YtfnonledcniojaaAmK
namespace Go.Proofs.Ytfnonledcniojaa
open Go Go.RowKit
section
variable {P : Program} {G : Nat → Option (List AV)} {ρ : Rho} {w : World} {S O : Nat → Prop} {env : AEnv} {h : List ARow} {a : Act} {o : Oper} {v : AV} {h' : List ARow}

/-- What a slice's elements are. -/
theorem groups_rep {k : Nat} {v : AV} {x : Value} {es : List (List AV)} {fl : Bool} (H : Heap ρ w S O h) (hr : RepV ρ w S O v x) (hg : agroups h k v = some (es, fl)) :
    ∃ ad cap, x = .slice ad es.length cap ∧ es.length ≤ cap ∧ (∀ g ∈ es, g.length = k) ∧ (es = [] ∨ ∃ (b off : Nat) (val : Nat → Nat → Value), ad = some ⟨b, off, none⟩ ∧ b < w.heap.size ∧
      (∀ (e j : Nat), e < es.length → j < k → w.cell? ⟨b, off + (e * k + j), none⟩ = some (val e j) ∧ (val e j).oneCell' = true) ∧
      (∀ (e j : Nat) g c, es[e]? = some g → g[j]? = some c → RepV ρ w S O c (val e j) ∧ (fl = true → RepS w (fun b => S b ∨ O b) c (val e j)))) := by
  cases v with
  | own id g s l c =>
    obtain ⟨r, hrow, hg⟩ := opt_bind_some.1 hg
    split at hg
    case isFalse => cases hg
    rename_i hgk
    cases hg
    obtain ⟨g', pl, ad, cap, rfl, hρ, hle, hlc, _, _, hpl⟩ := rv_own hr
    obtain ⟨hg', his⟩ := H.at hρ hrow
    have hl : ((r.es.drop s).take l).length = l := by simp; omega
    rw [hl]
    have hmem : ∀ (e : Nat) g, ((r.es.drop s).take l)[e]? = some g → r.es[s + e]? = some g := fun e g he => by
      rw [List.getElem?_take] at he
      split at he
      · rwa [List.getElem?_drop] at he
      · cases he
    cases pl with
    | none =>
      have : r.es = [] := his
      have hl0 : l = 0 := by have := hgk.2.2; rw [‹r.es = []›] at this; simp at this; omega
      subst hl0
      exact ⟨ad, cap, rfl, hlc, by simp, .inl (by simp)⟩
    | some p =>
      have his : RowRep ρ w S O r p := his
      refine ⟨ad, cap, rfl, hlc, fun g hg => ?_, ?_⟩
      · obtain ⟨e, he⟩ := List.mem_iff_getElem?.1 hg
        rw [← hgk.2.1]; exact his.len g (List.mem_of_getElem? (hmem e g he))
      · by_cases hl0 : l = 0
        · left; subst hl0; simp
        · right
          rcases hpl (by omega) with hc0 | ⟨p', hp, rfl, hlim⟩
          · omega
          cases hp
          obtain ⟨arr, ty, lo, hi, hb, hsz, _, hcell⟩ := his.block
          have hk : p.k = k := his.k.trans hgk.2.1
          refine ⟨p.b, p.base + s * p.k, fun e j => arr.getD (p.base + (s + e) * p.k + j) undef, rfl, his.lt, fun e j he hj => ?_, fun e j g c hg hc => ?_⟩
          · have hse : s + e < r.es.length := by omega
            have hgl := his.len _ (List.getElem_mem hse)
            obtain ⟨x, h1, h2, _⟩ := hcell (s + e) j _ _ (List.getElem?_eq_getElem hse) (List.getElem?_eq_getElem (by rw [hgl, hgk.2.1]; exact hj))
            have ea : p.base + s * p.k + (e * k + j) = p.base + (s + e) * p.k + j := by rw [hk, Nat.add_mul]; omega
            rw [ea, cell_of_row w p.b _ arr ty _ hb]
            simp only [Array.getD_eq_getD_getElem?, h1, Option.getD_some]
            exact ⟨trivial, h2⟩
          · obtain ⟨x, h1, _, h3, h4⟩ := hcell (s + e) j g c (hmem e g hg) hc
            simp only [Array.getD_eq_getD_getElem?, h1, Option.getD_some]
            exact ⟨h3, h4⟩
  | data bo k' es' f =>
    have hg : (if k' = k then some (es', true) else none) = some (es, fl) := hg
    by_cases hk : k' = k
    case neg => rw [if_neg hk] at hg; cases hg
    obtain ⟨rfl, rfl⟩ : es' = es ∧ true = fl := by simpa [hk] using hg
    subst hk
    obtain ⟨ad, cap, rfl, h1, _, h3, h4⟩ := rv_data hr
    refine ⟨ad, cap, rfl, h1, h3, h4.imp id fun ⟨b, off, val, e1, _, _, e4, e5, e6⟩ => ⟨b, off, val, e1, e4, e5, fun e j g c hg hc => ⟨.s (e6 e j g c hg hc), fun _ => e6 e j g c hg hc⟩⟩⟩
  | _ => cases hg

theorem asBytes_spec : ∀ {es : List (List AV)} {bs : List UInt8}, asBytes es = some bs → ∃ ns : List Int, es = ns.map (fun n => [AV.int .u8 n]) ∧ bs = ns.map fun n => UInt8.ofNat n.toNat
  | [], _, h => by cases h; exact ⟨[], rfl, rfl⟩
  | g :: es, bs, h => by
    unfold asBytes at h
    split at h
    · rename_i heq; cases heq
    · rename_i n es' heq
      cases heq
      obtain ⟨bs', hb, rfl⟩ := opt_map_some.1 h
      obtain ⟨ns, rfl, rfl⟩ := asBytes_spec hb
      exact ⟨n :: ns, rfl, rfl⟩
    · cases h
theorem foldl_push : ∀ (ns : List Int) (acc : ByteArray), ns.foldl (fun r n => r.push (UInt8.ofNat n.toNat)) acc = ⟨acc.data ++ (ns.map fun n => UInt8.ofNat n.toNat).toArray⟩
  | [], acc => by cases acc; simp
  | n :: ns, acc => by
    rw [List.foldl_cons, foldl_push ns]
    cases acc
    simp [ByteArray.push]
theorem ok_bstr {x : AOpd} (hop : chkOp P o.op (.bstr x) = true) (R : Rel G ρ w S O env a) (H : Heap ρ w S O h) (he : aop G env h (.bstr x) = some (v, h')) : OpN ρ w S O h ((execOp a.eval o).run P w) v h' := by
  obtain ⟨v1, h1, he⟩ := opt_bind_some.1 he
  obtain ⟨v0, h0, hs0⟩ := opt_bind_some.1 h1
  obtain ⟨es, hg, he⟩ := opt_bind_some.1 he
  obtain ⟨bs, hb, e⟩ := opt_map_some.1 he
  cases e
  have e01 : v0 = v1 := by cases v0 <;> first | exact Option.some.inj hs0 | cases hs0
  subst e01
  simp only [chkOp] at hop
  split at hop
  case h_2 => cases hop
  rename_i s d y heq
  simp only [Bool.and_eq_true] at hop
  obtain ⟨⟨hx, h2⟩, h3⟩ := hop
  split at h2
  case h_2 => cases h2
  rename_i e hu
  split at h3
  case h_2 => cases h3
  rename_i hd
  have hu8 : P.underlying e = some (.int .u8) := by
    unfold isU8 at h2
    split at h2
    · assumption
    · cases h2
  obtain ⟨es, fl⟩ := es
  obtain ⟨ad, cap, hz, _, _, hcells⟩ := groups_rep H (ev_rep hx R h0) hg
  obtain ⟨ns, rfl, rfl⟩ := asBytes_spec hb
  have key : (Conv.bytesToString (.slice ad (ns.map fun n => [AV.int .u8 n]).length cap)).run P w = .ok (.string ⟨(ns.map fun n => UInt8.ofNat n.toNat).toArray⟩) w := by
    cases ad with
    | none =>
      rcases hcells with hnil | ⟨b, off, val, hh, _⟩
      · simp only [List.map_eq_nil_iff] at hnil
        subst hnil
        rfl
      · cases hh
    | some ad =>
      rw [run_bytesToString w ad _ cap ns ?_]
      · rw [foldl_push]
        show Result.ok (Value.string ⟨#[] ++ _⟩) w = _
        rw [Array.empty_append]
      · rw [List.length_map, ← List.length_map (f := Value.int .u8)]
        refine run_loadCells_list w ad _ fun j u hj => ?_
        rw [List.getElem?_map] at hj
        obtain ⟨n, hn, rfl⟩ := opt_map_some.1 hj
        rcases hcells with hnil | ⟨b, off, val, hh, _, hc, hr⟩
        · simp only [List.map_eq_nil_iff] at hnil
          subst hnil
          simp at hn
        · cases hh
          have hlt := (List.getElem?_eq_some_iff.1 hn).1
          have h1 := (hc j 0 (by simpa using hlt) (by omega)).1
          have h2 := (hr j 0 _ _ (by rw [List.getElem?_map, hn]; rfl) rfl).1
          rw [rv_int h2] at h1
          rw [addr_add]
          simpa using h1
  refine .pure H (x := .string ⟨(ns.map fun n => UInt8.ofNat n.toNat).toArray⟩) ?_ (.s (.str _))
  simp only [execOp, heq, hz, Sem.run_bind, run_convert_bytes_string w s d e _ _ _ hu hu8 hd, key, Result.andThen_ok, Sem.run_pure]

/-! ### Equality -/
theorem scal_of_eq {s : Sh} {x y : AV} {b : Bool} (e : eqLeaf s x y = some b) {u : Value} : (RepV ρ w S O x u → u = sval x) ∧ (RepV ρ w S O y u → u = sval y) := by
  unfold eqLeaf at e
  split at e
  · exact ⟨rv_int, rv_int⟩
  · exact ⟨rv_bool, rv_bool⟩
  · exact ⟨rv_str, rv_str⟩
  · cases e
theorem vals_of_eq : ∀ {sh : List Sh} {as bs : List AV} {b : Bool}, eqCells sh as bs = some b → ∀ {vs : List Value}, as.length = vs.length → (∀ (i : Nat) c v, as[i]? = some c → vs[i]? = some v → RepV ρ w S O c v) → vs = as.map sval
  | [], [], [], _, _, vs, hl, _ => by cases vs <;> simp_all
  | s :: sh, x :: as, y :: bs, b, e, vs, hl, hr => by
    obtain ⟨p, hp, e⟩ := opt_bind_some.1 e
    obtain ⟨q, hq, _⟩ := opt_bind_some.1 e
    cases vs with
    | nil => simp at hl
    | cons v vs =>
      rw [(scal_of_eq hp).1 (hr 0 x v rfl rfl), vals_of_eq hq (vs := vs) (by simpa using hl) fun i c u hc hu => hr (i + 1) c u (by simpa using hc) (by simpa using hu)]
      rfl
  | [], [], _ :: _, _, e, _, _, _ => by cases e
  | [], _ :: _, _, _, e, _, _, _ => by cases e
  | _ :: _, [], _, _, e, _, _, _ => by cases e
  | _ :: _, _ :: _, [], _, e, _, _, _ => by cases e
theorem vals_of_eq' : ∀ {sh : List Sh} {as bs : List AV} {b : Bool}, eqCells sh as bs = some b → ∀ {vs : List Value}, bs.length = vs.length → (∀ (i : Nat) c v, bs[i]? = some c → vs[i]? = some v → RepV ρ w S O c v) → vs = bs.map sval
  | [], [], [], _, _, vs, hl, _ => by cases vs <;> simp_all
  | s :: sh, x :: as, y :: bs, b, e, vs, hl, hr => by
    obtain ⟨p, hp, e⟩ := opt_bind_some.1 e
    obtain ⟨q, hq, _⟩ := opt_bind_some.1 e
    cases vs with
    | nil => simp at hl
    | cons v vs =>
      rw [(scal_of_eq hp).2 (hr 0 y v rfl rfl), vals_of_eq' hq (vs := vs) (by simpa using hl) fun i c u hc hu => hr (i + 1) c u (by simpa using hc) (by simpa using hu)]
      rfl
  | [], [], _ :: _, _, e, _, _, _ => by cases e
  | [], _ :: _, _, _, e, _, _, _ => by cases e
  | _ :: _, [], _, _, e, _, _, _ => by cases e
  | _ :: _, _ :: _, [], _, e, _, _, _ => by cases e
theorem ok_eq {agg : Bool} {sh : List Sh} {neg : Bool} {x y : AOpd} (hop : chkOp P o.op (.eq agg sh neg x y) = true) (R : Rel G ρ w S O env a) (he : aop G env h (.eq agg sh neg x y) = some (v, h')) : FreeOk ρ w S O h ((execOp a.eval o).run P w) v h' := by
  obtain ⟨v0, h0, he⟩ := opt_bind_some.1 he
  obtain ⟨v1, h1, he⟩ := opt_bind_some.1 he
  obtain ⟨b, hb, e⟩ := opt_map_some.1 he
  cases e
  simp only [chkOp] at hop
  split at hop
  case h_2 => cases hop
  rename_i op t x' y' yt heq
  simp only [Bool.and_eq_true, beq_iff_eq] at hop
  obtain ⟨⟨⟨⟨⟨hopn, hx⟩, hy⟩, hsh⟩, hag⟩, hgd⟩ := hop
  have rx := ev_rep hx R h0
  have ry := ev_rep hy R h1
  have fin : (do eqGuard op t x' y' (a.eval x') (a.eval y'); binOp op t (a.eval x') (a.eval y') : Sem Value).run P w = .ok (.bool (b != neg)) w → FreeOk ρ w S O h ((execOp a.eval o).run P w) (.bool (b != neg)) h := fun hrun => by
    refine .pure (x := .bool (b != neg)) ?_ (.s (.bool _))
    simp only [execOp, heq]
    rw [Sem.run_bind, hrun]
    rfl
  cases agg with
  | true =>
    cases v0 with
    | agg as =>
      cases v1 with
      | agg bs =>
        have hb : eqCells sh as bs = some b := hb
        obtain ⟨vs, e1, l1, _, r1⟩ := rv_agg rx
        obtain ⟨us, e2, l2, _, r2⟩ := rv_agg ry
        obtain rfl := vals_of_eq hb l1 r1
        obtain rfl := vals_of_eq' hb l2 r2
        have q := eqAt 20 t sh as bs b hsh hb 10000 w (by omega)
        simp only [tval, hag, if_true] at q
        refine fin ?_
        rw [e1, e2, Sem.run_bind, run_eqGuard_agg w op t x' y' _ _ (by simpa using hgd)]
        simp only [Result.andThen_ok]
        cases neg with
        | false => simp only [Bool.false_eq_true, if_false] at hopn; subst hopn; rw [run_eql_struct w t, q]; simp
        | true => simp only [if_true] at hopn; subst hopn; rw [run_neq_struct w t, q]; simp
      | _ => cases hb
    | _ => cases hb
  | false =>
    match sh, hb with
    | [s], hb =>
      have hb : eqLeaf s v0 v1 = some b := hb
      have e1 := (scal_of_eq hb).1 rx
      have e2 := (scal_of_eq hb).2 ry
      have hun := hsh
      unfold eqLeaf at hb
      split at hb
      · rename_i k m k' n
        split at hb
        case isFalse => cases hb
        rename_i hk
        subst hk
        cases hb
        refine fin ?_
        rw [e1, e2]
        cases neg with
        | false => simp only [Bool.false_eq_true, if_false] at hopn; subst hopn; simp [sval, eqGuard, binOp, Op.intCmp]
        | true => simp only [if_true] at hopn; subst hopn; simp [sval, eqGuard, binOp, Op.intCmp, bne]
      · cases hb
        have hu : P.underlying t = some .bool := by
          unfold flatSh at hsh
          split at hsh
          · assumption
          · split at hsh <;> cases hsh
          · split at hsh <;> cases hsh
          · rename_i hu; unfold isAggB at hag; rw [hu] at hag; cases hag
          · rename_i hu; unfold isAggB at hag; rw [hu] at hag; cases hag
          · cases hsh
        refine fin ?_
        rw [e1, e2]
        cases neg with
        | false => simp only [Bool.false_eq_true, if_false] at hopn; subst hopn; simp [sval, eqGuard, run_eql_bool w t _ _ hu]
        | true => simp only [if_true] at hopn; subst hopn; simp [sval, eqGuard, run_neq_bool w t _ _ hu]
      · cases hb
        refine fin ?_
        rw [e1, e2]
        cases neg with
        | false => simp only [Bool.false_eq_true, if_false] at hopn; subst hopn; simp [sval, eqGuard, binOp, Op.stringOp, beq_toListBytes]
        | true => simp only [if_true] at hopn; subst hopn; simp [sval, eqGuard, binOp, Op.stringOp, beq_toListBytes]
      · cases hb
theorem nilSide_spec {k : NilK} {d : Option TypeDesc} {x y : Operand} {ax : AOpd} (h : nilSide k d x y ax = true) :
    (k = .kf ∧ (∃ p r c, d = some (.func p r c)) ∧ ((y = .const .nilFunc ∧ chkOpd x ax = true) ∨ (x = .const .nilFunc ∧ chkOpd y ax = true))) ∨
    (k = .kp ∧ (∃ e, d = some (.pointer e)) ∧ ((y = .const (.pointer none) ∧ chkOpd x ax = true) ∨ (x = .const (.pointer none) ∧ chkOpd y ax = true))) ∨
    (k = .ks ∧ (∃ e, d = some (.slice e)) ∧ ((∃ l c, y = .const (.slice none l c) ∧ chkOpd x ax = true) ∨ (∃ l c, x = .const (.slice none l c) ∧ chkOpd y ax = true))) := by
  unfold nilSide at h
  split at h
  · refine .inl ⟨rfl, ⟨_, _, _, rfl⟩, ?_⟩
    rw [Bool.or_eq_true] at h
    rcases h with h | h
    · split at h
      · exact .inl ⟨rfl, h⟩
      · cases h
    · split at h
      · exact .inr ⟨rfl, h⟩
      · cases h
  · refine .inr (.inl ⟨rfl, ⟨_, rfl⟩, ?_⟩)
    rw [Bool.or_eq_true] at h
    rcases h with h | h
    · split at h
      · exact .inl ⟨rfl, h⟩
      · cases h
    · split at h
      · exact .inr ⟨rfl, h⟩
      · cases h
  · refine .inr (.inr ⟨rfl, ⟨_, rfl⟩, ?_⟩)
    rw [Bool.or_eq_true] at h
    rcases h with h | h
    · split at h
      · exact .inl ⟨_, _, rfl, h⟩
      · cases h
    · split at h
      · exact .inr ⟨_, _, rfl, h⟩
      · cases h
  · cases h
def NilLike (z : Value) : Prop := (∃ f xs ys, z = .func f xs ys) ∨ z = .nilFunc ∨ (∃ p, z = .pointer p) ∨ ∃ q l c, z = .slice q l c
theorem binOp_eql {t : TypeId} {z u : Value} (hz : NilLike z) : binOp .eql t z u = (do pure (.bool (← Op.equal t z u))) := by
  rcases hz with ⟨f, xs, ys, rfl⟩ | rfl | ⟨p, rfl⟩ | ⟨q, l, c, rfl⟩ <;> cases u <;> rfl
theorem binOp_neq {t : TypeId} {z u : Value} (hz : NilLike z) : binOp .neq t z u = (do pure (.bool (!(← Op.equal t z u)))) := by
  rcases hz with ⟨f, xs, ys, rfl⟩ | rfl | ⟨p, rfl⟩ | ⟨q, l, c, rfl⟩ <;> cases u <;> rfl
theorem guard_nil {op : BinOp} {t : TypeId} {z u : Value} (x' y' : Operand) (hz : NilLike z) : (eqGuard op t x' y' z u).run P w = .ok () w := by
  unfold eqGuard
  rcases hz with ⟨f, xs, ys, rfl⟩ | rfl | ⟨p, rfl⟩ | ⟨q, l, c, rfl⟩ <;> (split <;> rfl)
theorem binEq_run {op : BinOp} {neg b : Bool} {t : TypeId} (x' y' : Operand) (hopn : op = if neg then .neq else .eql) (z u : Value) (hz : NilLike z)
    (hq : (Op.equalIn 10000 t z u).run P w = .ok b w) : (do eqGuard op t x' y' z u; binOp op t z u : Sem Value).run P w = .ok (.bool (b != neg)) w := by
  rw [Sem.run_bind, guard_nil x' y' hz]
  have hq' : (Op.equal t z u).run P w = .ok b w := hq
  cases neg with
  | false =>
    simp only [Bool.false_eq_true, if_false] at hopn
    subst hopn
    rw [Result.andThen_ok, binOp_eql hz, Sem.run_bind, hq']
    simp
  | true =>
    simp only [if_true] at hopn
    subst hopn
    rw [Result.andThen_ok, binOp_neq hz, Sem.run_bind, hq']
    simp
section
variable (d : Nat) {t : TypeId} (w : World)
theorem eqn1 {p r c} (hu : P.underlying t = some (.func p r c)) (f xs ys) : (Op.equalIn (d + 1) t (.func f xs ys) .nilFunc).run P w = .ok false w := by simp [Op.equalIn, run_underlying hu]
theorem eqn2 {p r c} (hu : P.underlying t = some (.func p r c)) (f xs ys) : (Op.equalIn (d + 1) t .nilFunc (.func f xs ys)).run P w = .ok false w := by simp [Op.equalIn, run_underlying hu]
theorem eqn3 {p r c} (hu : P.underlying t = some (.func p r c)) : (Op.equalIn (d + 1) t .nilFunc .nilFunc).run P w = .ok true w := by simp [Op.equalIn, run_underlying hu]
theorem eqn4 {e} (hu : P.underlying t = some (.pointer e)) (q) : (Op.equalIn (d + 1) t (.pointer (some q)) (.pointer none)).run P w = .ok false w := by simp [Op.equalIn, run_underlying hu]
theorem eqn5 {e} (hu : P.underlying t = some (.pointer e)) (q) : (Op.equalIn (d + 1) t (.pointer none) (.pointer (some q))).run P w = .ok false w := by simp [Op.equalIn, run_underlying hu]
theorem eqn6 {e} (hu : P.underlying t = some (.pointer e)) : (Op.equalIn (d + 1) t (.pointer none) (.pointer none)).run P w = .ok true w := by simp [Op.equalIn, run_underlying hu]
theorem eqn7 {e} (hu : P.underlying t = some (.slice e)) (q l c l' c') : (Op.equalIn (d + 1) t (.slice (some q) l c) (.slice none l' c')).run P w = .ok false w := by simp [Op.equalIn, run_underlying hu]
theorem eqn8 {e} (hu : P.underlying t = some (.slice e)) (q l c l' c') : (Op.equalIn (d + 1) t (.slice none l' c') (.slice (some q) l c)).run P w = .ok false w := by simp [Op.equalIn, run_underlying hu]
end
theorem ok_isnil {k : NilK} {neg : Bool} {x : AOpd} (hop : chkOp P o.op (.isnil k neg x) = true) (R : Rel G ρ w S O env a) (he : aop G env h (.isnil k neg x) = some (v, h')) : FreeOk ρ w S O h ((execOp a.eval o).run P w) v h' := by
  obtain ⟨v0, h0, he⟩ := opt_bind_some.1 he
  obtain ⟨b, hb, e⟩ := opt_map_some.1 he
  cases e
  simp only [chkOp] at hop
  split at hop
  case h_2 => cases hop
  rename_i op t x' y' yt heq
  simp only [Bool.and_eq_true, beq_iff_eq] at hop
  obtain ⟨hopn, hside⟩ := hop
  have fin : (do eqGuard op t x' y' (a.eval x') (a.eval y'); binOp op t (a.eval x') (a.eval y') : Sem Value).run P w = .ok (.bool (b != neg)) w → FreeOk ρ w S O h ((execOp a.eval o).run P w) (.bool (b != neg)) h := fun hrun => by
    refine .pure (x := .bool (b != neg)) ?_ (.s (.bool _))
    simp only [execOp, heq]
    rw [Sem.run_bind, hrun]
    rfl
  rcases nilSide_spec hside with ⟨rfl, ⟨pp, rr, cc, hu⟩, hs⟩ | ⟨rfl, ⟨el, hu⟩, hs⟩ | ⟨rfl, ⟨el, hu⟩, hs⟩
  · have run : ∀ z, RepV ρ w S O v0 z → (∃ f xs ys, z = .func f xs ys ∧ b = false) ∨ (z = .nilFunc ∧ b = true) := fun z hr => by
      cases v0 with
      | nilfn => cases hb; exact .inr ⟨rv_nilfn hr, rfl⟩
      | fn f as bs => cases hb; obtain ⟨xs, ys, e1, _⟩ := rv_fn hr; exact .inl ⟨_, _, _, e1, rfl⟩
      | _ => cases hb
    rcases hs with ⟨rfl, hs⟩ | ⟨rfl, hs⟩
    · refine fin ?_
      rcases run _ (ev_rep hs R h0) with ⟨f, xs, ys, e1, rfl⟩ | ⟨e1, rfl⟩
      · rw [e1]; exact binEq_run _ _ hopn _ _ (.inl ⟨_, _, _, rfl⟩) (eqn1 9999 w hu _ _ _)
      · rw [e1]; exact binEq_run _ _ hopn _ _ (.inr (.inl rfl)) (eqn3 9999 w hu)
    · refine fin ?_
      rcases run _ (ev_rep hs R h0) with ⟨f, xs, ys, e1, rfl⟩ | ⟨e1, rfl⟩
      · rw [e1]; exact binEq_run _ _ hopn _ _ (.inr (.inl rfl)) (eqn2 9999 w hu _ _ _)
      · rw [e1]; exact binEq_run _ _ hopn _ _ (.inr (.inl rfl)) (eqn3 9999 w hu)
  · have run : ∀ z, RepV ρ w S O v0 z → (∃ ad, z = .pointer (some ad) ∧ b = false) ∨ (z = .pointer none ∧ b = true) := fun z hr => by
      cases v0 with
      | nilptr => cases hb; exact .inr ⟨rv_nilptr hr, rfl⟩
      | ptr id g e off => cases hb; obtain ⟨g', pl, ad, e1, _⟩ := rv_ptr hr; exact .inl ⟨_, e1, rfl⟩
      | dptr cs => cases hb; obtain ⟨bl, off, val, e1, _⟩ := rv_dptr hr; exact .inl ⟨_, e1, rfl⟩
      | _ => cases hb
    rcases hs with ⟨rfl, hs⟩ | ⟨rfl, hs⟩
    · refine fin ?_
      rcases run _ (ev_rep hs R h0) with ⟨ad, e1, rfl⟩ | ⟨e1, rfl⟩
      · rw [e1]; exact binEq_run _ _ hopn _ _ (.inr (.inr (.inl ⟨_, rfl⟩))) (eqn4 9999 w hu _)
      · rw [e1]; exact binEq_run _ _ hopn _ _ (.inr (.inr (.inl ⟨_, rfl⟩))) (eqn6 9999 w hu)
    · refine fin ?_
      rcases run _ (ev_rep hs R h0) with ⟨ad, e1, rfl⟩ | ⟨e1, rfl⟩
      · rw [e1]; exact binEq_run _ _ hopn _ _ (.inr (.inr (.inl ⟨_, rfl⟩))) (eqn5 9999 w hu _)
      · rw [e1]; exact binEq_run _ _ hopn _ _ (.inr (.inr (.inl ⟨_, rfl⟩))) (eqn6 9999 w hu)
  · have run : ∀ z, RepV ρ w S O v0 z → ∃ ad l c, z = .slice (some ad) l c ∧ b = false := fun z hr => by
      cases v0 with
      | own id g s l c =>
        have hb : (if 0 < l then some false else none) = some b := hb
        by_cases hl : 0 < l
        · rw [if_pos hl] at hb
          cases hb
          obtain ⟨g', pl, ad, cap, e1, _, _, hlcx, _, has, _⟩ := rv_own hr
          obtain ⟨ad, rfl⟩ := Option.isSome_iff_exists.1 (has (by omega))
          exact ⟨_, _, _, e1, rfl⟩
        · rw [if_neg hl] at hb; cases hb
      | data bo k es f =>
        cases es with
        | nil => cases hb
        | cons e es =>
          cases hb
          obtain ⟨ad, cap, e1, _, _, _, hd⟩ := rv_data hr
          rcases hd with hd | ⟨bl, off, val, rfl, _⟩
          · cases hd
          · exact ⟨_, _, _, e1, rfl⟩
      | _ => cases hb
    rcases hs with ⟨l', c', rfl, hs⟩ | ⟨l', c', rfl, hs⟩
    · refine fin ?_
      obtain ⟨ad, l, c, e1, rfl⟩ := run _ (ev_rep hs R h0)
      rw [e1]; exact binEq_run _ _ hopn _ _ (.inr (.inr (.inr ⟨_, _, _, rfl⟩))) (eqn7 9999 w hu _ _ _ _ _)
    · refine fin ?_
      obtain ⟨ad, l, c, e1, rfl⟩ := run _ (ev_rep hs R h0)
      rw [e1]; exact binEq_run _ _ hopn _ _ (.inr (.inr (.inr ⟨_, _, _, rfl⟩))) (eqn8 9999 w hu _ _ _ _ _)
end
end Go.Proofs.Ytfnonledcniojaa
