/- MergeBytes: a round's body within the round. Conditions: as the statements say. -/
import Derived.Test.YtfnonledcniojaaMb9
set_option linter.unusedVariables false
set_option linter.unusedSimpArgs false
set_option linter.unusedSectionVars false
namespace Go.Proofs.Ytfnonledcniojaa
open Go Go.RowKit
noncomputable def rfC : Code := match tailC 8 mbBody with
  | .seq (.seq _ (.block _ (.loop (.seq _ (.seq (.block _ (.seq _ (.seq (.seq _ (.block _ rf)) _))) _))))) _ => rf
  | c => c
noncomputable def rfBody : Code := match rfC with
  | .rangeFunc _ _ _ b => b
  | c => c
set_option maxRecDepth 100000 in
theorem chk_body : chkCode Try.prog 106 rfBody rb_law28_MergeBytes_body = true := by kernel_rfl
/-- The next byte as told: the round goes on, or the range is left. -/
theorem rd_go {w W : World} {t : Array Value} {pn : Pl} {left turn : Int} {ws hs : List Int} (R : RdAt w t pn left turn ws hs) (A : AdvX w (fun c => c = pn.b) W (fun c => c = pn.b)) (n : Nat) (hn : n < ws.length) (hl : ws.length ≤ 100000) (he : hs.length = ws.length)
    (hr : RowRep (fun id => if id = 0 then some (0, some pn) else none) W (fun _ => False) (fun c => c = pn.b) ⟨1, 0, true, [[.int .i64 n]]⟩ pn) (l k : Nat) (Q : Exit → Act → World → Prop)
    (hQ : ∀ ex env a' W', (ex = .normal ∨ ex = .exit 6 ∧ turn = 0) → GoodS ([], 106) (fun _ => none) (fun id => if id = 0 then some (0, some pn) else none) W (fun _ => False) (fun c => c = pn.b) 1 106 ⟨env, [⟨1, 0, true, [[.int .i64 ((n + 1 : Nat) : Int)]]⟩]⟩ a' W' → Q ex a' W') :
    rfBody.wpIn (Fence.wide.inRound l) k Try.prog Q { tmps := (((t.setIfInBounds 66 (.int .i64 ws[n])).setIfInBounds 67 (.int .u8 (hs[n]'(by omega)))).setIfInBounds 12 (.int .i64 ws[n])).setIfInBounds 13 (.int .u8 (hs[n]'(by omega))), defers := [] } W := by
  have g := rd_good R A n ws[n] (hs[n]'(by omega)) hr
  by_cases h0 : turn = 0 ∧ left ≤ ((n + 1 : Nat) : Int)
  · obtain ⟨m, hm⟩ := (aE_some (fun _ => none) FT).1 (body_stop (fun _ => none) ws hs false false left turn n hn hl he h0.1 h0.2)
    exact code_in mixFT (entFT _) l k m 106 1 rfBody _ _ _ hm chk_body (by kernel_rfl) _ _ _ _ _ Q _ W g fun a' W' g' => hQ _ _ a' W' (.inr ⟨rfl, h0.1⟩) g'
  · obtain ⟨m, hm⟩ := (aE_some (fun _ => none) FT).1 (body_go (fun _ => none) ws hs false false left turn n hn hl he h0)
    exact code_in mixFT (entFT _) l k m 106 1 rfBody _ _ _ hm chk_body (by kernel_rfl) _ _ _ _ _ Q _ W g fun a' W' g' => hQ _ _ a' W' (.inl rfl) g'
end Go.Proofs.Ytfnonledcniojaa
