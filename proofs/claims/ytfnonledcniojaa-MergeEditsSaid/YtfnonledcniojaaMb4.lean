/- MergeBytes: the law as far as the turns. Conditions: as the statements say. -/
import Derived.Test.YtfnonledcniojaaMb3
import Derived.Test.YtfnonledcniojaaMb1
import Derived.Test.YtfnonledcniojaaAmRd
import Derived.Test.YtfnonledcniojaaCk
set_option linter.unusedVariables false
set_option linter.unusedSimpArgs false
set_option linter.unusedSectionVars false
namespace Go.Proofs.Ytfnonledcniojaa
open Go Go.RowKit
/-- A part of a function's code, by the machine. -/
theorem part {P : Program} {G : Nat → Option (List AV)} {F : Nat → Option AEnt} (hm : P.follows .mixedOrders = true) (hE : EntOk P G F) {D0 : List Deferred × Nat} {ρ0 : Rho} {w0 w : World} {S O0 : Nat → Prop} {N base : Nat} {c : Code} {ac : ACode} {st : ASt} {r : AEx × ASt} {Q : Exit → Act → World → Prop} {a : Act}
    (hr : aE G F base ac st = some r) (hc : chkCode P N c ac = true) (k : GoodS D0 G ρ0 w0 S O0 base N st a w) (hQ : ∀ a' w', GoodS D0 G ρ0 w0 S O0 base N r.2 a' w' → Q (exitOf r.1) a' w') : c.wp P Q a w := by
  obtain ⟨n, hn⟩ := (aE_some G F).1 hr
  exact (code_ok hm hE n).1 N base c ac st r hn hc D0 ρ0 w0 S O0 Q a w k hQ
def tailC : Nat → Code → Code
  | 0, c => c
  | n + 1, .seq _ b => tailC n b
  | _, c => c
end Go.Proofs.Ytfnonledcniojaa
