/- What slices.IndexFunc, ContainsFunc and DeleteFunc come to, on their caller's rows. Conditions: as each statement says. -/
import Derived.Test.YtfnonledcniojaaCd
import Derived.Test.YtfnonledcniojaaM3
set_option linter.unusedVariables false
set_option linter.unusedSimpArgs false
set_option linter.unusedSectionVars false
set_option maxRecDepth 20000
set_option maxHeartbeats 1000000
namespace Go.Proofs.Ytfnonledcniojaa
open Go
variable (G : Nat → Option (List AV))
section
variable {α : Type} (l : List α) (vl : α → AV) (s : AV) (pt : Nat → AV) (ff : Nat) (fs cs : List AV) (p : Nat → Bool) (hh : Nat → List ARow) (N : Nat)
  (hN : ∀ j, (hh j).length = N) (hC : ∀ j, ClosedH (hh j)) (hS : ∀ i ∈ s.ids, i < N) (hF : ∀ i ∈ AV.idsL fs ++ AV.idsL cs, i < N) (hl : l.length < 9223372036854775807)
  (hlen : alen false s = some (.int .i64 l.length)) (hidx : ∀ j (i : Nat), i < l.length → aidx (hh j) 3 s (.int .i64 i) = some (pt i)) (hld : ∀ j (i : Nat) (h : i < l.length), aload (hh j) true 3 (pt i) = some (vl l[i]))
include hN hC hS hF hl hidx hld
include hlen
end


section
variable {α : Type} (l : List α) (vl : α → AV) (s : AV) (pt : Nat → AV) (ff : Nat) (fs cs : List AV) (p : Nat → Bool) (hh J : Nat → List ARow) (N : Nat)
  (hN : ∀ j, (hh j).length = N) (hC : ∀ j, ClosedH (hh j)) (hS : ∀ i ∈ s.ids, i < N) (hF : ∀ i ∈ AV.idsL fs ++ AV.idsL cs, i < N) (hl : l.length < 9223372036854775807)
  (hlen : alen false s = some (.int .i64 l.length)) (hidx : ∀ j (i : Nat), i < l.length → aidx (hh j) 3 s (.int .i64 i) = some (pt i)) (hld : ∀ j (i : Nat) (h : i < l.length), aload (hh j) true 3 (pt i) = some (vl l[i]))
include hN hC hS hF hl hidx hld
include hlen
end


section
variable {α : Type} (cl : α → List AV) (z0 : α) (hz : cl z0 = [.int .i64 0, .int .i64 0, .data false 1 [] true]) (hcl : ∀ x, (cl x).length = 3) (hst : ∀ x, AV.stableL (cl x) = true)
variable (l : List α) (id g c ff : Nat) (fs cs : List AV) (p : α → Bool) (h : List ARow) (hid : id < h.length) (hC : ClosedH h) (hF : ∀ i ∈ AV.idsL fs ++ AV.idsL cs, i < h.length) (hl : l.length < 1000000) (hc : l.length ≤ c)
  (J : α → List ARow) (hp : ∀ R x e, aR G FT ff (fs ++ [AV.agg (cl x)] ++ cs) (h.set id ⟨3, g, true, List.map cl R⟩ ++ e) = some (.bool (p x), h.set id ⟨3, g, true, List.map cl R⟩ ++ (e ++ J x)))
include hid hC hF hl hp hcl hst
end


section
variable {α : Type} (cl : α → List AV) (z0 : α) (hz : cl z0 = [.int .i64 0, .int .i64 0, .data false 1 [] true]) (hcl : ∀ x, (cl x).length = 3) (hst : ∀ x, AV.stableL (cl x) = true)
variable (l : List α) (id g c ff : Nat) (fs cs : List AV) (p : α → Bool) (h : List ARow) (hid : id < h.length) (hC : ClosedH h) (hF : ∀ i ∈ AV.idsL fs ++ AV.idsL cs, i < h.length) (hl : l.length < 1000000) (hc : l.length ≤ c)
  (J : α → List ARow) (hp : ∀ R x e, aR G FT ff (fs ++ [AV.agg (cl x)] ++ cs) (h.set id ⟨3, g, true, List.map cl R⟩ ++ e) = some (.bool (p x), h.set id ⟨3, g, true, List.map cl R⟩ ++ (e ++ J x)))
include hid hC hF hl hp hcl hst hz hc
end

end Go.Proofs.Ytfnonledcniojaa
