/-
LoomCompacts: Compact entries change nothing but that they stand in the trace: without them a script's trace is the same without them, and so is the verdict. The law answers true and its argument reads behind the call as it did ahead of it.
Conditions: those of the given statement's own row, and no other.
-/
import Derived.Test.YtmimnelcopgcpaaGreatGG
import Derived.Test.YtmimnelcopgcpaaGreatGF
set_option linter.unusedVariables false
set_option linter.unusedSimpArgs false
section
namespace Go.Proofs.YtmimnelcopgcpaaGreat
open Go Go.Sl Go.ChangeShapes Go.WideShapes Go.ChangeAt Go.RowKit

theorem loomCompacts_holds : Rows.LoomCompactsSaid :=
  OpenClaim.holds_of_wide 3 Tryz.f3 rfl rfl rfl rfl rfl rfl rfl ⟨rfl, rfl, rfl, rfl, rfl⟩ rfl rfl rfl rfl rfl (by kernel_rfl) Tryz.func3 loomCompactsFacts
    (of_decide_eq_true (by kernel_rfl)) (by unfold Func.isWrapper; first | (rw [if_pos (by decide +kernel)]; kernel_rfl) | (rw [if_neg (by decide +kernel)]; exact ⟨rfl, rfl⟩))
    (fun os started H enc _ => loomCompacts_lifted os started H enc)
#print axioms loomCompacts_holds
end Go.Proofs.YtmimnelcopgcpaaGreat
end
