/-
LoomEnds: each run ends, with one verdict, behind at most as many steps as the plan has entries; all its events are right; what is not right is malformed, and does nothing. The law answers true and its argument reads behind the call as it did ahead of it.
Conditions: those of the given statement's own row (the three listed variables hold what the program's text lays in them; the card ties them to it), and no other.
-/
import Derived.Test.YtmimnelcopgcpaaGreatDoorGH
import Derived.Test.YtmimnelcopgcpaaGreatDoorGI
import Derived.Test.YtmimnelcopgcpaaGreatDoorGJ
import Derived.Test.YtmimnelcopgcpaaGreatDoorTie
import Derived.Test.YtmimnelcopgcpaaGreatDoorCards
import Derived.SevenTiedAt
set_option linter.unusedVariables false
set_option linter.unusedSimpArgs false
section
namespace Go.Proofs.YtmimnelcopgcpaaGreatDoor
open Go Go.Sl Go.ChangeShapes Go.WideShapes Go.ChangeAt Go.RowKit

theorem loomEnds_holds : Rows.LoomEndsCardSaid :=
  Claim7.holds_tied_plain_at .later [] [.data, .data, .data] true (true, "9f3ba90a39830b65a17b71e828f5cd9e1a91d76ad1d4097e6bbfcde4b1545215") false
    loomEnds_row (fun _ h => by cases h) loomEndsWf (fun _ h => by cases h) loomEnds_row_tie rfl ⟨rfl, rfl⟩ loomEndsMain rfl
    (fun f fn hf hfn => by
      obtain rfl : f = 7 := Option.some.inj (loomEndsNamed.symm.trans hf) |>.symm
      obtain rfl : fn = Tryz.f7 := (Option.some.inj (Tryz.func7.symm.trans hfn)).symm
      exact ⟨loomEndsLooks, fun j t ht => by
        rw [Tryz.params7] at ht
        have hm : t ∈ [44] := by simpa using Array.mem_of_getElem? ht
        exact (show Tryz.prog.wantsStandIn t = false by simpa using List.all_eq_true.1 loomEndsAlone t hm)⟩)
    loomEndsGoes
#print axioms loomEnds_holds
end Go.Proofs.YtmimnelcopgcpaaGreatDoor
end
