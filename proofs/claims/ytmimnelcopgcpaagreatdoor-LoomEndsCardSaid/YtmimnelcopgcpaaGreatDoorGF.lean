/- The closed facts of the row of LoomEnds, one by one. No statement of the seat is proved here. -/
import Derived.Test.YtmimnelcopgcpaaGreatDoorGE
import Derived.Test.YtmimnelcopgcpaaGreatDoorTie
import Derived.JoinedOf
set_option linter.unusedVariables false
set_option linter.unusedSimpArgs false
section
namespace Go.Proofs.YtmimnelcopgcpaaGreatDoor
open Go Go.Sl Go.ChangeShapes Go.WideShapes Go.ChangeAt Go.RowKit
theorem both {a b : Bool} (ha : a = true) (hb : b = true) : (a && b) = true := by rw [ha, hb]; rfl
theorem loomEndsFact0 : (Rows.loomEndsRow.wf (OpenSpec.ofChange Rows.loomEndsSpec)) = true := by kernel_rfl
theorem loomEndsFact1 : (laidOutB Tryz.prog) = true := by kernel_rfl
theorem loomEndsFact2 : (mapsRowed Tryz.prog) = true := by kernel_rfl
theorem loomEndsFact3 : (Tryz.f7.params.all (Tryz.prog.readableRec ·)) = true := by kernel_rfl
theorem loomEndsFact4 : (namedTie Tryz.prog Rows.loomEndsRow.named Rows.loomEndsSpec.vars) = true := by kernel_rfl
theorem loomEndsFact5 : ((Rows.loomEndsRow.stops == [])) = true := by kernel_rfl
theorem loomEndsFact6 : ((Tryz.prog.stops == [])) = true := by kernel_rfl
theorem loomEndsFact7 : ((Rows.loomEndsRow.knobs == [])) = true := by kernel_rfl
theorem loomEndsFact8 : ((Tryz.prog.stopKnobs == [])) = true := by kernel_rfl
theorem loomEndsFact9 : ((Rows.loomEndsRow.inPlace == Tryz.prog.inPlace 7)) = true := by kernel_rfl
theorem loomEndsFact10 : ((Rows.loomEndsRow.unfollowed == Tryz.prog.unfollowed 7)) = true := by kernel_rfl
theorem loomEndsFact11 : ((Rows.loomEndsRow.recurses == Tryz.prog.recurses 7)) = true := by kernel_rfl
theorem loomEndsFact12 : ((Rows.loomEndsRow.named == Tryz.prog.varsNamed 7)) = true := by kernel_rfl
theorem loomEndsFact13 : ((Rows.loomEndsRow.maps == (Tryz.f7.params.toList ++ Rows.loomEndsSpec.plain.varTypes Tryz.prog).any (Tryz.prog.mapsRec ·))) = true := by kernel_rfl
theorem loomEndsFact14 : ((Rows.loomEndsRow.ifaces == (Tryz.f7.params.toList ++ Rows.loomEndsSpec.plain.varTypes Tryz.prog).any (Tryz.prog.ifacesRec ·))) = true := by kernel_rfl
theorem loomEndsFact15 : ((Rows.loomEndsRow.mapsOut == Tryz.prog.mapsAmong Tryz.f7.resultTypes.toList)) = true := by kernel_rfl
theorem loomEndsFact16 : ((Rows.loomEndsRow.loops == (Tryz.f7.params.toList ++ Rows.loomEndsSpec.plain.varTypes Tryz.prog).any (Tryz.prog.loopsFrom ·))) = true := by kernel_rfl
theorem loomEndsFact17 : ((Rows.loomEndsRow.wideKeys == (Tryz.f7.params.toList ++ Rows.loomEndsSpec.plain.varTypes Tryz.prog ++ Tryz.f7.resultTypes.toList).any (Tryz.prog.wideKeysFrom ·))) = true := by kernel_rfl
theorem loomEndsFact18 : (Rows.loomEndsSpec.vars.all (Tryz.prog.varReadable ·)) = true := by kernel_rfl
theorem loomEndsFact19 : (Tryz.f7.resultTypes.all (fun t => Tryz.prog.readableRec t && decide (t < Tryz.prog.types.size))) = true := by kernel_rfl
theorem loomEndsFact20 : ((Rows.loomEndsRow.ifacesOut == Tryz.f7.resultTypes.toList.any (Tryz.prog.ifacesRec ·))) = true := by kernel_rfl
theorem loomEndsFact21 : ((Rows.loomEndsRow.loopsOut == Tryz.f7.resultTypes.toList.any (Tryz.prog.loopsFrom ·))) = true := by kernel_rfl
theorem loomEndsFact22 : ((Rows.loomEndsRow.plainKeys == Tryz.prog.plainKeys)) = true := by kernel_rfl
theorem loomEndsFact23 : (Rows.loomEndsRow.shortTexts.isNone) = true := by kernel_rfl
theorem loomEndsFact24 : (Tryz.prog.stopsHeard) = true := by kernel_rfl
theorem loomEndsFact25 : (Tryz.prog.mayEnter) = true := by kernel_rfl
theorem loomEndsFact26 : ((Rows.loomEndsRow.lifted == Tryz.prog.liftsFinal)) = true := by kernel_rfl
theorem loomEndsFact27 : ((Tryz.prog.make == some Rows.loomEndsRow.make)) = true := by kernel_rfl
theorem loomEndsFact28 : ((Rows.loomEndsRow.kinds == (if Rows.loomEndsRow.domain.isEmpty then [] else Tryz.f7.params.toList.map fun t => match Tryz.prog.underlying t with | some (.int k) => some k | _ => none))) = true := by kernel_rfl
theorem loomEndsFact29 : ((Rows.loomEndsRow.pinned == Rows.loomEndsRow.pinnedBy)) = true := by kernel_rfl
theorem loomEndsFact30 : ((Rows.loomEndsRow.veiled == (Tryz.f7.params.toList ++ Rows.loomEndsSpec.plain.varTypes Tryz.prog ++ Tryz.f7.resultTypes.toList).any (Tryz.prog.veiledRec ·))) = true := by kernel_rfl
theorem loomEndsFact31 : (Rows.loomEndsRow.veiledFits Tryz.prog Tryz.f7.params.toList (Tryz.f7.params.toList ++ Rows.loomEndsSpec.plain.varTypes Tryz.prog ++ Tryz.f7.resultTypes.toList)) = true := by kernel_rfl
set_option maxRecDepth 100000 in
theorem loomEndsFacts : joinedFacts Tryz.prog 7 Tryz.f7 Rows.loomEndsSpec Rows.loomEndsRow = true := by
  unfold joinedFacts
  simp only [Bool.and_eq_true]
  exact ⟨⟨⟨⟨⟨⟨⟨⟨⟨⟨⟨⟨⟨⟨⟨⟨⟨⟨⟨⟨⟨⟨⟨⟨⟨⟨⟨⟨⟨⟨⟨loomEndsFact0, loomEndsFact1⟩, loomEndsFact2⟩, loomEndsFact3⟩, loomEndsFact4⟩, loomEndsFact5⟩, loomEndsFact6⟩, loomEndsFact7⟩, loomEndsFact8⟩, loomEndsFact9⟩, loomEndsFact10⟩, loomEndsFact11⟩, loomEndsFact12⟩, loomEndsFact13⟩, loomEndsFact14⟩, loomEndsFact15⟩, loomEndsFact16⟩, loomEndsFact17⟩, loomEndsFact18⟩, loomEndsFact19⟩, loomEndsFact20⟩, loomEndsFact21⟩, loomEndsFact22⟩, loomEndsFact23⟩, loomEndsFact24⟩, loomEndsFact25⟩, loomEndsFact26⟩, loomEndsFact27⟩, loomEndsFact28⟩, loomEndsFact29⟩, loomEndsFact30⟩, loomEndsFact31⟩
end Go.Proofs.YtmimnelcopgcpaaGreatDoor
end
