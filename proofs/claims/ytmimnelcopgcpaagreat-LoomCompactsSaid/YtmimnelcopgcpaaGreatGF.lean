/- The closed facts of the row of LoomCompacts, one by one. No statement of the seat is proved here. -/
import Derived.Test.YtmimnelcopgcpaaGreatRows
import Derived.JoinedOf
import Derived.ProofKit
set_option linter.unusedVariables false
set_option linter.unusedSimpArgs false
section
namespace Go.Proofs.YtmimnelcopgcpaaGreat
open Go Go.ChangeShapes Go.WideShapes Go.ChangeAt Go.RowKit
theorem both {a b : Bool} (ha : a = true) (hb : b = true) : (a && b) = true := by rw [ha, hb]; rfl
theorem loomCompactsFact0 : (Rows.loomCompactsRow.wf (OpenSpec.ofChange Rows.loomCompactsSpec)) = true := by kernel_rfl
theorem loomCompactsFact1 : (laidOutB Tryz.prog) = true := by kernel_rfl
theorem loomCompactsFact2 : (mapsRowed Tryz.prog) = true := by kernel_rfl
theorem loomCompactsFact3 : (Tryz.f3.params.all (Tryz.prog.readableRec ·)) = true := by kernel_rfl
theorem loomCompactsFact4 : (namedTie Tryz.prog Rows.loomCompactsRow.named Rows.loomCompactsSpec.vars) = true := by kernel_rfl
theorem loomCompactsFact5 : ((Rows.loomCompactsRow.stops == [])) = true := by kernel_rfl
theorem loomCompactsFact6 : ((Tryz.prog.stops == [])) = true := by kernel_rfl
theorem loomCompactsFact7 : ((Rows.loomCompactsRow.knobs == [])) = true := by kernel_rfl
theorem loomCompactsFact8 : ((Tryz.prog.stopKnobs == [])) = true := by kernel_rfl
theorem loomCompactsFact9 : ((Rows.loomCompactsRow.inPlace == Tryz.prog.inPlace 3)) = true := by kernel_rfl
theorem loomCompactsFact10 : ((Rows.loomCompactsRow.unfollowed == Tryz.prog.unfollowed 3)) = true := by kernel_rfl
theorem loomCompactsFact11 : ((Rows.loomCompactsRow.recurses == Tryz.prog.recurses 3)) = true := by kernel_rfl
theorem loomCompactsFact12 : ((Rows.loomCompactsRow.named == Tryz.prog.varsNamed 3)) = true := by kernel_rfl
theorem loomCompactsFact13 : ((Rows.loomCompactsRow.maps == (Tryz.f3.params.toList ++ Rows.loomCompactsSpec.plain.varTypes Tryz.prog).any (Tryz.prog.mapsRec ·))) = true := by kernel_rfl
theorem loomCompactsFact14 : ((Rows.loomCompactsRow.ifaces == (Tryz.f3.params.toList ++ Rows.loomCompactsSpec.plain.varTypes Tryz.prog).any (Tryz.prog.ifacesRec ·))) = true := by kernel_rfl
theorem loomCompactsFact15 : ((Rows.loomCompactsRow.mapsOut == Tryz.prog.mapsAmong Tryz.f3.resultTypes.toList)) = true := by kernel_rfl
theorem loomCompactsFact16 : ((Rows.loomCompactsRow.loops == (Tryz.f3.params.toList ++ Rows.loomCompactsSpec.plain.varTypes Tryz.prog).any (Tryz.prog.loopsFrom ·))) = true := by kernel_rfl
theorem loomCompactsFact17 : ((Rows.loomCompactsRow.wideKeys == (Tryz.f3.params.toList ++ Rows.loomCompactsSpec.plain.varTypes Tryz.prog ++ Tryz.f3.resultTypes.toList).any (Tryz.prog.wideKeysFrom ·))) = true := by kernel_rfl
theorem loomCompactsFact18 : (Rows.loomCompactsSpec.vars.all (Tryz.prog.varReadable ·)) = true := by kernel_rfl
theorem loomCompactsFact19 : (Tryz.f3.resultTypes.all (fun t => Tryz.prog.readableRec t && decide (t < Tryz.prog.types.size))) = true := by kernel_rfl
theorem loomCompactsFact20 : ((Rows.loomCompactsRow.ifacesOut == Tryz.f3.resultTypes.toList.any (Tryz.prog.ifacesRec ·))) = true := by kernel_rfl
theorem loomCompactsFact21 : ((Rows.loomCompactsRow.loopsOut == Tryz.f3.resultTypes.toList.any (Tryz.prog.loopsFrom ·))) = true := by kernel_rfl
theorem loomCompactsFact22 : ((Rows.loomCompactsRow.plainKeys == Tryz.prog.plainKeys)) = true := by kernel_rfl
theorem loomCompactsFact23 : (Rows.loomCompactsRow.shortTexts.isNone) = true := by kernel_rfl
theorem loomCompactsFact24 : (Tryz.prog.stopsHeard) = true := by kernel_rfl
theorem loomCompactsFact25 : (Tryz.prog.mayEnter) = true := by kernel_rfl
theorem loomCompactsFact26 : ((Rows.loomCompactsRow.lifted == Tryz.prog.liftsFinal)) = true := by kernel_rfl
theorem loomCompactsFact27 : ((Tryz.prog.make == some Rows.loomCompactsRow.make)) = true := by kernel_rfl
theorem loomCompactsFact28 : ((Rows.loomCompactsRow.kinds == (if Rows.loomCompactsRow.domain.isEmpty then [] else Tryz.f3.params.toList.map fun t => match Tryz.prog.underlying t with | some (.int k) => some k | _ => none))) = true := by kernel_rfl
theorem loomCompactsFact29 : ((Rows.loomCompactsRow.pinned == Rows.loomCompactsRow.pinnedBy)) = true := by kernel_rfl
theorem loomCompactsFact30 : ((Rows.loomCompactsRow.veiled == (Tryz.f3.params.toList ++ Rows.loomCompactsSpec.plain.varTypes Tryz.prog ++ Tryz.f3.resultTypes.toList).any (Tryz.prog.veiledRec ·))) = true := by kernel_rfl
theorem loomCompactsFact31 : (Rows.loomCompactsRow.veiledFits Tryz.prog Tryz.f3.params.toList (Tryz.f3.params.toList ++ Rows.loomCompactsSpec.plain.varTypes Tryz.prog ++ Tryz.f3.resultTypes.toList)) = true := by kernel_rfl
set_option maxRecDepth 100000 in
theorem loomCompactsFacts : joinedFacts Tryz.prog 3 Tryz.f3 Rows.loomCompactsSpec Rows.loomCompactsRow = true := by
  unfold joinedFacts
  simp only [Bool.and_eq_true]
  exact ⟨⟨⟨⟨⟨⟨⟨⟨⟨⟨⟨⟨⟨⟨⟨⟨⟨⟨⟨⟨⟨⟨⟨⟨⟨⟨⟨⟨⟨⟨⟨loomCompactsFact0, loomCompactsFact1⟩, loomCompactsFact2⟩, loomCompactsFact3⟩, loomCompactsFact4⟩, loomCompactsFact5⟩, loomCompactsFact6⟩, loomCompactsFact7⟩, loomCompactsFact8⟩, loomCompactsFact9⟩, loomCompactsFact10⟩, loomCompactsFact11⟩, loomCompactsFact12⟩, loomCompactsFact13⟩, loomCompactsFact14⟩, loomCompactsFact15⟩, loomCompactsFact16⟩, loomCompactsFact17⟩, loomCompactsFact18⟩, loomCompactsFact19⟩, loomCompactsFact20⟩, loomCompactsFact21⟩, loomCompactsFact22⟩, loomCompactsFact23⟩, loomCompactsFact24⟩, loomCompactsFact25⟩, loomCompactsFact26⟩, loomCompactsFact27⟩, loomCompactsFact28⟩, loomCompactsFact29⟩, loomCompactsFact30⟩, loomCompactsFact31⟩
end Go.Proofs.YtmimnelcopgcpaaGreat
end
