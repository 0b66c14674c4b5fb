/- What the rows of the seat share: the listed variables' cells. No statement of the seat is proved here. -/
import Derived.Test.YtmimnelcopgcpaaGreatDoorGD
import Derived.Test.YtmimnelcopgcpaaGreatDoorRows
import Derived.ProofKit
import Derived.LaidMore
import Derived.OpenShut
import Derived.Stop.Joined
import Derived.SizedLaws
set_option linter.unusedVariables false
set_option linter.unusedSimpArgs false
section
namespace Go.Sl
open Go Go.ChangeShapes Go.WideShapes Go.ChangeAt Go.RowKit

theorem own0 : ownKnob P.godebug = none := by kernel_rfl
theorem laidOut0 : laidOutB P = true := by kernel_rfl

def laid3 {H : Type} : List (String × DataW H) := [("staithe/entry.none", Proofs.YtmimnelcopgcpaaGreatDoor.Rows.laid_staithe_entry_none), ("staithe/entry.id", Proofs.YtmimnelcopgcpaaGreatDoor.Rows.laid_staithe_entry_id), ("staithe/entry.maybe", Proofs.YtmimnelcopgcpaaGreatDoor.Rows.laid_staithe_entry_maybe)]

theorem gId : P.globalNamed "staithe/entry.id" = some 0 := by kernel_rfl
theorem gNone : P.globalNamed "staithe/entry.none" = some 1 := by kernel_rfl
theorem gMaybe : P.globalNamed "staithe/entry.maybe" = some 2 := by kernel_rfl
theorem tId : (P.globals[0]?).map (·.type) = some 123 := by kernel_rfl
theorem tNone : (P.globals[1]?).map (·.type) = some 123 := by kernel_rfl
theorem tMaybe : (P.globals[2]?).map (·.type) = some 123 := by kernel_rfl

theorem take_drop1 {cs : List Value} {k : Nat} {v : Value} {c : Nat} (hc : c = 1) (h : (cs.drop k).take c = [v]) : cs[k]? = some v := take_one' hc h

theorem span_cells {H : Type} {enc : TypeId × Value → H} {w : World} {base : Nat} {sp : Nat → Bool} {held : Bool} {fuel : Nat} {cs : List Value} {a b : Int} {q : List MemPlace}
    (h : DataW.trod enc P w base sp held fuel 123 cs = some (.agg [.lit (.int .i64 a), .lit (.int .i64 b)], q)) : cs[0]? = some (int a) ∧ cs[1]? = some (int b) := by
  obtain ⟨y0, y1, n, hx, hl, h0, h1⟩ := trod_struct2 Proofs.Tryz.underlying123 h
  simp only [Prod.mk.injEq, DataW.agg.injEq, List.cons.injEq, and_true] at hx
  obtain ⟨⟨e0, e1⟩, _⟩ := hx
  obtain ⟨n0, c0, r0, _⟩ := DataW.trod_int Proofs.Tryz.underlying3 h0
  obtain ⟨n1, c1, r1, _⟩ := DataW.trod_int Proofs.Tryz.underlying3 h1
  rw [r0] at e0; rw [r1] at e1
  injection e0 with e0; injection e0 with _ e0; subst e0
  injection e1 with e1; injection e1 with _ e1; subst e1
  exact ⟨take_one' c1i c0, take_one' c1i c1⟩

theorem span_at {W : World} {g : Nat} {cs : Array Value} {a b : Int} (hc : ∀ k, k < cs.size → W.cell? ⟨g, k, none⟩ = cs[k]?) (h : cs.toList[0]? = some (int a) ∧ cs.toList[1]? = some (int b)) : rangeAt W.heap g 0 [int a, int b] := by
  obtain ⟨h0, h1⟩ := h
  rw [Array.getElem?_toList] at h0 h1
  have hs0 := (Array.getElem?_eq_some_iff.1 h0).1
  have hs1 := (Array.getElem?_eq_some_iff.1 h1).1
  intro i v hi
  match i with
  | 0 =>
    simp at hi; subst hi
    have := hc 0 hs0
    rw [h0] at this
    exact (cellP_eq this).2
  | 1 =>
    simp at hi; subst hi
    have := hc 1 hs1
    rw [h1] at this
    exact (cellP_eq this).2
  | i + 2 => simp at hi

/-- The listed variables, as they lie in the heap. -/
theorem of_laid {W : World} (h : laidMetH P laid3 W) : Laid W.heap := by
  rw [MakeChecks.laidMetH_plain _ _ _ (by kernel_rfl)] at h
  obtain ⟨ps, ⟨g0, t0, cs0, f0, p0, q0, hg0, ht0, hv0, hd0, ⟨g1, t1, cs1, f1, p1, q1, hg1, ht1, hv1, hd1, ⟨g2, t2, cs2, f2, p2, q2, hg2, ht2, hv2, hd2, _, _⟩, _⟩, _⟩, _, _⟩ := h
  obtain rfl := Option.some.inj (gNone.symm.trans hg0)
  obtain rfl := Option.some.inj (gId.symm.trans hg1)
  obtain rfl := Option.some.inj (gMaybe.symm.trans hg2)
  obtain rfl := Option.some.inj (tNone.symm.trans ht0)
  obtain rfl := Option.some.inj (tId.symm.trans ht1)
  obtain rfl := Option.some.inj (tMaybe.symm.trans ht2)
  exact ⟨span_at (fun k hk => World.var?_cell hg1 hv1 k) (span_cells hd1), span_at (fun k hk => World.var?_cell hg0 hv0 k) (span_cells hd0), span_at (fun k hk => World.var?_cell hg2 hv2 k) (span_cells hd2)⟩

/-- The door's own heap meets the condition. -/
theorem door_met (os : Os) (args : Array Value) : laidMetH P laid3 ((World.doorLaid P 400 os).forCall (fun _ _ => 0) ⟨#[], args, []⟩).memory :=
  laidMetH_of_parts3 (fuel := 8) (laidMet_of_run' 8 (by kernel_rfl) (by kernel_rfl)) (by kernel_rfl) (by kernel_rfl)

end Go.Sl
end
