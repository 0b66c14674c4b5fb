/-
  NARROWER THAN 'FOR EVERY INPUT', by the rows' own cells (each row's printed sentence says how): AxiomAhead: laid · AxiomFirst: laid · AxiomOrder: laid · AxiomGrows: laid · LoomEnds: laid · AxiomKnows: laid · AxiomTold: laid · GaugeCounts: laid · GaugeRuns: laid · GaugeSpoils: laid · AxiomSettled: laid.
  DERIVED. THE GIVEN ROWS OF THIS SEAT. 11 by the template 'for every input the law returns true; each argument reads behind the call as it read before'; 0 by the template 'total and deterministic' (their statements: YtmimnelcopgcpaaGreatDoorTotals.lean).
  GIVEN WITH THE SEED: the statements are not yours to turn. If you find one false, say at which input.
  Laid BY PROGRAM, IN A SANDBOX (cutbox-rows.mjs): the forced cells as the released guide's own fill.sh prints them over the translation 9b3453ea3d497a7b… (all of the seat's roots in one cut). By AI agents, Wed Nov 11 2026. No macro, syntax, notation, axiom, sorry.
-/
import Derived.Test.YtmimnelcopgcpaaGreatDoorChecked
import GoSem.Claim
import GoSem.ClaimJoined
import GoSem.ClaimMapViews
import Derived.JoinedTies
import Derived.KernelRfl
namespace Go.Proofs.YtmimnelcopgcpaaGreatDoor
/- THE CELL 'sum', in the pinned program and in every row, IS THE sha256 OF THE DUMP (.gsa) THAT YtmimnelcopgcpaaGreatDoorProg.lean LOADS. Nothing in Lean hashes anything: it is a label: what it is worth is what the hold of that sum in a sandbox is worth. -/
noncomputable def Tryz.pinned : Pinned := { name := "ytmimnelcopgcpaagreatdoor", sum := "9b3453ea3d497a7bde47a07c193e8d85d2f272919c924cbc73929ac36cac161d", checked := Tryz.checked }
namespace Rows
def none {H : Type} : Left H := { results := [], args := [] }

/- WHAT THE LISTED PACKAGE-LEVEL VARIABLES READ AS WHEN THE CALL BEGINS. Each datum BY PROGRAM (the guide's laid-datum.mjs) off the statement by which the dump's own 'gosem.cut.vars' lays the variable. In a bare row this is a premise. The card (YtmimnelcopgcpaaGreatDoorCards.lean) ties it to the program's text. -/
def laid_staithe_entry_none {H : Type} : DataW H := .agg [.lit (.int .i64 (-1)), .lit (.int .i64 (-1))]
def laid_staithe_entry_id {H : Type} : DataW H := .agg [.lit (.int .i64 0), .lit (.int .i64 511)]
def laid_staithe_entry_maybe {H : Type} : DataW H := .agg [.lit (.int .i64 (-1)), .lit (.int .i64 511)]

/-- 'staithelaw26.AxiomAhead': WHATEVER THE INPUT: true; the input reads as it did. -/
def axiomAheadSpec : ChangeSpec := { name := "axiomAhead", fn := fun _ => fun
  | [d] => { results := [.lit (.bool true)], args := [d] }
  | _ => none }
def axiomAheadRow : OpenClaim := { program := "ytmimnelcopgcpaagreatdoor", sum := "9b3453ea3d497a7bde47a07c193e8d85d2f272919c924cbc73929ac36cac161d", func := "staithe/staithelaw26.AxiomAhead", spec := "axiomAhead", unfollowed := true, recurses := true, named := ["staithe/entry.id", "staithe/entry.none", "staithe/entry.maybe"], apart := false, laid := [("staithe/entry.none", laid_staithe_entry_none), ("staithe/entry.id", laid_staithe_entry_id), ("staithe/entry.maybe", laid_staithe_entry_maybe)] }
def AxiomAheadSaid : Prop := axiomAheadRow.holds Tryz.pinned (OpenSpec.ofChange axiomAheadSpec)

/-- ITS FALSE NEIGHBOUR: 'it returns false'. Refute it at one input. -/
def axiomAheadWrong : ChangeSpec := { name := "axiomAhead", fn := fun _ => fun
  | [d] => { results := [.lit (.bool false)], args := [d] }
  | _ => none }
def AxiomAheadWrongFalsely : Prop := axiomAheadRow.holds Tryz.pinned (OpenSpec.ofChange axiomAheadWrong)

/-- 'staithelaw26.AxiomFirst': WHATEVER THE INPUT: true; the input reads as it did. -/
def axiomFirstSpec : ChangeSpec := { name := "axiomFirst", fn := fun _ => fun
  | [d1, d2] => { results := [.lit (.bool true)], args := [d1, d2] }
  | _ => none }
def axiomFirstRow : OpenClaim := { program := "ytmimnelcopgcpaagreatdoor", sum := "9b3453ea3d497a7bde47a07c193e8d85d2f272919c924cbc73929ac36cac161d", func := "staithe/staithelaw26.AxiomFirst", spec := "axiomFirst", unfollowed := true, recurses := true, named := ["staithe/entry.id", "staithe/entry.none", "staithe/entry.maybe"], apart := false, laid := [("staithe/entry.none", laid_staithe_entry_none), ("staithe/entry.id", laid_staithe_entry_id), ("staithe/entry.maybe", laid_staithe_entry_maybe)] }
def AxiomFirstSaid : Prop := axiomFirstRow.holds Tryz.pinned (OpenSpec.ofChange axiomFirstSpec)

/-- ITS FALSE NEIGHBOUR: 'it returns false'. Refute it at one input. -/
def axiomFirstWrong : ChangeSpec := { name := "axiomFirst", fn := fun _ => fun
  | [d1, d2] => { results := [.lit (.bool false)], args := [d1, d2] }
  | _ => none }
def AxiomFirstWrongFalsely : Prop := axiomFirstRow.holds Tryz.pinned (OpenSpec.ofChange axiomFirstWrong)

/-- 'staithelaw26.AxiomOrder': WHATEVER THE INPUT: true; the input reads as it did. -/
def axiomOrderSpec : ChangeSpec := { name := "axiomOrder", fn := fun _ => fun
  | [d] => { results := [.lit (.bool true)], args := [d] }
  | _ => none }
def axiomOrderRow : OpenClaim := { program := "ytmimnelcopgcpaagreatdoor", sum := "9b3453ea3d497a7bde47a07c193e8d85d2f272919c924cbc73929ac36cac161d", func := "staithe/staithelaw26.AxiomOrder", spec := "axiomOrder", unfollowed := true, recurses := true, named := ["staithe/entry.id", "staithe/entry.none", "staithe/entry.maybe"], apart := false, laid := [("staithe/entry.none", laid_staithe_entry_none), ("staithe/entry.id", laid_staithe_entry_id), ("staithe/entry.maybe", laid_staithe_entry_maybe)] }
def AxiomOrderSaid : Prop := axiomOrderRow.holds Tryz.pinned (OpenSpec.ofChange axiomOrderSpec)

/-- ITS FALSE NEIGHBOUR: 'it returns false'. Refute it at one input. -/
def axiomOrderWrong : ChangeSpec := { name := "axiomOrder", fn := fun _ => fun
  | [d] => { results := [.lit (.bool false)], args := [d] }
  | _ => none }
def AxiomOrderWrongFalsely : Prop := axiomOrderRow.holds Tryz.pinned (OpenSpec.ofChange axiomOrderWrong)

/-- 'staithelaw26.AxiomGrows': WHATEVER THE INPUT: true; the input reads as it did. -/
def axiomGrowsSpec : ChangeSpec := { name := "axiomGrows", fn := fun _ => fun
  | [d1, d2] => { results := [.lit (.bool true)], args := [d1, d2] }
  | _ => none }
def axiomGrowsRow : OpenClaim := { program := "ytmimnelcopgcpaagreatdoor", sum := "9b3453ea3d497a7bde47a07c193e8d85d2f272919c924cbc73929ac36cac161d", func := "staithe/staithelaw26.AxiomGrows", spec := "axiomGrows", unfollowed := true, recurses := true, named := ["staithe/entry.id", "staithe/entry.none", "staithe/entry.maybe"], apart := false, laid := [("staithe/entry.none", laid_staithe_entry_none), ("staithe/entry.id", laid_staithe_entry_id), ("staithe/entry.maybe", laid_staithe_entry_maybe)] }
def AxiomGrowsSaid : Prop := axiomGrowsRow.holds Tryz.pinned (OpenSpec.ofChange axiomGrowsSpec)

/-- ITS FALSE NEIGHBOUR: 'it returns false'. Refute it at one input. -/
def axiomGrowsWrong : ChangeSpec := { name := "axiomGrows", fn := fun _ => fun
  | [d1, d2] => { results := [.lit (.bool false)], args := [d1, d2] }
  | _ => none }
def AxiomGrowsWrongFalsely : Prop := axiomGrowsRow.holds Tryz.pinned (OpenSpec.ofChange axiomGrowsWrong)

/-- 'staithelaw13.LoomEnds': WHATEVER THE INPUT: true; the input reads as it did. -/
def loomEndsSpec : ChangeSpec := { name := "loomEnds", fn := fun _ => fun
  | [d] => { results := [.lit (.bool true)], args := [d] }
  | _ => none }
def loomEndsRow : OpenClaim := { program := "ytmimnelcopgcpaagreatdoor", sum := "9b3453ea3d497a7bde47a07c193e8d85d2f272919c924cbc73929ac36cac161d", func := "staithe/staithelaw13.LoomEnds", spec := "loomEnds", unfollowed := true, recurses := true, named := ["staithe/entry.id", "staithe/entry.none", "staithe/entry.maybe"], apart := false, laid := [("staithe/entry.none", laid_staithe_entry_none), ("staithe/entry.id", laid_staithe_entry_id), ("staithe/entry.maybe", laid_staithe_entry_maybe)] }
def LoomEndsSaid : Prop := loomEndsRow.holds Tryz.pinned (OpenSpec.ofChange loomEndsSpec)

/-- ITS FALSE NEIGHBOUR: 'it returns false'. Refute it at one input. -/
def loomEndsWrong : ChangeSpec := { name := "loomEnds", fn := fun _ => fun
  | [d] => { results := [.lit (.bool false)], args := [d] }
  | _ => none }
def LoomEndsWrongFalsely : Prop := loomEndsRow.holds Tryz.pinned (OpenSpec.ofChange loomEndsWrong)

/-- 'staithelaw26.AxiomKnows': WHATEVER THE INPUT: true; the input reads as it did. -/
def axiomKnowsSpec : ChangeSpec := { name := "axiomKnows", fn := fun _ => fun
  | [d1, d2, d3] => { results := [.lit (.bool true)], args := [d1, d2, d3] }
  | _ => none }
def axiomKnowsRow : OpenClaim := { program := "ytmimnelcopgcpaagreatdoor", sum := "9b3453ea3d497a7bde47a07c193e8d85d2f272919c924cbc73929ac36cac161d", func := "staithe/staithelaw26.AxiomKnows", spec := "axiomKnows", unfollowed := true, recurses := true, named := ["staithe/entry.id", "staithe/entry.none", "staithe/entry.maybe"], apart := false, laid := [("staithe/entry.none", laid_staithe_entry_none), ("staithe/entry.id", laid_staithe_entry_id), ("staithe/entry.maybe", laid_staithe_entry_maybe)] }
def AxiomKnowsSaid : Prop := axiomKnowsRow.holds Tryz.pinned (OpenSpec.ofChange axiomKnowsSpec)

/-- ITS FALSE NEIGHBOUR: 'it returns false'. Refute it at one input. -/
def axiomKnowsWrong : ChangeSpec := { name := "axiomKnows", fn := fun _ => fun
  | [d1, d2, d3] => { results := [.lit (.bool false)], args := [d1, d2, d3] }
  | _ => none }
def AxiomKnowsWrongFalsely : Prop := axiomKnowsRow.holds Tryz.pinned (OpenSpec.ofChange axiomKnowsWrong)

/-- 'staithelaw26.AxiomTold': WHATEVER THE INPUT: true; the input reads as it did. -/
def axiomToldSpec : ChangeSpec := { name := "axiomTold", fn := fun _ => fun
  | [d] => { results := [.lit (.bool true)], args := [d] }
  | _ => none }
def axiomToldRow : OpenClaim := { program := "ytmimnelcopgcpaagreatdoor", sum := "9b3453ea3d497a7bde47a07c193e8d85d2f272919c924cbc73929ac36cac161d", func := "staithe/staithelaw26.AxiomTold", spec := "axiomTold", unfollowed := true, recurses := true, named := ["staithe/entry.id", "staithe/entry.none", "staithe/entry.maybe"], apart := false, laid := [("staithe/entry.none", laid_staithe_entry_none), ("staithe/entry.id", laid_staithe_entry_id), ("staithe/entry.maybe", laid_staithe_entry_maybe)] }
def AxiomToldSaid : Prop := axiomToldRow.holds Tryz.pinned (OpenSpec.ofChange axiomToldSpec)

/-- ITS FALSE NEIGHBOUR: 'it returns false'. Refute it at one input. -/
def axiomToldWrong : ChangeSpec := { name := "axiomTold", fn := fun _ => fun
  | [d] => { results := [.lit (.bool false)], args := [d] }
  | _ => none }
def AxiomToldWrongFalsely : Prop := axiomToldRow.holds Tryz.pinned (OpenSpec.ofChange axiomToldWrong)

/-- 'staithelaw14.GaugeCounts': WHATEVER THE INPUT: true; the input reads as it did. -/
def gaugeCountsSpec : ChangeSpec := { name := "gaugeCounts", fn := fun _ => fun
  | [d1, d2] => { results := [.lit (.bool true)], args := [d1, d2] }
  | _ => none }
def gaugeCountsRow : OpenClaim := { program := "ytmimnelcopgcpaagreatdoor", sum := "9b3453ea3d497a7bde47a07c193e8d85d2f272919c924cbc73929ac36cac161d", func := "staithe/staithelaw14.GaugeCounts", spec := "gaugeCounts", unfollowed := true, recurses := true, named := ["staithe/entry.id", "staithe/entry.none", "staithe/entry.maybe"], apart := false, laid := [("staithe/entry.none", laid_staithe_entry_none), ("staithe/entry.id", laid_staithe_entry_id), ("staithe/entry.maybe", laid_staithe_entry_maybe)] }
def GaugeCountsSaid : Prop := gaugeCountsRow.holds Tryz.pinned (OpenSpec.ofChange gaugeCountsSpec)

/-- ITS FALSE NEIGHBOUR: 'it returns false'. Refute it at one input. -/
def gaugeCountsWrong : ChangeSpec := { name := "gaugeCounts", fn := fun _ => fun
  | [d1, d2] => { results := [.lit (.bool false)], args := [d1, d2] }
  | _ => none }
def GaugeCountsWrongFalsely : Prop := gaugeCountsRow.holds Tryz.pinned (OpenSpec.ofChange gaugeCountsWrong)

/-- 'staithelaw14.GaugeRuns': WHATEVER THE INPUT: true; the input reads as it did. -/
def gaugeRunsSpec : ChangeSpec := { name := "gaugeRuns", fn := fun _ => fun
  | [d1, d2] => { results := [.lit (.bool true)], args := [d1, d2] }
  | _ => none }
def gaugeRunsRow : OpenClaim := { program := "ytmimnelcopgcpaagreatdoor", sum := "9b3453ea3d497a7bde47a07c193e8d85d2f272919c924cbc73929ac36cac161d", func := "staithe/staithelaw14.GaugeRuns", spec := "gaugeRuns", unfollowed := true, recurses := true, named := ["staithe/entry.id", "staithe/entry.none", "staithe/entry.maybe"], apart := false, laid := [("staithe/entry.none", laid_staithe_entry_none), ("staithe/entry.id", laid_staithe_entry_id), ("staithe/entry.maybe", laid_staithe_entry_maybe)] }
def GaugeRunsSaid : Prop := gaugeRunsRow.holds Tryz.pinned (OpenSpec.ofChange gaugeRunsSpec)

/-- ITS FALSE NEIGHBOUR: 'it returns false'. Refute it at one input. -/
def gaugeRunsWrong : ChangeSpec := { name := "gaugeRuns", fn := fun _ => fun
  | [d1, d2] => { results := [.lit (.bool false)], args := [d1, d2] }
  | _ => none }
def GaugeRunsWrongFalsely : Prop := gaugeRunsRow.holds Tryz.pinned (OpenSpec.ofChange gaugeRunsWrong)

/-- 'staithelaw14.GaugeSpoils': WHATEVER THE INPUT: true; the input reads as it did. -/
def gaugeSpoilsSpec : ChangeSpec := { name := "gaugeSpoils", fn := fun _ => fun
  | [d1, d2] => { results := [.lit (.bool true)], args := [d1, d2] }
  | _ => none }
def gaugeSpoilsRow : OpenClaim := { program := "ytmimnelcopgcpaagreatdoor", sum := "9b3453ea3d497a7bde47a07c193e8d85d2f272919c924cbc73929ac36cac161d", func := "staithe/staithelaw14.GaugeSpoils", spec := "gaugeSpoils", unfollowed := true, recurses := true, named := ["staithe/entry.id", "staithe/entry.none", "staithe/entry.maybe"], apart := false, laid := [("staithe/entry.none", laid_staithe_entry_none), ("staithe/entry.id", laid_staithe_entry_id), ("staithe/entry.maybe", laid_staithe_entry_maybe)] }
def GaugeSpoilsSaid : Prop := gaugeSpoilsRow.holds Tryz.pinned (OpenSpec.ofChange gaugeSpoilsSpec)

/-- ITS FALSE NEIGHBOUR: 'it returns false'. Refute it at one input. -/
def gaugeSpoilsWrong : ChangeSpec := { name := "gaugeSpoils", fn := fun _ => fun
  | [d1, d2] => { results := [.lit (.bool false)], args := [d1, d2] }
  | _ => none }
def GaugeSpoilsWrongFalsely : Prop := gaugeSpoilsRow.holds Tryz.pinned (OpenSpec.ofChange gaugeSpoilsWrong)

/-- 'staithelaw26.AxiomSettled': WHATEVER THE INPUT: true; the input reads as it did. -/
def axiomSettledSpec : ChangeSpec := { name := "axiomSettled", fn := fun _ => fun
  | [d1, d2] => { results := [.lit (.bool true)], args := [d1, d2] }
  | _ => none }
def axiomSettledRow : OpenClaim := { program := "ytmimnelcopgcpaagreatdoor", sum := "9b3453ea3d497a7bde47a07c193e8d85d2f272919c924cbc73929ac36cac161d", func := "staithe/staithelaw26.AxiomSettled", spec := "axiomSettled", unfollowed := true, recurses := true, named := ["staithe/entry.id", "staithe/entry.none", "staithe/entry.maybe"], apart := false, laid := [("staithe/entry.none", laid_staithe_entry_none), ("staithe/entry.id", laid_staithe_entry_id), ("staithe/entry.maybe", laid_staithe_entry_maybe)] }
def AxiomSettledSaid : Prop := axiomSettledRow.holds Tryz.pinned (OpenSpec.ofChange axiomSettledSpec)

/-- ITS FALSE NEIGHBOUR: 'it returns false'. Refute it at one input. -/
def axiomSettledWrong : ChangeSpec := { name := "axiomSettled", fn := fun _ => fun
  | [d1, d2] => { results := [.lit (.bool false)], args := [d1, d2] }
  | _ => none }
def AxiomSettledWrongFalsely : Prop := axiomSettledRow.holds Tryz.pinned (OpenSpec.ofChange axiomSettledWrong)

/- THE SECOND FORM. 'bulk': how many values and letters a reading holds, each counted each time it is reached (what is shared counts as often as it is met; a slice's spare places count too). A statement '..UptoSaid' is the law's where the arguments, and the package variables that the reading takes, are together of bulk at most 1048576: NARROWER than '..Said'. Prove '..Said' where nothing that the law and all that it calls make is longer than what came in: it says more and counts as full. Else prove '..UptoSaid'. A law counts once. -/
mutual
def uptoBulk {H : Type} : DataW H → Nat
  | .lit (.string bytes) => bytes.length + 1
  | .lit _ => 1
  | .nil => 1
  | .ptr d => uptoBulk d + 1
  | .slice elems spare => uptoBulkAll elems + uptoBulkAll spare + 1
  | .agg parts => uptoBulkAll parts + 1
  | .iface _ d => uptoBulk d + 1
  | .map entries => uptoBulkEntries entries + 1
  | .held _ => 1
def uptoBulkAll {H : Type} : List (DataW H) → Nat
  | [] => 0
  | d :: r => uptoBulk d + uptoBulkAll r
def uptoBulkEntries {H : Type} : List (Lit × DataW H) → Nat
  | [] => 0
  | x :: r => uptoBulkEntry x + uptoBulkEntries r
def uptoBulkEntry {H : Type} : Lit × DataW H → Nat
  | (.string bytes, d) => bytes.length + uptoBulk d + 1
  | (_, d) => uptoBulk d + 1
 end
def uptoSmall : (H : Type) → List (DataW H) → Bool := fun _ ds => decide (uptoBulkAll ds ≤ 1048576)
def OpenSpec.upto (s : _root_.Go.ChangeSpec) : _root_.Go.OpenSpec := { _root_.Go.OpenSpec.ofChange s with cond := some uptoSmall }

/-- 'staithelaw26.AxiomAhead', WHERE WHAT IT READS IS OF BULK AT MOST 1048576: true; the input reads as it did. -/
def axiomAheadUptoRow : OpenClaim := { program := "ytmimnelcopgcpaagreatdoor", sum := "9b3453ea3d497a7bde47a07c193e8d85d2f272919c924cbc73929ac36cac161d", func := "staithe/staithelaw26.AxiomAhead", spec := "axiomAhead", unfollowed := true, recurses := true, named := ["staithe/entry.id", "staithe/entry.none", "staithe/entry.maybe"], apart := false, laid := [("staithe/entry.none", laid_staithe_entry_none), ("staithe/entry.id", laid_staithe_entry_id), ("staithe/entry.maybe", laid_staithe_entry_maybe)], narrowed := true }
def AxiomAheadUptoSaid : Prop := axiomAheadUptoRow.holds Tryz.pinned (OpenSpec.upto axiomAheadSpec)

/-- 'staithelaw26.AxiomFirst', WHERE WHAT IT READS IS OF BULK AT MOST 1048576: true; the input reads as it did. -/
def axiomFirstUptoRow : OpenClaim := { program := "ytmimnelcopgcpaagreatdoor", sum := "9b3453ea3d497a7bde47a07c193e8d85d2f272919c924cbc73929ac36cac161d", func := "staithe/staithelaw26.AxiomFirst", spec := "axiomFirst", unfollowed := true, recurses := true, named := ["staithe/entry.id", "staithe/entry.none", "staithe/entry.maybe"], apart := false, laid := [("staithe/entry.none", laid_staithe_entry_none), ("staithe/entry.id", laid_staithe_entry_id), ("staithe/entry.maybe", laid_staithe_entry_maybe)], narrowed := true }
def AxiomFirstUptoSaid : Prop := axiomFirstUptoRow.holds Tryz.pinned (OpenSpec.upto axiomFirstSpec)

/-- 'staithelaw26.AxiomOrder', WHERE WHAT IT READS IS OF BULK AT MOST 1048576: true; the input reads as it did. -/
def axiomOrderUptoRow : OpenClaim := { program := "ytmimnelcopgcpaagreatdoor", sum := "9b3453ea3d497a7bde47a07c193e8d85d2f272919c924cbc73929ac36cac161d", func := "staithe/staithelaw26.AxiomOrder", spec := "axiomOrder", unfollowed := true, recurses := true, named := ["staithe/entry.id", "staithe/entry.none", "staithe/entry.maybe"], apart := false, laid := [("staithe/entry.none", laid_staithe_entry_none), ("staithe/entry.id", laid_staithe_entry_id), ("staithe/entry.maybe", laid_staithe_entry_maybe)], narrowed := true }
def AxiomOrderUptoSaid : Prop := axiomOrderUptoRow.holds Tryz.pinned (OpenSpec.upto axiomOrderSpec)

/-- 'staithelaw26.AxiomGrows', WHERE WHAT IT READS IS OF BULK AT MOST 1048576: true; the input reads as it did. -/
def axiomGrowsUptoRow : OpenClaim := { program := "ytmimnelcopgcpaagreatdoor", sum := "9b3453ea3d497a7bde47a07c193e8d85d2f272919c924cbc73929ac36cac161d", func := "staithe/staithelaw26.AxiomGrows", spec := "axiomGrows", unfollowed := true, recurses := true, named := ["staithe/entry.id", "staithe/entry.none", "staithe/entry.maybe"], apart := false, laid := [("staithe/entry.none", laid_staithe_entry_none), ("staithe/entry.id", laid_staithe_entry_id), ("staithe/entry.maybe", laid_staithe_entry_maybe)], narrowed := true }
def AxiomGrowsUptoSaid : Prop := axiomGrowsUptoRow.holds Tryz.pinned (OpenSpec.upto axiomGrowsSpec)

/-- 'staithelaw13.LoomEnds', WHERE WHAT IT READS IS OF BULK AT MOST 1048576: true; the input reads as it did. -/
def loomEndsUptoRow : OpenClaim := { program := "ytmimnelcopgcpaagreatdoor", sum := "9b3453ea3d497a7bde47a07c193e8d85d2f272919c924cbc73929ac36cac161d", func := "staithe/staithelaw13.LoomEnds", spec := "loomEnds", unfollowed := true, recurses := true, named := ["staithe/entry.id", "staithe/entry.none", "staithe/entry.maybe"], apart := false, laid := [("staithe/entry.none", laid_staithe_entry_none), ("staithe/entry.id", laid_staithe_entry_id), ("staithe/entry.maybe", laid_staithe_entry_maybe)], narrowed := true }
def LoomEndsUptoSaid : Prop := loomEndsUptoRow.holds Tryz.pinned (OpenSpec.upto loomEndsSpec)

/-- 'staithelaw26.AxiomKnows', WHERE WHAT IT READS IS OF BULK AT MOST 1048576: true; the input reads as it did. -/
def axiomKnowsUptoRow : OpenClaim := { program := "ytmimnelcopgcpaagreatdoor", sum := "9b3453ea3d497a7bde47a07c193e8d85d2f272919c924cbc73929ac36cac161d", func := "staithe/staithelaw26.AxiomKnows", spec := "axiomKnows", unfollowed := true, recurses := true, named := ["staithe/entry.id", "staithe/entry.none", "staithe/entry.maybe"], apart := false, laid := [("staithe/entry.none", laid_staithe_entry_none), ("staithe/entry.id", laid_staithe_entry_id), ("staithe/entry.maybe", laid_staithe_entry_maybe)], narrowed := true }
def AxiomKnowsUptoSaid : Prop := axiomKnowsUptoRow.holds Tryz.pinned (OpenSpec.upto axiomKnowsSpec)

/-- 'staithelaw26.AxiomTold', WHERE WHAT IT READS IS OF BULK AT MOST 1048576: true; the input reads as it did. -/
def axiomToldUptoRow : OpenClaim := { program := "ytmimnelcopgcpaagreatdoor", sum := "9b3453ea3d497a7bde47a07c193e8d85d2f272919c924cbc73929ac36cac161d", func := "staithe/staithelaw26.AxiomTold", spec := "axiomTold", unfollowed := true, recurses := true, named := ["staithe/entry.id", "staithe/entry.none", "staithe/entry.maybe"], apart := false, laid := [("staithe/entry.none", laid_staithe_entry_none), ("staithe/entry.id", laid_staithe_entry_id), ("staithe/entry.maybe", laid_staithe_entry_maybe)], narrowed := true }
def AxiomToldUptoSaid : Prop := axiomToldUptoRow.holds Tryz.pinned (OpenSpec.upto axiomToldSpec)

/-- 'staithelaw14.GaugeCounts', WHERE WHAT IT READS IS OF BULK AT MOST 1048576: true; the input reads as it did. -/
def gaugeCountsUptoRow : OpenClaim := { program := "ytmimnelcopgcpaagreatdoor", sum := "9b3453ea3d497a7bde47a07c193e8d85d2f272919c924cbc73929ac36cac161d", func := "staithe/staithelaw14.GaugeCounts", spec := "gaugeCounts", unfollowed := true, recurses := true, named := ["staithe/entry.id", "staithe/entry.none", "staithe/entry.maybe"], apart := false, laid := [("staithe/entry.none", laid_staithe_entry_none), ("staithe/entry.id", laid_staithe_entry_id), ("staithe/entry.maybe", laid_staithe_entry_maybe)], narrowed := true }
def GaugeCountsUptoSaid : Prop := gaugeCountsUptoRow.holds Tryz.pinned (OpenSpec.upto gaugeCountsSpec)

/-- 'staithelaw14.GaugeRuns', WHERE WHAT IT READS IS OF BULK AT MOST 1048576: true; the input reads as it did. -/
def gaugeRunsUptoRow : OpenClaim := { program := "ytmimnelcopgcpaagreatdoor", sum := "9b3453ea3d497a7bde47a07c193e8d85d2f272919c924cbc73929ac36cac161d", func := "staithe/staithelaw14.GaugeRuns", spec := "gaugeRuns", unfollowed := true, recurses := true, named := ["staithe/entry.id", "staithe/entry.none", "staithe/entry.maybe"], apart := false, laid := [("staithe/entry.none", laid_staithe_entry_none), ("staithe/entry.id", laid_staithe_entry_id), ("staithe/entry.maybe", laid_staithe_entry_maybe)], narrowed := true }
def GaugeRunsUptoSaid : Prop := gaugeRunsUptoRow.holds Tryz.pinned (OpenSpec.upto gaugeRunsSpec)

/-- 'staithelaw14.GaugeSpoils', WHERE WHAT IT READS IS OF BULK AT MOST 1048576: true; the input reads as it did. -/
def gaugeSpoilsUptoRow : OpenClaim := { program := "ytmimnelcopgcpaagreatdoor", sum := "9b3453ea3d497a7bde47a07c193e8d85d2f272919c924cbc73929ac36cac161d", func := "staithe/staithelaw14.GaugeSpoils", spec := "gaugeSpoils", unfollowed := true, recurses := true, named := ["staithe/entry.id", "staithe/entry.none", "staithe/entry.maybe"], apart := false, laid := [("staithe/entry.none", laid_staithe_entry_none), ("staithe/entry.id", laid_staithe_entry_id), ("staithe/entry.maybe", laid_staithe_entry_maybe)], narrowed := true }
def GaugeSpoilsUptoSaid : Prop := gaugeSpoilsUptoRow.holds Tryz.pinned (OpenSpec.upto gaugeSpoilsSpec)

/-- 'staithelaw26.AxiomSettled', WHERE WHAT IT READS IS OF BULK AT MOST 1048576: true; the input reads as it did. -/
def axiomSettledUptoRow : OpenClaim := { program := "ytmimnelcopgcpaagreatdoor", sum := "9b3453ea3d497a7bde47a07c193e8d85d2f272919c924cbc73929ac36cac161d", func := "staithe/staithelaw26.AxiomSettled", spec := "axiomSettled", unfollowed := true, recurses := true, named := ["staithe/entry.id", "staithe/entry.none", "staithe/entry.maybe"], apart := false, laid := [("staithe/entry.none", laid_staithe_entry_none), ("staithe/entry.id", laid_staithe_entry_id), ("staithe/entry.maybe", laid_staithe_entry_maybe)], narrowed := true }
def AxiomSettledUptoSaid : Prop := axiomSettledUptoRow.holds Tryz.pinned (OpenSpec.upto axiomSettledSpec)

end Rows
end Go.Proofs.YtmimnelcopgcpaaGreatDoor
