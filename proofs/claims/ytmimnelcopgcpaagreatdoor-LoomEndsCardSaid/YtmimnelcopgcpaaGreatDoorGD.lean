/- Parts of the proof, laid together: G30 G31 G32 G33 G34 G35 G36 G37. No statement of the seat is proved here. -/
import Derived.Test.YtmimnelcopgcpaaGreatDoorGA
import Derived.OpenShut
import Derived.Deep.Slices
import Derived.ProofKit
import Derived.DataElems
import Derived.SizedLaws
import Derived.Test.YtmimnelcopgcpaaGreatDoorGB
import Derived.Test.YtmimnelcopgcpaaGreatDoorGC
set_option linter.unusedVariables false
set_option linter.unusedSimpArgs false
section
namespace Go.Sl
open Go Go.ChangeShapes Go.WideShapes Go.Deep

section
variable {H : Type} {enc : TypeId × Value → H} {w : World} {base : Nat} {sp : Nat → Bool} {held : Bool}

/-- Each row's weight is one that the machine reaches. -/
def Wgt (t : Nat) (d : DataW H) : Prop := ∀ n ∈ d.weights P t, n ≤ 140737488351232

theorem weights_all {e : Nat} : ∀ {l : List (DataW H)} {d : DataW H}, d ∈ l → ∀ n ∈ d.weights P e, n ∈ DataW.weightsAll P e l
  | a :: r, d, hd, n, hn => by
    simp only [DataW.weightsAll, List.mem_append]
    rcases List.mem_cons.1 hd with rfl | hd
    · exact .inl hn
    · exact .inr (weights_all hd n hn)

theorem Wgt.elem {t e : Nat} {l r : List (DataW H)} (h : Wgt t (.slice l r)) (ht : Program.underlying P t = some (.slice e)) : l.length * P.bytesOf e ≤ 140737488351232 ∧ ∀ d ∈ l, Wgt e d := by
  have ht' : P.underlying t = some (.slice e) := ht
  refine ⟨?_, fun d hd n hn => h n ?_⟩
  · have := h ((l.length + r.length) * P.bytesOf e) (by simp [DataW.weights, ht'])
    exact Nat.le_trans (Nat.mul_le_mul_right _ (Nat.le_add_right _ _)) this
  · simp only [DataW.weights, ht', List.mem_cons, List.mem_append]
    exact .inr (.inl (weights_all hd n hn))

theorem Wgt.part {t : Nat} {fs : Array Field} {xs : List (DataW H × List MemPlace)} {i : Nat} {f : Field} {y : DataW H × List MemPlace} (h : Wgt t (.agg (xs.map (·.1)))) (ht : Program.underlying P t = some (.struct fs)) (hf : fs.toList[i]? = some f) (hy : xs[i]? = some y) : Wgt f.type y.1 := by
  have ht' : P.underlying t = some (.struct fs) := ht
  intro n hn
  refine h n ?_
  simp only [DataW.weights, ht']
  exact DataW.weights_mem_each (j := i) (t := f.type) (d := y.1) (by rw [List.getElem?_map, hf]; rfl) (by rw [List.getElem?_map, hy]; rfl) n hn

theorem Wgt.of_row {ts : List TypeId} {ds : List (DataW H)} (h : (DataW.weightsEach P ts ds).all (· ≤ reachBytes) = true) {j t : Nat} {d : DataW H} (ht : ts[j]? = some t) (hd : ds[j]? = some d) : Wgt t d := fun n hn => by
  have := List.all_eq_true.1 h _ (DataW.weights_mem_each ht hd n hn)
  exact of_decide_eq_true this

/-- What a type's cells can be read as. -/
def Opens {α : Type} [Cel α] (enc : TypeId × Value → H) (w : World) (base : Nat) (sp : Nat → Bool) (held : Bool) (t : Nat) (Q : α → Prop) : Prop :=
  ∀ (fuel : Nat) (cs : List Value) (x : DataW H × List MemPlace), DataW.trod enc P w base sp held fuel t cs = some x → Wgt t x.1 → ∃ a : α, cs = Cel.cells a ∧ Q a

theorem cellP_eq {w : World} {a : Addr} {v : Value} (h : w.cell? a = some v) : a.spot = none ∧ cellP (ph w.heap) a.block a.off = some v := by
  unfold World.cell? at h
  unfold cellP ph
  cases hb : w.heap[a.block]? with
  | none => simp [hb] at h
  | some o =>
    rw [hb] at h
    cases o with
    | cells c t f =>
      simp only at h ⊢
      split at h
      · cases h
      · rename_i hs; exact ⟨by simpa using hs, h⟩
    | _ => simp at h

theorem addr_off {a : Addr} {n : Nat} (hs : (a.add n).spot = none → True) : (a.add n).block = a.block ∧ (a.add n).off = a.off + n := by
  unfold Addr.add; split
  · rename_i h; subst h; exact ⟨rfl, rfl⟩
  · exact ⟨rfl, rfl⟩

theorem open_reads {α : Type} [Cel α] {t e : Nat} {Q : α → Prop} (ht : Program.underlying P t = some (.slice e)) (hc : P.cellsOf e = Cel.n α) (hp : 0 < Cel.n α) (hbt : decide (0 < P.bytesOf e) = true) (he : Opens enc w base sp held e Q)
    {fuel : Nat} {cs : List Value} {x : DataW H × List MemPlace} (h : DataW.trod enc P w base sp held fuel t cs = some x) (hw : Wgt t x.1) :
    ∃ (sv : SlV) (xs : List α), cs = [sv.v] ∧ reads w.heap sv.v xs ∧ (∀ a ∈ xs, Q a) ∧ xs.length ≤ 140737488351232 := by
  rcases open_slice ht h with ⟨rfl, _⟩ | ⟨a, len, cap, m, n, D, Pl, rfl, _, hl, hm, hmm, rfl, hel⟩
  · exact ⟨⟨none, 0, 0⟩, [], rfl, readsP.nil _, fun a ha => (by cases ha), Nat.zero_le _⟩
  have hlm : len ≤ m := by rw [hmm]; split <;> omega
  obtain ⟨hlw, hew⟩ := hw.elem ht
  have hlw : len ≤ 140737488351232 := by
    have b0 : 0 < P.bytesOf e := of_decide_eq_true hbt
    rw [List.length_map, List.length_range] at hlw
    exact Nat.le_trans (Nat.le_mul_of_pos_right _ b0) hlw
  have key : ∀ k, k ≤ len → ∃ xs : List α, xs.length = k ∧ (∀ a ∈ xs, Q a) ∧ ∀ i, i < k → ∃ y, xs[i]? = some y ∧ w.cells? base (a.add (i * Cel.n α)) (Cel.n α) = some (Cel.cells y) := by
    intro k
    induction k with
    | zero => exact fun _ => ⟨[], rfl, fun a ha => (by cases ha), fun i hi => by omega⟩
    | succ k ih =>
      intro hk
      obtain ⟨xs, h1, h2, h3⟩ := ih (by omega)
      obtain ⟨cs', q1, q2⟩ := hel k (by omega)
      obtain ⟨y, rfl, hy⟩ := he _ _ _ q2 (hew _ (List.mem_map.2 ⟨k, List.mem_range.2 (by omega), rfl⟩))
      refine ⟨xs ++ [y], by simp [h1], fun a ha => ?_, fun i hi => ?_⟩
      · rcases List.mem_append.1 ha with ha | ha
        · exact h2 a ha
        · simp at ha; subst ha; exact hy
      · by_cases hik : i < k
        · obtain ⟨z, z1, z2⟩ := h3 i hik
          exact ⟨z, by rw [List.getElem?_append_left (by omega)]; exact z1, z2⟩
        · have : i = k := by omega
          subst this
          rw [hc] at q1
          exact ⟨y, by rw [List.getElem?_append_right (by omega), h1]; simp, q1⟩
  obtain ⟨xs, h1, h2, h3⟩ := key len (Nat.le_refl _)
  subst h1
  refine ⟨⟨some a, xs.length, cap⟩, xs, rfl, ⟨some a, cap, rfl, hl, ?_⟩, h2, by omega⟩
  by_cases h0 : xs = []
  · exact .inl h0
  right
  have hpos : 0 < xs.length := by cases xs with | nil => exact absurd rfl h0 | cons _ _ => simp
  -- each cell
  have cell : ∀ j, j < xs.length * Cel.n α → ∀ u, (flat xs)[j]? = some u → w.cell? (a.add j) = some u := by
    intro j hj u hu
    obtain ⟨y, hy, hcs⟩ := h3 (j / Cel.n α) (Nat.div_lt_of_lt_mul (by rw [Nat.mul_comm]; exact hj))
    obtain ⟨_, hl2, hg⟩ := World.cells?_some hcs
    have hr : j % Cel.n α < Cel.n α := Nat.mod_lt _ hp
    have hjj : j / Cel.n α * Cel.n α + j % Cel.n α = j := by rw [Nat.mul_comm]; exact Nat.div_add_mod _ _
    have g := hg _ hr
    obtain ⟨u', hu'⟩ : ∃ u', (Cel.cells y)[j % Cel.n α]? = some u' := ⟨_, List.getElem?_eq_getElem (by rw [Cel.len]; exact hr)⟩
    have := flat_get hy hu'
    rw [hjj, hu] at this
    have this := Option.some.inj this
    subst this
    rw [hu', Go.Addr.add_add, hjj] at g
    exact g
  have c0 : a.spot = none := by
    clear h3 hel key hmm
    have hl0 : 0 < xs.length * Cel.n α := Nat.mul_pos hpos hp
    have hl1 : 0 < (flat xs).length := by rw [flat_length]; exact hl0
    exact (cellP_eq (cell 0 hl0 _ (List.getElem?_eq_getElem hl1))).1
  have ea : a = ⟨a.block, a.off, none⟩ := by rw [← c0]
  refine ⟨a.block, a.off, congrArg some ea, fun j u hu => ?_⟩
  have hj := (List.getElem?_eq_some_iff.1 hu).1
  rw [flat_length] at hj
  have g := (cellP_eq (cell j hj u hu)).2
  obtain ⟨e1, e2⟩ := addr_off (a := a) (n := j) fun _ => trivial
  rw [e1, e2] at g
  exact g
end

end Go.Sl
end

section
namespace Go.Sl
open Go Go.ChangeShapes Go.WideShapes Go.Deep

section
variable {H : Type} {enc : TypeId × Value → H} {w : World} {base : Nat} {sp : Nat → Bool} {held : Bool}

theorem opens_int : Opens (α := Int) enc w base sp held 3 (fun n => -9223372036854775808 ≤ n ∧ n ≤ 9223372036854775807) := fun fuel cs x h hz => by
  obtain ⟨n, rfl, _, hw⟩ := DataW.trod_int Proofs.Tryz.underlying3 h
  exact ⟨n, rfl, Go.bounds_i64 hw⟩

theorem opens_bool : Opens (α := Bool) enc w base sp held 4 (fun _ => True) := fun fuel cs x h hz => by
  obtain ⟨b, rfl, _⟩ := DataW.trod_bool Proofs.Tryz.underlying4 h
  exact ⟨b, rfl, trivial⟩

theorem take_one {cs : List Value} {k : Nat} {v : Value} (h : (cs.drop k).take 1 = [v]) : cs[k]? = some v := by
  have := congrArg (·[0]?) h
  simpa [List.getElem?_take, List.getElem?_drop] using this

/-- A field of one cell. -/
theorem field_int {fuel : Nat} {cs : List Value} {k : Nat} {x : DataW H × List MemPlace} {c : Nat} (hc : c = 1) (h : DataW.trod enc P w base sp held fuel 3 ((cs.drop k).take c) = some x) (hz : Wgt (H := H) 3 x.1) : ∃ n : Int, cs[k]? = some (int n) := by
  subst hc
  obtain ⟨n, e, _⟩ := opens_int fuel _ x h hz
  exact ⟨n, take_one e⟩
theorem field_bool {fuel : Nat} {cs : List Value} {k : Nat} {x : DataW H × List MemPlace} {c : Nat} (hc : c = 1) (h : DataW.trod enc P w base sp held fuel 4 ((cs.drop k).take c) = some x) (hz : Wgt (H := H) 4 x.1) : ∃ n : Bool, cs[k]? = some (.bool n) := by
  subst hc
  obtain ⟨n, e, _⟩ := opens_bool fuel _ x h hz
  exact ⟨n, take_one e⟩

theorem take_one' {cs : List Value} {k c : Nat} {v : Value} (hc : c = 1) (h : (cs.drop k).take c = [v]) : cs[k]? = some v := by subst hc; exact take_one h
theorem list3 : ∀ {cs : List Value} {a b c : Value}, cs.length = 3 → cs[0]? = some a → cs[1]? = some b → cs[2]? = some c → cs = [a, b, c]
  | [_, _, _], _, _, _, _, h0, h1, h2 => by simp at h0 h1 h2; simp [h0, h1, h2]
theorem list5 : ∀ {cs : List Value} {a b c d e : Value}, cs.length = 5 → cs[0]? = some a → cs[1]? = some b → cs[2]? = some c → cs[3]? = some d → cs[4]? = some e → cs = [a, b, c, d, e]
  | [_, _, _, _, _], _, _, _, _, _, _, h0, h1, h2, h3, h4 => by simp at h0 h1 h2 h3 h4; simp [h0, h1, h2, h3, h4]
theorem list8 : ∀ {cs : List Value} {a b c d e f g i : Value}, cs.length = 8 → cs[0]? = some a → cs[1]? = some b → cs[2]? = some c → cs[3]? = some d → cs[4]? = some e → cs[5]? = some f → cs[6]? = some g → cs[7]? = some i → cs = [a, b, c, d, e, f, g, i]
  | [_, _, _, _, _, _, _, _], _, _, _, _, _, _, _, _, _, h0, h1, h2, h3, h4, h5, h6, h7 => by simp at h0 h1 h2 h3 h4 h5 h6 h7; simp [h0, h1, h2, h3, h4, h5, h6, h7]

theorem c1i : P.cellsOf 3 = 1 := by kernel_rfl
theorem c1b : P.cellsOf 4 = 1 := by kernel_rfl

theorem got {xs : List (DataW H × List MemPlace)} {n i : Nat} (hl : xs.length = n) (hi : i < n) : ∃ y, xs[i]? = some y := ⟨_, List.getElem?_eq_getElem (by omega)⟩

theorem opens_cs : Opens (α := Cs) enc w base sp held 166 (fun _ => True) := fun fuel cs x h hz => by
  obtain ⟨xs, n, _, rfl, hl, hn, hf⟩ := DataW.trod_struct Proofs.Tryz.underlying166 h
  rw [show P.cellsOf 166 = 3 by kernel_rfl] at hl
  obtain ⟨y0, g0⟩ := got (i := 0) hn (by simp)
  obtain ⟨y1, g1⟩ := got (i := 1) hn (by simp)
  obtain ⟨y2, g2⟩ := got (i := 2) hn (by simp)
  obtain ⟨a, ha⟩ := field_bool c1b ((hf 0 _ rfl).trans g0) (hz.part Proofs.Tryz.underlying166 rfl g0)
  obtain ⟨b, hb⟩ := field_int c1i ((hf 1 _ rfl).trans g1) (hz.part Proofs.Tryz.underlying166 rfl g1)
  obtain ⟨c, hc⟩ := field_int c1i ((hf 2 _ rfl).trans g2) (hz.part Proofs.Tryz.underlying166 rfl g2)
  exact ⟨⟨a, b, c⟩, list3 hl ha hb hc, trivial⟩

theorem opens_ev : Opens (α := Ev) enc w base sp held 40 (fun _ => True) := fun fuel cs x h hz => by
  obtain ⟨xs, n, _, rfl, hl, hn, hf⟩ := DataW.trod_struct Proofs.Tryz.underlying40 h
  rw [show P.cellsOf 40 = 8 by kernel_rfl] at hl
  obtain ⟨y0, g0⟩ := got (i := 0) hn (by simp)
  obtain ⟨y1, g1⟩ := got (i := 1) hn (by simp)
  obtain ⟨y2, g2⟩ := got (i := 2) hn (by simp)
  obtain ⟨y3, g3⟩ := got (i := 3) hn (by simp)
  obtain ⟨y4, g4⟩ := got (i := 4) hn (by simp)
  obtain ⟨y5, g5⟩ := got (i := 5) hn (by simp)
  obtain ⟨y6, g6⟩ := got (i := 6) hn (by simp)
  obtain ⟨y7, g7⟩ := got (i := 7) hn (by simp)
  obtain ⟨a0, h0⟩ := field_int c1i ((hf 0 _ rfl).trans g0) (hz.part Proofs.Tryz.underlying40 rfl g0)
  obtain ⟨a1, h1⟩ := field_int c1i ((hf 1 _ rfl).trans g1) (hz.part Proofs.Tryz.underlying40 rfl g1)
  obtain ⟨a2, h2⟩ := field_int c1i ((hf 2 _ rfl).trans g2) (hz.part Proofs.Tryz.underlying40 rfl g2)
  obtain ⟨a3, h3⟩ := field_int c1i ((hf 3 _ rfl).trans g3) (hz.part Proofs.Tryz.underlying40 rfl g3)
  obtain ⟨a4, h4⟩ := field_int c1i ((hf 4 _ rfl).trans g4) (hz.part Proofs.Tryz.underlying40 rfl g4)
  obtain ⟨a5, h5⟩ := field_int c1i ((hf 5 _ rfl).trans g5) (hz.part Proofs.Tryz.underlying40 rfl g5)
  obtain ⟨a6, h6⟩ := field_bool c1b ((hf 6 _ rfl).trans g6) (hz.part Proofs.Tryz.underlying40 rfl g6)
  obtain ⟨a7, h7⟩ := field_bool c1b ((hf 7 _ rfl).trans g7) (hz.part Proofs.Tryz.underlying40 rfl g7)
  exact ⟨⟨a0, a1, a2, a3, a4, a5, a6, a7⟩, list8 hl h0 h1 h2 h3 h4 h5 h6 h7, trivial⟩

/-- An operation in memory, as data. -/
def OpRd (h : Heap) (ov : OpV) : Prop := ∃ cs : List Cs, reads h ov.cases.v cs ∧ cs.length ≤ 140737488351232

theorem opens_op : Opens (α := OpV) enc w base sp held 73 (OpRd w.heap) := fun fuel cs x h hz => by
  obtain ⟨xs, n, _, rfl, hl, hn, hf⟩ := DataW.trod_struct Proofs.Tryz.underlying73 h
  rw [show P.cellsOf 73 = 5 by kernel_rfl] at hl
  obtain ⟨y0, g0⟩ := got (i := 0) hn (by simp)
  obtain ⟨y1, g1⟩ := got (i := 1) hn (by simp)
  obtain ⟨y2, g2⟩ := got (i := 2) hn (by simp)
  obtain ⟨y3, g3⟩ := got (i := 3) hn (by simp)
  obtain ⟨y4, g4⟩ := got (i := 4) hn (by simp)
  obtain ⟨a0, h0⟩ := field_int c1i ((hf 0 _ rfl).trans g0) (hz.part Proofs.Tryz.underlying73 rfl g0)
  obtain ⟨a1, h1⟩ := field_int c1i ((hf 1 _ rfl).trans g1) (hz.part Proofs.Tryz.underlying73 rfl g1)
  obtain ⟨a2, h2⟩ := field_int c1i ((hf 2 _ rfl).trans g2) (hz.part Proofs.Tryz.underlying73 rfl g2)
  obtain ⟨a4, h4⟩ := field_bool c1b ((hf 4 _ rfl).trans g4) (hz.part Proofs.Tryz.underlying73 rfl g4)
  obtain ⟨sv, ys, e3, r3, _, m3⟩ := open_reads (α := Cs) Proofs.Tryz.underlying71 (by kernel_rfl) (by decide) (by kernel_rfl) opens_cs ((hf 3 _ rfl).trans g3) (hz.part Proofs.Tryz.underlying73 rfl g3)
  have h3 := take_one' (show P.cellsOf 71 = 1 by kernel_rfl) e3
  exact ⟨⟨a0, a1, a2, sv, a4⟩, list5 hl h0 h1 h2 h3 h4, ys, r3, m3⟩

/-- A program in memory, as data. -/
def ProgRd (h : Heap) (v : SlV) : Prop := ∃ l : List Op, readsOps (ph h) v.v l ∧ l.length ≤ 140737488351232 ∧ ∀ o ∈ l, o.cases.length ≤ 140737488351232

theorem ops_of {h : Heap} : ∀ (vs : List OpV), (∀ a ∈ vs, OpRd h a) → ∃ l : List Op, vs.length = l.length ∧ (∀ o ∈ l, o.cases.length ≤ 140737488351232) ∧ ∀ (i : Nat) (x : OpV) (o : Op), vs[i]? = some x → l[i]? = some o → x.kind = o.kind ∧ x.a = o.a ∧ x.b = o.b ∧ x.dflt = o.dflt ∧ readsP (ph h) x.cases.v o.cases
  | [], _ => ⟨[], rfl, fun o ho => by (cases ho), fun i x o hx => by simp at hx⟩
  | v :: r, hv => by
    obtain ⟨l, h1, h2, h3⟩ := ops_of r fun a ha => hv a (List.mem_cons_of_mem _ ha)
    obtain ⟨cs, c1, c2⟩ := hv v (by simp)
    refine ⟨⟨v.kind, v.a, v.b, cs, v.dflt⟩ :: l, by simp [h1], fun o ho => ?_, fun i x o hx ho => ?_⟩
    · rcases List.mem_cons.1 ho with rfl | ho
      · exact c2
      · exact h2 o ho
    · cases i with
      | zero => simp at hx ho; subst hx; subst ho; exact ⟨rfl, rfl, rfl, rfl, c1⟩
      | succ i => exact h3 i x o (by simpa using hx) (by simpa using ho)

theorem opens_prog : Opens (α := SlV) enc w base sp held 74 (ProgRd w.heap) := fun fuel cs x h hz => by
  obtain ⟨sv, ys, rfl, r3, hq, m3⟩ := open_reads (α := OpV) Proofs.Tryz.underlying74 (by kernel_rfl) (by decide) (by kernel_rfl) opens_op h hz
  obtain ⟨l, h1, h2, h3⟩ := ops_of ys hq
  exact ⟨sv, rfl, l, ⟨ys, r3, h1, h3⟩, by omega, h2⟩

theorem progs_of {h : Heap} : ∀ (vs : List SlV), (∀ a ∈ vs, ProgRd h a) → ∃ l : List (List Op), vs.length = l.length ∧ (∀ p ∈ l, p.length ≤ 140737488351232 ∧ ∀ o ∈ p, o.cases.length ≤ 140737488351232) ∧ ∀ (i : Nat) (x : SlV) (o : List Op), vs[i]? = some x → l[i]? = some o → readsOps (ph h) x.v o
  | [], _ => ⟨[], rfl, fun o ho => by (cases ho), fun i x o hx => by simp at hx⟩
  | v :: r, hv => by
    obtain ⟨l, h1, h2, h3⟩ := progs_of r fun a ha => hv a (List.mem_cons_of_mem _ ha)
    obtain ⟨p, c1, c2, c3⟩ := hv v (by simp)
    refine ⟨p :: l, by simp [h1], fun o ho => ?_, fun i x o hx ho => ?_⟩
    · rcases List.mem_cons.1 ho with rfl | ho
      · exact ⟨c2, c3⟩
      · exact h2 o ho
    · cases i with
      | zero => simp at hx ho; subst hx; subst ho; exact c1
      | succ i => exact h3 i x o (by simpa using hx) (by simpa using ho)

/-- A script's sizes. -/
structure ScriptSz (x : Script) : Prop where
  programs : x.programs.length ≤ 140737488351232
  ops : ∀ p ∈ x.programs, p.length ≤ 140737488351232 ∧ ∀ o ∈ p, o.cases.length ≤ 140737488351232
  plan : x.plan.length ≤ 140737488351232
  draws : x.draws.length ≤ 140737488351232

theorem opens_script : Opens (α := ScriptV) enc w base sp held 44 (fun sv => ∃ x : Script, readsScript (ph w.heap) sv x ∧ ScriptSz x) := fun fuel cs x h hz => by
  obtain ⟨xs, n, _, rfl, hl, hn, hf⟩ := DataW.trod_struct Proofs.Tryz.underlying44 h
  rw [show P.cellsOf 44 = 5 by kernel_rfl] at hl
  obtain ⟨y0, g0⟩ := got (i := 0) hn (by simp)
  obtain ⟨y1, g1⟩ := got (i := 1) hn (by simp)
  obtain ⟨y2, g2⟩ := got (i := 2) hn (by simp)
  obtain ⟨y3, g3⟩ := got (i := 3) hn (by simp)
  obtain ⟨y4, g4⟩ := got (i := 4) hn (by simp)
  obtain ⟨a0, h0⟩ := field_int c1i ((hf 0 _ rfl).trans g0) (hz.part Proofs.Tryz.underlying44 rfl g0)
  obtain ⟨a1, h1⟩ := field_int c1i ((hf 1 _ rfl).trans g1) (hz.part Proofs.Tryz.underlying44 rfl g1)
  obtain ⟨pv, ps, e2, r2, q2, m2⟩ := open_reads (α := SlV) Proofs.Tryz.underlying41 (by kernel_rfl) (by decide) (by kernel_rfl) opens_prog ((hf 2 _ rfl).trans g2) (hz.part Proofs.Tryz.underlying44 rfl g2)
  obtain ⟨lv, l, e3, r3, _, m3⟩ := open_reads (α := Int) Proofs.Tryz.underlying42 (by kernel_rfl) (by decide) (by kernel_rfl) opens_int ((hf 3 _ rfl).trans g3) (hz.part Proofs.Tryz.underlying44 rfl g3)
  obtain ⟨dv, d, e4, r4, _, m4⟩ := open_reads (α := Int) Proofs.Tryz.underlying42 (by kernel_rfl) (by decide) (by kernel_rfl) opens_int ((hf 4 _ rfl).trans g4) (hz.part Proofs.Tryz.underlying44 rfl g4)
  have h2 := take_one' (show P.cellsOf 41 = 1 by kernel_rfl) e2
  have h3 := take_one' (show P.cellsOf 42 = 1 by kernel_rfl) e3
  have h4 := take_one' (show P.cellsOf 42 = 1 by kernel_rfl) e4
  obtain ⟨pl, p1, p2, p3⟩ := progs_of ps q2
  exact ⟨⟨a0, a1, pv, lv, dv⟩, list5 hl h0 h1 h2 h3 h4, ⟨a0, a1, pl, l, d⟩, ⟨rfl, rfl, ⟨ps, r2, p1, p3⟩, r3, r4⟩, ⟨by simpa [p1] using m2, p2, m3, m4⟩⟩

end
end Go.Sl
end

section
namespace Go.Sl
open Go
attribute [local irreducible] HT

/-- What the program's three spans hold. -/
structure Laid (h : Heap) : Prop where
  id : rangeAt h 0 0 [int 0, int 511]
  none : rangeAt h 1 0 [int (-1), int (-1)]
  maybe : rangeAt h 2 0 [int (-1), int 511]

theorem cellAt_ext {h h' : Heap} (x : Ext h h') {b o : Nat} {v : Value} (c : cellAt h b o = some v) : cellAt h' b o = some v := by
  unfold cellAt at *
  cases hb : h[b]? with
  | none => simp [hb] at c
  | some y => rw [x.get hb]; rw [hb] at c; exact c
theorem rangeAt_ext {h h' : Heap} (x : Ext h h') {b o : Nat} {vs : List Value} (c : rangeAt h b o vs) : rangeAt h' b o vs := fun i v hi => cellAt_ext x (c i v hi)
theorem Laid.ext {h h' : Heap} (l : Laid h) (x : Ext h h') : Laid h' := ⟨rangeAt_ext x l.id, rangeAt_ext x l.none, rangeAt_ext x l.maybe⟩

structure Shape where
  a0 : Int
  b0 : Int
  a1 : Int
  b1 : Int
  a2 : Int
  b2 : Int
  a3 : Int
  b3 : Int
  send : Bool
  ok : Bool

instance : Cel Shape := ⟨10, fun x => [int x.a0, int x.b0, int x.a1, int x.b1, int x.a2, int x.b2, int x.a3, int x.b3, .bool x.send, .bool x.ok], fun _ => rfl, fun _ => rfl⟩

def shapeOf (k : Int) : Shape :=
  if k = 1 then ⟨-1, -1, -1, -1, 0, 7, 0, 511, false, false⟩ else if k = 2 then ⟨0, 511, -1, -1, 0, 4, -1, -1, false, false⟩ else if k = 3 then ⟨0, 511, -1, 3, 0, 99, -1, 511, true, false⟩
  else if k = 4 then ⟨0, 511, -1, 3, 0, 99, -1, 511, false, true⟩ else if k = 5 then ⟨0, 511, -1, -1, -1, -1, -1, -1, false, false⟩ else if k = 6 then ⟨-1, 511, -1, 4, 0, 99, -1, -1, true, false⟩
  else if k = 7 then ⟨0, 511, -1, 3, 0, 99, 0, 511, true, true⟩ else if k = 9 ∨ k = 10 then ⟨-1, -1, -1, -1, 0, 7, -1, -1, false, false⟩ else ⟨-1, -1, -1, -1, -1, -1, -1, -1, false, false⟩

theorem entry_in {h : Heap} {lo hi n : Int} : HT P 74 [.agg [int lo, int hi].toArray, int n] h fun v h' => v = .bool (decide (lo ≤ n ∧ n ≤ hi)) ∧ Ext h h' := by
  refine u74 ?_
  refine box [int lo, int hi] (Sat.old h) rfl (fun b h1 x1 _ H => ?_)
  repeat' (first | refine jnI ?_ | refine gdI ?_ | refine gqI ?_ | refine fun (_ : Env) => ?_ | refine l0 H rfl ?_ | refine l1 H rfl ?_ | refine l2 H rfl ?_ | refine l3 H rfl ?_ | refine getA rfl ?_ | refine cmp (fun _ => ?_) (fun _ => ?_))
  all_goals exact ⟨by first | exact bT (by omega) | exact bF (by omega), x1⟩

theorem entry_of {h : Heap} {k : Int} (l : Laid h) : HT P 73 [int k] h fun v h' => v = agg (shapeOf k) ∧ Ext h h' := by
  refine u73 ?_
  refine nw (Sat.old h) (fun b2 h1 x1 _ H => ?_)
  refine fil rfl ?_
  refine nw H (fun b3 h2 x2 _ H => ?_)
  refine sA H [int (-1), int 3] rfl rfl rfl rfl (fun h3 _ H => ?_)
  refine fil rfl ?_
  refine nw H (fun b4 h4 x4 _ H => ?_)
  refine sA H [int 0, int 99] rfl rfl rfl rfl (fun h5 _ H => ?_)
  have l5 := l.ext (H.old_ext m3)
  have r0 := l5.id
  have r1 := l5.none
  have r2 := l5.maybe
  have H4 : Sat h5 (pt b3 (cells [int (-1), int 3] 123) :: _) := H.front 1 rfl
  have Hz := H.re 4 [2, 3] rfl rfl
  have fin : ∀ (s : Shape) (K : Heap → Prop), shapeOf k = s → (∀ h', Sat h' [pt b2 (cells (Cel.cells s) 126), old h] → K h') → WR h5 10 (ptr b2) (agg s) K := fun s K _ hK =>
    sA Hz (Cel.cells s) rfl rfl rfl rfl (fun h6 _ H6 => hK h6 H6)
  repeat' (first | refine jnI ?_ | refine fun (_ : Env) => ?_ | refine rdn (vs := [int 0, int 511]) rfl r0 ?_ | refine rdn (vs := [int (-1), int (-1)]) rfl r1 ?_ | refine rdn (vs := [int (-1), int 511]) rfl r2 ?_ | refine lA H rfl ?_ | refine lA H4 rfl ?_ | refine fil rfl ?_ | refine cmp (fun _ => ?_) (fun _ => ?_))
  all_goals
    refine fin _ _ (by unfold shapeOf; simp only [*, if_true, if_false, or_true, true_or, or_self]; rfl) (fun h6 H6 => ?_)
    refine lA H6 rfl ?_
    exact ⟨by unfold shapeOf; simp only [*, if_true, if_false, or_true, true_or, or_self], H6.old_ext m1⟩

def oddB (e : Ev) : Bool :=
  if e.kind = 3 then !e.send else if e.kind = 4 then !e.ok && decide (e.value ≠ 0 ∨ e.mate ≠ -1)
  else if e.kind = 6 then (!e.send && decide (e.value ≠ 0)) || (decide (e.case ≥ 0) && (decide (e.chan ≥ 0) || e.send))
  else if e.kind = 7 then (e.send && !e.ok) || (!e.ok && decide (e.value ≠ 0)) else false

theorem entry_odd {h : Heap} {e : Ev} : HT P 75 [agg e] h fun v h' => v = .bool (oddB e) ∧ Ext h h' := by
  obtain ⟨kind, g, chan, case, value, mate, send, ok⟩ := e
  refine u75 ?_
  refine box [int kind, int g, int chan, int case, int value, int mate, .bool send, .bool ok] (Sat.old h) rfl (fun b h1 x1 _ H => ?_)
  cases send <;> cases ok
  all_goals repeat' (first | refine jnI ?_ | refine gdI ?_ | refine gqI ?_ | refine fun (_ : Env) => ?_ | refine l0 H rfl ?_ | refine l1 H rfl ?_ | refine l2 H rfl ?_ | refine l3 H rfl ?_ | refine getA rfl ?_ | refine cmp (fun _ => ?_) (fun _ => ?_))
  all_goals exact ⟨by first | (simp only [oddB, *, if_true, if_false]; simp; done) | (simp only [oddB, *, if_true, if_false]; simp; omega) | (simp [oddB, *]; done) | (simp [oddB, *]; omega), x1⟩

theorem entry_fields {h : Heap} {b : Nat} : HT P 76 [ptr b] h fun v h' => v = .agg #[.pointer (some ⟨b, 1, none⟩), .pointer (some ⟨b, 2, none⟩), .pointer (some ⟨b, 3, none⟩), .pointer (some ⟨b, 4, none⟩), .pointer (some ⟨b, 5, none⟩)] ∧ Ext h h' := by
  refine u76 ?_
  refine nw (Sat.old h) (fun b2 h1 x1 _ H => ?_)
  refine fil rfl ?_
  refine sA H [.pointer (some ⟨b, 1, none⟩), .pointer (some ⟨b, 2, none⟩), .pointer (some ⟨b, 3, none⟩), .pointer (some ⟨b, 4, none⟩), .pointer (some ⟨b, 5, none⟩)] rfl rfl rfl rfl (fun h6 _ H6 => ?_)
  refine lA H6 rfl ?_
  exact ⟨rfl, H6.old_ext m1⟩

end Go.Sl
end

section
namespace Go.Sl
open Go
attribute [local irreducible] HT

def spanB (lo hi n : Int) : Bool := decide (lo ≤ n ∧ n ≤ hi)
def evBase (e : Ev) : Bool := (if e.kind = 13 then spanB (-1) (-1) e.g else spanB 0 511 e.g) && ((shapeOf e.kind).send || !e.send) && ((shapeOf e.kind).ok || !e.ok) && !oddB e
def evOk (e : Ev) : Bool := evBase e && spanB (shapeOf e.kind).a0 (shapeOf e.kind).b0 e.chan && spanB (shapeOf e.kind).a1 (shapeOf e.kind).b1 e.case && spanB (shapeOf e.kind).a2 (shapeOf e.kind).b2 e.value && spanB (shapeOf e.kind).a3 (shapeOf e.kind).b3 e.mate
/-- 'entry.Check', as a function. -/
def entryCheck (e : Ev) : Int := if e.kind < 1 ∨ e.kind > 13 then 1 else if evOk e then 0 else 4

theorem entry_inB {h : Heap} {lo hi n : Int} : HT P 74 [.agg [int lo, int hi].toArray, int n] h fun v h' => v = .bool (spanB lo hi n) ∧ Ext h h' := entry_in

def accE (base a b c d : Bool) : Nat → Bool
  | 0 => base
  | 1 => base
  | 2 => base && a
  | 3 => base && a && b
  | 4 => base && a && b && c
  | _ => base && a && b && c && d

set_option maxHeartbeats 4000000 in
theorem entry_Check {h : Heap} {e : Ev} (l : Laid h) : HT P 30 [agg e] h fun v h' => v = int (entryCheck e) ∧ Ext h h' := by
  obtain ⟨kind, g, chan, case, value, mate, send, ok⟩ := e
  refine u30 ?_
  refine box [int kind, int g, int chan, int case, int value, int mate, .bool send, .bool ok] (Sat.old h) rfl (fun b1 h1 x1 _ H => ?_)
  refine jn1 (fun t h' => t = .bool (decide (kind < 1 ∨ kind > 13)) ∧ h1 = h') ?_ ?_
  · intro K hK
    repeat' (first | refine jnI ?_ | refine gdI ?_ | refine gqI ?_ | refine fun (_ : Env) => ?_ | refine l0 H rfl ?_ | refine l1 H rfl ?_ | refine l2 H rfl ?_ | refine l3 H rfl ?_ | refine getA rfl ?_ | refine cmp (fun _ => ?_) (fun _ => ?_))
    all_goals exact hK _ _ ⟨by first | exact bT (by omega) | exact bF (by omega), rfl⟩
  rintro _ _ ⟨rfl, rfl⟩ _
  unfold entryCheck
  by_cases c0 : kind < 1 ∨ kind > 13
  · simp only [c0, decide_true, if_true]; exact ⟨trivial, x1⟩
  rw [decide_eq_false c0, if_neg c0]
  refine l0 H rfl ?_
  refine callX (entry_of (l.ext x1)) (fun h6 x6 => ?_)
  have H := H.ext x6
  have eb : evBase ⟨kind, g, chan, case, value, mate, send, ok⟩ = ((if kind = 13 then spanB (-1) (-1) g else spanB 0 511 g) && ((shapeOf kind).send || !send) && ((shapeOf kind).ok || !ok) && !oddB ⟨kind, g, chan, case, value, mate, send, ok⟩) := rfl
  unfold evOk
  rw [eb]
  clear eb
  simp only
  generalize shapeOf kind = s
  obtain ⟨a0, b0, a1, b1', a2, b2, a3, b3', sd, okk⟩ := s
  simp only
  refine nw H (fun b3 h7 x7 _ H => ?_)
  refine sA H (Cel.cells (⟨a0, b0, a1, b1', a2, b2, a3, b3', sd, okk⟩ : Shape)) rfl rfl rfl rfl (fun h8 _ H => ?_)
  have l8 := l.ext (H.old_ext m2)
  refine rdn (vs := [int 0, int 511]) rfl l8.id ?_
  refine nw H (fun b4 h9 x9 _ H => ?_)
  refine sA H [int 0, int 511] rfl rfl rfl rfl (fun h10 _ H => ?_)
  have l10 := l.ext (H.old_ext m3)
  obtain ⟨glo, ghi, hg⟩ : ∃ lo hi : Int, (if kind = 13 then spanB (-1) (-1) g else spanB 0 511 g) = spanB lo hi g ∧ ((kind = 13 ∧ lo = -1 ∧ hi = -1) ∨ (¬ kind = 13 ∧ lo = 0 ∧ hi = 511)) := by
    by_cases c : kind = 13
    · exact ⟨-1, -1, if_pos c, .inl ⟨c, rfl, rfl⟩⟩
    · exact ⟨0, 511, if_neg c, .inr ⟨c, rfl, rfl⟩⟩
  rw [hg.1]
  have hg := hg.2
  refine jn0 (fun h' => Sat h' [pt b4 (cells [int glo, int ghi] 123), pt b3 (cells (Cel.cells (⟨a0, b0, a1, b1', a2, b2, a3, b3', sd, okk⟩ : Shape)) 126), pt b1 (cells [int kind, int g, int chan, int case, int value, int mate, .bool send, .bool ok] 40), old h]) ?_ ?_
  · intro K hK
    refine l2 H rfl ?_
    rcases hg with ⟨c, rfl, rfl⟩ | ⟨c, rfl, rfl⟩
    · refine cmpT c ?_
      refine rdn (vs := [int (-1), int (-1)]) rfl l10.none ?_
      refine sA H [int (-1), int (-1)] rfl rfl rfl rfl (fun h11 _ H => ?_)
      exact hK _ H
    · refine cmpF c ?_
      exact hK _ H
  rintro h12 H _
  clear hg
  obtain ⟨gb, hgb⟩ : ∃ b, spanB glo ghi g = b := ⟨_, rfl⟩
  obtain ⟨ob, hob⟩ : ∃ b, oddB ⟨kind, g, chan, case, value, mate, send, ok⟩ = b := ⟨_, rfl⟩
  rw [hgb, hob]
  refine jn1 (fun t h' => t = .bool (gb && (sd || !send) && (okk || !ok) && !ob) ∧ Sat h' [pt b4 (cells [int glo, int ghi] 123), pt b3 (cells (Cel.cells (⟨a0, b0, a1, b1', a2, b2, a3, b3', sd, okk⟩ : Shape)) 126), pt b1 (cells [int kind, int g, int chan, int case, int value, int mate, .bool send, .bool ok] 40), old h]) ?_ ?_
  · intro K hK
    refine lA H rfl ?_
    refine l2 H rfl ?_
    refine callX entry_inB (fun h13 x13 => ?_)
    have H := H.ext x13
    rw [hgb]
    cases gb <;> cases sd <;> cases send <;> cases okk <;> cases ok
    all_goals repeat' (first | refine jnI ?_ | refine gdI ?_ | refine gqI ?_ | refine fun (_ : Env) => ?_ | refine l1 H rfl ?_ | refine l2 H rfl ?_)
    all_goals first
      | exact hK _ _ ⟨by simp, H⟩
      | skip
    all_goals
      refine lA (H.front 2 rfl) rfl ?_
      repeat (first | refine jnI ?_ | refine gdI ?_ | refine gqI ?_ | refine fun (_ : Env) => ?_)
      refine callX (entry_odd (e := ⟨kind, g, chan, case, value, mate, _, _⟩)) (fun h28 x28 => ?_)
      rw [hob]
      have H := H.ext x28
      cases ob
      all_goals
        repeat (first | refine jnI ?_ | refine gdI ?_ | refine gqI ?_ | refine fun (_ : Env) => ?_)
        exact hK _ _ ⟨by simp, H⟩
  rintro _ h31 ⟨rfl, H⟩ _
  generalize (gb && (sd || !send) && (okk || !ok) && !ob) = base
  refine callX entry_fields (fun h32 x32 => ?_)
  have H := H.ext x32
  obtain ⟨s0, hs0⟩ : ∃ b, spanB a0 b0 chan = b := ⟨_, rfl⟩
  obtain ⟨s1, hs1⟩ : ∃ b, spanB a1 b1' case = b := ⟨_, rfl⟩
  obtain ⟨s2, hs2⟩ : ∃ b, spanB a2 b2 value = b := ⟨_, rfl⟩
  obtain ⟨s3, hs3⟩ : ∃ b, spanB a3 b3' mate = b := ⟨_, rfl⟩
  rw [hs0, hs1, hs2, hs3]
  refine lp2 Nat (fun i => .bool (accE base s0 s1 s2 s3 i)) (fun i => int i) (fun i h' => i ≤ 5 ∧ Sat h' [pt b4 (cells [int glo, int ghi] 123), pt b3 (cells (Cel.cells (⟨a0, b0, a1, b1', a2, b2, a3, b3', sd, okk⟩ : Shape)) 126), pt b1 (cells [int kind, int g, int chan, int case, int value, int mate, .bool send, .bool ok] 40), old h]) (fun i => 5 - i) 0 rfl rfl ⟨by omega, H⟩ ?_
  rintro i h33 ⟨hi, H⟩ _
  refine cmp (fun hlt => ?_) (fun hge => ?_)
  · have hlt' : i < 5 := by omega
    refine jn1 (fun t h' => t = .bool (accE base s0 s1 s2 s3 (i + 1)) ∧ Sat h' [pt b4 (cells [int glo, int ghi] 123), pt b3 (cells (Cel.cells (⟨a0, b0, a1, b1', a2, b2, a3, b3', sd, okk⟩ : Shape)) 126), pt b1 (cells [int kind, int g, int chan, int case, int value, int mate, .bool send, .bool ok] 40), old h]) ?_ ?_
    · intro K hK
      refine idx i rfl hlt' ?_
      have hcase : i = 0 ∨ i = 1 ∨ i = 2 ∨ i = 3 ∨ i = 4 := by omega
      obtain ⟨ac, hac⟩ : ∃ b, accE base s0 s1 s2 s3 i = b := ⟨_, rfl⟩
      rw [hac]
      rcases hcase with rfl | rfl | rfl | rfl | rfl
      · refine getA rfl ?_
        cases ac <;> repeat (first | refine jnI ?_ | refine gdI ?_ | refine gqI ?_ | refine fun (_ : Env) => ?_)
        · exact hK _ _ ⟨by simp only [accE] at hac ⊢; rw [hac], H⟩
        · refine cmpT (by decide) ?_
          repeat (first | refine jnI ?_ | refine gdI ?_ | refine gqI ?_ | refine fun (_ : Env) => ?_)
          exact hK _ _ ⟨by simp only [accE] at hac ⊢; rw [hac], H⟩
      · refine getA rfl ?_
        cases ac <;> repeat (first | refine jnI ?_ | refine gdI ?_ | refine gqI ?_ | refine fun (_ : Env) => ?_)
        · exact hK _ _ ⟨by simp only [accE] at hac ⊢; rw [hac]; rfl, H⟩
        · refine cmpF (by decide) ?_
          repeat (first | refine jnI ?_ | refine gdI ?_ | refine gqI ?_ | refine fun (_ : Env) => ?_)
          refine ari64 (by decide) ?_
          repeat (first | refine jnI ?_ | refine gdI ?_ | refine gqI ?_ | refine fun (_ : Env) => ?_)
          refine idx 0 (by decide) (by decide) ?_
          repeat (first | refine jnI ?_ | refine gdI ?_ | refine gqI ?_ | refine fun (_ : Env) => ?_)
          refine lR H m1 [int a0, int b0] rfl (fun j hj => by match j, hj with | 0, _ => rfl | 1, _ => rfl) ?_
          repeat (first | refine jnI ?_ | refine gdI ?_ | refine gqI ?_ | refine fun (_ : Env) => ?_)
          refine l2 H rfl ?_
          repeat (first | refine jnI ?_ | refine gdI ?_ | refine gqI ?_ | refine fun (_ : Env) => ?_)
          refine callX entry_inB (fun h34 x34 => ?_)
          rw [hs0]
          repeat (first | refine jnI ?_ | refine gdI ?_ | refine gqI ?_ | refine fun (_ : Env) => ?_)
          exact hK _ _ ⟨by simp only [accE] at hac ⊢; rw [hac]; simp, H.ext x34⟩
      · refine getA rfl ?_
        cases ac <;> repeat (first | refine jnI ?_ | refine gdI ?_ | refine gqI ?_ | refine fun (_ : Env) => ?_)
        · exact hK _ _ ⟨by simp only [accE] at hac ⊢; rw [hac]; rfl, H⟩
        · refine cmpF (by decide) ?_
          repeat (first | refine jnI ?_ | refine gdI ?_ | refine gqI ?_ | refine fun (_ : Env) => ?_)
          refine ari64 (by decide) ?_
          repeat (first | refine jnI ?_ | refine gdI ?_ | refine gqI ?_ | refine fun (_ : Env) => ?_)
          refine idx 1 (by decide) (by decide) ?_
          repeat (first | refine jnI ?_ | refine gdI ?_ | refine gqI ?_ | refine fun (_ : Env) => ?_)
          refine lR H m1 [int a1, int b1'] rfl (fun j hj => by match j, hj with | 0, _ => rfl | 1, _ => rfl) ?_
          repeat (first | refine jnI ?_ | refine gdI ?_ | refine gqI ?_ | refine fun (_ : Env) => ?_)
          refine l2 H rfl ?_
          repeat (first | refine jnI ?_ | refine gdI ?_ | refine gqI ?_ | refine fun (_ : Env) => ?_)
          refine callX entry_inB (fun h34 x34 => ?_)
          rw [hs1]
          repeat (first | refine jnI ?_ | refine gdI ?_ | refine gqI ?_ | refine fun (_ : Env) => ?_)
          exact hK _ _ ⟨by simp only [accE] at hac ⊢; rw [hac]; simp, H.ext x34⟩
      · refine getA rfl ?_
        cases ac <;> repeat (first | refine jnI ?_ | refine gdI ?_ | refine gqI ?_ | refine fun (_ : Env) => ?_)
        · exact hK _ _ ⟨by simp only [accE] at hac ⊢; rw [hac]; rfl, H⟩
        · refine cmpF (by decide) ?_
          repeat (first | refine jnI ?_ | refine gdI ?_ | refine gqI ?_ | refine fun (_ : Env) => ?_)
          refine ari64 (by decide) ?_
          repeat (first | refine jnI ?_ | refine gdI ?_ | refine gqI ?_ | refine fun (_ : Env) => ?_)
          refine idx 2 (by decide) (by decide) ?_
          repeat (first | refine jnI ?_ | refine gdI ?_ | refine gqI ?_ | refine fun (_ : Env) => ?_)
          refine lR H m1 [int a2, int b2] rfl (fun j hj => by match j, hj with | 0, _ => rfl | 1, _ => rfl) ?_
          repeat (first | refine jnI ?_ | refine gdI ?_ | refine gqI ?_ | refine fun (_ : Env) => ?_)
          refine l2 H rfl ?_
          repeat (first | refine jnI ?_ | refine gdI ?_ | refine gqI ?_ | refine fun (_ : Env) => ?_)
          refine callX entry_inB (fun h34 x34 => ?_)
          rw [hs2]
          repeat (first | refine jnI ?_ | refine gdI ?_ | refine gqI ?_ | refine fun (_ : Env) => ?_)
          exact hK _ _ ⟨by simp only [accE] at hac ⊢; rw [hac]; simp, H.ext x34⟩
      · refine getA rfl ?_
        cases ac <;> repeat (first | refine jnI ?_ | refine gdI ?_ | refine gqI ?_ | refine fun (_ : Env) => ?_)
        · exact hK _ _ ⟨by simp only [accE] at hac ⊢; rw [hac]; rfl, H⟩
        · refine cmpF (by decide) ?_
          repeat (first | refine jnI ?_ | refine gdI ?_ | refine gqI ?_ | refine fun (_ : Env) => ?_)
          refine ari64 (by decide) ?_
          repeat (first | refine jnI ?_ | refine gdI ?_ | refine gqI ?_ | refine fun (_ : Env) => ?_)
          refine idx 3 (by decide) (by decide) ?_
          repeat (first | refine jnI ?_ | refine gdI ?_ | refine gqI ?_ | refine fun (_ : Env) => ?_)
          refine lR H m1 [int a3, int b3'] rfl (fun j hj => by match j, hj with | 0, _ => rfl | 1, _ => rfl) ?_
          repeat (first | refine jnI ?_ | refine gdI ?_ | refine gqI ?_ | refine fun (_ : Env) => ?_)
          refine l2 H rfl ?_
          repeat (first | refine jnI ?_ | refine gdI ?_ | refine gqI ?_ | refine fun (_ : Env) => ?_)
          refine callX entry_inB (fun h34 x34 => ?_)
          rw [hs3]
          repeat (first | refine jnI ?_ | refine gdI ?_ | refine gqI ?_ | refine fun (_ : Env) => ?_)
          exact hK _ _ ⟨by simp only [accE] at hac ⊢; rw [hac]; simp, H.ext x34⟩
    rintro _ h35 ⟨rfl, H⟩ _
    refine ari64 (by omega) ?_
    exact ⟨i + 1, by omega, rfl, rfl, hlt', H⟩
  · have : i = 5 := by omega
    subst this
    simp only [accE]
    have x33 := H.old_ext m3
    cases hf : (base && s0 && s1 && s2 && s3) with
    | true => exact ⟨rfl, x33⟩
    | false => exact ⟨rfl, x33⟩

end Go.Sl
end

section
namespace Go.Sl
open Go
attribute [local irreducible] HT

structure GoodW (w : Wt) : Prop where
  g : 0 ≤ w.g ∧ w.g ≤ 511
  case : -1 ≤ w.case ∧ w.case ≤ 3
  value : 0 ≤ w.value ∧ w.value ≤ 99

structure GoodP (p : PipeS) : Prop where
  snd : ∀ w ∈ p.snd, GoodW w
  rcv : ∀ w ∈ p.rcv, GoodW w
  buf : ∀ v ∈ p.buf, 0 ≤ v ∧ v ≤ 99

structure V (s : Lm) (n : Nat) : Prop where
  trace : ∀ e ∈ s.trace, entryCheck e = 0
  chans : ∀ p ∈ s.chans, GoodP p
  nm : ∀ k, some k ∈ s.nm → k < s.chans.length
  len : s.chans.length ≤ n
  crew : s.crew.length ≤ 512

/-- An operation's numbers. -/
structure OpVals (o : Op) : Prop where
  val : o.kind = 3 → 0 ≤ o.b ∧ o.b ≤ 99
  rcv : o.kind = 4 → o.b = 0
  cell : o.kind = 7 ∨ o.kind = 8 → 0 ≤ o.a ∧ o.a ≤ 7
  prog : o.kind = 1 → 0 ≤ o.a ∧ o.a ≤ 7
  cs : ∀ c ∈ o.cases, 0 ≤ c.value ∧ c.value ≤ 99 ∧ (c.send = false → c.value = 0)

/-! ### events -/

theorem ev_bare {k g : Int} (hk : k = 5 ∨ k = 8 ∨ k = 11 ∨ k = 12) (hk5 : k ≠ 5) (hg : 0 ≤ g ∧ g ≤ 511) : entryCheck (bareE k g) = 0 := by
  show entryCheck ⟨k, g, -1, -1, -1, -1, false, false⟩ = 0
  rcases hk with rfl | rfl | rfl | rfl <;> simp [entryCheck, evOk, evBase, shapeOf, spanB, oddB] at hk5 ⊢ <;> first | omega | (simp only [Bool.and_eq_true, decide_eq_true_eq]; omega)
theorem ev_compact : entryCheck (bareE 13 (-1)) = 0 := by decide
theorem ev_close {g c : Int} (hg : 0 ≤ g ∧ g ≤ 511) (hc : 0 ≤ c ∧ c ≤ 511) : entryCheck { bareE 5 g with chan := c } = 0 := by
  show entryCheck ⟨5, g, c, -1, -1, -1, false, false⟩ = 0
  simp [entryCheck, evOk, evBase, shapeOf, spanB, oddB]; first | omega | (simp only [Bool.and_eq_true, decide_eq_true_eq]; omega)
theorem ev_send {g c p v m : Int} (hg : 0 ≤ g ∧ g ≤ 511) (hc : 0 ≤ c ∧ c ≤ 511) (hp : -1 ≤ p ∧ p ≤ 3) (hv : 0 ≤ v ∧ v ≤ 99) (hm : -1 ≤ m ∧ m ≤ 511) : entryCheck ⟨3, g, c, p, v, m, true, false⟩ = 0 := by
  simp [entryCheck, evOk, evBase, shapeOf, spanB, oddB]; first | omega | (simp only [Bool.and_eq_true, decide_eq_true_eq]; omega)
theorem ev_recv {g c p v m : Int} {ok : Bool} (hg : 0 ≤ g ∧ g ≤ 511) (hc : 0 ≤ c ∧ c ≤ 511) (hp : -1 ≤ p ∧ p ≤ 3) (hv : 0 ≤ v ∧ v ≤ 99) (hm : -1 ≤ m ∧ m ≤ 511) (ho : ok = false → v = 0 ∧ m = -1) : entryCheck ⟨4, g, c, p, v, m, false, ok⟩ = 0 := by
  cases ok
  · obtain ⟨rfl, rfl⟩ := ho rfl
    simp [entryCheck, evOk, evBase, shapeOf, spanB, oddB]; first | omega | (simp only [Bool.and_eq_true, decide_eq_true_eq]; omega)
  · simp [entryCheck, evOk, evBase, shapeOf, spanB, oddB]; first | omega | (simp only [Bool.and_eq_true, decide_eq_true_eq]; omega)
theorem ev_park {g c v : Int} {sd : Bool} (hg : 0 ≤ g ∧ g ≤ 511) (hc : -1 ≤ c ∧ c ≤ 511) (hv : 0 ≤ v ∧ v ≤ 99) (hs : sd = false → v = 0) : entryCheck ⟨6, g, c, -1, v, -1, sd, false⟩ = 0 := by
  cases sd
  · rw [hs rfl]; simp [entryCheck, evOk, evBase, shapeOf, spanB, oddB]; first | omega | (simp only [Bool.and_eq_true, decide_eq_true_eq]; omega)
  · simp [entryCheck, evOk, evBase, shapeOf, spanB, oddB]; first | omega | (simp only [Bool.and_eq_true, decide_eq_true_eq]; omega)
theorem ev_select {g n : Int} (hg : 0 ≤ g ∧ g ≤ 511) (hn : 0 ≤ n ∧ n ≤ 4) : entryCheck ⟨6, g, -1, n, 0, -1, false, false⟩ = 0 := by
  simp [entryCheck, evOk, evBase, shapeOf, spanB, oddB]; first | omega | (simp only [Bool.and_eq_true, decide_eq_true_eq]; omega)
theorem ev_wake {g c p v m : Int} {sd : Bool} (hg : 0 ≤ g ∧ g ≤ 511) (hc : 0 ≤ c ∧ c ≤ 511) (hp : -1 ≤ p ∧ p ≤ 3) (hv : 0 ≤ v ∧ v ≤ 99) (hm : 0 ≤ m ∧ m ≤ 511) : entryCheck ⟨7, g, c, p, v, m, sd, true⟩ = 0 := by
  cases sd <;> simp [entryCheck, evOk, evBase, shapeOf, spanB, oddB] <;> first | omega | (simp only [Bool.and_eq_true, decide_eq_true_eq]; omega)
theorem ev_wakeC {g c p m : Int} (hg : 0 ≤ g ∧ g ≤ 511) (hc : 0 ≤ c ∧ c ≤ 511) (hp : -1 ≤ p ∧ p ≤ 3) (hm : 0 ≤ m ∧ m ≤ 511) : entryCheck ⟨7, g, c, p, 0, m, false, false⟩ = 0 := by
  simp [entryCheck, evOk, evBase, shapeOf, spanB, oddB]; first | omega | (simp only [Bool.and_eq_true, decide_eq_true_eq]; omega)
theorem ev_spawn {g v m : Int} (hg : 0 ≤ g ∧ g ≤ 511) (hv : 0 ≤ v ∧ v ≤ 7) (hm : 0 ≤ m ∧ m ≤ 511) : entryCheck ⟨1, g, -1, -1, v, m, false, false⟩ = 0 := by
  simp [entryCheck, evOk, evBase, shapeOf, spanB, oddB]; first | omega | (simp only [Bool.and_eq_true, decide_eq_true_eq]; omega)
theorem ev_make {g c v : Int} (hg : 0 ≤ g ∧ g ≤ 511) (hc : 0 ≤ c ∧ c ≤ 511) (hv : 0 ≤ v ∧ v ≤ 4) : entryCheck ⟨2, g, c, -1, v, -1, false, false⟩ = 0 := by
  simp [entryCheck, evOk, evBase, shapeOf, spanB, oddB]; first | omega | (simp only [Bool.and_eq_true, decide_eq_true_eq]; omega)
theorem ev_cell {k g v : Int} (hk : k = 9 ∨ k = 10) (hg : 0 ≤ g ∧ g ≤ 511) (hv : 0 ≤ v ∧ v ≤ 7) : entryCheck ⟨k, g, -1, -1, v, -1, false, false⟩ = 0 := by
  rcases hk with rfl | rfl <;> simp [entryCheck, evOk, evBase, shapeOf, spanB, oddB] <;> first | omega | (simp only [Bool.and_eq_true, decide_eq_true_eq]; omega)

/-! ### pipes -/

theorem good_padd {l : List Wt} (h : ∀ w ∈ l, GoodW w) {w : Wt} (hw : GoodW w) : ∀ x ∈ (padd l w).1, GoodW x := by
  unfold padd
  split
  · exact h
  · split
    · exact h
    · intro x hx
      rcases List.mem_append.1 hx with hx | hx
      · exact h x hx
      · simp at hx; subst hx; exact hw
theorem good_pdrop {l : List Wt} (h : ∀ w ∈ l, GoodW w) (g : Int) : ∀ x ∈ pdrop l g, GoodW x := by
  have : ∀ (m acc : List Wt), (∀ w ∈ m, GoodW w) → (∀ w ∈ acc, GoodW w) → ∀ x ∈ m.foldl (fun acc w => (padd acc w).1) acc, GoodW x := by
    intro m
    induction m with
    | nil => exact fun acc _ h => h
    | cons w r ih => exact fun acc hm ha => ih _ (fun x hx => hm x (List.mem_cons_of_mem _ hx)) (good_padd ha (hm w (by simp)))
  exact this _ _ (fun w hw => h w (List.mem_filter.1 hw).1) (fun w hw => by cases hw)
theorem GoodP.drop {p : PipeS} (h : GoodP p) (g : Int) : GoodP (p.drop g) := ⟨good_pdrop h.snd g, good_pdrop h.rcv g, h.buf⟩
theorem GoodP.wait {p : PipeS} (h : GoodP p) {sd : Bool} {w : Wt} (hw : GoodW w) : GoodP (p.wait sd w).1 := by
  unfold PipeS.wait
  split
  · exact h
  · split
    · exact ⟨good_padd h.snd hw, h.rcv, h.buf⟩
    · exact ⟨h.snd, good_padd h.rcv hw, h.buf⟩
theorem GoodP.close {p : PipeS} (h : GoodP p) : GoodP p.close.1 := by
  unfold PipeS.close
  split
  · exact h
  · exact ⟨fun w hw => (by cases hw), fun w hw => (by cases hw), h.buf⟩

structure GoodG (got : GotS) : Prop where
  mate : got.woke = true → GoodW got.mate
  value : 0 ≤ got.value ∧ got.value ≤ 99
  bad : got.ok = false → got.value = 0 ∧ (got.woke = true → got.ready = true)

theorem good_send {p : PipeS} (h : GoodP p) {v : Int} (hv : 0 ≤ v ∧ v ≤ 99) : GoodP (p.send v).1 ∧ (p.send v).2.1.ok = false ∧ ((p.send v).2.1.woke = true → GoodW (p.send v).2.1.mate) := by
  unfold PipeS.send
  split
  · exact ⟨h, rfl, fun h => (by cases h)⟩
  · split
    · exact ⟨h, rfl, fun h => (by cases h)⟩
    · split
      · rename_i w r hr
        exact ⟨⟨h.snd, fun x hx => h.rcv x (by rw [hr]; exact List.mem_cons_of_mem _ hx), h.buf⟩, rfl, fun _ => h.rcv w (by rw [hr]; simp)⟩
      · refine ⟨⟨h.snd, h.rcv, fun x hx => ?_⟩, rfl, fun h => (by cases h)⟩
        simp only at hx
        split at hx
        · exact h.buf x hx
        · rcases List.mem_append.1 hx with hx | hx
          · exact h.buf x hx
          · simp at hx; subst hx; exact hv
theorem good_recv {p : PipeS} (h : GoodP p) : GoodP p.recv.1 ∧ (0 ≤ p.recv.2.value ∧ p.recv.2.value ≤ 99) ∧ (p.recv.2.woke = true → GoodW p.recv.2.mate) ∧ (p.recv.2.ok = false → p.recv.2.value = 0 ∧ p.recv.2.woke = false) := by
  unfold PipeS.recv
  split
  · exact ⟨h, ⟨Int.le_refl 0, (by decide : (0 : Int) ≤ 99)⟩, fun h => (by cases h), fun _ => ⟨rfl, rfl⟩⟩
  · split
    · rename_i x q w r hb hs
      have hw := h.snd w (by rw [hs]; simp)
      refine ⟨⟨fun y hy => h.snd y (by rw [hs]; exact List.mem_cons_of_mem _ hy), h.rcv, fun y hy => ?_⟩, h.buf x (by rw [hb]; simp), fun _ => hw, fun h => (by cases h)⟩
      simp only at hy
      split at hy
      · exact h.buf y (by rw [hb]; exact List.mem_cons_of_mem _ hy)
      · rcases List.mem_append.1 hy with hy | hy
        · exact h.buf y (by rw [hb]; exact List.mem_cons_of_mem _ hy)
        · simp at hy; subst hy; exact hw.value
    · rename_i x q hb hs
      exact ⟨⟨h.snd, h.rcv, fun y hy => h.buf y (by rw [hb]; exact List.mem_cons_of_mem _ hy)⟩, h.buf x (by rw [hb]; simp), fun h => (by cases h), fun h => (by cases h)⟩
    · rename_i w r hb hs
      have hw := h.snd w (by rw [hs]; simp)
      exact ⟨⟨fun y hy => h.snd y (by rw [hs]; exact List.mem_cons_of_mem _ hy), h.rcv, h.buf⟩, hw.value, fun _ => hw, fun h => (by cases h)⟩
    · exact ⟨h, ⟨Int.le_refl 0, (by decide : (0 : Int) ≤ 99)⟩, fun h => (by cases h), fun _ => ⟨rfl, rfl⟩⟩

/-! ### states -/

theorem V.note {s : Lm} {n : Nat} (v : V s n) {e : Ev} (he : entryCheck e = 0) : V (s.note e) n :=
  ⟨fun x hx => by rcases List.mem_append.1 hx with hx | hx
                  · exact v.trace x hx
                  · simp at hx; subst hx; exact he, v.chans, v.nm, v.len, v.crew⟩
theorem V.turn {s : Lm} {n : Nat} (v : V s n) (g a b c : Int) : V (s.turn g a b c) n :=
  ⟨v.trace, v.chans, v.nm, v.len, by
    simp only [Lm.turn, Sl.turn]
    split
    · exact v.crew
    · split
      · simp; exact v.crew
      · exact v.crew⟩
theorem V.setC {s : Lm} {n : Nat} (v : V s n) {cs : List PipeS} (hl : cs.length = s.chans.length) (hp : ∀ p ∈ cs, GoodP p) : V { s with chans := cs } n :=
  ⟨v.trace, hp, fun k hk => by rw [show ({ s with chans := cs } : Lm).chans.length = s.chans.length from hl]; exact v.nm k hk, by rw [show ({ s with chans := cs } : Lm).chans.length = s.chans.length from hl]; exact v.len, v.crew⟩
theorem V.set1 {s : Lm} {n : Nat} (v : V s n) {k : Nat} {p : PipeS} (hp : GoodP p) : ∀ q ∈ s.chans.set k p, GoodP q := fun q hq => by
  rcases List.mem_or_eq_of_mem_set hq with hq | hq
  · exact v.chans q hq
  · subst hq; exact hp
theorem V.wake {s : Lm} {n : Nat} (v : V s n) {e : Ev} (he : entryCheck { e with kind := 7 } = 0) : V (s.wake e) n := by
  unfold Lm.wake
  exact ((v.note he).setC (cs := s.chans.map (·.drop e.g)) (by simp [Lm.note]) fun p hp => by obtain ⟨q, hq, rfl⟩ := List.mem_map.1 hp; exact (v.chans q hq).drop _).turn _ _ _ _

/-- A name's channel that is there. -/
theorem num_of {s : Lm} {n : Nat} (v : V s n) (hn : n ≤ 512) {c : Int} {k : Nat} (h : nameP s.nm c = some k) : s.num c = k ∧ k ≤ 511 := by
  have hm : some k ∈ s.nm := by
    unfold nameP at h
    cases ha : at? s.nm c with
    | none => rw [ha] at h; cases h
    | some o =>
      rw [ha] at h
      simp at h; subst h
      exact at?_mem ha
  have := v.nm k hm
  have := v.len
  exact ⟨by unfold Lm.num; rw [h]; rfl, by omega⟩

theorem V.communicate {s : Lm} {n : Nat} (v : V s n) (hn : n ≤ 512) {g : Int} (hg : 0 ≤ g ∧ g ≤ 511) {c : Cs} {place : Int} (hp : -1 ≤ place ∧ place ≤ 3) (hcv : 0 ≤ c.value ∧ c.value ≤ 99) (hr : ready1 s.nm s.chans c = true) : V (s.communicate g c place).1 n := by
  unfold ready1 chanOf at hr
  cases hk : nameP s.nm c.chan with
  | none => rw [hk] at hr; simp at hr
  | some k =>
    rw [hk] at hr
    simp only [Option.bind_some] at hr
    cases hq : s.chans[k]? with
    | none => rw [hq] at hr; simp at hr
    | some p =>
      have gp := v.chans p (List.mem_of_getElem? hq)
      obtain ⟨hnum, hk511⟩ := num_of v hn hk
      have hnr : 0 ≤ s.num c.chan ∧ s.num c.chan ≤ 511 := by rw [hnum]; omega
      have htry : tryOf s.nm s.chans c = if c.send then (s.chans.set k (p.send c.value).1, (p.send c.value).2.1, (p.send c.value).2.2) else (s.chans.set k p.recv.1, p.recv.2, 0) := by
        unfold tryOf; simp only [hk, hq]
      unfold Lm.communicate
      rw [htry]
      cases hs : c.send with
      | true =>
        obtain ⟨g1, g2, g3⟩ := good_send gp hcv
        simp only [if_true]
        have v1 : V { s with chans := s.chans.set k (p.send c.value).1 } n := v.setC (by simp) (v.set1 g1)
        split
        · exact v1.note (ev_bare (by omega) (by omega) hg)
        · have hev : commEv g (s.num c.chan) c place (p.send c.value).2.1 = ⟨3, g, s.num c.chan, place, c.value, mateOf (p.send c.value).2.1, true, false⟩ := by
            unfold commEv; rw [hs, if_pos rfl, g2]
          have hm : -1 ≤ mateOf (p.send c.value).2.1 ∧ mateOf (p.send c.value).2.1 ≤ 511 := by
            unfold mateOf
            split
            · rename_i hw; have := (g3 hw).g; omega
            · omega
          have v2 := (v1.note (e := commEv g (s.num c.chan) c place (p.send c.value).2.1) (by rw [hev]; exact ev_send hg hnr hp hcv hm)).turn g 0 0 1
          split
          · rename_i hw
            have gw := g3 hw
            refine v2.wake ?_
            unfold commWake
            rw [hs]
            exact ev_wake gw.g hnr gw.case hcv hg
          · exact v2
      | false =>
        obtain ⟨g1, gv, g3, g4⟩ := good_recv gp
        simp only [Bool.false_eq_true, if_false]
        have v1 : V { s with chans := s.chans.set k p.recv.1 } n := v.setC (by simp) (v.set1 g1)
        rw [if_neg (by simp)]
        have hev : commEv g (s.num c.chan) c place p.recv.2 = ⟨4, g, s.num c.chan, place, p.recv.2.value, mateOf p.recv.2, false, p.recv.2.ok⟩ := by
          unfold commEv; rw [hs]; simp
        have hm : -1 ≤ mateOf p.recv.2 ∧ mateOf p.recv.2 ≤ 511 := by
          unfold mateOf
          split
          · rename_i hw; have := (g3 hw).g; omega
          · omega
        have v2 := (v1.note (e := commEv g (s.num c.chan) c place p.recv.2) (by rw [hev]; exact ev_recv hg hnr hp gv hm fun ho => ⟨(g4 ho).1, by unfold mateOf; rw [(g4 ho).2]; rfl⟩)).turn g 0 0 1
        split
        · rename_i hw
          have gw := g3 hw
          refine v2.wake ?_
          unfold commWake
          rw [hs]
          exact ev_wake gw.g hnr gw.case gw.value hg
        · exact v2

theorem numI_le {s : Lm} {n : Nat} (v : V s n) (hn : n ≤ 512) (c : Int) : -1 ≤ s.num c ∧ s.num c ≤ 511 := by
  cases hk : nameP s.nm c with
  | none => unfold Lm.num; rw [hk]; simp [numI]
  | some k => obtain ⟨h1, h2⟩ := num_of v hn hk; omega

theorem V.park {s : Lm} {n : Nat} (v : V s n) (hn : n ≤ 512) {g : Int} (hg : 0 ≤ g ∧ g ≤ 511) {c : Cs} (hcv : 0 ≤ c.value ∧ c.value ≤ 99) (hcs : c.send = false → c.value = 0) : V (s.park g c) n := by
  unfold Lm.park
  have hw : GoodW ⟨g, -1, c.value⟩ := ⟨hg, ⟨Int.le_refl _, (by decide : (-1 : Int) ≤ 3)⟩, hcv⟩
  have key : ∀ cs : List PipeS, cs.length = s.chans.length → (∀ p ∈ cs, GoodP p) → V (({ (s.note ⟨6, g, s.num c.chan, -1, c.value, -1, c.send, false⟩) with chans := cs } : Lm).turn g 0 1 0) n := fun cs h1 h2 =>
    ((v.note (ev_park hg (numI_le v hn _) hcv hcs)).setC (cs := cs) h1 h2).turn _ _ _ _
  refine key _ ?_ ?_
  · split
    · rfl
    · split <;> simp
  · split
    · exact v.chans
    · split
      · exact v.chans
      · rename_i p hp; exact v.set1 ((v.chans p (List.mem_of_getElem? hp)).wait hw)

theorem V.wakes {n : Nat} {g num : Int} (hg : 0 ≤ g ∧ g ≤ 511) (hnum : 0 ≤ num ∧ num ≤ 511) : ∀ (l : List Wt) {s : Lm}, (∀ w ∈ l, GoodW w) → V s n → V (l.foldl (wake1 g num) s) n
  | [], _, _, v => v
  | w :: r, s, hl, v => by
    refine V.wakes hg hnum r (fun x hx => hl x (List.mem_cons_of_mem _ hx)) ?_
    have gw := hl w (by simp)
    unfold wake1
    split
    · exact v.wake (ev_wakeC gw.g hnum gw.case hg)
    · exact v

theorem V.shut {s : Lm} {n : Nat} (v : V s n) (hn : n ≤ 512) {g : Int} (hg : 0 ≤ g ∧ g ≤ 511) (name : Int) : V (s.shut g name).1 n := by
  have hpan := v.note (ev_bare (k := 12) (by omega) (by omega) hg)
  unfold Lm.shut
  split
  · exact hpan
  · rename_i k hk
    obtain ⟨hnum, hk511⟩ := num_of v hn hk
    have hnr : 0 ≤ s.num name ∧ s.num name ≤ 511 := by rw [hnum]; omega
    split
    · exact hpan
    · rename_i p hp
      have gp := v.chans p (List.mem_of_getElem? hp)
      split
      · exact hpan
      · have v1 : V (p.rcv.foldl (wake1 g (s.num name)) ((({ s with chans := s.chans.set k p.close.1 } : Lm).note { bareE 5 g with chan := s.num name }).turn g 0 0 1)) n :=
          V.wakes hg hnr _ gp.rcv (((v.setC (cs := s.chans.set k p.close.1) (by simp) (v.set1 gp.close)).note (ev_close hg hnr)).turn _ _ _ _)
        split
        · rename_i w hw
          exact v1.note (ev_bare (by omega) (by omega) (gp.snd w (List.mem_of_find?_eq_some hw)).g)
        · exact v1

theorem good_parkOf {nm : List (Option Nat)} {g : Int} (hg : 0 ≤ g ∧ g ≤ 511) {cs : List Cs} (hcl : cs.length ≤ 4) (hcs : ∀ c ∈ cs, 0 ≤ c.value ∧ c.value ≤ 99) {ss : List PipeS} (h : ∀ p ∈ ss, GoodP p) : ∀ p ∈ parkOf nm g cs ss, GoodP p := by
  have to : ∀ k, k ≤ 4 → ∀ p ∈ parkTo nm g cs ss k, GoodP p := by
    intro k
    induction k with
    | zero => exact fun _ => h
    | succ k ih =>
      intro hk
      have ih := ih (by omega)
      simp only [parkTo]
      split
      · rename_i c hc
        unfold park1
        split
        · exact ih
        · split
          · exact ih
          · rename_i p hp
            intro q hq
            rcases List.mem_or_eq_of_mem_set hq with hq | hq
            · exact ih q hq
            · subst hq
              exact (ih p (List.mem_of_getElem? hp)).wait ⟨hg, by simp; omega, hcs c (List.mem_of_getElem? hc)⟩
      · exact ih
  unfold parkOf
  split
  · exact h
  · split
    · exact h
    · exact to _ hcl

theorem ready_at {nm : List (Option Nat)} {ss : List PipeS} {cs : List Cs} {z : Int} (h : z ∈ readyOf nm ss cs) : ∃ i : Nat, z = i ∧ ∃ c, cs[i]? = some c ∧ ready1 nm ss c = true := by
  unfold readyOf readyTo at h
  obtain ⟨i, _, hi⟩ := List.mem_filterMap.1 h
  cases hc : cs[i]? with
  | none => simp [hc] at hi
  | some c =>
    rw [hc] at hi
    simp only at hi
    split at hi
    · rename_i hr
      exact ⟨i, by injection hi with hi; exact hi.symm, c, hc, hr⟩
    · cases hi

theorem V.choose {s : Lm} {n : Nat} (v : V s n) (hn : n ≤ 512) {g : Int} (hg : 0 ≤ g ∧ g ≤ 511) {o : Op} (og : OpGood o) (ov : OpVals o) (hd : ∀ d ∈ s.draws, 0 ≤ d) : V (s.choose g o).1 n := by
  unfold Lm.choose
  split
  · rename_i hl
    obtain ⟨d0, d1⟩ := drawOf_lt (n := (readyOf s.nm s.chans o.cases).length) hd (by omega)
    obtain ⟨j, hj⟩ := Int.eq_ofNat_of_zero_le d0
    have hjl : j < (readyOf s.nm s.chans o.cases).length := by omega
    obtain ⟨i, hi, c, hc, hr⟩ := ready_at (List.getElem_mem hjl)
    have e1 : (readyOf s.nm s.chans o.cases).getD (drawOf s.draws (readyOf s.nm s.chans o.cases).length).toNat 0 = i := by
      rw [hj, Int.toNat_natCast, List.getD_eq_getElem?_getD, List.getElem?_eq_getElem hjl, Option.getD_some, hi]
    have e2 : o.cases.getD i ⟨false, 0, 0⟩ = c := by rw [List.getD_eq_getElem?_getD, hc, Option.getD_some]
    rw [e1, Int.toNat_natCast, e2]
    have hil := (List.getElem?_eq_some_iff.1 hc).1
    have := og.cl
    obtain ⟨q1, q2, _⟩ := ov.cs c (List.mem_of_getElem? hc)
    exact V.communicate (s := { s with draws := drawLeft s.draws (readyOf s.nm s.chans o.cases).length }) ⟨v.trace, v.chans, v.nm, v.len, v.crew⟩ hn hg (by omega) ⟨q1, q2⟩ hr
  · split
    · exact (v.note (ev_bare (by omega) (by omega) hg)).turn _ _ _ _
    · have := og.cl
      exact ((v.note (ev_select hg (by omega))).setC (cs := parkOf s.nm g o.cases s.chans) (parkOf_len _ _ _ _) (good_parkOf hg og.cl (fun c hc => ⟨(ov.cs c hc).1, (ov.cs c hc).2.1⟩) v.chans)).turn _ _ _ _

theorem V.mono {s : Lm} {n m : Nat} (v : V s n) (h : n ≤ m) : V s m := ⟨v.trace, v.chans, v.nm, Nat.le_trans v.len h, v.crew⟩

theorem V.does {s : Lm} {n : Nat} (v : V s n) (hn : n < 512) {g : Int} (hg : 0 ≤ g ∧ g ≤ 511) {o : Op} (og : OpGood o) (ov : OpVals o) (hd : ∀ d ∈ s.draws, 0 ≤ d) : V (s.does g o).1 (n + 1) := by
  unfold Lm.does
  split
  · rename_i hk
    have hb : 0 ≤ o.b ∧ o.b ≤ 99 := by
      rcases hk with hk | hk
      · exact ov.val hk
      · rw [ov.rcv hk]; decide
    split
    · rename_i hr
      exact (v.communicate (by omega) hg (by decide) hb hr).mono (by omega)
    · refine (v.park (by omega) hg hb fun h => ?_).mono (by omega)
      have h3 : ¬ o.kind = 3 := by simpa using h
      exact ov.rcv (hk.resolve_left h3)
  · rename_i h34
    split
    · exact (v.shut (by omega) hg _).mono (by omega)
    · rename_i h5
      split
      · exact (v.choose (by omega) hg og ov hd).mono (by omega)
      · rename_i h6
        have key : V (s.doesPre g o).1 (n + 1) ∧ entryCheck (s.doesPre g o).2 = 0 := by
          unfold Lm.doesPre
          split
          · rename_i h1
            have hc := v.crew
            refine ⟨⟨v.trace, v.chans, v.nm, by have := v.len; simp; omega, ?_⟩, ev_spawn hg (ov.prog h1) ?_⟩
            · simp only [spawnOf]
              split
              · exact v.crew
              · split
                · exact v.crew
                · simp; omega
            · simp only [spawnOf]
              split
              · exact ⟨Int.le_refl 0, (by decide : (0 : Int) ≤ 511)⟩
              · split
                · exact ⟨Int.le_refl 0, (by decide : (0 : Int) ≤ 511)⟩
                · simp; omega
          · rename_i h1
            split
            · rename_i h2
              obtain ⟨b0, b4⟩ := og.b h2
              have hl := v.len
              refine ⟨⟨v.trace, fun p hp => ?_, fun k hk => ?_, by simp; omega, v.crew⟩, ev_make hg (by omega) (by omega)⟩
              · rcases List.mem_append.1 hp with hp | hp
                · exact v.chans p hp
                · simp at hp; subst hp; exact ⟨fun w hw => (by cases hw), fun w hw => (by cases hw), fun w hw => (by cases hw)⟩
              · simp only [List.length_append, List.length_singleton]
                rcases List.mem_or_eq_of_mem_set hk with hk | hk
                · have := v.nm k hk; omega
                · injection hk with hk; omega
            · split
              · rename_i h7; exact ⟨v.mono (by omega), ev_cell (by omega) hg (ov.cell (.inl h7))⟩
              · split
                · rename_i h8; exact ⟨v.mono (by omega), ev_cell (by omega) hg (ov.cell (.inr h8))⟩
                · exact ⟨(v.turn _ _ _ _).mono (by omega), ev_bare (k := 11) (by omega) (by omega) hg⟩
        exact (key.1.note key.2).turn _ _ _ _

theorem deed_vals {o : Op} {n : Nat} (hn : n ≤ 8) (h : deedCheck o n = 0) : OpVals o := by
  unfold deedCheck at h
  split at h
  · cases h
  split at h
  · cases h
  split at h
  · cases h
  rename_i h3
  split at h
  · cases h
  rename_i h4
  have h3 : opBad o n = false := by simpa using h3
  have h4 : o.cases.any caseBad = false := by simpa using h4
  unfold opBad at h3
  rw [Bool.or_eq_false_iff, Bool.or_eq_false_iff, Bool.not_eq_false', Bool.not_eq_false'] at h3
  obtain ⟨⟨ha, hb⟩, _⟩ := h3
  obtain ⟨a0, a1, a2⟩ := fits_iff ha
  obtain ⟨b0, b1, b2⟩ := fits_iff hb
  rw [List.any_eq_false] at h4
  refine ⟨fun hk => ?_, fun hk => ?_, fun hk => ?_, fun hk => ?_, fun c hc => ?_⟩
  · simp [limitsOf, hk] at b1; omega
  · simp [limitsOf, hk] at b2; omega
  · have hl : (limitsOf o.kind n).1 = 8 := by rcases hk with hk | hk <;> simp [limitsOf, hk]
    rw [hl] at a1; omega
  · by_cases h1 : (n : Int) > 1
    · have := a1 (by simpa [limitsOf, hk] using h1); simp [limitsOf, hk] at this; omega
    · have := a2 (by simpa [limitsOf, hk] using h1); omega
  · have := h4 c hc
    simp [caseBad] at this
    obtain ⟨⟨_, h2⟩, h5⟩ := this
    have := below_iff.1 h2
    exact ⟨by omega, by omega, fun hs => by simpa [hs] using h5⟩

end Go.Sl
end

section
namespace Go.Sl
open Go
attribute [local irreducible] HT

theorem opAt_vals {x : Script} (hx : checkOf x = 0) (s : Lm) (g : Int) : OpGood (s.opAt x g) ∧ OpVals (s.opAt x g) := by
  obtain ⟨_, c2, c3, c4, c5, c6⟩ := check_ok hx
  obtain ⟨l1, _, _, _⟩ := longOf_false c2
  rw [List.any_eq_false] at c6
  have ex : OpVals exitOp := ⟨fun h => (by cases h), fun h => (by cases h), fun h => (by rcases h with h | h <;> cases h), fun h => (by cases h), fun c hc => (by cases hc)⟩
  have exg : OpGood exitOp := ⟨⟨by decide, by decide⟩, fun h => by simp at h, fun h => by simp at h, fun c hc => by simp at hc, by simp⟩
  unfold Lm.opAt
  split
  · rename_i o _
    unfold opOf
    cases hp : x.programs[o.program.toNat]? with
    | none => exact ⟨exg, ex⟩
    | some p =>
      cases hq : p[o.place.toNat]? with
      | none => simp only [Option.bind_some, hq]; exact ⟨exg, ex⟩
      | some q =>
        simp only [Option.bind_some, hq]
        have h1 := c6 p (List.mem_of_getElem? hp)
        simp only [Bool.not_eq_true] at h1
        rw [List.any_eq_false] at h1
        have h2 := h1 q (List.mem_of_getElem? hq)
        have h3 : deedCheck q x.programs.length = 0 := by simpa [opWrong] using h2
        exact ⟨(deed_good h3).1, deed_vals l1 h3⟩
  · exact ⟨exg, ex⟩

theorem V.step {x : Script} (hx : checkOf x = 0) {s : Lm} {n : Nat} (v : V s n) (hn : n < 512) (hp : ∀ m ∈ s.plan, -1 ≤ m) (hd : ∀ d ∈ s.draws, 0 ≤ d) : V (s.step x) (n + 1) := by
  unfold Lm.step
  split
  · exact v.mono (by omega)
  · rename_i hv
    have v1 : V { s with plan := s.plan.tail } n := ⟨v.trace, v.chans, v.nm, v.len, v.crew⟩
    have hh : -1 ≤ s.plan.headD 0 := by
      cases h : s.plan with
      | nil => simp
      | cons a r => exact hp a (by rw [h]; simp)
    split
    · exact (v1.note ev_compact).mono (by omega)
    · rename_i hc
      obtain ⟨og, ov⟩ := opAt_vals hx s (s.chosen (s.plan.headD 0))
      have hg : 0 ≤ s.chosen (s.plan.headD 0) ∧ s.chosen (s.plan.headD 0) ≤ 511 := by
        rcases chosen_at (s := s) (by omega) hh with ⟨_, e⟩ | ⟨o, ho, _, h0⟩
        · rw [e] at hc; exact absurd (by decide) hc
        · refine ⟨h0, ?_⟩
          have := v.crew
          unfold at? at ho
          rw [if_pos h0] at ho
          have := (List.getElem?_eq_some_iff.1 ho).1
          omega
      have v2 := v1.does hn hg og ov hd
      split
      · exact v2
      · exact ⟨v2.trace, v2.chans, v2.nm, v2.len, v2.crew⟩

theorem V.iter {x : Script} (hx : checkOf x = 0) : ∀ k, k ≤ 300 → V (iter x k (Lm.start x)) k
  | 0, _ => ⟨fun e he => (by simp [Sl.iter, Lm.start] at he), fun p hp => (by simp [Sl.iter, Lm.start] at hp), fun k hk => (by simp [Sl.iter, Lm.start] at hk), by simp [Sl.iter, Lm.start], by simp [Sl.iter, Lm.start]⟩
  | k + 1, h => by
    obtain ⟨sf, hp, hd, _⟩ := check_fine hx
    have b := B.iter sf (fun n hn => (hp n hn).1) (fun d hd' => (hd d hd').1) k (by omega)
    exact V.step hx (V.iter hx k (by omega)) (by omega) b.plan b.draws

theorem last_right {x : Script} (hx : checkOf x = 0) : ∀ e ∈ (Lm.last x).trace, entryCheck e = 0 := by
  obtain ⟨_, _, _, hl, _⟩ := check_fine hx
  exact (V.iter hx x.plan.length (by omega)).trace

/-! ### large -/

/-- What is gone through. -/
structure Small (x : Script) : Prop where
  programs : x.programs.length ≤ 20
  plan : x.plan.length ≤ 1000
  draws : x.draws.length ≤ 1000
  ops : ∀ p ∈ x.programs, p.length ≤ 100 ∧ ∀ o ∈ p, o.cases.length ≤ 3000

theorem law13_large {h : Heap} {sv : ScriptV} {x : Script} (hs : readsScript (ph h) sv x) (sz : ScriptSz x) : HT P 23 [agg sv] h fun r h' => ∃ b, r = .bool b ∧ (b = false → Small x) ∧ Ext h h' := by
  obtain ⟨t, m, ⟨pa, pn, pc⟩, ⟨qa, qn, qc⟩, ⟨da, dn, dc⟩⟩ := sv
  have e1 := hs.programs.len
  have e2 := readsP.len' hs.plan
  have e3 := readsP.len' hs.draws
  simp only at e1 e2 e3
  obtain ⟨vs, r1, r2, r3⟩ := hs.programs
  refine u23 ?_
  refine box [int t, int m, .slice pa pn pc, .slice qa qn qc, .slice da dn dc] (Sat.old h) rfl (fun b1 h1 x1 _ H => ?_)
  refine jn1 (fun t h' => t = .bool (decide (20 < x.programs.length ∨ 1000 < x.plan.length ∨ 1000 < x.draws.length)) ∧ h1 = h') ?_ ?_
  · intro K hK
    repeat' (first | refine jnI ?_ | refine gdI ?_ | refine gqI ?_ | refine fun (_ : Env) => ?_ | refine l0 H rfl ?_ | refine l1 H rfl ?_ | refine l2 H rfl ?_ | refine l3 H rfl ?_ | refine getA rfl ?_ | refine cmp (fun _ => ?_) (fun _ => ?_))
    all_goals exact hK _ _ ⟨by first | exact bT (by omega) | exact bF (by omega), rfl⟩
  rintro _ _ ⟨rfl, rfl⟩ _
  by_cases c0 : 20 < x.programs.length ∨ 1000 < x.plan.length ∨ 1000 < x.draws.length
  · rw [decide_eq_true c0]
    exact ⟨true, rfl, fun h => (by cases h), x1⟩
  rw [decide_eq_false c0]
  refine l0 H rfl ?_
  refine lp2 (Nat × Nat) (fun g => int g.2) (fun g => int g.1) (fun g h' => g.1 ≤ vs.length ∧ g.2 ≤ 3000 ∧ Sat h' [pt b1 (cells [int t, int m, .slice pa pn pc, .slice qa qn qc, .slice da dn dc] 44), old h] ∧ ∀ i, i < g.1 → ∀ p, x.programs[i]? = some p → p.length ≤ 100 ∧ ∀ o ∈ p, o.cases.length ≤ 3000) (fun g => vs.length - g.1) (0, 0) rfl rfl ⟨by omega, by omega, H, fun i hi => (by omega)⟩ ?_
  rintro ⟨k, n⟩ h2 ⟨hk, hn, H, hno⟩ _
  simp only at hk hn H hno
  have x2 := H.old_ext m1
  refine cmp (fun hlt => ?_) (fun hge => ?_)
  · have hlt' : k < vs.length := by omega
    have hx := List.getElem?_eq_getElem hlt'
    have hx' := List.getElem?_eq_getElem (show k < x.programs.length by omega)
    obtain ⟨b, o, e, _, hr⟩ := readsP.get (readsP.ext (h := h) r1 x2) hx
    have hp := r3 k _ _ hx hx'
    obtain ⟨⟨sa, sn, sc⟩, hsl⟩ : ∃ s, vs[k] = s := ⟨_, rfl⟩
    obtain ⟨pr, hpr⟩ : ∃ s, x.programs[k] = s := ⟨_, rfl⟩
    rw [hsl] at hp hr
    rw [hpr] at hp hx'
    have hpl : sn = pr.length := hp.len
    subst e
    refine idx k rfl (by omega) ?_
    refine rd1 (v := .slice sa sn sc) (hr 0 _ rfl) ?_
    refine cmp (fun c => ?_) (fun c => ?_)
    · exact ⟨true, rfl, fun h => (by cases h), x2⟩
    obtain ⟨ws, q1, q2, q3⟩ := hp
    refine lp2 (Nat × Nat) (fun g => int g.2) (fun g => int g.1) (fun g h' => g.1 ≤ ws.length ∧ g.2 ≤ 3000 ∧ Sat h' [pt b1 (cells [int t, int m, .slice (some ⟨b, o, none⟩) pn pc, .slice qa qn qc, .slice da dn dc] 44), old h] ∧ ∀ i, i < g.1 → ∀ o, pr[i]? = some o → o.cases.length ≤ 3000) (fun g => ws.length - g.1) (0, n) rfl rfl ⟨by omega, hn, H, fun i hi => (by omega)⟩ ?_
    rintro ⟨j, n'⟩ h3 ⟨hj, hn', H, hno2⟩ _
    simp only at hj hn' H hno2
    have x3 := H.old_ext m1
    refine cmp (fun hlt2 => ?_) (fun hge2 => ?_)
    · have hlt2' : j < ws.length := by omega
      have hy := List.getElem?_eq_getElem hlt2'
      have hy' := List.getElem?_eq_getElem (show j < pr.length by omega)
      obtain ⟨b', o', e', _, hr'⟩ := readsP.get (readsP.ext (h := h) q1 x3) hy
      obtain ⟨_, _, _, _, ke⟩ := q3 j _ _ hy hy'
      obtain ⟨⟨wk, wa, wb, ⟨wca, wcn, wcc⟩, wd⟩, hw⟩ : ∃ s, ws[j] = s := ⟨_, rfl⟩
      obtain ⟨oo, hoo⟩ : ∃ s, pr[j] = s := ⟨_, rfl⟩
      rw [hw] at hr' ke
      rw [hoo] at ke hy'
      have hcn : wcn = oo.cases.length := by obtain ⟨a, c, e⟩ := ke.len; injection e
      have hcm : oo.cases.length ≤ 140737488351232 := (sz.ops pr (List.mem_of_getElem? hx')).2 oo (List.mem_of_getElem? hy')
      subst e'
      refine idx j rfl (by omega) ?_
      refine rdn (vs := [int wk, int wa, int wb, .slice wca wcn wcc, .bool wd]) rfl hr' ?_
      refine nw H (fun b6 h6 x6 _ H => ?_)
      refine sA H [int wk, int wa, int wb, .slice wca wcn wcc, .bool wd] rfl rfl rfl rfl (fun h7 _ H => ?_)
      refine l0 H rfl ?_
      refine ari64 (by omega) ?_
      refine cmp (fun c3 => ?_) (fun c3 => ?_)
      · exact ⟨true, rfl, fun h => (by cases h), H.old_ext m2⟩
      · refine ari64 (by omega) ?_
        refine ⟨(j + 1, n' + wcn), by simp; omega, by simp, by simp, by simp; omega, by simp; omega, H.drop, fun i hi o ho => ?_⟩
        by_cases hij : i < j
        · exact hno2 i hij o ho
        · have : i = j := by simp at hi; omega
          subst this
          rw [hy'] at ho; injection ho with ho; subst ho; omega
    · have : j = pr.length := by omega
      refine ari64 (by omega) ?_
      refine ⟨(k + 1, n'), by simp; omega, rfl, by simp, by simp; omega, hn', H, fun i hi p hpi => ?_⟩
      by_cases hik : i < k
      · exact hno i hik p hpi
      · have : i = k := by simp at hi; omega
        subst this
        rw [hx'] at hpi; injection hpi with hpi; subst hpi
        refine ⟨by omega, fun o ho => ?_⟩
        obtain ⟨i, hi, rfl⟩ := List.mem_iff_getElem.1 ho
        exact hno2 i (by omega) _ (List.getElem?_eq_getElem hi)
  · refine ⟨false, rfl, fun _ => ⟨by omega, by omega, by omega, fun p hp => ?_⟩, x2⟩
    obtain ⟨i, hi, rfl⟩ := List.mem_iff_getElem.1 hp
    exact hno i (by omega) _ (List.getElem?_eq_getElem hi)

end Go.Sl
end

section
namespace Go.Sl
open Go
attribute [local irreducible] HT

theorem rowK {α : Type} [Cel α] {T n : Nat} {z : List Value} {ps : List ((Nat × Nat) × Value)} {h : Heap} {K : Value → Heap → Prop} (xs : List α) (hf : fillW z ps = some (flat xs)) (hn : xs.length = n)
    (k : ∀ a h', Ext h h' → reads h' (.slice a n n) xs → K (.slice a n n) h') : ROW T z ps n h K := by
  subst hn
  refine ⟨_, hf, k _ _ (Ext.push _ _) (row_reads (T := T) (L := [whole h]) xs ((Sat.whole h).push _) rfl)⟩

/-- The script of the example. -/
def hand : Script := ⟨9, 9, [[⟨2, 0, 0, [], false⟩, ⟨1, 1, 0, [], false⟩, ⟨4, 0, 0, [], false⟩], [⟨3, 0, 5, [], false⟩]], [0, 0, 0, 0], []⟩

theorem hand_check : checkOf hand = 0 := by decide +kernel
theorem hand_verdict : (Lm.last hand).verdict = 4 := by decide +kernel
theorem hand_trace : ∃ e0 e1 e2 e3 e4 : Ev, (Lm.last hand).trace = [e0, e1, e2, e3, e4] ∧ e2.kind = 6 ∧ e3.kind = 3 ∧ e3.mate = 0 ∧ e4.kind = 7 ∧ e4.value = 5 := by
  have h : (Lm.last hand).trace.length = 5 ∧ ((Lm.last hand).trace[2]?.map (·.kind)) = some 6 ∧ ((Lm.last hand).trace[3]?.map fun e => (e.kind, e.mate)) = some (3, 0) ∧ ((Lm.last hand).trace[4]?.map fun e => (e.kind, e.value)) = some (7, 5) := by decide +kernel
  generalize (Lm.last hand).trace = l at h
  obtain ⟨h0, h1, h2, h3⟩ := h
  match l, h0 with
  | [e0, e1, e2, e3, e4], _ =>
    simp at h1 h2 h3
    exact ⟨e0, e1, e2, e3, e4, rfl, h1, h2.1, h2.2, h3.1, h3.2⟩

theorem ops_in {h : Heap} {v : Value} {vs : List OpV} {l : List Op} (r : reads h v vs) (hl : vs.length = l.length)
    (hx : ∀ (i : Nat) (x : OpV) (o : Op), vs[i]? = some x → l[i]? = some o → x.kind = o.kind ∧ x.a = o.a ∧ x.b = o.b ∧ x.dflt = o.dflt ∧ x.cases = ⟨none, 0, 0⟩ ∧ o.cases = []) : readsOps (ph h) v l :=
  ⟨vs, r, hl, fun i x o h1 h2 => by
    obtain ⟨a, b, c, d, e, f⟩ := hx i x o h1 h2
    refine ⟨a, b, c, d, ?_⟩
    rw [e, f]; exact readsP.nil _⟩

theorem hand_big : (∀ p ∈ hand.programs, ∀ o ∈ p, o.cases.length ≤ 1000000) := by
  intro p hp o ho
  simp [hand] at hp
  rcases hp with rfl | rfl
  · simp at ho; rcases ho with rfl | rfl | rfl <;> simp
  · simp at ho; subst ho; simp

theorem law13_hands (h : Heap) : HT P 24 [] h fun r h' => r = .bool true ∧ Ext h h' := by
  refine u24 ?_
  refine fil rfl ?_
  refine fil rfl ?_
  refine fil rfl ?_
  refine rowK (α := OpV) [⟨2, 0, 0, ⟨none, 0, 0⟩, false⟩, ⟨1, 1, 0, ⟨none, 0, 0⟩, false⟩, ⟨4, 0, 0, ⟨none, 0, 0⟩, false⟩] rfl rfl (fun a1 h1 x1 r1 => ?_)
  refine fil rfl ?_
  refine rowK (α := OpV) [⟨3, 0, 5, ⟨none, 0, 0⟩, false⟩] rfl rfl (fun a2 h2 x2 r2 => ?_)
  refine rowK (α := SlV) [⟨a1, 3, 3⟩, ⟨a2, 1, 1⟩] rfl rfl (fun a3 h3 x3 r3 => ?_)
  refine rowK (α := Int) [0, 0, 0, 0] rfl rfl (fun a4 h4 x4 r4 => ?_)
  refine fil rfl ?_
  have r1 := r1.ext (x2.trans (x3.trans x4))
  have r2 := r2.ext (x3.trans x4)
  have r3 := r3.ext x4
  have rs : readsScript (ph h4) ⟨9, 9, ⟨a3, 2, 2⟩, ⟨a4, 4, 4⟩, ⟨none, 0, 0⟩⟩ hand := by
    refine ⟨rfl, rfl, ⟨_, r3, rfl, fun i x o hx ho => ?_⟩, r4, readsP.nil _⟩
    match i with
    | 0 =>
      simp [hand] at hx ho; subst hx; subst ho
      refine ops_in r1 rfl fun i x o hx ho => ?_
      match i with
      | 0 => simp at hx ho; subst hx; subst ho; simp
      | 1 => simp at hx ho; subst hx; subst ho; simp
      | 2 => simp at hx ho; subst hx; subst ho; simp
      | i + 3 => simp at hx
    | 1 =>
      simp [hand] at hx ho; subst hx; subst ho
      refine ops_in r2 rfl fun i x o hx ho => ?_
      match i with
      | 0 => simp at hx ho; subst hx; subst ho; simp
      | i + 1 => simp at hx
    | i + 2 => simp at hx
  refine call (loom_Run rs (by decide) hand_big (Sat.whole h4) hand_check) ?_
  rintro _ h5 ⟨tv, rfl, x5, H⟩
  obtain ⟨e0, e1, e2, e3, e4, he, k2, k3, m3, k4, v4⟩ := hand_trace
  rw [hand_verdict]
  rw [he] at H
  have hr := own_reads H m0
  obtain ⟨a, c, rfl⟩ := hr.len
  refine getA (v := .slice a 5 c) rfl ?_
  refine getA (v := int 4) rfl ?_
  obtain ⟨b2, o2, q2, _, g2⟩ := hr.get (i := 2) rfl
  obtain ⟨b3, o3, q3, _, g3⟩ := hr.get (i := 3) rfl
  obtain ⟨b4, o4, q4, _, g4⟩ := hr.get (i := 4) rfl
  subst q2
  injection q3 with q3; injection q3 with q3 q3'
  injection q4 with q4; injection q4 with q4 q4'
  subst q3; subst q3'; subst q4; subst q4'
  have xx : Ext h h5 := x1.trans (x2.trans (x3.trans (x4.trans x5)))
  refine jn1 (fun t h' => t = .bool true ∧ h' = h5) ?_ (fun _ _ h _ => ⟨h.1, by rw [h.2]; exact xx⟩)
  intro K hK
  have c20 := g2 0 _ rfl
  have c30 := g3 0 _ rfl
  have c35 := g3 5 _ rfl
  have c40 := g4 0 _ rfl
  have c44 := g4 4 _ rfl
  simp only [k2, k3, m3, k4, v4] at c20 c30 c35 c40 c44
  repeat (first | refine jnI ?_ | refine gdI ?_ | refine gqI ?_ | refine cmpT rfl ?_ | refine idx 2 rfl (by decide) ?_ | refine idx 3 rfl (by decide) ?_ | refine idx 4 rfl (by decide) ?_ | refine rd1 c20 ?_ | refine rd1 c30 ?_ | refine rd1 c35 ?_ | refine rd1 c40 ?_ | refine rd1 c44 ?_)
  exact hK _ _ ⟨rfl, rfl⟩

end Go.Sl
end

section
namespace Go.Sl
open Go
attribute [local irreducible] HT

theorem Small.big {x : Script} (s : Small x) : ∀ p ∈ x.programs, ∀ o ∈ p, o.cases.length ≤ 1000000 := fun p hp o ho => Nat.le_trans ((s.ops p hp).2 o ho) (by omega)

theorem verdict_range (s : Lm) : 0 ≤ s.verdict ∧ s.verdict ≤ 4 := by
  unfold Lm.verdict overOf
  (repeat' split) <;> omega

theorem news_ne {x : Script} {s : Lm} (h : s.verdict = 0) : s.news x ≠ [] := by
  obtain ⟨l, hl, e⟩ := Grow.step (x := x) h
  unfold Lm.news
  rw [if_neg (by omega), e, List.drop_left]
  exact hl
theorem news_nil {x : Script} {s : Lm} (h : s.verdict ≠ 0) : s.news x = [] := if_pos h

theorem gvF {A B : Prop} (k : A) : guardV (.bool false) false A B := k
theorem eqpF {b o : Nat} {K : Value → Prop} (k : K (.bool false)) : EQP false (.pointer (some ⟨b, o, none⟩)) (.pointer none) K := k

theorem law13_LoomEnds {h : Heap} {x : Script} {sv : ScriptV} (l : Laid h) (rs : readsScript (ph h) sv x) (sz : ScriptSz x) : HT P 7 [agg sv] h fun r h' => r = .bool true ∧ Ext h h' := by
  obtain ⟨t, m, ⟨pa, pn, pc⟩, ⟨qa, qn, qc⟩, ⟨da, dn, dc⟩⟩ := sv
  have e2 := readsP.len' rs.plan
  simp only at e2
  refine u7 ?_
  refine box [int t, int m, .slice pa pn pc, .slice qa qn qc, .slice da dn dc] (Sat.old h) rfl (fun b1 h1 x1 _ H => ?_)
  refine lA H rfl ?_
  refine call (law13_large (sv := ⟨t, m, ⟨pa, pn, pc⟩, ⟨qa, qn, qc⟩, ⟨da, dn, dc⟩⟩) (rs.ext x1) sz) ?_
  rintro _ h2 ⟨b, rfl, hb, x2⟩
  cases b with
  | true =>
    exact callX (law13_hands h2) (fun h3 x3 => ⟨rfl, x1.trans (x2.trans x3)⟩)
  | false =>
  have sm := hb rfl
  have hpn : x.programs.length ≤ 1000000 := Nat.le_trans sm.programs (by omega)
  have H := H.ext x2
  have x12 := x1.trans x2
  refine lA H rfl ?_
  by_cases hc : checkOf x = 0
  · refine call (loom_Run (sv := ⟨t, m, ⟨pa, pn, pc⟩, ⟨qa, qn, qc⟩, ⟨da, dn, dc⟩⟩) (rs.ext x12) hpn sm.big H hc) ?_
    rintro _ h4 ⟨tv, rfl, x4, H⟩
    obtain ⟨ta, tc, rfl⟩ := (own_reads H m0).len
    refine getA (v := .slice ta (Lm.last x).trace.length tc) rfl ?_
    refine getA (v := int (Lm.last x).verdict) rfl ?_
    refine lA1 H rfl ?_
    refine callX (sheet_Check (sv := ⟨t, m, ⟨pa, pn, pc⟩, ⟨qa, qn, qc⟩, ⟨da, dn, dc⟩⟩) (rs.ext (x12.trans x4)) (by omega)) (fun h5 x5 => ?_)
    have H := H.ext x5
    rw [hc]
    refine cmpF (by decide) ?_
    have hlv : (Lm.last x).verdict ≠ 0 := iter_ends (x := x) (Lm.start x)
    have hvr := verdict_range (Lm.last x)
    refine jn1 (fun tt h' => tt = .bool false ∧ h5 = h') ?_ ?_
    · intro K hK
      refine cmpF (by omega) ?_
      refine gdI ?_
      refine gdI ?_
      refine cmpF (by omega) ?_
      exact hK _ _ ⟨rfl, rfl⟩
    rintro _ _ ⟨rfl, rfl⟩ _
    refine lA1 H rfl ?_
    refine call (loom_New (sv := ⟨t, m, ⟨pa, pn, pc⟩, ⟨qa, qn, qc⟩, ⟨da, dn, dc⟩⟩) (rs.ext (x12.trans (x4.trans x5))) hpn sm.big H hc) ?_
    rintro _ h6 ⟨lp, rfl, x6, H⟩
    refine getA (v := ptr lp) rfl ?_
    refine getA (v := int 0) rfl ?_
    refine jn1 (fun tt h' => tt = .bool false ∧ h6 = h') ?_ ?_
    · intro K hK
      refine cmpF (by decide) ?_
      refine gdI ?_
      refine gdI ?_
      refine gvF ?_
      refine eqpF ?_
      exact hK _ _ ⟨rfl, rfl⟩
    rintro _ _ ⟨rfl, rfl⟩ _
    obtain ⟨sf, hp, hd, hpl, _, _⟩ := check_fine hc
    have hB := B.iter sf (fun n hn => (hp n hn).1) (fun d hd' => (hd d hd').1)
    have hst : (Lm.start x).plan = x.plan := rfl
    refine lp1 Nat (fun k => int k) (fun k h' => Sat h' [loomAt x lp (iter x k (Lm.start x)), own 40 (.slice ta (Lm.last x).trace.length tc) (Lm.last x).trace, pt b1 (cells [int t, int m, .slice pa pn pc, .slice qa qn qc, .slice da dn dc] 44), old h] ∧ ∀ j, j < k → (iter x j (Lm.start x)).verdict = 0) (fun k => x.plan.length - k) 0 rfl ⟨H, fun j hj => by omega⟩ ?_
    rintro k h7 ⟨H, hv⟩ _
    have hkl : k ≤ x.plan.length := by have := iter_plan hv; rw [hst] at this; omega
    refine jn1 (fun tt h' => tt = .bool (decide ((iter x k (Lm.start x)).verdict = 0)) ∧ Sat h' [loomAt x lp (iter x k (Lm.start x)), own 40 (.slice ta (Lm.last x).trace.length tc) (Lm.last x).trace, pt b1 (cells [int t, int m, .slice pa pn pc, .slice qa qn qc, .slice da dn dc] 44), old h]) ?_ ?_
    · intro K hK
      refine callX (loom_Verdict H m0) (fun h8 x8 => ?_)
      have H := H.ext x8
      refine cmp (fun c => ?_) (fun c => ?_)
      · refine gdI ?_
        refine gdI ?_
        refine gdI ?_
        refine l2 H rfl ?_
        refine gdI ?_
        refine gdI ?_
        refine cmpT (by omega) ?_
        exact hK _ _ ⟨by rw [decide_eq_true c], H⟩
      · repeat (first | refine jnI ?_ | refine gdI ?_ | refine gqI ?_ | refine fun (_ : Env) => ?_)
        exact hK _ _ ⟨by rw [decide_eq_false c], H⟩
    rintro _ h8 ⟨rfl, H⟩ _
    by_cases c : (iter x k (Lm.start x)).verdict = 0
    · rw [decide_eq_true c]
      have hall : ∀ j, j < k + 1 → (iter x j (Lm.start x)).verdict = 0 := fun j hj => by
        by_cases hjk : j < k
        · exact hv j hjk
        · have : j = k := by omega
          subst this; exact c
      have hk1 : k + 1 ≤ x.plan.length := by have := iter_plan hall; rw [hst] at this; omega
      have q1 := hB k (by omega)
      have q2 := hB (k + 1) (by omega)
      refine call (loom_Step sf.good (q1.inv (by omega)) (Nat.le_trans q2.trace (by omega)) H) ?_
      rintro r h9 H
      obtain ⟨ra, rc, rfl⟩ := (own_reads H m0).len
      have hne : (iter x k (Lm.start x)).news x ≠ [] := news_ne c
      have hnl : ((iter x k (Lm.start x)).news x).length ≠ 0 := fun e => hne (List.eq_nil_of_length_eq_zero e)
      refine cmpF (by omega) ?_
      refine ari64 (by omega) ?_
      exact ⟨k + 1, by omega, by simp, H.drop, hall⟩
    · rw [decide_eq_false c]
      have hlast : iter x k (Lm.start x) = Lm.last x := (iter_stop c x.plan.length hkl).symm
      have q1 := hB k (by omega)
      rw [hlast] at H q1 c
      refine lp1 Nat (fun i => int i) (fun i h' => i ≤ (Lm.last x).trace.length ∧ Sat h' [loomAt x lp (Lm.last x), own 40 (.slice ta (Lm.last x).trace.length tc) (Lm.last x).trace, pt b1 (cells [int t, int m, .slice pa pn pc, .slice qa qn qc, .slice da dn dc] 44), old h]) (fun i => (Lm.last x).trace.length - i) 0 rfl ⟨by omega, H⟩ ?_
      rintro i h9 ⟨hi, H⟩ _
      have hmax : (Lm.last x).trace.length ≤ 1000000 := Nat.le_trans q1.trace (by omega)
      refine cmp (fun hlt => ?_) (fun hge => ?_)
      · have hlt' : i < (Lm.last x).trace.length := by omega
        have hx := List.getElem?_eq_getElem hlt'
        obtain ⟨b, o, e, _, hr⟩ := (own_reads H m1).get hx
        have hgood := last_right hc _ (List.getElem_mem hlt')
        generalize (Lm.last x).trace[i] = ev at hr hgood
        subst e
        refine idx i rfl hlt' ?_
        refine rdn (vs := Cel.cells ev) rfl hr ?_
        refine nw H (fun b2 h10 x10 _ H => ?_)
        refine sA H (Cel.cells ev) rfl rfl rfl rfl (fun h11 _ H => ?_)
        refine lA H rfl ?_
        refine callX (entry_Check (l.ext (H.old_ext (List.mem_of_getElem? (i := 4) rfl)))) (fun h12 x12 => ?_)
        have H := H.ext x12
        rw [hgood]
        refine cmpF (by decide) ?_
        refine ari64 (by omega) ?_
        exact ⟨i + 1, by omega, by simp, by omega, H.drop⟩
      · refine jn1 (fun tt h' => tt = .bool true ∧ Ext h h') ?_ (fun _ _ h _ => h)
        intro K hK
        refine callX (loom_Verdict H m0) (fun h10 x10 => ?_)
        have H := H.ext x10
        refine cmpT rfl ?_
        refine gdI ?_
        refine gdI ?_
        refine gdI ?_
        refine l2 H rfl ?_
        refine gdI ?_
        refine gdI ?_
        refine cmpT (by omega) ?_
        refine gdI ?_
        refine gdI ?_
        have es : (Lm.last x).step x = Lm.last x := step_stop c
        refine call (loom_Step sf.good (q1.inv (by omega)) (by rw [es]; omega) H) ?_
        rintro r h11 H
        rw [news_nil c] at H
        obtain ⟨ra, rc, rfl⟩ := (own_reads H m0).len
        refine gdI ?_
        refine gdI ?_
        refine cmpT rfl ?_
        refine gdI ?_
        refine callX (law13_hands h11) (fun h12 x12 => ?_)
        exact hK _ _ ⟨rfl, (H.old_ext (List.mem_of_getElem? (i := 4) rfl)).trans x12⟩
  · refine callX (loom_Run_bad (sv := ⟨t, m, ⟨pa, pn, pc⟩, ⟨qa, qn, qc⟩, ⟨da, dn, dc⟩⟩) (rs.ext x12) hpn hc) (fun h4 x4 => ?_)
    have H := H.ext x4
    refine getA (v := .slice none 0 0) rfl ?_
    refine getA (v := int 0) rfl ?_
    refine lA H rfl ?_
    refine callX (sheet_Check (sv := ⟨t, m, ⟨pa, pn, pc⟩, ⟨qa, qn, qc⟩, ⟨da, dn, dc⟩⟩) (rs.ext (x12.trans x4)) (by omega)) (fun h5 x5 => ?_)
    refine cmpT hc ?_
    refine jn1 (fun tt h' => tt = .bool true ∧ Ext h h') ?_ (fun _ _ h _ => h)
    intro K hK
    refine cmpT rfl ?_
    refine gdI ?_
    refine gdI ?_
    refine gdI ?_
    refine cmpT rfl ?_
    refine gdI ?_
    refine callX (law13_hands h5) (fun h6 x6 => ?_)
    exact hK _ _ ⟨rfl, x12.trans (x4.trans (x5.trans x6))⟩

end Go.Sl
end
