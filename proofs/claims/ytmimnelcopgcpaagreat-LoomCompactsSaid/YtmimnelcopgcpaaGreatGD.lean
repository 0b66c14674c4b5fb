/- Parts of the proof, laid together: G30 G31 G35 G36 G40 G41 G42 G43. No statement of the seat is proved here. -/
import Derived.Test.YtmimnelcopgcpaaGreatGA
import Derived.OpenShut
import Derived.Deep.Slices
import Derived.ProofKit
import Derived.DataElems
import Derived.SizedLaws
import Derived.Test.YtmimnelcopgcpaaGreatGC
set_option linter.unusedVariables false
set_option linter.unusedSimpArgs false
section
namespace Go.Sl
open Go Go.ChangeShapes Go.WideShapes Go.Deep

section
variable {H : Type} {enc : TypeId × Value → H} {w : World} {base : Nat} {sp : Nat → Bool} {held : Bool}

/-- Each row's weight is one that the machine reaches. -/
def Wgt (t : Nat) (d : DataW H) : Prop := ∀ n ∈ d.weights P t, n ≤ 140737488351232

theorem weights_all {e : Nat} : ∀ {l : List (DataW H)} {d : DataW H}, d ∈ l → ∀ n ∈ d.weights P e, n ∈ DataW.weightsAll P e l
  | a :: r, d, hd, n, hn => by
    simp only [DataW.weightsAll, List.mem_append]
    rcases List.mem_cons.1 hd with rfl | hd
    · exact .inl hn
    · exact .inr (weights_all hd n hn)

theorem Wgt.elem {t e : Nat} {l r : List (DataW H)} (h : Wgt t (.slice l r)) (ht : Program.underlying P t = some (.slice e)) : l.length * P.bytesOf e ≤ 140737488351232 ∧ ∀ d ∈ l, Wgt e d := by
  have ht' : P.underlying t = some (.slice e) := ht
  refine ⟨?_, fun d hd n hn => h n ?_⟩
  · have := h ((l.length + r.length) * P.bytesOf e) (by simp [DataW.weights, ht'])
    exact Nat.le_trans (Nat.mul_le_mul_right _ (Nat.le_add_right _ _)) this
  · simp only [DataW.weights, ht', List.mem_cons, List.mem_append]
    exact .inr (.inl (weights_all hd n hn))

theorem Wgt.part {t : Nat} {fs : Array Field} {xs : List (DataW H × List MemPlace)} {i : Nat} {f : Field} {y : DataW H × List MemPlace} (h : Wgt t (.agg (xs.map (·.1)))) (ht : Program.underlying P t = some (.struct fs)) (hf : fs.toList[i]? = some f) (hy : xs[i]? = some y) : Wgt f.type y.1 := by
  have ht' : P.underlying t = some (.struct fs) := ht
  intro n hn
  refine h n ?_
  simp only [DataW.weights, ht']
  exact DataW.weights_mem_each (j := i) (t := f.type) (d := y.1) (by rw [List.getElem?_map, hf]; rfl) (by rw [List.getElem?_map, hy]; rfl) n hn

theorem Wgt.of_row {ts : List TypeId} {ds : List (DataW H)} (h : (DataW.weightsEach P ts ds).all (· ≤ reachBytes) = true) {j t : Nat} {d : DataW H} (ht : ts[j]? = some t) (hd : ds[j]? = some d) : Wgt t d := fun n hn => by
  have := List.all_eq_true.1 h _ (DataW.weights_mem_each ht hd n hn)
  exact of_decide_eq_true this

/-- What a type's cells can be read as. -/
def Opens {α : Type} [Cel α] (enc : TypeId × Value → H) (w : World) (base : Nat) (sp : Nat → Bool) (held : Bool) (t : Nat) (Q : α → Prop) : Prop :=
  ∀ (fuel : Nat) (cs : List Value) (x : DataW H × List MemPlace), DataW.trod enc P w base sp held fuel t cs = some x → Wgt t x.1 → ∃ a : α, cs = Cel.cells a ∧ Q a

theorem cellP_eq {w : World} {a : Addr} {v : Value} (h : w.cell? a = some v) : a.spot = none ∧ cellP (ph w.heap) a.block a.off = some v := by
  unfold World.cell? at h
  unfold cellP ph
  cases hb : w.heap[a.block]? with
  | none => simp [hb] at h
  | some o =>
    rw [hb] at h
    cases o with
    | cells c t f =>
      simp only at h ⊢
      split at h
      · cases h
      · rename_i hs; exact ⟨by simpa using hs, h⟩
    | _ => simp at h

theorem addr_off {a : Addr} {n : Nat} (hs : (a.add n).spot = none → True) : (a.add n).block = a.block ∧ (a.add n).off = a.off + n := by
  unfold Addr.add; split
  · rename_i h; subst h; exact ⟨rfl, rfl⟩
  · exact ⟨rfl, rfl⟩

theorem open_reads {α : Type} [Cel α] {t e : Nat} {Q : α → Prop} (ht : Program.underlying P t = some (.slice e)) (hc : P.cellsOf e = Cel.n α) (hp : 0 < Cel.n α) (hbt : decide (0 < P.bytesOf e) = true) (he : Opens enc w base sp held e Q)
    {fuel : Nat} {cs : List Value} {x : DataW H × List MemPlace} (h : DataW.trod enc P w base sp held fuel t cs = some x) (hw : Wgt t x.1) :
    ∃ (sv : SlV) (xs : List α), cs = [sv.v] ∧ reads w.heap sv.v xs ∧ (∀ a ∈ xs, Q a) ∧ xs.length ≤ 140737488351232 := by
  rcases open_slice ht h with ⟨rfl, _⟩ | ⟨a, len, cap, m, n, D, Pl, rfl, _, hl, hm, hmm, rfl, hel⟩
  · exact ⟨⟨none, 0, 0⟩, [], rfl, readsP.nil _, fun a ha => (by cases ha), Nat.zero_le _⟩
  have hlm : len ≤ m := by rw [hmm]; split <;> omega
  obtain ⟨hlw, hew⟩ := hw.elem ht
  have hlw : len ≤ 140737488351232 := by
    have b0 : 0 < P.bytesOf e := of_decide_eq_true hbt
    rw [List.length_map, List.length_range] at hlw
    exact Nat.le_trans (Nat.le_mul_of_pos_right _ b0) hlw
  have key : ∀ k, k ≤ len → ∃ xs : List α, xs.length = k ∧ (∀ a ∈ xs, Q a) ∧ ∀ i, i < k → ∃ y, xs[i]? = some y ∧ w.cells? base (a.add (i * Cel.n α)) (Cel.n α) = some (Cel.cells y) := by
    intro k
    induction k with
    | zero => exact fun _ => ⟨[], rfl, fun a ha => (by cases ha), fun i hi => by omega⟩
    | succ k ih =>
      intro hk
      obtain ⟨xs, h1, h2, h3⟩ := ih (by omega)
      obtain ⟨cs', q1, q2⟩ := hel k (by omega)
      obtain ⟨y, rfl, hy⟩ := he _ _ _ q2 (hew _ (List.mem_map.2 ⟨k, List.mem_range.2 (by omega), rfl⟩))
      refine ⟨xs ++ [y], by simp [h1], fun a ha => ?_, fun i hi => ?_⟩
      · rcases List.mem_append.1 ha with ha | ha
        · exact h2 a ha
        · simp at ha; subst ha; exact hy
      · by_cases hik : i < k
        · obtain ⟨z, z1, z2⟩ := h3 i hik
          exact ⟨z, by rw [List.getElem?_append_left (by omega)]; exact z1, z2⟩
        · have : i = k := by omega
          subst this
          rw [hc] at q1
          exact ⟨y, by rw [List.getElem?_append_right (by omega), h1]; simp, q1⟩
  obtain ⟨xs, h1, h2, h3⟩ := key len (Nat.le_refl _)
  subst h1
  refine ⟨⟨some a, xs.length, cap⟩, xs, rfl, ⟨some a, cap, rfl, hl, ?_⟩, h2, by omega⟩
  by_cases h0 : xs = []
  · exact .inl h0
  right
  have hpos : 0 < xs.length := by cases xs with | nil => exact absurd rfl h0 | cons _ _ => simp
  -- each cell
  have cell : ∀ j, j < xs.length * Cel.n α → ∀ u, (flat xs)[j]? = some u → w.cell? (a.add j) = some u := by
    intro j hj u hu
    obtain ⟨y, hy, hcs⟩ := h3 (j / Cel.n α) (Nat.div_lt_of_lt_mul (by rw [Nat.mul_comm]; exact hj))
    obtain ⟨_, hl2, hg⟩ := World.cells?_some hcs
    have hr : j % Cel.n α < Cel.n α := Nat.mod_lt _ hp
    have hjj : j / Cel.n α * Cel.n α + j % Cel.n α = j := by rw [Nat.mul_comm]; exact Nat.div_add_mod _ _
    have g := hg _ hr
    obtain ⟨u', hu'⟩ : ∃ u', (Cel.cells y)[j % Cel.n α]? = some u' := ⟨_, List.getElem?_eq_getElem (by rw [Cel.len]; exact hr)⟩
    have := flat_get hy hu'
    rw [hjj, hu] at this
    have this := Option.some.inj this
    subst this
    rw [hu', Go.Addr.add_add, hjj] at g
    exact g
  have c0 : a.spot = none := by
    clear h3 hel key hmm
    have hl0 : 0 < xs.length * Cel.n α := Nat.mul_pos hpos hp
    have hl1 : 0 < (flat xs).length := by rw [flat_length]; exact hl0
    exact (cellP_eq (cell 0 hl0 _ (List.getElem?_eq_getElem hl1))).1
  have ea : a = ⟨a.block, a.off, none⟩ := by rw [← c0]
  refine ⟨a.block, a.off, congrArg some ea, fun j u hu => ?_⟩
  have hj := (List.getElem?_eq_some_iff.1 hu).1
  rw [flat_length] at hj
  have g := (cellP_eq (cell j hj u hu)).2
  obtain ⟨e1, e2⟩ := addr_off (a := a) (n := j) fun _ => trivial
  rw [e1, e2] at g
  exact g
end

end Go.Sl
end

section
namespace Go.Sl
open Go Go.ChangeShapes Go.WideShapes Go.Deep

section
variable {H : Type} {enc : TypeId × Value → H} {w : World} {base : Nat} {sp : Nat → Bool} {held : Bool}

theorem opens_int : Opens (α := Int) enc w base sp held 3 (fun n => -9223372036854775808 ≤ n ∧ n ≤ 9223372036854775807) := fun fuel cs x h hz => by
  obtain ⟨n, rfl, _, hw⟩ := DataW.trod_int Proofs.Tryz.underlying3 h
  exact ⟨n, rfl, Go.bounds_i64 hw⟩

theorem opens_bool : Opens (α := Bool) enc w base sp held 4 (fun _ => True) := fun fuel cs x h hz => by
  obtain ⟨b, rfl, _⟩ := DataW.trod_bool Proofs.Tryz.underlying4 h
  exact ⟨b, rfl, trivial⟩

theorem take_one {cs : List Value} {k : Nat} {v : Value} (h : (cs.drop k).take 1 = [v]) : cs[k]? = some v := by
  have := congrArg (·[0]?) h
  simpa [List.getElem?_take, List.getElem?_drop] using this

/-- A field of one cell. -/
theorem field_int {fuel : Nat} {cs : List Value} {k : Nat} {x : DataW H × List MemPlace} {c : Nat} (hc : c = 1) (h : DataW.trod enc P w base sp held fuel 3 ((cs.drop k).take c) = some x) (hz : Wgt (H := H) 3 x.1) : ∃ n : Int, cs[k]? = some (int n) := by
  subst hc
  obtain ⟨n, e, _⟩ := opens_int fuel _ x h hz
  exact ⟨n, take_one e⟩
theorem field_bool {fuel : Nat} {cs : List Value} {k : Nat} {x : DataW H × List MemPlace} {c : Nat} (hc : c = 1) (h : DataW.trod enc P w base sp held fuel 4 ((cs.drop k).take c) = some x) (hz : Wgt (H := H) 4 x.1) : ∃ n : Bool, cs[k]? = some (.bool n) := by
  subst hc
  obtain ⟨n, e, _⟩ := opens_bool fuel _ x h hz
  exact ⟨n, take_one e⟩

theorem take_one' {cs : List Value} {k c : Nat} {v : Value} (hc : c = 1) (h : (cs.drop k).take c = [v]) : cs[k]? = some v := by subst hc; exact take_one h
theorem list3 : ∀ {cs : List Value} {a b c : Value}, cs.length = 3 → cs[0]? = some a → cs[1]? = some b → cs[2]? = some c → cs = [a, b, c]
  | [_, _, _], _, _, _, _, h0, h1, h2 => by simp at h0 h1 h2; simp [h0, h1, h2]
theorem list5 : ∀ {cs : List Value} {a b c d e : Value}, cs.length = 5 → cs[0]? = some a → cs[1]? = some b → cs[2]? = some c → cs[3]? = some d → cs[4]? = some e → cs = [a, b, c, d, e]
  | [_, _, _, _, _], _, _, _, _, _, _, h0, h1, h2, h3, h4 => by simp at h0 h1 h2 h3 h4; simp [h0, h1, h2, h3, h4]
theorem list8 : ∀ {cs : List Value} {a b c d e f g i : Value}, cs.length = 8 → cs[0]? = some a → cs[1]? = some b → cs[2]? = some c → cs[3]? = some d → cs[4]? = some e → cs[5]? = some f → cs[6]? = some g → cs[7]? = some i → cs = [a, b, c, d, e, f, g, i]
  | [_, _, _, _, _, _, _, _], _, _, _, _, _, _, _, _, _, h0, h1, h2, h3, h4, h5, h6, h7 => by simp at h0 h1 h2 h3 h4 h5 h6 h7; simp [h0, h1, h2, h3, h4, h5, h6, h7]

theorem c1i : P.cellsOf 3 = 1 := by kernel_rfl
theorem c1b : P.cellsOf 4 = 1 := by kernel_rfl

theorem got {xs : List (DataW H × List MemPlace)} {n i : Nat} (hl : xs.length = n) (hi : i < n) : ∃ y, xs[i]? = some y := ⟨_, List.getElem?_eq_getElem (by omega)⟩

theorem opens_cs : Opens (α := Cs) enc w base sp held 52 (fun _ => True) := fun fuel cs x h hz => by
  obtain ⟨xs, n, _, rfl, hl, hn, hf⟩ := DataW.trod_struct Proofs.Tryz.underlying52 h
  rw [show P.cellsOf 52 = 3 by kernel_rfl] at hl
  obtain ⟨y0, g0⟩ := got (i := 0) hn (by simp)
  obtain ⟨y1, g1⟩ := got (i := 1) hn (by simp)
  obtain ⟨y2, g2⟩ := got (i := 2) hn (by simp)
  obtain ⟨a, ha⟩ := field_bool c1b ((hf 0 _ rfl).trans g0) (hz.part Proofs.Tryz.underlying52 rfl g0)
  obtain ⟨b, hb⟩ := field_int c1i ((hf 1 _ rfl).trans g1) (hz.part Proofs.Tryz.underlying52 rfl g1)
  obtain ⟨c, hc⟩ := field_int c1i ((hf 2 _ rfl).trans g2) (hz.part Proofs.Tryz.underlying52 rfl g2)
  exact ⟨⟨a, b, c⟩, list3 hl ha hb hc, trivial⟩

theorem opens_ev : Opens (α := Ev) enc w base sp held 34 (fun _ => True) := fun fuel cs x h hz => by
  obtain ⟨xs, n, _, rfl, hl, hn, hf⟩ := DataW.trod_struct Proofs.Tryz.underlying34 h
  rw [show P.cellsOf 34 = 8 by kernel_rfl] at hl
  obtain ⟨y0, g0⟩ := got (i := 0) hn (by simp)
  obtain ⟨y1, g1⟩ := got (i := 1) hn (by simp)
  obtain ⟨y2, g2⟩ := got (i := 2) hn (by simp)
  obtain ⟨y3, g3⟩ := got (i := 3) hn (by simp)
  obtain ⟨y4, g4⟩ := got (i := 4) hn (by simp)
  obtain ⟨y5, g5⟩ := got (i := 5) hn (by simp)
  obtain ⟨y6, g6⟩ := got (i := 6) hn (by simp)
  obtain ⟨y7, g7⟩ := got (i := 7) hn (by simp)
  obtain ⟨a0, h0⟩ := field_int c1i ((hf 0 _ rfl).trans g0) (hz.part Proofs.Tryz.underlying34 rfl g0)
  obtain ⟨a1, h1⟩ := field_int c1i ((hf 1 _ rfl).trans g1) (hz.part Proofs.Tryz.underlying34 rfl g1)
  obtain ⟨a2, h2⟩ := field_int c1i ((hf 2 _ rfl).trans g2) (hz.part Proofs.Tryz.underlying34 rfl g2)
  obtain ⟨a3, h3⟩ := field_int c1i ((hf 3 _ rfl).trans g3) (hz.part Proofs.Tryz.underlying34 rfl g3)
  obtain ⟨a4, h4⟩ := field_int c1i ((hf 4 _ rfl).trans g4) (hz.part Proofs.Tryz.underlying34 rfl g4)
  obtain ⟨a5, h5⟩ := field_int c1i ((hf 5 _ rfl).trans g5) (hz.part Proofs.Tryz.underlying34 rfl g5)
  obtain ⟨a6, h6⟩ := field_bool c1b ((hf 6 _ rfl).trans g6) (hz.part Proofs.Tryz.underlying34 rfl g6)
  obtain ⟨a7, h7⟩ := field_bool c1b ((hf 7 _ rfl).trans g7) (hz.part Proofs.Tryz.underlying34 rfl g7)
  exact ⟨⟨a0, a1, a2, a3, a4, a5, a6, a7⟩, list8 hl h0 h1 h2 h3 h4 h5 h6 h7, trivial⟩

/-- An operation in memory, as data. -/
def OpRd (h : Heap) (ov : OpV) : Prop := ∃ cs : List Cs, reads h ov.cases.v cs ∧ cs.length ≤ 140737488351232

theorem opens_op : Opens (α := OpV) enc w base sp held 39 (OpRd w.heap) := fun fuel cs x h hz => by
  obtain ⟨xs, n, _, rfl, hl, hn, hf⟩ := DataW.trod_struct Proofs.Tryz.underlying39 h
  rw [show P.cellsOf 39 = 5 by kernel_rfl] at hl
  obtain ⟨y0, g0⟩ := got (i := 0) hn (by simp)
  obtain ⟨y1, g1⟩ := got (i := 1) hn (by simp)
  obtain ⟨y2, g2⟩ := got (i := 2) hn (by simp)
  obtain ⟨y3, g3⟩ := got (i := 3) hn (by simp)
  obtain ⟨y4, g4⟩ := got (i := 4) hn (by simp)
  obtain ⟨a0, h0⟩ := field_int c1i ((hf 0 _ rfl).trans g0) (hz.part Proofs.Tryz.underlying39 rfl g0)
  obtain ⟨a1, h1⟩ := field_int c1i ((hf 1 _ rfl).trans g1) (hz.part Proofs.Tryz.underlying39 rfl g1)
  obtain ⟨a2, h2⟩ := field_int c1i ((hf 2 _ rfl).trans g2) (hz.part Proofs.Tryz.underlying39 rfl g2)
  obtain ⟨a4, h4⟩ := field_bool c1b ((hf 4 _ rfl).trans g4) (hz.part Proofs.Tryz.underlying39 rfl g4)
  obtain ⟨sv, ys, e3, r3, _, m3⟩ := open_reads (α := Cs) Proofs.Tryz.underlying37 (by kernel_rfl) (by decide) (by kernel_rfl) opens_cs ((hf 3 _ rfl).trans g3) (hz.part Proofs.Tryz.underlying39 rfl g3)
  have h3 := take_one' (show P.cellsOf 37 = 1 by kernel_rfl) e3
  exact ⟨⟨a0, a1, a2, sv, a4⟩, list5 hl h0 h1 h2 h3 h4, ys, r3, m3⟩

/-- A program in memory, as data. -/
def ProgRd (h : Heap) (v : SlV) : Prop := ∃ l : List Op, readsOps (ph h) v.v l ∧ l.length ≤ 140737488351232 ∧ ∀ o ∈ l, o.cases.length ≤ 140737488351232

theorem ops_of {h : Heap} : ∀ (vs : List OpV), (∀ a ∈ vs, OpRd h a) → ∃ l : List Op, vs.length = l.length ∧ (∀ o ∈ l, o.cases.length ≤ 140737488351232) ∧ ∀ (i : Nat) (x : OpV) (o : Op), vs[i]? = some x → l[i]? = some o → x.kind = o.kind ∧ x.a = o.a ∧ x.b = o.b ∧ x.dflt = o.dflt ∧ readsP (ph h) x.cases.v o.cases
  | [], _ => ⟨[], rfl, fun o ho => by (cases ho), fun i x o hx => by simp at hx⟩
  | v :: r, hv => by
    obtain ⟨l, h1, h2, h3⟩ := ops_of r fun a ha => hv a (List.mem_cons_of_mem _ ha)
    obtain ⟨cs, c1, c2⟩ := hv v (by simp)
    refine ⟨⟨v.kind, v.a, v.b, cs, v.dflt⟩ :: l, by simp [h1], fun o ho => ?_, fun i x o hx ho => ?_⟩
    · rcases List.mem_cons.1 ho with rfl | ho
      · exact c2
      · exact h2 o ho
    · cases i with
      | zero => simp at hx ho; subst hx; subst ho; exact ⟨rfl, rfl, rfl, rfl, c1⟩
      | succ i => exact h3 i x o (by simpa using hx) (by simpa using ho)

theorem opens_prog : Opens (α := SlV) enc w base sp held 36 (ProgRd w.heap) := fun fuel cs x h hz => by
  obtain ⟨sv, ys, rfl, r3, hq, m3⟩ := open_reads (α := OpV) Proofs.Tryz.underlying36 (by kernel_rfl) (by decide) (by kernel_rfl) opens_op h hz
  obtain ⟨l, h1, h2, h3⟩ := ops_of ys hq
  exact ⟨sv, rfl, l, ⟨ys, r3, h1, h3⟩, by omega, h2⟩

theorem progs_of {h : Heap} : ∀ (vs : List SlV), (∀ a ∈ vs, ProgRd h a) → ∃ l : List (List Op), vs.length = l.length ∧ (∀ p ∈ l, p.length ≤ 140737488351232 ∧ ∀ o ∈ p, o.cases.length ≤ 140737488351232) ∧ ∀ (i : Nat) (x : SlV) (o : List Op), vs[i]? = some x → l[i]? = some o → readsOps (ph h) x.v o
  | [], _ => ⟨[], rfl, fun o ho => by (cases ho), fun i x o hx => by simp at hx⟩
  | v :: r, hv => by
    obtain ⟨l, h1, h2, h3⟩ := progs_of r fun a ha => hv a (List.mem_cons_of_mem _ ha)
    obtain ⟨p, c1, c2, c3⟩ := hv v (by simp)
    refine ⟨p :: l, by simp [h1], fun o ho => ?_, fun i x o hx ho => ?_⟩
    · rcases List.mem_cons.1 ho with rfl | ho
      · exact ⟨c2, c3⟩
      · exact h2 o ho
    · cases i with
      | zero => simp at hx ho; subst hx; subst ho; exact c1
      | succ i => exact h3 i x o (by simpa using hx) (by simpa using ho)

/-- A script's sizes. -/
structure ScriptSz (x : Script) : Prop where
  programs : x.programs.length ≤ 140737488351232
  ops : ∀ p ∈ x.programs, p.length ≤ 140737488351232 ∧ ∀ o ∈ p, o.cases.length ≤ 140737488351232
  plan : x.plan.length ≤ 140737488351232
  draws : x.draws.length ≤ 140737488351232

theorem opens_script : Opens (α := ScriptV) enc w base sp held 25 (fun sv => ∃ x : Script, readsScript (ph w.heap) sv x ∧ ScriptSz x) := fun fuel cs x h hz => by
  obtain ⟨xs, n, _, rfl, hl, hn, hf⟩ := DataW.trod_struct Proofs.Tryz.underlying25 h
  rw [show P.cellsOf 25 = 5 by kernel_rfl] at hl
  obtain ⟨y0, g0⟩ := got (i := 0) hn (by simp)
  obtain ⟨y1, g1⟩ := got (i := 1) hn (by simp)
  obtain ⟨y2, g2⟩ := got (i := 2) hn (by simp)
  obtain ⟨y3, g3⟩ := got (i := 3) hn (by simp)
  obtain ⟨y4, g4⟩ := got (i := 4) hn (by simp)
  obtain ⟨a0, h0⟩ := field_int c1i ((hf 0 _ rfl).trans g0) (hz.part Proofs.Tryz.underlying25 rfl g0)
  obtain ⟨a1, h1⟩ := field_int c1i ((hf 1 _ rfl).trans g1) (hz.part Proofs.Tryz.underlying25 rfl g1)
  obtain ⟨pv, ps, e2, r2, q2, m2⟩ := open_reads (α := SlV) Proofs.Tryz.underlying22 (by kernel_rfl) (by decide) (by kernel_rfl) opens_prog ((hf 2 _ rfl).trans g2) (hz.part Proofs.Tryz.underlying25 rfl g2)
  obtain ⟨lv, l, e3, r3, _, m3⟩ := open_reads (α := Int) Proofs.Tryz.underlying23 (by kernel_rfl) (by decide) (by kernel_rfl) opens_int ((hf 3 _ rfl).trans g3) (hz.part Proofs.Tryz.underlying25 rfl g3)
  obtain ⟨dv, d, e4, r4, _, m4⟩ := open_reads (α := Int) Proofs.Tryz.underlying23 (by kernel_rfl) (by decide) (by kernel_rfl) opens_int ((hf 4 _ rfl).trans g4) (hz.part Proofs.Tryz.underlying25 rfl g4)
  have h2 := take_one' (show P.cellsOf 22 = 1 by kernel_rfl) e2
  have h3 := take_one' (show P.cellsOf 23 = 1 by kernel_rfl) e3
  have h4 := take_one' (show P.cellsOf 23 = 1 by kernel_rfl) e4
  obtain ⟨pl, p1, p2, p3⟩ := progs_of ps q2
  exact ⟨⟨a0, a1, pv, lv, dv⟩, list5 hl h0 h1 h2 h3 h4, ⟨a0, a1, pl, l, d⟩, ⟨rfl, rfl, ⟨ps, r2, p1, p3⟩, r3, r4⟩, ⟨by simpa [p1] using m2, p2, m3, m4⟩⟩

end
end Go.Sl
end

section
namespace Go.Sl
open Go
attribute [local irreducible] HT

/-! ### large -/

/-- What is gone through. -/
structure Small (x : Script) : Prop where
  programs : x.programs.length ≤ 20
  plan : x.plan.length ≤ 1000
  draws : x.draws.length ≤ 1000
  ops : ∀ p ∈ x.programs, p.length ≤ 100 ∧ ∀ o ∈ p, o.cases.length ≤ 3000

theorem law13_large {h : Heap} {sv : ScriptV} {x : Script} (hs : readsScript (ph h) sv x) (sz : ScriptSz x) : HT P 4 [agg sv] h fun r h' => ∃ b, r = .bool b ∧ (b = false → Small x) ∧ Ext h h' := by
  obtain ⟨t, m, ⟨pa, pn, pc⟩, ⟨qa, qn, qc⟩, ⟨da, dn, dc⟩⟩ := sv
  have e1 := hs.programs.len
  have e2 := readsP.len' hs.plan
  have e3 := readsP.len' hs.draws
  simp only at e1 e2 e3
  obtain ⟨vs, r1, r2, r3⟩ := hs.programs
  refine u4 ?_
  refine box [int t, int m, .slice pa pn pc, .slice qa qn qc, .slice da dn dc] (Sat.old h) rfl (fun b1 h1 x1 _ H => ?_)
  refine jn1 (fun t h' => t = .bool (decide (20 < x.programs.length ∨ 1000 < x.plan.length ∨ 1000 < x.draws.length)) ∧ h1 = h') ?_ ?_
  · intro K hK
    repeat' (first | refine jnI ?_ | refine gdI ?_ | refine gqI ?_ | refine fun (_ : Env) => ?_ | refine l0 H rfl ?_ | refine l1 H rfl ?_ | refine l2 H rfl ?_ | refine l3 H rfl ?_ | refine getA rfl ?_ | refine cmp (fun _ => ?_) (fun _ => ?_))
    all_goals exact hK _ _ ⟨by first | exact bT (by omega) | exact bF (by omega), rfl⟩
  rintro _ _ ⟨rfl, rfl⟩ _
  by_cases c0 : 20 < x.programs.length ∨ 1000 < x.plan.length ∨ 1000 < x.draws.length
  · rw [decide_eq_true c0]
    exact ⟨true, rfl, fun h => (by cases h), x1⟩
  rw [decide_eq_false c0]
  refine l0 H rfl ?_
  refine lp2 (Nat × Nat) (fun g => int g.2) (fun g => int g.1) (fun g h' => g.1 ≤ vs.length ∧ g.2 ≤ 3000 ∧ Sat h' [pt b1 (cells [int t, int m, .slice pa pn pc, .slice qa qn qc, .slice da dn dc] 25), old h] ∧ ∀ i, i < g.1 → ∀ p, x.programs[i]? = some p → p.length ≤ 100 ∧ ∀ o ∈ p, o.cases.length ≤ 3000) (fun g => vs.length - g.1) (0, 0) rfl rfl ⟨by omega, by omega, H, fun i hi => (by omega)⟩ ?_
  rintro ⟨k, n⟩ h2 ⟨hk, hn, H, hno⟩ _
  simp only at hk hn H hno
  have x2 := H.old_ext m1
  refine cmp (fun hlt => ?_) (fun hge => ?_)
  · have hlt' : k < vs.length := by omega
    have hx := List.getElem?_eq_getElem hlt'
    have hx' := List.getElem?_eq_getElem (show k < x.programs.length by omega)
    obtain ⟨b, o, e, _, hr⟩ := readsP.get (readsP.ext (h := h) r1 x2) hx
    have hp := r3 k _ _ hx hx'
    obtain ⟨⟨sa, sn, sc⟩, hsl⟩ : ∃ s, vs[k] = s := ⟨_, rfl⟩
    obtain ⟨pr, hpr⟩ : ∃ s, x.programs[k] = s := ⟨_, rfl⟩
    rw [hsl] at hp hr
    rw [hpr] at hp hx'
    have hpl : sn = pr.length := hp.len
    subst e
    refine idx k rfl (by omega) ?_
    refine rd1 (v := .slice sa sn sc) (hr 0 _ rfl) ?_
    refine cmp (fun c => ?_) (fun c => ?_)
    · exact ⟨true, rfl, fun h => (by cases h), x2⟩
    obtain ⟨ws, q1, q2, q3⟩ := hp
    refine lp2 (Nat × Nat) (fun g => int g.2) (fun g => int g.1) (fun g h' => g.1 ≤ ws.length ∧ g.2 ≤ 3000 ∧ Sat h' [pt b1 (cells [int t, int m, .slice (some ⟨b, o, none⟩) pn pc, .slice qa qn qc, .slice da dn dc] 25), old h] ∧ ∀ i, i < g.1 → ∀ o, pr[i]? = some o → o.cases.length ≤ 3000) (fun g => ws.length - g.1) (0, n) rfl rfl ⟨by omega, hn, H, fun i hi => (by omega)⟩ ?_
    rintro ⟨j, n'⟩ h3 ⟨hj, hn', H, hno2⟩ _
    simp only at hj hn' H hno2
    have x3 := H.old_ext m1
    refine cmp (fun hlt2 => ?_) (fun hge2 => ?_)
    · have hlt2' : j < ws.length := by omega
      have hy := List.getElem?_eq_getElem hlt2'
      have hy' := List.getElem?_eq_getElem (show j < pr.length by omega)
      obtain ⟨b', o', e', _, hr'⟩ := readsP.get (readsP.ext (h := h) q1 x3) hy
      obtain ⟨_, _, _, _, ke⟩ := q3 j _ _ hy hy'
      obtain ⟨⟨wk, wa, wb, ⟨wca, wcn, wcc⟩, wd⟩, hw⟩ : ∃ s, ws[j] = s := ⟨_, rfl⟩
      obtain ⟨oo, hoo⟩ : ∃ s, pr[j] = s := ⟨_, rfl⟩
      rw [hw] at hr' ke
      rw [hoo] at ke hy'
      have hcn : wcn = oo.cases.length := by obtain ⟨a, c, e⟩ := ke.len; injection e
      have hcm : oo.cases.length ≤ 140737488351232 := (sz.ops pr (List.mem_of_getElem? hx')).2 oo (List.mem_of_getElem? hy')
      subst e'
      refine idx j rfl (by omega) ?_
      refine rdn (vs := [int wk, int wa, int wb, .slice wca wcn wcc, .bool wd]) rfl hr' ?_
      refine nw H (fun b6 h6 x6 _ H => ?_)
      refine sA H [int wk, int wa, int wb, .slice wca wcn wcc, .bool wd] rfl rfl rfl rfl (fun h7 _ H => ?_)
      refine l0 H rfl ?_
      refine ari64 (by omega) ?_
      refine cmp (fun c3 => ?_) (fun c3 => ?_)
      · exact ⟨true, rfl, fun h => (by cases h), H.old_ext m2⟩
      · refine ari64 (by omega) ?_
        refine ⟨(j + 1, n' + wcn), by simp; omega, by simp, by simp, by simp; omega, by simp; omega, H.drop, fun i hi o ho => ?_⟩
        by_cases hij : i < j
        · exact hno2 i hij o ho
        · have : i = j := by simp at hi; omega
          subst this
          rw [hy'] at ho; injection ho with ho; subst ho; omega
    · have : j = pr.length := by omega
      refine ari64 (by omega) ?_
      refine ⟨(k + 1, n'), by simp; omega, rfl, by simp, by simp; omega, hn', H, fun i hi p hpi => ?_⟩
      by_cases hik : i < k
      · exact hno i hik p hpi
      · have : i = k := by simp at hi; omega
        subst this
        rw [hx'] at hpi; injection hpi with hpi; subst hpi
        refine ⟨by omega, fun o ho => ?_⟩
        obtain ⟨i, hi, rfl⟩ := List.mem_iff_getElem.1 ho
        exact hno2 i (by omega) _ (List.getElem?_eq_getElem hi)
  · refine ⟨false, rfl, fun _ => ⟨by omega, by omega, by omega, fun p hp => ?_⟩, x2⟩
    obtain ⟨i, hi, rfl⟩ := List.mem_iff_getElem.1 hp
    exact hno i (by omega) _ (List.getElem?_eq_getElem hi)

end Go.Sl
end

section
namespace Go.Sl
open Go
attribute [local irreducible] HT

theorem rowK {α : Type} [Cel α] {T n : Nat} {z : List Value} {ps : List ((Nat × Nat) × Value)} {h : Heap} {K : Value → Heap → Prop} (xs : List α) (hf : fillW z ps = some (flat xs)) (hn : xs.length = n)
    (k : ∀ a h', Ext h h' → reads h' (.slice a n n) xs → K (.slice a n n) h') : ROW T z ps n h K := by
  subst hn
  refine ⟨_, hf, k _ _ (Ext.push _ _) (row_reads (T := T) (L := [whole h]) xs ((Sat.whole h).push _) rfl)⟩

/-- The script of the example. -/
def hand : Script := ⟨9, 9, [[⟨2, 0, 0, [], false⟩, ⟨1, 1, 0, [], false⟩, ⟨4, 0, 0, [], false⟩], [⟨3, 0, 5, [], false⟩]], [0, 0, 0, 0], []⟩

theorem hand_check : checkOf hand = 0 := by decide +kernel
theorem hand_verdict : (Lm.last hand).verdict = 4 := by decide +kernel
theorem hand_trace : ∃ e0 e1 e2 e3 e4 : Ev, (Lm.last hand).trace = [e0, e1, e2, e3, e4] ∧ e2.kind = 6 ∧ e3.kind = 3 ∧ e3.mate = 0 ∧ e4.kind = 7 ∧ e4.value = 5 := by
  have h : (Lm.last hand).trace.length = 5 ∧ ((Lm.last hand).trace[2]?.map (·.kind)) = some 6 ∧ ((Lm.last hand).trace[3]?.map fun e => (e.kind, e.mate)) = some (3, 0) ∧ ((Lm.last hand).trace[4]?.map fun e => (e.kind, e.value)) = some (7, 5) := by decide +kernel
  generalize (Lm.last hand).trace = l at h
  obtain ⟨h0, h1, h2, h3⟩ := h
  match l, h0 with
  | [e0, e1, e2, e3, e4], _ =>
    simp at h1 h2 h3
    exact ⟨e0, e1, e2, e3, e4, rfl, h1, h2.1, h2.2, h3.1, h3.2⟩

theorem ops_in {h : Heap} {v : Value} {vs : List OpV} {l : List Op} (r : reads h v vs) (hl : vs.length = l.length)
    (hx : ∀ (i : Nat) (x : OpV) (o : Op), vs[i]? = some x → l[i]? = some o → x.kind = o.kind ∧ x.a = o.a ∧ x.b = o.b ∧ x.dflt = o.dflt ∧ x.cases = ⟨none, 0, 0⟩ ∧ o.cases = []) : readsOps (ph h) v l :=
  ⟨vs, r, hl, fun i x o h1 h2 => by
    obtain ⟨a, b, c, d, e, f⟩ := hx i x o h1 h2
    refine ⟨a, b, c, d, ?_⟩
    rw [e, f]; exact readsP.nil _⟩

theorem hand_big : (∀ p ∈ hand.programs, ∀ o ∈ p, o.cases.length ≤ 1000000) := by
  intro p hp o ho
  simp [hand] at hp
  rcases hp with rfl | rfl
  · simp at ho; rcases ho with rfl | rfl | rfl <;> simp
  · simp at ho; subst ho; simp

theorem law13_hands (h : Heap) : HT P 6 [] h fun r h' => r = .bool true ∧ Ext h h' := by
  refine u6 ?_
  refine fil rfl ?_
  refine fil rfl ?_
  refine fil rfl ?_
  refine rowK (α := OpV) [⟨2, 0, 0, ⟨none, 0, 0⟩, false⟩, ⟨1, 1, 0, ⟨none, 0, 0⟩, false⟩, ⟨4, 0, 0, ⟨none, 0, 0⟩, false⟩] rfl rfl (fun a1 h1 x1 r1 => ?_)
  refine fil rfl ?_
  refine rowK (α := OpV) [⟨3, 0, 5, ⟨none, 0, 0⟩, false⟩] rfl rfl (fun a2 h2 x2 r2 => ?_)
  refine rowK (α := SlV) [⟨a1, 3, 3⟩, ⟨a2, 1, 1⟩] rfl rfl (fun a3 h3 x3 r3 => ?_)
  refine rowK (α := Int) [0, 0, 0, 0] rfl rfl (fun a4 h4 x4 r4 => ?_)
  refine fil rfl ?_
  have r1 := r1.ext (x2.trans (x3.trans x4))
  have r2 := r2.ext (x3.trans x4)
  have r3 := r3.ext x4
  have rs : readsScript (ph h4) ⟨9, 9, ⟨a3, 2, 2⟩, ⟨a4, 4, 4⟩, ⟨none, 0, 0⟩⟩ hand := by
    refine ⟨rfl, rfl, ⟨_, r3, rfl, fun i x o hx ho => ?_⟩, r4, readsP.nil _⟩
    match i with
    | 0 =>
      simp [hand] at hx ho; subst hx; subst ho
      refine ops_in r1 rfl fun i x o hx ho => ?_
      match i with
      | 0 => simp at hx ho; subst hx; subst ho; simp
      | 1 => simp at hx ho; subst hx; subst ho; simp
      | 2 => simp at hx ho; subst hx; subst ho; simp
      | i + 3 => simp at hx
    | 1 =>
      simp [hand] at hx ho; subst hx; subst ho
      refine ops_in r2 rfl fun i x o hx ho => ?_
      match i with
      | 0 => simp at hx ho; subst hx; subst ho; simp
      | i + 1 => simp at hx
    | i + 2 => simp at hx
  refine call (loom_Run rs (by decide) hand_big (Sat.whole h4) hand_check) ?_
  rintro _ h5 ⟨tv, rfl, x5, H⟩
  obtain ⟨e0, e1, e2, e3, e4, he, k2, k3, m3, k4, v4⟩ := hand_trace
  rw [hand_verdict]
  rw [he] at H
  have hr := own_reads H m0
  obtain ⟨a, c, rfl⟩ := hr.len
  refine getA (v := .slice a 5 c) rfl ?_
  refine getA (v := int 4) rfl ?_
  obtain ⟨b2, o2, q2, _, g2⟩ := hr.get (i := 2) rfl
  obtain ⟨b3, o3, q3, _, g3⟩ := hr.get (i := 3) rfl
  obtain ⟨b4, o4, q4, _, g4⟩ := hr.get (i := 4) rfl
  subst q2
  injection q3 with q3; injection q3 with q3 q3'
  injection q4 with q4; injection q4 with q4 q4'
  subst q3; subst q3'; subst q4; subst q4'
  have xx : Ext h h5 := x1.trans (x2.trans (x3.trans (x4.trans x5)))
  refine jn1 (fun t h' => t = .bool true ∧ h' = h5) ?_ (fun _ _ h _ => ⟨h.1, by rw [h.2]; exact xx⟩)
  intro K hK
  have c20 := g2 0 _ rfl
  have c30 := g3 0 _ rfl
  have c35 := g3 5 _ rfl
  have c40 := g4 0 _ rfl
  have c44 := g4 4 _ rfl
  simp only [k2, k3, m3, k4, v4] at c20 c30 c35 c40 c44
  repeat (first | refine jnI ?_ | refine gdI ?_ | refine gqI ?_ | refine cmpT rfl ?_ | refine idx 2 rfl (by decide) ?_ | refine idx 3 rfl (by decide) ?_ | refine idx 4 rfl (by decide) ?_ | refine rd1 c20 ?_ | refine rd1 c30 ?_ | refine rd1 c35 ?_ | refine rd1 c40 ?_ | refine rd1 c44 ?_)
  exact hK _ _ ⟨rfl, rfl⟩

end Go.Sl
end

section
namespace Go.Sl
open Go
attribute [local irreducible] HT

instance : Cel ByteArray := ⟨1, fun s => [.string s], fun _ => rfl, fun _ => rfl⟩

def withinB (n c p : Int) : Bool :=
  if c = 112 then decide (0 ≤ n ∧ n < p) else if c = 99 ∨ c = 120 then decide (0 ≤ n ∧ n < 8) else if c = 109 then decide (0 ≤ n ∧ n ≤ 4) else if c = 118 then decide (0 ≤ n ∧ n ≤ 99) else decide (n = 0)

theorem ref04_within {h : Heap} {n c p : Int} : HT P 19 [int n, .int .u8 c, int p] h fun v h' => v = .bool (withinB n c p) ∧ h' = h := by
  refine u19 ?_
  unfold withinB
  repeat' (first | refine jnI ?_ | refine gdI ?_ | refine gqI ?_ | refine fun (_ : Env) => ?_ | refine l0 H rfl ?_ | refine l1 H rfl ?_ | refine l2 H rfl ?_ | refine l3 H rfl ?_ | refine getA rfl ?_ | refine cmp (fun _ => ?_) (fun _ => ?_))
  all_goals refine ⟨?_, rfl⟩
  all_goals (repeat' split) <;> first | (exfalso; omega) | exact bT (by omega) | exact bF (by omega)

def signsOf (k : Int) : Int × Int :=
  if k = 1 then (112, 46) else if k = 2 then (99, 109) else if k = 3 then (99, 118) else if k = 4 ∨ k = 5 then (99, 46) else if k = 6 ∨ k = 9 then (46, 46) else (120, 46)

theorem ref04_row {h : Heap} {k : Int} (hk : 1 ≤ k ∧ k ≤ 9) : HT P 18 [int k] h fun r h' => ∃ (s : ByteArray) (b0 b1 : UInt8), r = .string s ∧ s[0]? = some b0 ∧ s[1]? = some b1 ∧ (b0.toNat : Int) = (signsOf k).1 ∧ (b1.toNat : Int) = (signsOf k).2 ∧ Ext h h' := by
  refine u18 ?_
  refine rowK (α := ByteArray) [⟨#[]⟩, ⟨#[112, 46]⟩, ⟨#[99, 109]⟩, ⟨#[99, 118]⟩, ⟨#[99, 46]⟩, ⟨#[99, 46]⟩, ⟨#[46, 46]⟩, ⟨#[120, 46]⟩, ⟨#[120, 46]⟩, ⟨#[46, 46]⟩] rfl rfl (fun a h1 x1 r1 => ?_)
  have hh : k = 1 ∨ k = 2 ∨ k = 3 ∨ k = 4 ∨ k = 5 ∨ k = 6 ∨ k = 7 ∨ k = 8 ∨ k = 9 := by omega
  rcases hh with rfl | rfl | rfl | rfl | rfl | rfl | rfl | rfl | rfl
  · obtain ⟨b, o, e, _, hr⟩ := r1.get (i := 1) rfl
    subst e
    exact idx 1 rfl (by decide) (rd1 (hr 0 _ rfl) ⟨_, _, _, rfl, rfl, rfl, by decide, by decide, x1⟩)
  · obtain ⟨b, o, e, _, hr⟩ := r1.get (i := 2) rfl
    subst e
    exact idx 2 rfl (by decide) (rd1 (hr 0 _ rfl) ⟨_, _, _, rfl, rfl, rfl, by decide, by decide, x1⟩)
  · obtain ⟨b, o, e, _, hr⟩ := r1.get (i := 3) rfl
    subst e
    exact idx 3 rfl (by decide) (rd1 (hr 0 _ rfl) ⟨_, _, _, rfl, rfl, rfl, by decide, by decide, x1⟩)
  · obtain ⟨b, o, e, _, hr⟩ := r1.get (i := 4) rfl
    subst e
    exact idx 4 rfl (by decide) (rd1 (hr 0 _ rfl) ⟨_, _, _, rfl, rfl, rfl, by decide, by decide, x1⟩)
  · obtain ⟨b, o, e, _, hr⟩ := r1.get (i := 5) rfl
    subst e
    exact idx 5 rfl (by decide) (rd1 (hr 0 _ rfl) ⟨_, _, _, rfl, rfl, rfl, by decide, by decide, x1⟩)
  · obtain ⟨b, o, e, _, hr⟩ := r1.get (i := 6) rfl
    subst e
    exact idx 6 rfl (by decide) (rd1 (hr 0 _ rfl) ⟨_, _, _, rfl, rfl, rfl, by decide, by decide, x1⟩)
  · obtain ⟨b, o, e, _, hr⟩ := r1.get (i := 7) rfl
    subst e
    exact idx 7 rfl (by decide) (rd1 (hr 0 _ rfl) ⟨_, _, _, rfl, rfl, rfl, by decide, by decide, x1⟩)
  · obtain ⟨b, o, e, _, hr⟩ := r1.get (i := 8) rfl
    subst e
    exact idx 8 rfl (by decide) (rd1 (hr 0 _ rfl) ⟨_, _, _, rfl, rfl, rfl, by decide, by decide, x1⟩)
  · obtain ⟨b, o, e, _, hr⟩ := r1.get (i := 9) rfl
    subst e
    exact idx 9 rfl (by decide) (rd1 (hr 0 _ rfl) ⟨_, _, _, rfl, rfl, rfl, by decide, by decide, x1⟩)

end Go.Sl
end

section
namespace Go.Sl
open Go
attribute [local irreducible] HT

theorem gets {s : ByteArray} {j : Int} {K : Value → Prop} (i : Nat) {b : UInt8} {c : Int} (hj : j = (i : Int)) (hb : s[i]? = some b) (hc : (b.toNat : Int) = c) (k : K (.int .u8 c)) : GETS s j K := ⟨i, b, hj, hb, by rw [hc]; exact k⟩

def opW (o : Op) (p : Int) : Bool := !(withinB o.a (signsOf o.kind).1 p) || !(withinB o.b (signsOf o.kind).2 p)
def opX (o : Op) : Bool := decide (o.kind ≠ 6) && (decide ((o.cases.length : Int) ≠ 0) || o.dflt)
def caseW (c : Cs) : Bool := (!(withinB c.chan 99 0) || (c.send && !(withinB c.value 118 0))) || (!c.send && decide (c.value ≠ 0))

theorem case_ok {c : Cs} (h : caseW c = false) : caseBad c = false := by
  obtain ⟨send, chan, value⟩ := c
  cases send
  · simp [caseW, withinB] at h
    simp [caseBad, belowB]; omega
  · simp [caseW, withinB] at h
    simp [caseBad, belowB]; omega

theorem op_ok {o : Op} {p : Int} (hk : 1 ≤ o.kind ∧ o.kind ≤ 9) (hp : 1 ≤ p ∧ p ≤ 8) (h1 : opW o p = false) (h2 : opX o = false) : opBad o p = false := by
  obtain ⟨kind, a, b, cs, d⟩ := o
  simp only at hk
  have h3 : (decide (kind ≠ 6) && (decide ((cs.length : Int) > 0) || d)) = false := by
    unfold opX at h2
    rw [← h2]
    have e : decide ((cs.length : Int) > 0) = decide ((cs.length : Int) ≠ 0) := decide_eq_decide.2 (by omega)
    show (decide (kind ≠ 6) && (decide ((cs.length : Int) > 0) || d)) = (decide (kind ≠ 6) && (decide ((cs.length : Int) ≠ 0) || d))
    rw [e]
  unfold opBad
  rw [h3, Bool.or_false]
  unfold opW at h1
  rw [Bool.or_eq_false_iff, Bool.not_eq_false', Bool.not_eq_false'] at h1 ⊢
  obtain ⟨w1, w2⟩ := h1
  have hh : kind = 1 ∨ kind = 2 ∨ kind = 3 ∨ kind = 4 ∨ kind = 5 ∨ kind = 6 ∨ kind = 7 ∨ kind = 8 ∨ kind = 9 := by omega
  rcases hh with rfl | rfl | rfl | rfl | rfl | rfl | rfl | rfl | rfl <;> simp [signsOf, withinB] at w1 w2 <;> simp [limitsOf, fitsB, belowB] <;> (try (split <;> omega)) <;> (try omega)
  all_goals (first | (constructor <;> (try split) <;> omega) | skip)

theorem ref04_Check {h : Heap} {ov : OpV} {o : Op} {p : Int} (h1 : ov.kind = o.kind) (h2 : ov.a = o.a) (h3 : ov.b = o.b) (h4 : ov.dflt = o.dflt) (h5 : reads h ov.cases.v o.cases) :
    HT P 10 [agg ov, int p] h fun v h' => ∃ e : Int, v = int e ∧ (e = 0 → deedCheck o p = 0) ∧ Ext h h' := by
  obtain ⟨kind, a, b, cases, dflt⟩ := o
  obtain ⟨kind', a', b', cv, dflt'⟩ := ov
  simp only at h1 h2 h3 h4 h5
  subst h1; subst h2; subst h3; subst h4
  obtain ⟨ca, cn, cc⟩ := cv
  obtain ⟨_, _, e⟩ := h5.len
  injection e with _ e2 _
  subst e2
  have h5 : reads h (.slice ca cases.length cc) cases := h5
  refine u10 ?_
  refine box [int kind', int a', int b', .slice ca cases.length cc, .bool dflt'] (Sat.old h) rfl (fun b0 h1 x1 _ H => ?_)
  refine jn1 (fun t h' => t = .bool (decide (p < 1 ∨ p > 8 ∨ kind' < 1 ∨ kind' > 9)) ∧ h1 = h') ?_ ?_
  · intro K hK
    repeat' (first | refine jnI ?_ | refine gdI ?_ | refine gqI ?_ | refine fun (_ : Env) => ?_ | refine l0 H rfl ?_ | refine l1 H rfl ?_ | refine l2 H rfl ?_ | refine l3 H rfl ?_ | refine getA rfl ?_ | refine cmp (fun _ => ?_) (fun _ => ?_))
    all_goals exact hK _ _ ⟨by first | exact bT (by omega) | exact bF (by omega), rfl⟩
  rintro _ _ ⟨rfl, rfl⟩ _
  by_cases c0 : p < 1 ∨ p > 8 ∨ kind' < 1 ∨ kind' > 9
  · rw [decide_eq_true c0]; exact ⟨1, rfl, fun h => (by cases h), x1⟩
  rw [decide_eq_false c0]
  refine l0 H rfl ?_
  refine cmp (fun c1 => ?_) (fun c1 => ?_)
  · exact ⟨2, rfl, fun h => (by cases h), x1⟩
  refine l0 H rfl ?_
  refine call (ref04_row (by omega)) ?_
  rintro _ h2 ⟨s, s0, s1, rfl, e0, e1, q0, q1, x2⟩
  have H := H.ext x2
  have x2 := x1.trans x2
  clear x1
  refine jn1 (fun t h' => t = .bool (opW ⟨kind', a', b', cases, dflt'⟩ p) ∧ h2 = h') ?_ ?_
  · intro K hK
    cases f1 : withinB a' (signsOf kind').1 p <;> cases f2 : withinB b' (signsOf kind').2 p
    all_goals repeat' (first | refine jnI ?_ | refine gdI ?_ | refine gqI ?_ | refine fun (_ : Env) => ?_ | refine gets 0 rfl e0 q0 ?_ | refine gets 1 rfl e1 q1 ?_ | (refine callE ref04_within ?_; (first | rw [f1] | rw [f2])) | refine l0 H rfl ?_ | refine l1 H rfl ?_ | refine l2 H rfl ?_ | refine l3 H rfl ?_ | refine getA rfl ?_ | refine cmp (fun _ => ?_) (fun _ => ?_))
    all_goals exact hK _ _ ⟨by simp [opW, f1, f2], rfl⟩
  rintro _ _ ⟨rfl, rfl⟩ _
  cases c2 : opW ⟨kind', a', b', cases, dflt'⟩ p with
  | true => exact ⟨4, rfl, fun h => (by cases h), x2⟩
  | false =>
  refine jn1 (fun t h' => t = .bool (opX ⟨kind', a', b', cases, dflt'⟩) ∧ h2 = h') ?_ ?_
  · intro K hK
    by_cases k6 : kind' = 6 <;> by_cases kl : (cases.length : Int) = 0 <;> cases dflt'
    all_goals repeat' (first | refine jnI ?_ | refine gdI ?_ | refine gqI ?_ | refine fun (_ : Env) => ?_ | refine l0 H rfl ?_ | refine l1 H rfl ?_ | refine l2 H rfl ?_ | refine l3 H rfl ?_ | refine getA rfl ?_ | refine cmp (fun _ => ?_) (fun _ => ?_))
    all_goals exact hK _ _ ⟨by first | (exfalso; omega) | (simp [opX, k6, kl]; done) | (simp [opX, k6]; omega) | (simp [opX, k6]; intro e; exact kl (by rw [e]; rfl)), rfl⟩
  rintro _ _ ⟨rfl, rfl⟩ _
  cases c3 : opX ⟨kind', a', b', cases, dflt'⟩ with
  | true => exact ⟨4, rfl, fun h => (by cases h), x2⟩
  | false =>
    refine l0 H rfl ?_
    refine lp1 Nat (fun k => int k) (fun k h' => k ≤ cases.length ∧ Ext h h' ∧ ∀ i, i < k → ∀ c, cases[i]? = some c → caseW c = false) (fun k => cases.length - k) 0 rfl ⟨by omega, x2, fun i hi => by omega⟩ ?_
    rintro k h3 ⟨hk, x3, hno⟩ _
    refine cmp (fun hlt => ?_) (fun hge => ?_)
    · have hlt' : k < cases.length := by omega
      have hx := List.getElem?_eq_getElem hlt'
      obtain ⟨b, o, e, _, hr⟩ := readsP.get (h5.ext x3) hx
      subst e
      refine idx k rfl hlt' ?_
      refine rdn (vs := Cel.cells cases[k]) rfl hr ?_
      refine nw (Sat.old h3) (fun b3 h4 _ _ H3 => ?_)
      refine sA H3 (Cel.cells cases[k]) rfl rfl rfl rfl (fun h4 _ H4 => ?_)
      have x4 := x3.trans (H4.old_ext m1)
      obtain ⟨c, hc⟩ : ∃ c, cases[k] = c := ⟨_, rfl⟩
      have H : Sat h4 [pt b3 (cells (Cel.cells c) 52), old h3] := hc ▸ H4
      have hx' : cases[k]? = some c := hc ▸ hx
      clear H3 H4 hx hr hc
      obtain ⟨send, chan, value⟩ := c
      refine jn1 (fun t h' => t = .bool (caseW ⟨send, chan, value⟩) ∧ h4 = h') ?_ ?_
      · intro K hK
        cases f1 : withinB chan 99 0 <;> cases f2 : withinB value 118 0 <;> cases send <;> by_cases f3 : value = 0
        all_goals repeat' (first | refine jnI ?_ | refine gdI ?_ | refine gqI ?_ | refine fun (_ : Env) => ?_ | refine callE ref04_within ?_; (first | rw [f1] | rw [f2]) | refine l0 H rfl ?_ | refine l1 H rfl ?_ | refine l2 H rfl ?_ | refine l3 H rfl ?_ | refine getA rfl ?_ | refine cmp (fun _ => ?_) (fun _ => ?_))
        all_goals exact hK _ _ ⟨by first | (exfalso; omega) | (simp [caseW, *]; done) | (simp [caseW, f1, f2, f3]; done) | (simp [caseW, f1, f2]; done) | (simp [caseW, f1, f2]; omega), rfl⟩
      rintro _ _ ⟨rfl, rfl⟩ _
      cases c4 : caseW ⟨send, chan, value⟩ with
      | true => exact ⟨4, rfl, fun h => (by cases h), x4⟩
      | false =>
        refine ari64 (by omega) ?_
        exact ⟨k + 1, by omega, rfl, hlt', x4, any_next hno hx' c4⟩
    · refine ⟨0, rfl, fun _ => ?_, x3⟩
      have hk' : k = cases.length := by omega
      subst hk'
      simp only [deedCheck]
      rw [if_neg c0, if_neg c1, op_ok (o := ⟨kind', a', b', cases, dflt'⟩) (show 1 ≤ kind' ∧ kind' ≤ 9 by omega) ⟨by omega, by omega⟩ c2 c3]
      have : cases.any caseBad = false := by
        rw [List.any_eq_false]
        intro c hc
        obtain ⟨i, hi, rfl⟩ := List.mem_iff_getElem.1 hc
        have := case_ok (hno i hi _ (List.getElem?_eq_getElem hi))
        simp [this]
      rw [this]; rfl

end Go.Sl
end

section
namespace Go.Sl
open Go
attribute [local irreducible] HT

theorem outB_eq {lo hi n : Int} : outB lo hi n = decide (n < lo ∨ n > hi) := by simp [outB, Bool.decide_or]

theorem ref05_Check {h : Heap} {sv : ScriptV} {x : Script} (hs : readsScript (ph h) sv x) :
    HT P 5 [agg sv] h fun r h' => ∃ e : Int, r = int e ∧ (e = 0 → checkOf x = 0) ∧ Ext h h' := by
  obtain ⟨t, m, ⟨pa, pn, pc⟩, ⟨qa, qn, qc⟩, ⟨da, dn, dc⟩⟩ := sv
  have et := hs.t
  have em := hs.m
  simp only at et em
  subst et; subst em
  have e1 := hs.programs.len
  have e2 := readsP.len' hs.plan
  have e3 := readsP.len' hs.draws
  simp only at e1 e2 e3
  subst e1; subst e2; subst e3
  obtain ⟨vs, r1, r2, r3⟩ := hs.programs
  have r4 := hs.plan
  have r5 := hs.draws
  simp only at r4 r5
  refine u5 ?_
  refine box [int x.t, int x.m, .slice pa x.programs.length pc, .slice qa x.plan.length qc, .slice da x.draws.length dc] (Sat.old h) rfl (fun b1 h1 x1 _ H => ?_)
  refine jn1 (fun tt h' => tt = .bool (decide (x.t < 1 ∨ x.t > 256 ∨ x.m < 1 ∨ x.m > 1048576)) ∧ h1 = h') ?_ ?_
  · intro K hK
    repeat' (first | refine jnI ?_ | refine gdI ?_ | refine gqI ?_ | refine fun (_ : Env) => ?_ | refine l0 H rfl ?_ | refine l1 H rfl ?_ | refine l2 H rfl ?_ | refine l3 H rfl ?_ | refine getA rfl ?_ | refine cmp (fun _ => ?_) (fun _ => ?_))
    all_goals exact hK _ _ ⟨by first | exact bT (by omega) | exact bF (by omega), rfl⟩
  rintro _ _ ⟨rfl, rfl⟩ _
  by_cases c0 : x.t < 1 ∨ x.t > 256 ∨ x.m < 1 ∨ x.m > 1048576
  · rw [decide_eq_true c0]; exact ⟨1, rfl, fun h => (by cases h), x1⟩
  rw [decide_eq_false c0]
  refine jn1 (fun tt h' => tt = .bool (decide (8 < x.programs.length ∨ 200 < x.plan.length ∨ 64 < x.draws.length)) ∧ h1 = h') ?_ ?_
  · intro K hK
    repeat' (first | refine jnI ?_ | refine gdI ?_ | refine gqI ?_ | refine fun (_ : Env) => ?_ | refine l0 H rfl ?_ | refine l1 H rfl ?_ | refine l2 H rfl ?_ | refine l3 H rfl ?_ | refine getA rfl ?_ | refine cmp (fun _ => ?_) (fun _ => ?_))
    all_goals exact hK _ _ ⟨by first | exact bT (by omega) | exact bF (by omega), rfl⟩
  rintro _ _ ⟨rfl, rfl⟩ _
  by_cases c1 : 8 < x.programs.length ∨ 200 < x.plan.length ∨ 64 < x.draws.length
  · rw [decide_eq_true c1]; exact ⟨2, rfl, fun h => (by cases h), x1⟩
  rw [decide_eq_false c1]
  refine l0 H rfl ?_
  refine lp1 Nat (fun k => int k) (fun k h' => h1 = h' ∧ k ≤ x.programs.length ∧ ∀ i, i < k → ∀ p, x.programs[i]? = some p → p.length ≤ 32) (fun k => x.programs.length - k) 0 rfl ⟨rfl, by omega, fun i hi => by omega⟩ ?_
  rintro k _ ⟨rfl, hk, hno⟩ _
  have got : ∀ (k : Nat) (h' : Heap), Ext h h' → k < x.programs.length → ∃ (v : SlV) (p : List Op), vs[k]? = some v ∧ x.programs[k]? = some p ∧ readsOps (ph h) v.v p ∧ ∃ b o, pa = some ⟨b, o, none⟩ ∧ cellAt h' b (o + k * 1) = some v.v := by
    intro k h' x' hk
    have hlt' : k < vs.length := by omega
    have hx := List.getElem?_eq_getElem hlt'
    have hx' := List.getElem?_eq_getElem hk
    obtain ⟨b, o, e, _, hr⟩ := readsP.get (readsP.ext (h := h) r1 x') hx
    exact ⟨_, _, hx, hx', r3 k _ _ hx hx', b, o, e, hr 0 _ rfl⟩
  refine cmp (fun hlt => ?_) (fun hge => ?_)
  · obtain ⟨⟨sa, sn, sc⟩, p, hx, hx', ro, b, o, e, hr⟩ := got k h1 x1 (by omega)
    have hpl : sn = p.length := ro.len
    subst e
    refine idx k rfl (by omega) ?_
    refine rd1 (v := .slice sa sn sc) hr ?_
    refine cmp (fun c => ?_) (fun c => ?_)
    · exact ⟨2, rfl, fun h => (by cases h), x1⟩
    · refine ari64 (by omega) ?_
      refine ⟨k + 1, by omega, rfl, rfl, by omega, fun i hi q hq => ?_⟩
      by_cases hik : i < k
      · exact hno i hik q hq
      · have : i = k := by omega
        subst this
        rw [hx'] at hq; injection hq with hq; subst hq; omega
  have hk' : k = x.programs.length := by omega
  subst hk'
  clear hge hk
  refine l0 H rfl ?_
  refine cmp (fun c2 => ?_) (fun c2 => ?_)
  · exact ⟨4, rfl, fun h => (by cases h), x1⟩
  refine l0 H rfl ?_
  refine lp1 Nat (fun k => int k) (fun k h' => Sat h' [pt b1 (cells [int x.t, int x.m, .slice pa x.programs.length pc, .slice qa x.plan.length qc, .slice da x.draws.length dc] 25), old h] ∧ k ≤ x.programs.length ∧ ∀ i, i < k → ∀ p, x.programs[i]? = some p → p.any (opWrong x.programs.length) = false) (fun k => x.programs.length - k) 0 rfl ⟨H, by omega, fun i hi => by omega⟩ ?_
  rintro k h2 ⟨H, hk, hno2⟩ _
  have x2 := H.old_ext m1
  refine cmp (fun hlt => ?_) (fun hge => ?_)
  · obtain ⟨⟨sa, sn, sc⟩, p, hx, hx', ro, b, o, e, hr⟩ := got k h2 x2 (by omega)
    have hpl : sn = p.length := ro.len
    have hp32 := hno k (by omega) p hx'
    obtain ⟨ws, q1, q2, q3⟩ := ro
    subst e
    refine idx k rfl (by omega) ?_
    refine rd1 (v := .slice sa sn sc) hr ?_
    refine lp1 Nat (fun j => int j) (fun j h' => Sat h' [pt b1 (cells [int x.t, int x.m, .slice (some ⟨b, o, none⟩) x.programs.length pc, .slice qa x.plan.length qc, .slice da x.draws.length dc] 25), old h] ∧ j ≤ p.length ∧ ∀ i, i < j → ∀ o, p[i]? = some o → opWrong x.programs.length o = false) (fun j => p.length - j) 0 rfl ⟨H, by omega, fun i hi => by omega⟩ ?_
    rintro j h3 ⟨H, hj, hno3⟩ _
    have x3 := H.old_ext m1
    refine cmp (fun hlt2 => ?_) (fun hge2 => ?_)
    · have hlt2' : j < ws.length := by omega
      have hy := List.getElem?_eq_getElem hlt2'
      have hy' := List.getElem?_eq_getElem (show j < p.length by omega)
      obtain ⟨b', o', e', _, hr'⟩ := readsP.get (readsP.ext (h := h) q1 x3) hy
      have kk := q3 j _ _ hy hy'
      generalize ws[j] = ov at hr' kk
      obtain ⟨oo, hoo⟩ : ∃ s, p[j] = s := ⟨_, rfl⟩
      rw [hoo] at kk hy'
      obtain ⟨k1, k2, k3, k4, k5⟩ := kk
      subst e'
      refine idx j rfl (by omega) ?_
      refine rdn (vs := Cel.cells ov) rfl hr' ?_
      refine nw H (fun b6 h6 x6 _ H => ?_)
      refine sA H (Cel.cells ov) rfl rfl rfl rfl (fun h7 _ H => ?_)
      refine lA H rfl ?_
      refine l1 (v := .slice (some ⟨b, o, none⟩) x.programs.length pc) H rfl ?_
      have x7 := H.old_ext m2
      refine call (ref04_Check k1 k2 k3 k4 (readsP.ext (h := h) k5 x7)) ?_
      rintro _ h8 ⟨e, rfl, he, x8⟩
      refine cmp (fun c3 => ?_) (fun c3 => ?_)
      · exact ⟨4, rfl, fun h => (by cases h), x7.trans x8⟩
      · have he := he (by omega)
        refine ari64 (by omega) ?_
        refine ⟨j + 1, by omega, rfl, (H.ext x8).drop, by omega, fun i hi o ho => ?_⟩
        by_cases hij : i < j
        · exact hno3 i hij o ho
        · have : i = j := by omega
          subst this
          rw [hy'] at ho; injection ho with ho; subst ho
          simp [opWrong, he]
    · refine ari64 (by omega) ?_
      refine ⟨k + 1, by omega, rfl, H, by omega, fun i hi q hq => ?_⟩
      by_cases hik : i < k
      · exact hno2 i hik q hq
      · have : i = k := by omega
        subst this
        rw [hx'] at hq; injection hq with hq; subst hq
        rw [List.any_eq_false]
        intro o ho
        obtain ⟨i, hi, rfl⟩ := List.mem_iff_getElem.1 ho
        have := hno3 i (by omega) _ (List.getElem?_eq_getElem hi)
        simp [this]
  have hk' : k = x.programs.length := by omega
  subst hk'
  clear hge hk
  refine l0 H rfl ?_
  refine lp1 Nat (fun k => int k) (fun k h' => h2 = h' ∧ k ≤ x.plan.length ∧ ∀ i, i < k → ∀ n, x.plan[i]? = some n → outB (-1) 1000 n = false) (fun k => x.plan.length - k) 0 rfl ⟨rfl, by omega, fun i hi => by omega⟩ ?_
  rintro k _ ⟨rfl, hk, hno4⟩ _
  refine cmp (fun hlt => ?_) (fun hge => ?_)
  · have hlt' : k < x.plan.length := by omega
    have hx := List.getElem?_eq_getElem hlt'
    obtain ⟨b, o, e, _, hr⟩ := readsP.get (readsP.ext (h := h) r4 x2) hx
    generalize x.plan[k] = n at hr hx
    subst e
    refine idx k rfl (by omega) ?_
    refine rd1 (v := int n) (hr 0 _ rfl) ?_
    refine jn1 (fun tt h' => tt = .bool (decide (n < -1 ∨ n > 1000)) ∧ h2 = h') ?_ ?_
    · intro K hK
      repeat' (first | refine jnI ?_ | refine gdI ?_ | refine gqI ?_ | refine fun (_ : Env) => ?_ | refine l0 H rfl ?_ | refine l1 H rfl ?_ | refine l2 H rfl ?_ | refine l3 H rfl ?_ | refine getA rfl ?_ | refine cmp (fun _ => ?_) (fun _ => ?_))
      all_goals exact hK _ _ ⟨by first | exact bT (by omega) | exact bF (by omega), rfl⟩
    rintro _ _ ⟨rfl, rfl⟩ _
    rw [← outB_eq]
    cases c3 : outB (-1) 1000 n with
    | true => exact ⟨4, rfl, fun h => (by cases h), x2⟩
    | false =>
      refine ari64 (by omega) ?_
      exact ⟨k + 1, by omega, rfl, rfl, hlt', any_next hno4 hx c3⟩
  have hk' : k = x.plan.length := by omega
  subst hk'
  clear hge hk
  refine l0 H rfl ?_
  refine lp1 Nat (fun k => int k) (fun k h' => h2 = h' ∧ k ≤ x.draws.length ∧ ∀ i, i < k → ∀ n, x.draws[i]? = some n → outB 0 1000 n = false) (fun k => x.draws.length - k) 0 rfl ⟨rfl, by omega, fun i hi => by omega⟩ ?_
  rintro k _ ⟨rfl, hk, hno5⟩ _
  refine cmp (fun hlt => ?_) (fun hge => ?_)
  · have hlt' : k < x.draws.length := by omega
    have hx := List.getElem?_eq_getElem hlt'
    obtain ⟨b, o, e, _, hr⟩ := readsP.get (readsP.ext (h := h) r5 x2) hx
    generalize x.draws[k] = n at hr hx
    subst e
    refine idx k rfl (by omega) ?_
    refine rd1 (v := int n) (hr 0 _ rfl) ?_
    refine jn1 (fun tt h' => tt = .bool (decide (n < 0 ∨ n > 1000)) ∧ h2 = h') ?_ ?_
    · intro K hK
      repeat' (first | refine jnI ?_ | refine gdI ?_ | refine gqI ?_ | refine fun (_ : Env) => ?_ | refine l0 H rfl ?_ | refine l1 H rfl ?_ | refine l2 H rfl ?_ | refine l3 H rfl ?_ | refine getA rfl ?_ | refine cmp (fun _ => ?_) (fun _ => ?_))
      all_goals exact hK _ _ ⟨by first | exact bT (by omega) | exact bF (by omega), rfl⟩
    rintro _ _ ⟨rfl, rfl⟩ _
    rw [← outB_eq]
    cases c3 : outB 0 1000 n with
    | true => exact ⟨4, rfl, fun h => (by cases h), x2⟩
    | false =>
      refine ari64 (by omega) ?_
      exact ⟨k + 1, by omega, rfl, rfl, hlt', any_next hno5 hx c3⟩
  have hk' : k = x.draws.length := by omega
  subst hk'
  refine ⟨0, rfl, fun _ => ?_, x2⟩
  have allOf : ∀ {α : Type} {l : List α} {p : α → Bool}, (∀ i, i < l.length → ∀ c, l[i]? = some c → p c = false) → l.any p = false := by
    intro α l p hh
    rw [List.any_eq_false]
    intro c hc
    obtain ⟨i, hi, rfl⟩ := List.mem_iff_getElem.1 hc
    have := hh i hi _ (List.getElem?_eq_getElem hi)
    simp [this]
  unfold checkOf
  rw [if_neg c0]
  have hl : longOf x = false := by
    have hp : x.programs.any (fun p => decide (32 < p.length)) = false := allOf fun i hi p hp => by
      have := hno i hi p hp
      exact decide_eq_false (by omega)
    have a1 : ¬ 8 < x.programs.length := by omega
    have a2 : ¬ 200 < x.plan.length := by omega
    have a3 : ¬ 64 < x.draws.length := by omega
    simp only [longOf, hp, a1, a2, a3, decide_false, Bool.or_false]
  have c2' : ¬ x.programs.length = 0 := by omega
  rw [hl, allOf hno4, allOf hno5, allOf hno2]
  simp only [c2', decide_false, Bool.or_false, Bool.false_eq_true, if_false]

end Go.Sl
end

section
namespace Go.Sl
open Go
attribute [local irreducible] HT

section
variable {α : Type} [Cel α]
theorem clr_tail {h : Heap} {L : List HP} {T b o n c i esz : Nat} {xs : List α} {z : List Value} {a' : Option Addr} {K : Value → Heap → Prop} (H : Sat h (own T (.slice (some ⟨b, o, none⟩) n c) xs :: L)) (hi : i ≤ xs.length) (he : esz = Cel.n α) (hz : z.length = esz) (hz1 : z.all one = true)
    (ha0 : c = i → a' = some ⟨b, o, none⟩) (ha1 : c ≠ i → a' = (some (⟨b, o, none⟩ : Addr)).map (·.add (i * esz)))
    (k : ∀ h', Sat h' (own T (.slice (some ⟨b, o, none⟩) i c) (xs.take i) :: L) → K (.tuple #[]) h') : CLR h esz z (.slice a' (n - i) (c - i)) K := by
  subst he
  obtain ⟨s1, s2, d, a, e, p, q⟩ := H
  rcases p with ⟨rfl, a0, e1⟩ | ⟨b', o', c', arr, e1, hb, hcap, hl, ha⟩
  · injection e1 with e1 e2 e3
    subst e1; subst e2; subst e3
    have : i = 0 := by simpa using hi
    subst this
    exact ⟨_, _, _, rfl, hz, .inl ⟨rfl, k h ⟨s1, s2, d, a, e, .inl ⟨by simp, _, rfl⟩, q⟩⟩⟩
  injection e1 with e1 e2 e3
  injection e1 with e1
  injection e1 with e4 e5
  subst e4; subst e5; subst e2; subst e3
  have hti : (xs.take i).length = i := by simp; omega
  by_cases hni : xs.length - i = 0
  · have hi' : i = xs.length := by omega
    refine ⟨_, _, _, rfl, hz, .inl ⟨hni, k h ⟨s1, s2, d, a, e, .inr ⟨b, o, c, arr, by rw [hti], hb, by omega, hl, ?_⟩, q⟩⟩⟩
    rw [hi', List.take_length]; exact ha
  have hci : c ≠ i := by omega
  have ea : a' = some ⟨b, o + i * Cel.n α, none⟩ := by
    rw [ha1 hci]
    simp only [Option.map_some, Addr.add]
    split
    · rename_i h0; rw [h0]; rfl
    · rfl
  subst ea
  have hmul : i * Cel.n α + (xs.length - i) * Cel.n α ≤ c * Cel.n α := by rw [← Nat.add_mul]; exact Nat.mul_le_mul_right _ (by omega)
  have hlf : (List.replicate (xs.length - i) z).flatten.length = (xs.length - i) * Cel.n α := by simp [hz]
  refine ⟨_, _, _, rfl, hz, .inr ⟨b, o + i * Cel.n α, arr, T, rfl, a b _ hb, by omega, ?_, k _ ?_⟩⟩
  · rw [List.all_eq_true]
    intro v hv
    obtain ⟨l, hl', hv⟩ := List.mem_flatten.1 hv
    rw [(List.mem_replicate.1 hl').2] at hv
    exact List.all_eq_true.1 hz1 v hv
  · have Hs := Sat.set (o' := .cells (putRange arr (o + i * Cel.n α) (List.replicate (xs.length - i) z).flatten) T (0, 0)) (H := (⟨s1, s2, d, a, e, hb, q⟩ : Sat h (pt b (.cells arr T (0, 0)) :: L)))
    refine SatP.imp Hs fun t ht => .inr ⟨b, o, c, _, by rw [hti], ht, by omega, by rw [putRange_size (by omega)]; exact hl, fun j y hj => ?_⟩
    have hjl : j < i * Cel.n α := by
      have := (List.getElem?_eq_some_iff.1 hj).1
      rw [flat_length, hti] at this; exact this
    rw [putRange_get (by omega), if_pos (by omega)]
    refine ha j y ?_
    have hft : flat xs = flat (xs.take i) ++ flat (xs.drop i) := by
      unfold flat
      rw [← List.flatten_append, ← List.map_append, List.take_append_drop]
    rw [hft, List.getElem?_append_left (by rw [flat_length, hti]; exact hjl)]
    exact hj
end

def notC (n : Int) : Bool := decide (n ≠ -1)

theorem bare1 {h : Heap} {n : Int} : HT P 17 [int n] h fun r h' => r = .bool (decide (n = -1)) ∧ h' = h := by
  refine u17 ?_
  repeat' (first | refine jnI ?_ | refine gdI ?_ | refine gqI ?_ | refine fun (_ : Env) => ?_ | refine l0 H rfl ?_ | refine l1 H rfl ?_ | refine l2 H rfl ?_ | refine l3 H rfl ?_ | refine getA rfl ?_ | refine cmp (fun _ => ?_) (fun _ => ?_))
  all_goals exact ⟨by first | exact bT (by omega) | exact bF (by omega), rfl⟩

theorem findIdx_before {xs : List Int} {i : Nat} (hi : i < xs.findIdx (fun n => decide (n = -1))) : ∀ (h : i < xs.length), xs[i] ≠ -1 := fun h e => by
  have := List.not_of_lt_findIdx hi
  simp [e] at this

theorem take_succ_get {xs : List Int} {j : Nat} {x : Int} (hx : xs[j]? = some x) : xs.take (j + 1) = xs.take j ++ [x] := by
  rw [List.take_add_one, hx]; rfl

theorem deleteFunc {h : Heap} {L : List HP} {v : Value} {xs : List Int} (H : Sat h (own 3 v xs :: L)) (hn : xs.length ≤ 1000000000) :
    HT P 16 [v, fnv 17] h fun r h' => Sat h' (own 3 r (xs.filter notC) :: L) := by
  have hr0 := own_reads H m0
  obtain ⟨a, c, rfl⟩ := hr0.len
  refine u16 ?_
  have tl : Tells int (fnv 17) h xs (fun n => decide (n = -1)) := ⟨17, #[], #[], rfl, fun h' _ x _ => by simpa using (bare1 (h := h') (n := x)).mono fun r h2 ⟨e1, e2⟩ => ⟨e1, by rw [e2]; exact Ext.refl _⟩⟩
  refine callX (indexFunc_int hr0 tl hn) (fun h1 x1 => ?_)
  have H := H.ext x1
  unfold idxOf
  by_cases hf : xs.findIdx (fun n => decide (n = -1)) < xs.length
  · rw [if_pos hf]
    generalize hi0 : xs.findIdx (fun n => decide (n = -1)) = i0 at hf
    refine cmpF (by omega) ?_
    refine ari64 (by omega) ?_
    have hne : xs ≠ [] := fun e => by rw [e] at hf; simp at hf
    obtain ⟨b, o, rfl, _, _⟩ := hr0.get (i := i0) (List.getElem?_eq_getElem hf)
    have e0 : (xs.take i0).filter notC = xs.take i0 := by
      rw [List.filter_eq_self]
      intro x hx
      obtain ⟨j, hj, rfl⟩ := List.mem_iff_getElem.1 hx
      have hj' : j < i0 := by simp at hj; omega
      have := findIdx_before (xs := xs) (i := j) (by rw [hi0]; exact hj') (by omega)
      simpa [notC] using this
    have e1 : (xs.take (i0 + 1)).filter notC = xs.take i0 := by
      have hx : xs[i0] = -1 := by
        have := List.findIdx_getElem (xs := xs) (p := fun n => decide (n = -1)) (w := by rw [hi0]; exact hf)
        simp only [hi0] at this
        simpa using this
      rw [take_succ_get (List.getElem?_eq_getElem hf), List.filter_append, e0, hx]
      simp [notC]
    refine lp2 (Nat × Nat × List Int) (fun g => int g.1) (fun g => int g.2.1) (fun g h' => Sat h' (own 3 (.slice (some ⟨b, o, none⟩) xs.length c) g.2.2 :: L) ∧ g.2.2.length = xs.length ∧ g.1 < g.2.1 ∧ g.2.1 ≤ xs.length ∧ g.2.2.take g.1 = (xs.take g.2.1).filter notC ∧ g.2.2.drop g.2.1 = xs.drop g.2.1) (fun g => xs.length - g.2.1) (i0, i0 + 1, xs) rfl (by simp) ⟨H, rfl, by simp, by simp; omega, by simpa using e1.symm, rfl⟩ ?_
    rintro ⟨i, j, ys⟩ h2 ⟨H, hl, hij, hj, ht, hd⟩ _
    simp only at H hl hij hj ht hd
    refine cmp (fun hlt => ?_) (fun hge => ?_)
    · have hlt : (j : Int) < (xs.length : Int) := hlt
      have hlt' : j < xs.length := by omega
      have hyj : ys[j]? = xs[j]? := by
        have := congrArg (·[0]?) hd
        simpa using this
      have hx := List.getElem?_eq_getElem hlt'
      generalize xs[j] = x at hx
      rw [hx] at hyj
      obtain ⟨b', o', c', ee, _, hr⟩ := (own_reads H m0).get' hyj
      injection ee with ee _ _
      injection ee with ee
      injection ee with ee1 ee2
      subst ee1; subst ee2
      refine jn1 (fun t h' => ∃ (i' : Nat) (ys' : List Int), t = int i' ∧ Sat h' (own 3 (.slice (some ⟨b, o, none⟩) xs.length c) ys' :: L) ∧ ys'.length = xs.length ∧ i' < j + 1 ∧ ys'.take i' = (xs.take (j + 1)).filter notC ∧ ys'.drop (j + 1) = xs.drop (j + 1)) ?_ ?_
      · intro K hK
        refine idx j rfl hlt' ?_
        refine rd1 (v := int x) (hr 0 _ rfl) ?_
        refine callv (by simpa using bare1) ?_
        rintro _ h3 ⟨rfl, rfl⟩
        have hdd : ys.drop (j + 1) = xs.drop (j + 1) := by
          have := congrArg (List.drop 1) hd
          simpa [List.drop_drop, Nat.add_comm] using this
        by_cases hc : x = -1
        · rw [decide_eq_true hc]
          refine hK _ _ ⟨i, ys, rfl, H, hl, by omega, ?_, hdd⟩
          rw [take_succ_get hx, List.filter_append, ht, hc]
          simp [notC]
        · rw [decide_eq_false hc]
          have hil : i < ys.length := by omega
          have hyi := List.getElem?_eq_getElem hil
          refine idx i rfl (by omega) ?_
          refine ws (α := Int) (off := 0) (x' := x) H hyi rfl rfl (by decide) rfl (fun h4 H => ?_)
          refine ari64 (by omega) ?_
          refine hK _ _ ⟨i + 1, ys.set i x, by simp, H, by simpa using hl, by omega, ?_, ?_⟩
          · rw [take_succ_get hx, List.filter_append, ← ht]
            have : List.filter notC [x] = [x] := by simp [notC, hc]
            rw [this, take_succ_get (x := x) (by simp [hil]), List.take_set_of_le (Nat.le_refl _)]
          · rw [List.drop_set_of_lt (by omega)]; exact hdd
      · rintro _ h3 ⟨i', ys', rfl, H, hl', hi', ht', hd'⟩ _
        refine ari64 (by omega) ?_
        exact ⟨(i', j + 1, ys'), by simp; omega, rfl, by simp, H, hl', hi', by simp; omega, ht', hd'⟩
    · have hge : ¬ (j : Int) < (xs.length : Int) := hge
      have hjl : j = xs.length := by omega
      subst hjl
      rw [List.take_length] at ht
      refine slc_lo i rfl (by omega) (fun a' ha0 ha1 => ?_)
      refine clr_tail H (i := i) (by omega) rfl rfl rfl ha0 ha1 (fun h3 H => ?_)
      rw [ht] at H
      have hcl : i ≤ c := by
        rcases hr0 with ⟨_, _, e, hle, _⟩
        injection e with _ _ e3
        omega
      exact slc_hi i rfl hcl H
  · rw [if_neg hf]
    refine cmpT rfl ?_
    have : xs.filter notC = xs := by
      rw [List.filter_eq_self]
      intro x hx
      obtain ⟨j, hj, rfl⟩ := List.mem_iff_getElem.1 hx
      have := findIdx_before (xs := xs) (i := j) (by omega) hj
      simpa [notC] using this
    rw [this]; exact H

end Go.Sl
end
