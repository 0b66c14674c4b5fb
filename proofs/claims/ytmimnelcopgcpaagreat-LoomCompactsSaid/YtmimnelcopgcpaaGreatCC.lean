/- Parts of the proof, laid together: L1 L2 L3 L4. No statement of the seat is proved here. -/
import Derived.Test.YtmimnelcopgcpaaGreatCB
set_option linter.unusedVariables false
set_option linter.unusedSimpArgs false
section
namespace Go.Sl
open Go

/-! ### parts of a heap -/

abbrev PH := Nat → Option Obj
abbrev HP := PH → Prop

def Sub (s t : PH) : Prop := ∀ b o, s b = some o → t b = some o
def Dis (s t : PH) : Prop := ∀ b, s b = none ∨ t b = none

def SatP : List HP → PH → Prop
  | [], _ => True
  | A :: L, s => ∃ s1 s2, Dis s1 s2 ∧ Sub s1 s ∧ Sub s2 s ∧ A s1 ∧ SatP L s2

def ph (h : Heap) : PH := fun b => h[b]?
def Sat (h : Heap) (L : List HP) : Prop := SatP L (ph h)

def pt (b : Nat) (o : Obj) : HP := fun s => s b = some o
def star (A B : HP) : HP := fun s => ∃ s1 s2, Dis s1 s2 ∧ Sub s1 s ∧ Sub s2 s ∧ A s1 ∧ B s2
def emp : HP := fun _ => True
def pure' (p : Prop) : HP := fun _ => p
def bigS {α : Type} (Φ : α → HP) : List α → HP
  | [] => emp
  | x :: r => star (Φ x) (bigS Φ r)

/-- An assertion that holds of more, too. -/
class Up (A : HP) : Prop where
  up : ∀ s t, Sub s t → A s → A t

theorem Sub.refl (s : PH) : Sub s s := fun _ _ h => h
theorem Sub.trans {a b c : PH} (x : Sub a b) (y : Sub b c) : Sub a c := fun i o h => y i o (x i o h)
theorem Dis.symm {a b : PH} (x : Dis a b) : Dis b a := fun i => (x i).symm
theorem Dis.sub {a b c d : PH} (x : Dis a b) (y : Sub c a) (z : Sub d b) : Dis c d := fun i => by
  cases hc : c i with
  | none => exact .inl rfl
  | some o =>
    cases hd : d i with
    | none => exact .inr rfl
    | some p => rcases x i with h | h
                · rw [y i o hc] at h; cases h
                · rw [z i p hd] at h; cases h

theorem SatP.mono : ∀ {L : List HP} {s t : PH}, Sub s t → SatP L s → SatP L t
  | [], _, _, _, _ => trivial
  | _ :: _, _, _, h, ⟨s1, s2, d, a, b, p, q⟩ => ⟨s1, s2, d, a.trans h, b.trans h, p, q⟩

theorem SatP.swap {A B : HP} {L : List HP} {s : PH} : SatP (A :: B :: L) s → SatP (B :: A :: L) s := by
  rintro ⟨s1, s2, d, a, b, p, t1, t2, e, x, y, q, r⟩
  -- B takes t1; A and the rest take what is left
  refine ⟨t1, fun i => match t1 i with | some _ => none | none => s i, ?_, x.trans b, ?_, q, s1, t2, d.sub (Sub.refl _) y, ?_, ?_, p, r⟩
  · intro i; cases h : t1 i with
    | none => exact .inl rfl
    | some o => right; simp [h]
  · intro i o h; cases h1 : t1 i with
    | none => simpa [h1] using h
    | some o' => simp [h1] at h
  · intro i o h
    have : t1 i = none := by
      rcases d i with h' | h'
      · rw [h] at h'; cases h'
      · cases ht : t1 i with
        | none => rfl
        | some u => rw [x i u ht] at h'; cases h'
    simp [this, a i o h]
  · intro i o h
    have : t1 i = none := by
      rcases e i with h' | h'
      · exact h'
      · rw [h] at h'; cases h'
    simp [this, b i o (y i o h)]

theorem SatP.cons {A : HP} {L M : List HP} {s : PH} (hr : ∀ t, SatP L t → SatP M t) : SatP (A :: L) s → SatP (A :: M) s := by
  rintro ⟨s1, s2, d, a, b, p, q⟩; exact ⟨s1, s2, d, a, b, p, hr _ q⟩

theorem SatP.drop {A : HP} {L : List HP} {s : PH} : SatP (A :: L) s → SatP L s := by
  rintro ⟨_, _, _, _, b, _, q⟩; exact q.mono b

theorem SatP.perm {L M : List HP} (h : L.Perm M) : ∀ {s : PH}, SatP L s → SatP M s := by
  induction h with
  | nil => exact fun h => h
  | cons x _ ih => exact fun h => SatP.cons (fun t => ih) h
  | swap x y l => exact fun h => h.swap
  | trans _ _ ih1 ih2 => exact fun h => ih2 (ih1 h)

theorem Sat.perm {h : Heap} {L M : List HP} (H : Sat h L) (p : L.Perm M) : Sat h M := SatP.perm p H

/-- The parts at those places come first. -/
def pick (l : List Nat) (L : List HP) : List HP := l.filterMap (L[·]?) ++ (L.zipIdx.filter fun p => !l.contains p.2).map (·.1)

theorem pick1_perm : ∀ (L : List HP) (i : Nat) (A : HP), L[i]? = some A → L.Perm (A :: L.eraseIdx i)
  | [], _, _, h => by simp at h
  | x :: r, 0, A, h => by simp at h; subst h; exact List.Perm.refl _
  | x :: r, i + 1, A, h => ((pick1_perm r i A (by simpa using h)).cons x).trans (List.Perm.swap A x _)

/-- Part number i to the front. -/
theorem Sat.front {h : Heap} {L : List HP} (H : Sat h L) (i : Nat) {A : HP} (hA : L[i]? = some A) : Sat h (A :: L.eraseIdx i) := H.perm (pick1_perm L i A hA)

theorem SatP.star {A B : HP} {L : List HP} {s : PH} : SatP (star A B :: L) s ↔ SatP (A :: B :: L) s := by
  constructor
  · rintro ⟨s1, s2, d, a, b, ⟨t1, t2, e, x, y, p, q⟩, r⟩
    refine ⟨t1, fun i => match t1 i with | some _ => none | none => s i, ?_, x.trans a, ?_, p, t2, s2, d.sub y (Sub.refl _), ?_, ?_, q, r⟩
    · intro i; cases h : t1 i with
      | none => exact .inl rfl
      | some o => right; simp [h]
    · intro i o h; cases h1 : t1 i with
      | none => simpa [h1] using h
      | some o' => simp [h1] at h
    · intro i o h
      have : t1 i = none := by
        rcases e i with h' | h'
        · exact h'
        · rw [h] at h'; cases h'
      simp [this, a i o (y i o h)]
    · intro i o h
      have : t1 i = none := by
        rcases d i with h' | h'
        · cases ht : t1 i with
          | none => rfl
          | some u => rw [x i u ht] at h'; cases h'
        · rw [h] at h'; cases h'
      simp [this, b i o h]
  · rintro ⟨s1, s2, d, a, b, p, t1, t2, e, x, y, q, r⟩
    refine ⟨fun i => match t2 i with | some _ => none | none => s i, t2, ?_, ?_, y.trans b, ⟨s1, t1, d.sub (Sub.refl _) x, ?_, ?_, p, q⟩, r⟩
    · intro i; cases h : t2 i with
      | none => exact .inr rfl
      | some o => left; simp [h]
    · intro i o h; cases h1 : t2 i with
      | none => simpa [h1] using h
      | some o' => simp [h1] at h
    · intro i o h
      have : t2 i = none := by
        rcases d i with h' | h'
        · rw [h] at h'; cases h'
        · cases ht : t2 i with
          | none => rfl
          | some u => rw [y i u ht] at h'; cases h'
      simp [this, a i o h]
    · intro i o h
      have : t2 i = none := by
        rcases e i with h' | h'
        · rw [h] at h'; cases h'
        · exact h'
      simp [this, b i o (x i o h)]

theorem SatP.ex {α : Type} {A : α → HP} {L : List HP} {s : PH} : SatP ((fun t => ∃ x, A x t) :: L) s ↔ ∃ x, SatP (A x :: L) s := by
  constructor
  · rintro ⟨s1, s2, d, a, b, ⟨x, p⟩, q⟩; exact ⟨x, s1, s2, d, a, b, p, q⟩
  · rintro ⟨x, s1, s2, d, a, b, p, q⟩; exact ⟨s1, s2, d, a, b, ⟨x, p⟩, q⟩

theorem SatP.imp {A B : HP} {L : List HP} {s : PH} (h : SatP (A :: L) s) (hi : ∀ t, A t → B t) : SatP (B :: L) s := by
  obtain ⟨s1, s2, d, a, b, p, q⟩ := h; exact ⟨s1, s2, d, a, b, hi _ p, q⟩

/-- What a part at the front knows of the heap. -/
theorem Sat.head {h : Heap} {A : HP} {L : List HP} (H : Sat h (A :: L)) : ∃ s, Sub s (ph h) ∧ A s := by
  obtain ⟨s1, _, _, a, _, p, _⟩ := H; exact ⟨s1, a, p⟩

theorem Sat.mem {h : Heap} : ∀ {L : List HP} {A : HP}, Sat h L → A ∈ L → ∃ s, Sub s (ph h) ∧ A s := by
  intro L A H hA
  obtain ⟨i, hi⟩ := List.mem_iff_getElem?.1 hA
  exact (H.front i hi).head

theorem Sat.at_ {h : Heap} {L : List HP} {b : Nat} {o : Obj} (H : Sat h L) (hA : pt b o ∈ L) : h[b]? = some o := by
  obtain ⟨s, hs, hp⟩ := H.mem hA
  exact hs b o hp

/-- A store into a block that the front owns. -/
theorem Sat.set {h : Heap} {b : Nat} {o o' : Obj} {L : List HP} (H : Sat h (pt b o :: L)) : Sat (h.setIfInBounds b o') (pt b o' :: L) := by
  obtain ⟨s1, s2, d, a, e, p, q⟩ := H
  have hb : h[b]? = some o := a b o p
  have hlt : b < h.size := (Array.getElem?_eq_some_iff.1 hb).1
  refine ⟨fun i => if i = b then some o' else none, s2, ?_, ?_, ?_, by simp [pt], q⟩
  · intro i
    by_cases hi : i = b
    · subst hi
      rcases d i with h' | h'
      · rw [p] at h'; cases h'
      · exact .inr h'
    · left; simp [hi]
  · intro i u hu
    by_cases hi : i = b
    · subst hi; simp at hu; subst hu; simp [ph, hlt]
    · simp [hi] at hu
  · intro i u hu
    have hi : i ≠ b := by
      rintro rfl
      rcases d i with h' | h'
      · rw [p] at h'; cases h'
      · rw [hu] at h'; cases h'
    have := e i u hu
    simp only [ph] at this ⊢
    rw [Array.getElem?_setIfInBounds_ne (Ne.symm hi)]
    exact this

/-- A new block. -/
theorem Sat.push {h : Heap} {L : List HP} (H : Sat h L) (o : Obj) : Sat (h.push o) (pt h.size o :: L) := by
  refine ⟨fun i => if i = h.size then some o else none, ph h, ?_, ?_, ?_, by simp [pt], H⟩
  · intro i
    by_cases hi : i = h.size
    · right; subst hi; simp [ph]
    · left; simp [hi]
  · intro i u hu
    by_cases hi : i = h.size
    · subst hi; simp at hu; subst hu; simp [ph]
    · simp [hi] at hu
  · intro i u hu
    have hlt : i < h.size := (Array.getElem?_eq_some_iff.1 hu).1
    simp only [ph] at hu ⊢
    rw [Array.getElem?_push, if_neg (Nat.ne_of_lt hlt)]; exact hu

theorem Ext.sub {h h' : Heap} (x : Ext h h') : Sub (ph h) (ph h') := fun _ _ hb => x.get hb
theorem Sat.ext {h h' : Heap} {L : List HP} (H : Sat h L) (x : Ext h h') : Sat h' L := SatP.mono x.sub H

theorem Sat.nil (h : Heap) : Sat h [] := trivial

/-- The whole of a heap as one part. -/
def old (W : Heap) : HP := fun s => ∀ b, b < W.size → s b = W[b]?
theorem Sat.old (h : Heap) : Sat h [old h] := ⟨ph h, fun _ => none, fun _ => .inr rfl, Sub.refl _, fun _ _ h => by simp at h, fun _ _ => rfl, trivial⟩
theorem Sat.old_ext {h W : Heap} {L : List HP} (H : Sat h L) (hW : Sl.old W ∈ L) : Ext W h := by
  obtain ⟨s, hs, hp⟩ := H.mem hW
  have key : ∀ b, b < W.size → h[b]? = W[b]? := fun b hb => by
    have h1 := hp b hb
    have h2 : W[b]? = some W[b] := by simp [hb]
    rw [h2] at h1 ⊢
    exact hs b _ h1
  refine ⟨?_, key⟩
  rcases Nat.lt_or_ge h.size W.size with hlt | hge
  · have := key h.size hlt
    simp [hlt] at this
  · exact hge

section
variable {A : HP} {L : List HP}
theorem m0 : A ∈ A :: L := by simp
theorem m1 {B0 : HP} : A ∈ B0 :: A :: L := by simp
theorem m2 {B0 B1 : HP} : A ∈ B0 :: B1 :: A :: L := by simp
theorem m3 {B0 B1 B2 : HP} : A ∈ B0 :: B1 :: B2 :: A :: L := by simp
theorem m4 {B0 B1 B2 B3 : HP} : A ∈ B0 :: B1 :: B2 :: B3 :: A :: L := by simp
theorem m5 {B0 B1 B2 B3 B4 : HP} : A ∈ B0 :: B1 :: B2 :: B3 :: B4 :: A :: L := by simp
theorem m6 {B0 B1 B2 B3 B4 B5 : HP} : A ∈ B0 :: B1 :: B2 :: B3 :: B4 :: B5 :: A :: L := by simp
theorem m7 {B0 B1 B2 B3 B4 B5 B6 : HP} : A ∈ B0 :: B1 :: B2 :: B3 :: B4 :: B5 :: B6 :: A :: L := by simp
theorem m8 {B0 B1 B2 B3 B4 B5 B6 B7 : HP} : A ∈ B0 :: B1 :: B2 :: B3 :: B4 :: B5 :: B6 :: B7 :: A :: L := by simp
theorem m9 {B0 B1 B2 B3 B4 B5 B6 B7 B8 : HP} : A ∈ B0 :: B1 :: B2 :: B3 :: B4 :: B5 :: B6 :: B7 :: B8 :: A :: L := by simp
theorem m10 {B0 B1 B2 B3 B4 B5 B6 B7 B8 B9 : HP} : A ∈ B0 :: B1 :: B2 :: B3 :: B4 :: B5 :: B6 :: B7 :: B8 :: B9 :: A :: L := by simp
theorem m11 {B0 B1 B2 B3 B4 B5 B6 B7 B8 B9 B10 : HP} : A ∈ B0 :: B1 :: B2 :: B3 :: B4 :: B5 :: B6 :: B7 :: B8 :: B9 :: B10 :: A :: L := by simp
end

end Go.Sl
end

section
namespace Go.Sl
open Go

/-! ### steps -/

theorem rd1 {h : Heap} {b o : Nat} {v : Value} {K : Value → Prop} (hc : cellAt h b o = some v) (k : K v) : RD1 h (.pointer (some ⟨b, o, none⟩)) K := ⟨b, o, v, rfl, hc, k⟩
theorem rdn {h : Heap} {b o n : Nat} {vs : List Value} {K : Value → Prop} (hn : vs.length = n) (hc : rangeAt h b o vs) (k : K (.agg vs.toArray)) : RDN h n (.pointer (some ⟨b, o, none⟩)) K := ⟨b, o, vs, rfl, hn, hc, k⟩
theorem cellAt_of {h : Heap} {b o : Nat} {c : Array Value} {T : Nat} {fr : Nat × Nat} {v : Value} (hb : h[b]? = some (.cells c T fr)) (hv : c[o]? = some v) : cellAt h b o = some v := by simp [cellAt, hb, hv]
theorem rangeAt_of {h : Heap} {b o : Nat} {c : Array Value} {T : Nat} {fr : Nat × Nat} {vs : List Value} (hb : h[b]? = some (.cells c T fr)) (hv : ∀ i v, vs[i]? = some v → c[o + i]? = some v) : rangeAt h b o vs :=
  fun i v hi => cellAt_of hb (hv i v hi)

theorem ld {h : Heap} {b o : Nat} {c : Array Value} {T : Nat} {fr : Nat × Nat} {v : Value} {K : Value → Prop} (hb : h[b]? = some (.cells c T fr)) (hv : c[o]? = some v) (k : K v) : RD1 h (.pointer (some ⟨b, o, none⟩)) K :=
  rd1 (cellAt_of hb hv) k
theorem wr {h : Heap} {b o n : Nat} {c : Array Value} {T : Nat} {x : Value} {K : Heap → Prop} (hb : h[b]? = some (.cells c T (0, 0))) (hn : x.cells.size = n) (hl : o + n ≤ c.size) (h1 : x.cells.toList.all one = true)
    (k : K (h.setIfInBounds b (.cells (putRange c o x.cells.toList) T (0, 0)))) : WR h n (.pointer (some ⟨b, o, none⟩)) x K := ⟨b, o, c, T, rfl, hb, hn, hl, h1, k⟩
theorem cmp {p : Prop} {K : Value → Prop} (y : p → K (.bool true)) (n : ¬ p → K (.bool false)) : CMP p K := ⟨y, n⟩
theorem cmpT {p : Prop} {K : Value → Prop} (hp : p) (k : K (.bool true)) : CMP p K := ⟨fun _ => k, fun h => absurd hp h⟩
theorem cmpF {p : Prop} {K : Value → Prop} (hp : ¬ p) (k : K (.bool false)) : CMP p K := ⟨fun h => absurd h hp, fun _ => k⟩
theorem cmpB {p : Prop} [Decidable p] {K : Value → Prop} (k : K (.bool (decide p))) : CMP p K := ⟨fun h => by simpa [h] using k, fun h => by simpa [h] using k⟩
theorem ari {k : IntKind} {n r : Int} {K : Value → Prop} (h : k.wrap n = r) (x : K (.int k r)) : ARI k n K := ⟨r, h, x⟩
theorem wrap_i64 {n : Int} (h : -9223372036854775808 ≤ n) (h' : n ≤ 9223372036854775807) : IntKind.i64.wrap n = n := by simp [IntKind.wrap, IntKind.bits, IntKind.signed]; omega
theorem ari64 {n : Int} {K : Value → Prop} (h : -9223372036854775808 ≤ n ∧ n ≤ 9223372036854775807) (x : K (.int .i64 n)) : ARI .i64 n K := ⟨n, wrap_i64 h.1 h.2, x⟩
theorem idx {j : Int} {n : Nat} {K : Nat → Prop} (i : Nat) (h : j = (i : Int)) (hi : i < n) (k : K i) : IDX j n K := ⟨i, h, hi, k⟩
theorem getA {c : Array Value} {i : Nat} {v : Value} {K : Value → Prop} (h : c[i]? = some v) (k : K v) : GET c i K := ⟨v, h, k⟩
theorem fil {z l : List Value} {ps : List ((Nat × Nat) × Value)} {K : List Value → Prop} (h : fillW z ps = some l) (k : K l) : FIL z ps K := ⟨l, h, k⟩
theorem call {P : Program} {f : Nat} {args : List Value} {h : Heap} {R R' : Value → Heap → Prop} (x : HT P f args h R) (hr : ∀ v h', R v h' → R' v h') : HT P f args h R' := x.mono hr
theorem callE {P : Program} {f : Nat} {args : List Value} {h : Heap} {x : Value} {R' : Value → Heap → Prop} (c : HT P f args h fun v h' => v = x ∧ h' = h) (k : R' x h) : HT P f args h R' := c.mono fun v h' ⟨a, b⟩ => by rw [a, b]; exact k
theorem callX {P : Program} {f : Nat} {args : List Value} {h : Heap} {x : Value} {R' : Value → Heap → Prop} (c : HT P f args h fun v h' => v = x ∧ Ext h h') (k : ∀ h', Ext h h' → R' x h') : HT P f args h R' := c.mono fun v h' ⟨a, b⟩ => by rw [a]; exact k h' b
theorem bT {p : Prop} [Decidable p] (h : p) : Value.bool true = .bool (decide p) := by rw [decide_eq_true h]
theorem bF {p : Prop} [Decidable p] (h : ¬ p) : Value.bool false = .bool (decide p) := by rw [decide_eq_false h]
theorem callv {P : Program} {f : Nat} {first cap : Array Value} {args : List Value} {h : Heap} {R R' : Value → Heap → Prop} (x : HT P f (first.toList ++ args ++ cap.toList) h R) (hr : ∀ v h', R v h' → R' v h') : CALLV P (.func (.func f) first cap) args h R' := x.mono hr
theorem qcl {P : Program} {h : Heap} {f : Nat} {args : List Value} {K : Value → Prop} {v : Value} (x : ∀ h', Ext h h' → HT P f args h' fun v' h'' => v' = v ∧ Ext h' h'') (k : K v) : QCL P h f args K := ⟨v, x, k⟩

/-! ### rows of cells -/

class Cel (α : Type) where
  n : Nat
  cells : α → List Value
  len : ∀ x, (cells x).length = n
  one : ∀ x, (cells x).all Sl.one = true

instance : Cel Int := ⟨1, fun n => [.int .i64 n], fun _ => rfl, fun _ => rfl⟩
instance : Cel Bool := ⟨1, fun b => [.bool b], fun _ => rfl, fun _ => rfl⟩

def flat {α : Type} [Cel α] (xs : List α) : List Value := (xs.map Cel.cells).flatten

section
variable {α : Type} [Cel α]

theorem flat_nil : flat ([] : List α) = [] := rfl
theorem flat_cons (x : α) (xs : List α) : flat (x :: xs) = Cel.cells x ++ flat xs := rfl
theorem flat_append (xs ys : List α) : flat (xs ++ ys) = flat xs ++ flat ys := by simp [flat]
theorem flat_length (xs : List α) : (flat xs).length = xs.length * Cel.n α := by
  induction xs with
  | nil => simp [flat]
  | cons x r ih => rw [flat_cons, List.length_append, ih, Cel.len, List.length_cons, Nat.succ_mul, Nat.add_comm]
theorem flat_one (xs : List α) : (flat xs).all one = true := by
  induction xs with
  | nil => rfl
  | cons x r ih => rw [flat_cons, List.all_append, ih, Cel.one]; rfl

theorem flat_get : ∀ {xs : List α} {i : Nat} {x : α}, xs[i]? = some x → ∀ {j : Nat} {v : Value}, (Cel.cells x)[j]? = some v → (flat xs)[i * Cel.n α + j]? = some v
  | [], _, _, h, _, _, _ => by simp at h
  | y :: r, 0, x, h, j, v, hv => by
    simp at h; subst h
    rw [flat_cons, Nat.zero_mul, Nat.zero_add, List.getElem?_append_left (List.getElem?_eq_some_iff.1 hv).1]; exact hv
  | y :: r, i + 1, x, h, j, v, hv => by
    have := flat_get (xs := r) (i := i) (by simpa using h) hv
    rw [flat_cons, List.getElem?_append_right (by rw [Cel.len, Nat.succ_mul]; omega), Cel.len]
    rw [← this]; congr 1; rw [Nat.succ_mul]; omega

theorem flat_set : ∀ {xs : List α} {i : Nat} (x : α), i < xs.length → flat (xs.set i x) = (flat xs).take (i * Cel.n α) ++ Cel.cells x ++ (flat xs).drop (i * Cel.n α + Cel.n α)
  | [], _, _, h => by simp at h
  | y :: r, 0, x, _ => by
    have hl : (Cel.cells y).length = Cel.n α := Cel.len y
    simp only [List.set_cons_zero, flat_cons, Nat.zero_mul, List.take_zero, List.nil_append, Nat.zero_add]
    rw [← hl, List.drop_left]
  | y :: r, i + 1, x, h => by
    have hl : (Cel.cells y).length = Cel.n α := Cel.len y
    have ih := flat_set (xs := r) (i := i) x (by simpa using h)
    simp only [List.set_cons_succ, flat_cons, ih]
    have e1 : i * Cel.n α + Cel.n α - Cel.n α = i * Cel.n α := by omega
    have e2 : i * Cel.n α + Cel.n α + Cel.n α - Cel.n α = i * Cel.n α + Cel.n α := by omega
    have ht : (Cel.cells y).take (i * Cel.n α + Cel.n α) = Cel.cells y := List.take_of_length_le (by omega)
    have hd : (Cel.cells y).drop (i * Cel.n α + Cel.n α + Cel.n α) = [] := List.drop_eq_nil_of_le (by omega)
    rw [Nat.succ_mul, List.take_append, List.drop_append, hl, e1, e2, ht, hd]
    simp

end

theorem front_back : ∀ (L : List HP) (i : Nat) (A B : HP), L[i]? = some A → (B :: L.eraseIdx i).Perm (L.set i B)
  | [], _, _, _, h => by simp at h
  | _ :: _, 0, _, _, _ => List.Perm.refl _
  | x :: r, i + 1, A, B, h => (List.Perm.swap x B _).trans ((front_back r i A B (by simpa using h)).cons x)

/-- A part that has changed, back to its place. -/
theorem Sat.back {h : Heap} {L : List HP} {A B : HP} (i : Nat) (hi : L[i]? = some A) (H : Sat h (B :: L.eraseIdx i)) : Sat h (L.set i B) := H.perm (front_back L i A B hi)

/-! ### loads and stores by the place of a part -/

theorem l0 {h : Heap} {L : List HP} {b o : Nat} {c : Array Value} {T : Nat} {fr : Nat × Nat} {v : Value} {K : Value → Prop} (H : Sat h (pt b (.cells c T fr) :: L)) (hv : c[o]? = some v) (k : K v) : RD1 h (.pointer (some ⟨b, o, none⟩)) K := ld (H.at_ m0) hv k
theorem w0 {h : Heap} {L : List HP} {b o n : Nat} {c : Array Value} {T : Nat} {x : Value} {K : Heap → Prop} (H : Sat h (pt b (.cells c T (0, 0)) :: L)) (hn : x.cells.size = n) (hl : Nat.ble (o + n) c.size = true) (h1 : x.cells.toList.all one = true) (k : ∀ h', Sat h' (pt b (.cells (putRange c o x.cells.toList) T (0, 0)) :: L) → K h') : WR h n (.pointer (some ⟨b, o, none⟩)) x K := wr (H.at_ m0) hn (Nat.le_of_ble_eq_true hl) h1 (k _ H.set)
theorem l1 {B0 : HP} {h : Heap} {L : List HP} {b o : Nat} {c : Array Value} {T : Nat} {fr : Nat × Nat} {v : Value} {K : Value → Prop} (H : Sat h (B0 :: pt b (.cells c T fr) :: L)) (hv : c[o]? = some v) (k : K v) : RD1 h (.pointer (some ⟨b, o, none⟩)) K := ld (H.at_ m1) hv k
theorem w1 {B0 : HP} {h : Heap} {L : List HP} {b o n : Nat} {c : Array Value} {T : Nat} {x : Value} {K : Heap → Prop} (H : Sat h (B0 :: pt b (.cells c T (0, 0)) :: L)) (hn : x.cells.size = n) (hl : Nat.ble (o + n) c.size = true) (h1 : x.cells.toList.all one = true) (k : ∀ h', Sat h' (B0 :: pt b (.cells (putRange c o x.cells.toList) T (0, 0)) :: L) → K h') : WR h n (.pointer (some ⟨b, o, none⟩)) x K := w0 (H.front 1 rfl) hn hl h1 (fun h' H' => k h' (Sat.back (L := _) 1 rfl H'))
theorem l2 {B0 : HP} {B1 : HP} {h : Heap} {L : List HP} {b o : Nat} {c : Array Value} {T : Nat} {fr : Nat × Nat} {v : Value} {K : Value → Prop} (H : Sat h (B0 :: B1 :: pt b (.cells c T fr) :: L)) (hv : c[o]? = some v) (k : K v) : RD1 h (.pointer (some ⟨b, o, none⟩)) K := ld (H.at_ m2) hv k
theorem w2 {B0 : HP} {B1 : HP} {h : Heap} {L : List HP} {b o n : Nat} {c : Array Value} {T : Nat} {x : Value} {K : Heap → Prop} (H : Sat h (B0 :: B1 :: pt b (.cells c T (0, 0)) :: L)) (hn : x.cells.size = n) (hl : Nat.ble (o + n) c.size = true) (h1 : x.cells.toList.all one = true) (k : ∀ h', Sat h' (B0 :: B1 :: pt b (.cells (putRange c o x.cells.toList) T (0, 0)) :: L) → K h') : WR h n (.pointer (some ⟨b, o, none⟩)) x K := w0 (H.front 2 rfl) hn hl h1 (fun h' H' => k h' (Sat.back (L := _) 2 rfl H'))
theorem l3 {B0 : HP} {B1 : HP} {B2 : HP} {h : Heap} {L : List HP} {b o : Nat} {c : Array Value} {T : Nat} {fr : Nat × Nat} {v : Value} {K : Value → Prop} (H : Sat h (B0 :: B1 :: B2 :: pt b (.cells c T fr) :: L)) (hv : c[o]? = some v) (k : K v) : RD1 h (.pointer (some ⟨b, o, none⟩)) K := ld (H.at_ m3) hv k
theorem w3 {B0 : HP} {B1 : HP} {B2 : HP} {h : Heap} {L : List HP} {b o n : Nat} {c : Array Value} {T : Nat} {x : Value} {K : Heap → Prop} (H : Sat h (B0 :: B1 :: B2 :: pt b (.cells c T (0, 0)) :: L)) (hn : x.cells.size = n) (hl : Nat.ble (o + n) c.size = true) (h1 : x.cells.toList.all one = true) (k : ∀ h', Sat h' (B0 :: B1 :: B2 :: pt b (.cells (putRange c o x.cells.toList) T (0, 0)) :: L) → K h') : WR h n (.pointer (some ⟨b, o, none⟩)) x K := w0 (H.front 3 rfl) hn hl h1 (fun h' H' => k h' (Sat.back (L := _) 3 rfl H'))
theorem l4 {B0 : HP} {B1 : HP} {B2 : HP} {B3 : HP} {h : Heap} {L : List HP} {b o : Nat} {c : Array Value} {T : Nat} {fr : Nat × Nat} {v : Value} {K : Value → Prop} (H : Sat h (B0 :: B1 :: B2 :: B3 :: pt b (.cells c T fr) :: L)) (hv : c[o]? = some v) (k : K v) : RD1 h (.pointer (some ⟨b, o, none⟩)) K := ld (H.at_ m4) hv k
theorem w4 {B0 : HP} {B1 : HP} {B2 : HP} {B3 : HP} {h : Heap} {L : List HP} {b o n : Nat} {c : Array Value} {T : Nat} {x : Value} {K : Heap → Prop} (H : Sat h (B0 :: B1 :: B2 :: B3 :: pt b (.cells c T (0, 0)) :: L)) (hn : x.cells.size = n) (hl : Nat.ble (o + n) c.size = true) (h1 : x.cells.toList.all one = true) (k : ∀ h', Sat h' (B0 :: B1 :: B2 :: B3 :: pt b (.cells (putRange c o x.cells.toList) T (0, 0)) :: L) → K h') : WR h n (.pointer (some ⟨b, o, none⟩)) x K := w0 (H.front 4 rfl) hn hl h1 (fun h' H' => k h' (Sat.back (L := _) 4 rfl H'))
theorem l5 {B0 : HP} {B1 : HP} {B2 : HP} {B3 : HP} {B4 : HP} {h : Heap} {L : List HP} {b o : Nat} {c : Array Value} {T : Nat} {fr : Nat × Nat} {v : Value} {K : Value → Prop} (H : Sat h (B0 :: B1 :: B2 :: B3 :: B4 :: pt b (.cells c T fr) :: L)) (hv : c[o]? = some v) (k : K v) : RD1 h (.pointer (some ⟨b, o, none⟩)) K := ld (H.at_ m5) hv k
theorem w5 {B0 : HP} {B1 : HP} {B2 : HP} {B3 : HP} {B4 : HP} {h : Heap} {L : List HP} {b o n : Nat} {c : Array Value} {T : Nat} {x : Value} {K : Heap → Prop} (H : Sat h (B0 :: B1 :: B2 :: B3 :: B4 :: pt b (.cells c T (0, 0)) :: L)) (hn : x.cells.size = n) (hl : Nat.ble (o + n) c.size = true) (h1 : x.cells.toList.all one = true) (k : ∀ h', Sat h' (B0 :: B1 :: B2 :: B3 :: B4 :: pt b (.cells (putRange c o x.cells.toList) T (0, 0)) :: L) → K h') : WR h n (.pointer (some ⟨b, o, none⟩)) x K := w0 (H.front 5 rfl) hn hl h1 (fun h' H' => k h' (Sat.back (L := _) 5 rfl H'))
theorem l6 {B0 : HP} {B1 : HP} {B2 : HP} {B3 : HP} {B4 : HP} {B5 : HP} {h : Heap} {L : List HP} {b o : Nat} {c : Array Value} {T : Nat} {fr : Nat × Nat} {v : Value} {K : Value → Prop} (H : Sat h (B0 :: B1 :: B2 :: B3 :: B4 :: B5 :: pt b (.cells c T fr) :: L)) (hv : c[o]? = some v) (k : K v) : RD1 h (.pointer (some ⟨b, o, none⟩)) K := ld (H.at_ m6) hv k
theorem w6 {B0 : HP} {B1 : HP} {B2 : HP} {B3 : HP} {B4 : HP} {B5 : HP} {h : Heap} {L : List HP} {b o n : Nat} {c : Array Value} {T : Nat} {x : Value} {K : Heap → Prop} (H : Sat h (B0 :: B1 :: B2 :: B3 :: B4 :: B5 :: pt b (.cells c T (0, 0)) :: L)) (hn : x.cells.size = n) (hl : Nat.ble (o + n) c.size = true) (h1 : x.cells.toList.all one = true) (k : ∀ h', Sat h' (B0 :: B1 :: B2 :: B3 :: B4 :: B5 :: pt b (.cells (putRange c o x.cells.toList) T (0, 0)) :: L) → K h') : WR h n (.pointer (some ⟨b, o, none⟩)) x K := w0 (H.front 6 rfl) hn hl h1 (fun h' H' => k h' (Sat.back (L := _) 6 rfl H'))
theorem l7 {B0 : HP} {B1 : HP} {B2 : HP} {B3 : HP} {B4 : HP} {B5 : HP} {B6 : HP} {h : Heap} {L : List HP} {b o : Nat} {c : Array Value} {T : Nat} {fr : Nat × Nat} {v : Value} {K : Value → Prop} (H : Sat h (B0 :: B1 :: B2 :: B3 :: B4 :: B5 :: B6 :: pt b (.cells c T fr) :: L)) (hv : c[o]? = some v) (k : K v) : RD1 h (.pointer (some ⟨b, o, none⟩)) K := ld (H.at_ m7) hv k
theorem w7 {B0 : HP} {B1 : HP} {B2 : HP} {B3 : HP} {B4 : HP} {B5 : HP} {B6 : HP} {h : Heap} {L : List HP} {b o n : Nat} {c : Array Value} {T : Nat} {x : Value} {K : Heap → Prop} (H : Sat h (B0 :: B1 :: B2 :: B3 :: B4 :: B5 :: B6 :: pt b (.cells c T (0, 0)) :: L)) (hn : x.cells.size = n) (hl : Nat.ble (o + n) c.size = true) (h1 : x.cells.toList.all one = true) (k : ∀ h', Sat h' (B0 :: B1 :: B2 :: B3 :: B4 :: B5 :: B6 :: pt b (.cells (putRange c o x.cells.toList) T (0, 0)) :: L) → K h') : WR h n (.pointer (some ⟨b, o, none⟩)) x K := w0 (H.front 7 rfl) hn hl h1 (fun h' H' => k h' (Sat.back (L := _) 7 rfl H'))

theorem putRange_one (cs : List Value) (o : Nat) (x : Value) (hl : o < cs.length) : putRange cs.toArray o [x] = (cs.set o x).toArray := by
  simp only [putRange, List.length_singleton]
  congr 1
  rw [List.set_eq_take_append_cons_drop]; simp [hl]

theorem one_cells {x : Value} (h : one x = true) : x.cells = #[x] := by cases x <;> first | rfl | cases h

/-- A store of one cell. -/
theorem s0 {h : Heap} {L : List HP} {b o T : Nat} {cs : List Value} {x : Value} {K : Heap → Prop} (H : Sat h (pt b (.cells cs.toArray T (0, 0)) :: L)) (x' : Value) (e : x' = x) (h1 : one x' = true) (hl : Nat.blt o cs.length = true)
    (k : ∀ h', Sat h' (pt b (.cells (cs.set o x').toArray T (0, 0)) :: L) → K h') : WR h 1 (.pointer (some ⟨b, o, none⟩)) x K := by
  subst e
  have hlt : o < cs.length := by simpa [Nat.blt_eq] using hl
  have hc := one_cells h1
  refine wr (H.at_ m0) (by rw [hc]; rfl) (by simp; omega) (by rw [hc]; simp [h1]) (k _ ?_)
  rw [hc]
  show Sat (h.setIfInBounds b (.cells (putRange cs.toArray o [x']) T (0, 0))) _
  rw [putRange_one cs o x' hlt]
  exact H.set

theorem s1 {B0 : HP} {h : Heap} {L : List HP} {b o T : Nat} {cs : List Value} {x : Value} {K : Heap → Prop} (H : Sat h (B0 :: pt b (.cells cs.toArray T (0, 0)) :: L)) (x' : Value) (e : x' = x) (h1 : one x' = true) (hl : Nat.blt o cs.length = true) (k : ∀ h', Sat h' (B0 :: pt b (.cells (cs.set o x').toArray T (0, 0)) :: L) → K h') : WR h 1 (.pointer (some ⟨b, o, none⟩)) x K := s0 (H.front 1 rfl) x' e h1 hl (fun h' H' => k h' (Sat.back (L := _) 1 rfl H'))
theorem s2 {B0 : HP} {B1 : HP} {h : Heap} {L : List HP} {b o T : Nat} {cs : List Value} {x : Value} {K : Heap → Prop} (H : Sat h (B0 :: B1 :: pt b (.cells cs.toArray T (0, 0)) :: L)) (x' : Value) (e : x' = x) (h1 : one x' = true) (hl : Nat.blt o cs.length = true) (k : ∀ h', Sat h' (B0 :: B1 :: pt b (.cells (cs.set o x').toArray T (0, 0)) :: L) → K h') : WR h 1 (.pointer (some ⟨b, o, none⟩)) x K := s0 (H.front 2 rfl) x' e h1 hl (fun h' H' => k h' (Sat.back (L := _) 2 rfl H'))
theorem s3 {B0 : HP} {B1 : HP} {B2 : HP} {h : Heap} {L : List HP} {b o T : Nat} {cs : List Value} {x : Value} {K : Heap → Prop} (H : Sat h (B0 :: B1 :: B2 :: pt b (.cells cs.toArray T (0, 0)) :: L)) (x' : Value) (e : x' = x) (h1 : one x' = true) (hl : Nat.blt o cs.length = true) (k : ∀ h', Sat h' (B0 :: B1 :: B2 :: pt b (.cells (cs.set o x').toArray T (0, 0)) :: L) → K h') : WR h 1 (.pointer (some ⟨b, o, none⟩)) x K := s0 (H.front 3 rfl) x' e h1 hl (fun h' H' => k h' (Sat.back (L := _) 3 rfl H'))
theorem s4 {B0 : HP} {B1 : HP} {B2 : HP} {B3 : HP} {h : Heap} {L : List HP} {b o T : Nat} {cs : List Value} {x : Value} {K : Heap → Prop} (H : Sat h (B0 :: B1 :: B2 :: B3 :: pt b (.cells cs.toArray T (0, 0)) :: L)) (x' : Value) (e : x' = x) (h1 : one x' = true) (hl : Nat.blt o cs.length = true) (k : ∀ h', Sat h' (B0 :: B1 :: B2 :: B3 :: pt b (.cells (cs.set o x').toArray T (0, 0)) :: L) → K h') : WR h 1 (.pointer (some ⟨b, o, none⟩)) x K := s0 (H.front 4 rfl) x' e h1 hl (fun h' H' => k h' (Sat.back (L := _) 4 rfl H'))
theorem s5 {B0 : HP} {B1 : HP} {B2 : HP} {B3 : HP} {B4 : HP} {h : Heap} {L : List HP} {b o T : Nat} {cs : List Value} {x : Value} {K : Heap → Prop} (H : Sat h (B0 :: B1 :: B2 :: B3 :: B4 :: pt b (.cells cs.toArray T (0, 0)) :: L)) (x' : Value) (e : x' = x) (h1 : one x' = true) (hl : Nat.blt o cs.length = true) (k : ∀ h', Sat h' (B0 :: B1 :: B2 :: B3 :: B4 :: pt b (.cells (cs.set o x').toArray T (0, 0)) :: L) → K h') : WR h 1 (.pointer (some ⟨b, o, none⟩)) x K := s0 (H.front 5 rfl) x' e h1 hl (fun h' H' => k h' (Sat.back (L := _) 5 rfl H'))
theorem s6 {B0 : HP} {B1 : HP} {B2 : HP} {B3 : HP} {B4 : HP} {B5 : HP} {h : Heap} {L : List HP} {b o T : Nat} {cs : List Value} {x : Value} {K : Heap → Prop} (H : Sat h (B0 :: B1 :: B2 :: B3 :: B4 :: B5 :: pt b (.cells cs.toArray T (0, 0)) :: L)) (x' : Value) (e : x' = x) (h1 : one x' = true) (hl : Nat.blt o cs.length = true) (k : ∀ h', Sat h' (B0 :: B1 :: B2 :: B3 :: B4 :: B5 :: pt b (.cells (cs.set o x').toArray T (0, 0)) :: L) → K h') : WR h 1 (.pointer (some ⟨b, o, none⟩)) x K := s0 (H.front 6 rfl) x' e h1 hl (fun h' H' => k h' (Sat.back (L := _) 6 rfl H'))
theorem s7 {B0 : HP} {B1 : HP} {B2 : HP} {B3 : HP} {B4 : HP} {B5 : HP} {B6 : HP} {h : Heap} {L : List HP} {b o T : Nat} {cs : List Value} {x : Value} {K : Heap → Prop} (H : Sat h (B0 :: B1 :: B2 :: B3 :: B4 :: B5 :: B6 :: pt b (.cells cs.toArray T (0, 0)) :: L)) (x' : Value) (e : x' = x) (h1 : one x' = true) (hl : Nat.blt o cs.length = true) (k : ∀ h', Sat h' (B0 :: B1 :: B2 :: B3 :: B4 :: B5 :: B6 :: pt b (.cells (cs.set o x').toArray T (0, 0)) :: L) → K h') : WR h 1 (.pointer (some ⟨b, o, none⟩)) x K := s0 (H.front 7 rfl) x' e h1 hl (fun h' H' => k h' (Sat.back (L := _) 7 rfl H'))

theorem slc_lo {a : Option Addr} {n c esz : Nat} {lv : Value} {K : Value → Prop} (l : Nat) (e : lv = .int .i64 (l : Int)) (hl : l ≤ n) (k : ∀ a' : Option Addr, (c = l → a' = a) → (c ≠ l → a' = a.map (·.add (l * esz))) → K (.slice a' (n - l) (c - l))) : SLC a n c esz (some lv) none none K :=
  ⟨l, n, c, rfl, rfl, by subst e; exact ⟨rfl, hl⟩, k⟩
theorem slc_hi {a : Option Addr} {n c esz : Nat} {hv : Value} {K : Value → Prop} (h : Nat) (e : hv = .int .i64 (h : Int)) (hl : h ≤ c) (k : K (.slice a h c)) : SLC a n c esz none (some hv) none K :=
  ⟨0, h, c, rfl, by subst e; exact ⟨rfl, hl⟩, rfl, fun a' h0 h1 => by
    have : a' = a := by
      by_cases hc : c = 0
      · exact h0 hc
      · rw [h1 hc]; cases a <;> simp [Addr.add]
    subst this; exact k⟩
theorem slc_lh {a : Option Addr} {n c esz : Nat} {lv hv : Value} {K : Value → Prop} (l h : Nat) (e : lv = .int .i64 (l : Int)) (e' : hv = .int .i64 (h : Int)) (hl : l ≤ h) (hh : h ≤ c) (k : ∀ a' : Option Addr, (c = l → a' = a) → (c ≠ l → a' = a.map (·.add (l * esz))) → K (.slice a' (h - l) (c - l))) : SLC a n c esz (some lv) (some hv) none K :=
  ⟨l, h, c, rfl, by subst e'; exact ⟨rfl, hh⟩, by subst e; exact ⟨rfl, hl⟩, k⟩

/-! ### slices -/

def cellP (s : PH) (b o : Nat) : Option Value :=
  match s b with
  | some (.cells c _ _) => c[o]?
  | _ => none

theorem cellP_up {s t : PH} (x : Sub s t) {b o : Nat} {v : Value} (h : cellP s b o = some v) : cellP t b o = some v := by
  unfold cellP at *
  cases hb : s b with
  | none => simp [hb] at h
  | some y => rw [x b y hb]; rw [hb] at h; exact h

section
variable {α : Type} [Cel α]

/-- A slice that can be read. -/
def readsP (s : PH) (v : Value) (xs : List α) : Prop :=
  ∃ a c, v = .slice a xs.length c ∧ xs.length ≤ c ∧ (xs = [] ∨ ∃ b o, a = some ⟨b, o, none⟩ ∧ ∀ (i : Nat) (u : Value), (flat xs)[i]? = some u → cellP s b (o + i) = some u)

abbrev reads (h : Heap) (v : Value) (xs : List α) : Prop := readsP (ph h) v xs

theorem readsP.up {s t : PH} {v : Value} {xs : List α} (r : readsP s v xs) (x : Sub s t) : readsP t v xs := by
  obtain ⟨a, c, e, l, r⟩ := r
  exact ⟨a, c, e, l, r.imp id fun ⟨b, o, e, r⟩ => ⟨b, o, e, fun i v hi => cellP_up x (r i v hi)⟩⟩

theorem readsP.ext {h h' : Heap} {v : Value} {xs : List α} (r : reads h v xs) (x : Ext h h') : reads h' v xs := readsP.up r x.sub

theorem readsP.len {s : PH} {v : Value} {xs : List α} (r : readsP s v xs) : ∃ a c, v = .slice a xs.length c := by obtain ⟨a, c, e, _⟩ := r; exact ⟨a, c, e⟩

theorem readsP.cap {s : PH} {a : Option Addr} {n c : Nat} {xs : List α} (r : readsP s (.slice a n c) xs) : n = xs.length ∧ xs.length ≤ c := by
  obtain ⟨a', c', e, hc, _⟩ := r
  cases e
  exact ⟨rfl, hc⟩

theorem readsP.nil (s : PH) : readsP s (.slice none 0 0) ([] : List α) := ⟨none, 0, rfl, Nat.le_refl _, .inl rfl⟩

theorem readsP.range {h : Heap} {b o n c : Nat} {xs : List α} (r : reads h (.slice (some ⟨b, o, none⟩) n c) xs) : rangeAt h b o (flat xs) := by
  obtain ⟨a', c', e, _, r⟩ := r
  injection e with e1 e2 e3
  rcases r with rfl | ⟨b', o', rfl, r⟩
  · intro i v hi; simp [flat] at hi
  · injection e1 with e1; injection e1 with e4 e5
    subst e4; subst e5
    exact r

/-- The element at a place: its address, and its cells. -/
theorem readsP.get {h : Heap} {a : Option Addr} {n c : Nat} {xs : List α} (r : reads h (.slice a n c) xs) {i : Nat} {x : α} (hx : xs[i]? = some x) :
    ∃ b o, a = some ⟨b, o, none⟩ ∧ i < n ∧ rangeAt h b (o + i * Cel.n α) (Cel.cells x) := by
  obtain ⟨a', c', e, _, r⟩ := r
  injection e with e1 e2 e3
  subst e1; subst e2
  rcases r with rfl | ⟨b, o, rfl, r⟩
  · simp at hx
  · refine ⟨b, o, rfl, (List.getElem?_eq_some_iff.1 hx).1, fun j v hv => ?_⟩
    rw [Nat.add_assoc]
    exact r _ v (flat_get hx hv)

theorem readsP.get' {h : Heap} {v : Value} {xs : List α} (r : reads h v xs) {i : Nat} {x : α} (hx : xs[i]? = some x) :
    ∃ b o c, v = .slice (some ⟨b, o, none⟩) xs.length c ∧ i < xs.length ∧ rangeAt h b (o + i * Cel.n α) (Cel.cells x) := by
  obtain ⟨a, c, rfl⟩ := r.len
  obtain ⟨b, o, rfl, hi, hr⟩ := r.get hx
  exact ⟨b, o, c, rfl, hi, hr⟩

/-- A slice whose array it owns: elements of type T. -/
def own (T : Nat) (v : Value) (xs : List α) : HP := fun s =>
  (xs = [] ∧ ∃ a, v = .slice a 0 0) ∨ ∃ b o c arr, v = .slice (some ⟨b, o, none⟩) xs.length c ∧ s b = some (.cells arr T (0, 0)) ∧ xs.length ≤ c ∧ o + c * Cel.n α ≤ arr.size ∧ ∀ (j : Nat) (x : Value), (flat xs)[j]? = some x → arr[o + j]? = some x

theorem own_up {T : Nat} {v : Value} {xs : List α} {s t : PH} (h : Sub s t) (p : own T v xs s) : own T v xs t := by
  rcases p with p | ⟨b, o, c, arr, e, hb, r⟩
  · exact .inl p
  · exact .inr ⟨b, o, c, arr, e, h b _ hb, r⟩

theorem own_nil (T : Nat) (a : Option Addr) (s : PH) : own T (.slice a 0 0) ([] : List α) s := .inl ⟨rfl, a, rfl⟩

theorem own_readsP {T : Nat} {v : Value} {xs : List α} {s : PH} (p : own T v xs s) : readsP s v xs := by
  rcases p with ⟨rfl, a, rfl⟩ | ⟨b, o, c, arr, rfl, hb, hc, hl, ha⟩
  · exact ⟨a, 0, rfl, Nat.le_refl _, .inl rfl⟩
  · exact ⟨_, _, rfl, hc, .inr ⟨b, o, rfl, fun i u hi => by simp only [cellP, hb]; exact ha i u hi⟩⟩

theorem own_reads {h : Heap} {L : List HP} {T : Nat} {v : Value} {xs : List α} (H : Sat h L) (hm : own T v xs ∈ L) : reads h v xs := by
  obtain ⟨s, hs, hp⟩ := H.mem hm
  exact (own_readsP hp).up hs

theorem own_new {h : Heap} {L : List HP} (H : Sat h L) (T : Nat) : Sat h (own T (.slice none 0 0) ([] : List α) :: L) :=
  ⟨fun _ => none, ph h, fun _ => .inl rfl, fun _ _ h => by simp at h, Sub.refl _, own_nil T none _, H⟩

/-- A block that was just made, as a slice. -/
theorem own_pt {h : Heap} {L : List HP} {b T c : Nat} {arr : Array Value} {xs : List α} (H : Sat h (pt b (.cells arr T (0, 0)) :: L)) (hc : xs.length ≤ c) (hl : c * Cel.n α ≤ arr.size) (ha : ∀ (j : Nat) (x : Value), (flat xs)[j]? = some x → arr[j]? = some x) :
    Sat h (own T (.slice (some ⟨b, 0, none⟩) xs.length c) xs :: L) :=
  SatP.imp H fun t ht => .inr ⟨b, 0, c, arr, rfl, ht, hc, by omega, fun j x hj => by rw [Nat.zero_add]; exact ha j x hj⟩

theorem rangeAt_le {h : Heap} {b o : Nat} {vs : List Value} (r : rangeAt h b o vs) {j : Nat} {v : Value} (hv : vs[j]? = some v) : cellAt h b (o + j) = some v := r j v hv

theorem putRange_get {c : Array Value} {o : Nat} {vs : List Value} (hl : o + vs.length ≤ c.size) (i : Nat) : (putRange c o vs)[i]? = if i < o then c[i]? else if i < o + vs.length then vs[i - o]? else c[i]? := by
  unfold putRange
  rw [List.getElem?_toArray, List.append_assoc]
  have h1 : (c.toList.take o).length = o := by simp; omega
  by_cases ho : i < o
  · rw [List.getElem?_append_left (by omega)]
    simp [ho]
  · rw [List.getElem?_append_right (by omega), h1]
    by_cases hv : i - o < vs.length
    · rw [List.getElem?_append_left hv]
      simp [ho, show i < o + vs.length by omega]
    · rw [List.getElem?_append_right (by omega)]
      simp only [ho, if_false, show ¬ i < o + vs.length by omega, List.getElem?_drop, Array.getElem?_toList]
      congr 1; omega

theorem putRange_size {c : Array Value} {o : Nat} {vs : List Value} (hl : o + vs.length ≤ c.size) : (putRange c o vs).size = c.size := by
  unfold putRange; simp; omega

/-- A write into an element of a slice. -/
theorem ws {h : Heap} {L : List HP} {T b o n c k off : Nat} {xs : List α} {i : Nat} {x x' : α} {u : Value} {K : Heap → Prop} (H : Sat h (own T (.slice (some ⟨b, o, none⟩) n c) xs :: L)) (hx : xs[i]? = some x) (hn : u.cells.size = k) (h1 : u.cells.toList.all one = true)
    (hoff : off + k ≤ Cel.n α) (hc : Cel.cells x' = (Cel.cells x).take off ++ u.cells.toList ++ (Cel.cells x).drop (off + k)) (kk : ∀ h', Sat h' (own T (.slice (some ⟨b, o, none⟩) n c) (xs.set i x') :: L) → K h') :
    WR h k (.pointer (some ⟨b, o + i * Cel.n α + off, none⟩)) u K := by
  obtain ⟨s1, s2, d, a, e, p, q⟩ := H
  have hi : i < xs.length := (List.getElem?_eq_some_iff.1 hx).1
  rcases p with ⟨rfl, _⟩ | ⟨b', o', c', arr, e1, hb, hcap, hl, ha⟩
  · simp at hx
  injection e1 with e1 e2 e3
  injection e1 with e1
  injection e1 with e4 e5
  subst e4; subst e5; subst e2; subst e3
  have hpos : o + i * Cel.n α + Cel.n α ≤ arr.size := by
    have h1 : (i + 1) * Cel.n α ≤ c * Cel.n α := Nat.mul_le_mul_right _ (by omega)
    rw [Nat.succ_mul] at h1; omega
  have hlen : u.cells.toList.length = k := by simpa using hn
  refine wr (a b _ hb) hn (by omega) h1 (kk _ ?_)
  have Hs := Sat.set (o' := .cells (putRange arr (o + i * Cel.n α + off) u.cells.toList) T (0, 0)) (H := (⟨s1, s2, d, a, e, hb, q⟩ : Sat h (pt b (.cells arr T (0, 0)) :: L)))
  refine SatP.imp Hs fun t ht => .inr ⟨b, o, c, _, by simp, ht, by simpa using hcap, by rw [putRange_size (by rw [hlen]; omega)]; exact hl, fun j y hj => ?_⟩
  rw [putRange_get (by rw [hlen]; omega), hlen]
  rw [flat_set x' hi, hc] at hj
  have hfl := flat_length xs
  have hsub : (i + 1) * Cel.n α ≤ xs.length * Cel.n α := Nat.mul_le_mul_right _ hi
  rw [Nat.succ_mul] at hsub
  have hxl : (Cel.cells x).length = Cel.n α := Cel.len x
  have ht1 : ((flat xs).take (i * Cel.n α)).length = i * Cel.n α := by simp; omega
  -- which part of the list is it?
  by_cases c1 : j < i * Cel.n α
  · rw [List.append_assoc, List.getElem?_append_left (by rw [ht1]; exact c1), List.getElem?_take_of_lt c1] at hj
    rw [if_pos (by omega)]
    exact ha j y hj
  · rw [List.append_assoc, List.getElem?_append_right (by rw [ht1]; omega), ht1] at hj
    by_cases c2 : j - i * Cel.n α < Cel.n α
    · have hin : (List.take off (Cel.cells x) ++ u.cells.toList ++ List.drop (off + k) (Cel.cells x)).length = Cel.n α := by rw [← hc, Cel.len]
      rw [List.getElem?_append_left (by rw [hin]; exact c2)] at hj
      have hto : (List.take off (Cel.cells x)).length = off := by simp; omega
      by_cases c3 : j - i * Cel.n α < off
      · rw [List.append_assoc, List.getElem?_append_left (by rw [hto]; exact c3), List.getElem?_take_of_lt c3] at hj
        rw [if_pos (by omega)]
        refine ha j y ?_
        have := flat_get hx hj
        rw [show i * Cel.n α + (j - i * Cel.n α) = j by omega] at this
        exact this
      · rw [List.append_assoc, List.getElem?_append_right (by rw [hto]; omega), hto] at hj
        by_cases c4 : j - i * Cel.n α - off < k
        · rw [List.getElem?_append_left (by rw [hlen]; exact c4)] at hj
          rw [if_neg (by omega), if_pos (by omega), show o + j - (o + i * Cel.n α + off) = j - i * Cel.n α - off by omega]
          exact hj
        · rw [List.getElem?_append_right (by rw [hlen]; omega), hlen, List.getElem?_drop] at hj
          rw [if_neg (by omega), if_neg (by omega)]
          refine ha j y ?_
          have := flat_get hx hj
          rw [show i * Cel.n α + (off + k + (j - i * Cel.n α - off - k)) = j by omega] at this
          exact this
    · have hin : (List.take off (Cel.cells x) ++ u.cells.toList ++ List.drop (off + k) (Cel.cells x)).length = Cel.n α := by rw [← hc, Cel.len]
      rw [List.getElem?_append_right (by rw [hin]; omega), hin, List.getElem?_drop] at hj
      rw [if_neg (by omega), if_neg (by omega)]
      refine ha j y ?_
      rw [show i * Cel.n α + Cel.n α + (j - i * Cel.n α - Cel.n α) = j by omega] at hj
      exact hj

/-- Append. -/
theorem app_own {h : Heap} {L : List HP} {T esz bytes : Nat} {z : List Value} {v y : Value} {xs ys : List α} {K : Value → Heap → Prop} (H : Sat h (own T v xs :: L)) (he : esz = Cel.n α) (hz : z.length = esz) (hy : reads h y ys)
    (hb : (xs.length + ys.length) * (bytes + 1) ≤ 2 ^ 46) (k : ∀ v' h', Sat h' (own T v' (xs ++ ys) :: L) → K v' h') : APP h T esz bytes z v y K := by
  subst he
  obtain ⟨s1, s2, d, a, e, p, q⟩ := H
  have hown := p
  obtain ⟨ya, yc, rfl, hyc, hyr⟩ := hy
  have hyr' : flat ys = [] ∨ ∃ b o, ya = some ⟨b, o, none⟩ ∧ rangeAt h b o (flat ys) := by
    rcases hyr with rfl | ⟨b, o, e, r⟩
    · exact .inl rfl
    · exact .inr ⟨b, o, e, r⟩
  rcases p with ⟨rfl, ad, rfl⟩ | ⟨b, o, c, arr, rfl, hbk, hcap, hl, ha⟩
  · by_cases h0 : ys.length = 0
    · have : ys = [] := List.eq_nil_of_length_eq_zero h0
      subst this
      refine ⟨ad, ya, 0, 0, 0, yc, [], rfl, rfl, by simp, rfl, .inl rfl, .inl ⟨by simp, .inl ⟨rfl, k _ _ ⟨s1, s2, d, a, e, by simpa using hown, q⟩⟩⟩⟩
    · refine ⟨ad, ya, 0, 0, ys.length, yc, flat ys, rfl, rfl, flat_length ys, flat_one ys, hyr', .inr ⟨by omega, hz, by simpa using hb, [], by simp, .inl rfl, fun c' spare hc' hs => ?_⟩⟩
      refine k _ _ ?_
      have Hp := Sat.push (L := L) (SatP.mono e q) (.cells ([] ++ flat ys ++ spare).toArray T (0, 0))
      have := own_pt (xs := ys) (c := c') Hp (by omega) (by
        have h1 := flat_length ys
        have h2 : ys.length ≤ c' := by omega
        have h3 : c' * Cel.n α = ys.length * Cel.n α + (c' - ys.length) * Cel.n α := by rw [← Nat.add_mul]; congr 1; omega
        have h4 : spare.length = (c' - ys.length) * Cel.n α := by rw [hs]; congr 1; omega
        simp [h1, h4]; omega) (fun j x hj => by
          simp only [List.nil_append, List.getElem?_toArray]
          rw [List.getElem?_append_left (List.getElem?_eq_some_iff.1 hj).1]; exact hj)
      simpa using this
  · have hbk' := a b _ hbk
    have hold : rangeAt h b o (flat xs) := fun i u hi => cellAt_of (show h[b]? = _ from hbk') (ha i u hi)
    by_cases hfit : xs.length + ys.length ≤ c
    · refine ⟨_, ya, xs.length, c, ys.length, yc, flat ys, rfl, rfl, flat_length ys, flat_one ys, hyr', .inl ⟨hfit, .inr ⟨b, o, arr, T, rfl, hbk', ?_, k _ _ ?_⟩⟩⟩
      · rw [flat_length]
        have h1 : (xs.length + ys.length) * Cel.n α ≤ c * Cel.n α := Nat.mul_le_mul_right _ hfit
        rw [Nat.add_mul] at h1; omega
      · have hsz : o + xs.length * Cel.n α + (flat ys).length ≤ arr.size := by
          rw [flat_length]
          have h1 : (xs.length + ys.length) * Cel.n α ≤ c * Cel.n α := Nat.mul_le_mul_right _ hfit
          rw [Nat.add_mul] at h1; omega
        have Hs := Sat.set (o' := .cells (putRange arr (o + xs.length * Cel.n α) (flat ys)) T (0, 0)) (H := (⟨s1, s2, d, a, e, hbk, q⟩ : Sat h (pt b (.cells arr T (0, 0)) :: L)))
        refine SatP.imp Hs fun t ht => .inr ⟨b, o, c, _, by simp, ht, by simpa using hfit, by rw [putRange_size hsz]; exact hl, fun j u hj => ?_⟩
        rw [putRange_get hsz]
        rw [flat_append] at hj
        by_cases hj1 : j < (flat xs).length
        · rw [List.getElem?_append_left hj1] at hj
          rw [if_pos (by rw [flat_length] at hj1; omega)]
          exact ha j u hj
        · have hj2 : j - (flat xs).length < (flat ys).length := by
            rw [List.getElem?_append_right (by omega)] at hj
            exact (List.getElem?_eq_some_iff.1 hj).1
          rw [List.getElem?_append_right (by omega)] at hj
          have hfx := flat_length xs
          rw [if_neg (by omega), if_pos (by omega), show o + j - (o + xs.length * Cel.n α) = j - (flat xs).length by omega]
          exact hj
    · refine ⟨_, ya, xs.length, c, ys.length, yc, flat ys, rfl, rfl, flat_length ys, flat_one ys, hyr', .inr ⟨by omega, hz, hb, flat xs, flat_length xs, .inr ⟨b, o, rfl, hold⟩, fun c' spare hc' hs => ?_⟩⟩
      refine k _ _ ?_
      have Hp := Sat.push (L := L) (SatP.mono e q) (.cells (flat xs ++ flat ys ++ spare).toArray T (0, 0))
      have := own_pt (xs := xs ++ ys) (c := c') Hp (by simpa using hc') (by
        have h1 := flat_length xs
        have h2 := flat_length ys
        have h3 : c' * Cel.n α = xs.length * Cel.n α + ys.length * Cel.n α + (c' - (xs.length + ys.length)) * Cel.n α := by rw [← Nat.add_mul, ← Nat.add_mul]; congr 1; omega
        simp [h1, h2, hs]; omega) (fun j x hj => by
          rw [flat_append] at hj
          simp only [List.getElem?_toArray]
          rw [List.getElem?_append_left (List.getElem?_eq_some_iff.1 hj).1]; exact hj)
      simpa using this

/-- Append to a slice without room: all that was stays as it was. -/
theorem app_ext {h : Heap} {L : List HP} {T esz bytes : Nat} {z : List Value} {a : Option Addr} {y : Value} {ys : List α} {K : Value → Heap → Prop} (H : Sat h (own T (.slice a 0 0) ([] : List α) :: L)) (he : esz = Cel.n α) (hz : z.length = esz) (hy : reads h y ys)
    (hb : ys.length * (bytes + 1) ≤ 2 ^ 46) (k : ∀ v' h', Ext h h' → Sat h' (own T v' ys :: L) → K v' h') : APP h T esz bytes z (.slice a 0 0) y K := by
  subst he
  have HL : Sat h L := SatP.drop H
  obtain ⟨ya, yc, rfl, hyc, hyr⟩ := hy
  have hyr' : flat ys = [] ∨ ∃ b o, ya = some ⟨b, o, none⟩ ∧ rangeAt h b o (flat ys) := by
    rcases hyr with rfl | ⟨b, o, e, r⟩
    · exact .inl rfl
    · exact .inr ⟨b, o, e, r⟩
  by_cases h0 : ys.length = 0
  · have : ys = [] := List.eq_nil_of_length_eq_zero h0
    subst this
    exact ⟨a, ya, 0, 0, 0, yc, [], rfl, rfl, by simp, rfl, .inl rfl, .inl ⟨by simp, .inl ⟨rfl, k _ _ (Ext.refl _) H⟩⟩⟩
  · refine ⟨a, ya, 0, 0, ys.length, yc, flat ys, rfl, rfl, flat_length ys, flat_one ys, hyr', .inr ⟨by omega, hz, by simpa using hb, [], by simp, .inl rfl, fun c' spare hc' hs => ?_⟩⟩
    refine k _ _ (Ext.push _ _) ?_
    have Hp := HL.push (.cells ([] ++ flat ys ++ spare).toArray T (0, 0))
    have := own_pt (xs := ys) (c := c') Hp (by omega) (by
      have h1 := flat_length ys
      have h2 : ys.length ≤ c' := by omega
      have h3 : c' * Cel.n α = ys.length * Cel.n α + (c' - ys.length) * Cel.n α := by rw [← Nat.add_mul]; congr 1; omega
      have h4 : spare.length = (c' - ys.length) * Cel.n α := by rw [hs]; congr 1; omega
      simp [h1, h4]; omega) (fun j x hj => by
        simp only [List.nil_append, List.getElem?_toArray]
        rw [List.getElem?_append_left (List.getElem?_eq_some_iff.1 hj).1]; exact hj)
    simpa using this

/-- One element that was just laid in a row. -/
theorem row_reads {h : Heap} {L : List HP} {T b : Nat} {l : List Value} (xs : List α) (H : Sat h (pt b (.cells l.toArray T (0, 0)) :: L)) (hl : l = flat xs) : reads h (.slice (some ⟨b, 0, none⟩) xs.length xs.length) xs := by
  refine ⟨_, _, rfl, Nat.le_refl _, .inr ⟨b, 0, rfl, fun i u hi => ?_⟩⟩
  have := H.at_ m0
  simp only [cellP, ph, this, Nat.zero_add, List.getElem?_toArray, hl]
  exact hi

theorem app1 {h : Heap} {L : List HP} {T T2 esz bytes : Nat} {z l : List Value} {v : Value} {xs : List α} {K : Value → Heap → Prop} (x : α) (H : Sat h (own T v xs :: L)) (he : esz = Cel.n α) (hz : z.length = esz) (hl : l = Cel.cells x)
    (hb : (xs.length + 1) * (bytes + 1) ≤ 2 ^ 46) (k : ∀ v' h', Sat h' (own T v' (xs ++ [x]) :: L) → K v' h') :
    APP (h.push (.cells l.toArray T2 (0, 0))) T esz bytes z v (.slice (some ⟨h.size, 0, none⟩) 1 1) K := by
  have Hp := H.push (.cells l.toArray T2 (0, 0))
  have hr := row_reads [x] Hp (by simp [flat, hl])
  refine app_own (ys := [x]) (L := pt h.size (.cells l.toArray T2 (0, 0)) :: L) (SatP.swap Hp) he hz hr hb (fun v' h' H' => k v' h' ?_)
  exact SatP.cons (fun _ => SatP.drop) H'

end

end Go.Sl
end

section
namespace Go.Sl
open Go

theorem Ext.set {h h1 : Heap} (x : Ext h h1) {b : Nat} (hb : h.size ≤ b) (o : Obj) : Ext h (h1.setIfInBounds b o) :=
  ⟨by simpa using x.1, fun i hi => by rw [Array.getElem?_setIfInBounds_ne (by omega)]; exact x.2 i hi⟩

/-- A store of several cells over a whole block. -/
theorem sA {h : Heap} {L : List HP} {b n T : Nat} {cs : List Value} {x : Value} {K : Heap → Prop} (H : Sat h (pt b (.cells cs.toArray T (0, 0)) :: L)) (vs : List Value) (e : x = .agg vs.toArray) (h1 : vs.all one = true) (hn : vs.length = n) (hl : cs.length = n)
    (k : ∀ h', (∀ h0, Ext h0 h → h0.size ≤ b → Ext h0 h') → Sat h' (pt b (.cells vs.toArray T (0, 0)) :: L) → K h') : WR h n (.pointer (some ⟨b, 0, none⟩)) x K := by
  subst e; subst hn
  refine wr (H.at_ m0) (by simp [Value.cells]) (by simp [hl]) (by simpa [Value.cells] using h1) (k _ (fun h0 x hb => x.set hb _) ?_)
  have : putRange cs.toArray 0 (Value.agg vs.toArray).cells.toList = vs.toArray := by simp [putRange, Value.cells, hl]
  rw [this]
  exact H.set

/-- A load of a whole block. -/
theorem lA {h : Heap} {L : List HP} {b n T : Nat} {cs : List Value} {K : Value → Prop} (H : Sat h (pt b (.cells cs.toArray T (0, 0)) :: L)) (hn : cs.length = n) (k : K (.agg cs.toArray)) : RDN h n (.pointer (some ⟨b, 0, none⟩)) K :=
  rdn hn (rangeAt_of (H.at_ m0) (fun i v hi => by simpa using hi)) k

theorem lA1 {h : Heap} {A : HP} {L : List HP} {b n T : Nat} {cs : List Value} {K : Value → Prop} (H : Sat h (A :: pt b (.cells cs.toArray T (0, 0)) :: L)) (hn : cs.length = n) (k : K (.agg cs.toArray)) : RDN h n (.pointer (some ⟨b, 0, none⟩)) K :=
  rdn hn (rangeAt_of (H.at_ m1) (fun i v hi => by simpa using hi)) k

/-- A load of some cells of a block. -/
theorem lR {h : Heap} {L : List HP} {b o n T : Nat} {cs : List Value} {K : Value → Prop} (H : Sat h L) (hm : pt b (.cells cs.toArray T (0, 0)) ∈ L) (vs : List Value) (hn : vs.length = n) (hv : ∀ i, i < n → vs[i]? = cs[o + i]?) (k : K (.agg vs.toArray)) : RDN h n (.pointer (some ⟨b, o, none⟩)) K :=
  rdn hn (rangeAt_of (H.at_ hm) (fun i v hi => by
    have hlt : i < n := by rw [← hn]; exact (List.getElem?_eq_some_iff.1 hi).1
    rw [hv i hlt] at hi; simpa using hi)) k

theorem Ext.push' {h h1 : Heap} (x : Ext h h1) (o : Obj) : Ext h (h1.push o) := x.trans (Ext.push _ _)

theorem SatP.drops : ∀ {A L : List HP} {s : PH}, SatP (A ++ L) s → SatP L s
  | [], _, _, h => h
  | _ :: A, _, _, h => SatP.drops (A := A) h.drop

theorem take_range (L : List HP) : ∀ n, n ≤ L.length → (List.range n).filterMap (fun i => L[i]?) = L.take n
  | 0, _ => by simp
  | n + 1, h => by
    rw [List.range_succ, List.filterMap_append, take_range L n (by omega), List.take_succ_eq_append_getElem (by omega)]
    simp [List.getElem?_eq_getElem (show n < L.length by omega)]

/-- Some of the first n parts, in any order; the others of them are let go. -/
theorem Sat.re {h : Heap} {L : List HP} (H : Sat h L) (n : Nat) (is : List Nat) (hn : Nat.ble n L.length = true) (hp : ((List.range n).filter (fun i => !is.contains i) ++ is).isPerm (List.range n) = true) : Sat h (is.filterMap (fun i => L[i]?) ++ L.drop n) := by
  have p := List.isPerm_iff.1 hp
  have p1 := (p.filterMap (fun i => L[i]?)).symm
  rw [take_range L n (Nat.le_of_ble_eq_true hn), List.filterMap_append] at p1
  have p2 := p1.append_right (L.drop n)
  rw [List.take_append_drop, List.append_assoc] at p2
  exact SatP.drops (H.perm p2)

end Go.Sl
end

section
namespace Go.Sl
open Go

abbrev ptr (b : Nat) : Value := .pointer (some ⟨b, 0, none⟩)
abbrev nilp : Value := .pointer none
abbrev int (n : Int) : Value := .int .i64 n
abbrev fnv (f : Nat) : Value := .func (.func f) #[] #[]
abbrev cells (c : List Value) (T : Nat) : Obj := .cells c.toArray T (0, 0)

theorem box {T : Nat} {x : Value} {h : Heap} {L : List HP} {K : Value → Heap → Prop} (cs : List Value) (H : Sat h L) (e : x.cells = cs.toArray) (k : ∀ b h', Ext h h' → h.size ≤ b → Sat h' (pt b (cells cs T) :: L) → K (ptr b) h') : BOX T x h K := by
  unfold BOX
  rw [e]
  exact k h.size _ (Ext.push _ _) (Nat.le_refl _) (H.push _)
theorem nw {T : Nat} {z : List Value} {h : Heap} {L : List HP} {K : Value → Heap → Prop} (H : Sat h L) (k : ∀ b h', Ext h h' → h.size ≤ b → Sat h' (pt b (cells z T) :: L) → K (ptr b) h') : NEW T z h K :=
  k h.size _ (Ext.push _ _) (Nat.le_refl _) (H.push _)
theorem callf {P : Program} {f : Nat} {args : List Value} {h : Heap} {R R' : Value → Heap → Prop} (x : HT P f args h R) (hr : ∀ v h', R v h' → R' v h') : CALLV P (fnv f) args h R' := callv (first := #[]) (cap := #[]) (by simpa using x) hr
theorem jnI {k : Nat} {body : CurT k → Prop} {rest : CurT k} (x : body rest) : JN k body rest := ⟨x⟩
theorem gdI {t : Value} {want : Bool} {h : Heap} {A : (Value → Heap → Prop) → Prop} {K : Value → Heap → Prop} (x : guardV t want (A K) (K undef h)) : GD t want h A K := ⟨x⟩
theorem gqI {t : Value} {want : Bool} {A : (Value → Prop) → Prop} {K : Value → Prop} (x : guardV t want (A K) (K undef)) : GQ t want A K := ⟨x⟩

theorem jn0 {body : (Heap → Prop) → Prop} {rest : Heap → Prop} (Φ : Heap → Prop) (hb : ∀ K : Heap → Prop, (∀ h, Φ h → K h) → body K) (hr : ∀ h, Φ h → rest h) : JN 0 body rest := ⟨hb rest hr⟩
theorem lp0 {h : Heap} {body : (Heap → Prop) → Heap → Prop} (G : Type)  (Inv : G → Heap → Prop) (m : G → Nat) (g0 : G)  (hi : Inv g0 h)
    (hr : ∀ g h', Inv g h' → body (fun h => ∃ g', m g' < m g ∧ Inv g' h)  h') : LP 0 (fun I => (show Heap → Prop from I) h) body := by
  refine ⟨fun n => (fun h => ∃ g, m g = n ∧ Inv g h : Heap → Prop), ⟨m g0, g0, rfl, hi⟩, fun n => ?_⟩
  show ∀ h, (∃ g, m g = n ∧ Inv g h) → body (LtT 0 (fun n => (fun h => ∃ g, m g = n ∧ Inv g h : Heap → Prop)) n) h
  rintro h1 ⟨g, rfl, i⟩
  have e : (LtT 0 (fun n => (fun h => ∃ g, m g = n ∧ Inv g h : Heap → Prop)) (m g)) = (fun h => ∃ g', m g' < m g ∧ Inv g' h : Heap → Prop) := by
    funext h
    exact propext ⟨fun ⟨n, hlt, g', e, r⟩ => ⟨g', e ▸ hlt, r⟩, fun ⟨g', hlt, r⟩ => ⟨m g', hlt, g', rfl, r⟩⟩
  rw [e]
  exact hr g h1 i
theorem jn1 {body : (Value → Heap → Prop) → Prop} {rest : Value → Heap → Prop} (Φ : Value → Heap → Prop) (hb : ∀ K : Value → Heap → Prop, (∀ a0 h, Φ a0 h → K a0 h) → body K) (hr : ∀ a0 h, Φ a0 h → rest a0 h) : JN 1 body rest := ⟨hb rest hr⟩
theorem lp1 {a0 : Value} {h : Heap} {body : (Value → Heap → Prop) → Value → Heap → Prop} (G : Type) (f0 : G → Value) (Inv : G → Heap → Prop) (m : G → Nat) (g0 : G) (e0 : a0 = f0 g0) (hi : Inv g0 h)
    (hr : ∀ g h', Inv g h' → body (fun a0 h => ∃ g', m g' < m g ∧ a0 = f0 g' ∧ Inv g' h) (f0 g) h') : LP 1 (fun I => (show Value → Heap → Prop from I) a0 h) body := by
  refine ⟨fun n => (fun a0 h => ∃ g, m g = n ∧ a0 = f0 g ∧ Inv g h : Value → Heap → Prop), ⟨m g0, g0, rfl, e0, hi⟩, fun n => ?_⟩
  show ∀ a0 h, (∃ g, m g = n ∧ a0 = f0 g ∧ Inv g h) → body (LtT 1 (fun n => (fun a0 h => ∃ g, m g = n ∧ a0 = f0 g ∧ Inv g h : Value → Heap → Prop)) n) a0 h
  rintro a0 h1 ⟨g, rfl, rfl, i⟩
  have e : (LtT 1 (fun n => (fun a0 h => ∃ g, m g = n ∧ a0 = f0 g ∧ Inv g h : Value → Heap → Prop)) (m g)) = (fun a0 h => ∃ g', m g' < m g ∧ a0 = f0 g' ∧ Inv g' h : Value → Heap → Prop) := by
    funext a0; funext h
    exact propext ⟨fun ⟨n, hlt, g', e, r⟩ => ⟨g', e ▸ hlt, r⟩, fun ⟨g', hlt, r⟩ => ⟨m g', hlt, g', rfl, r⟩⟩
  rw [e]
  exact hr g h1 i
theorem jn2 {body : (Value → Value → Heap → Prop) → Prop} {rest : Value → Value → Heap → Prop} (Φ : Value → Value → Heap → Prop) (hb : ∀ K : Value → Value → Heap → Prop, (∀ a0 a1 h, Φ a0 a1 h → K a0 a1 h) → body K) (hr : ∀ a0 a1 h, Φ a0 a1 h → rest a0 a1 h) : JN 2 body rest := ⟨hb rest hr⟩
theorem lp2 {a0 a1 : Value} {h : Heap} {body : (Value → Value → Heap → Prop) → Value → Value → Heap → Prop} (G : Type) (f0 : G → Value) (f1 : G → Value) (Inv : G → Heap → Prop) (m : G → Nat) (g0 : G) (e0 : a0 = f0 g0) (e1 : a1 = f1 g0) (hi : Inv g0 h)
    (hr : ∀ g h', Inv g h' → body (fun a0 a1 h => ∃ g', m g' < m g ∧ a0 = f0 g' ∧ a1 = f1 g' ∧ Inv g' h) (f0 g) (f1 g) h') : LP 2 (fun I => (show Value → Value → Heap → Prop from I) a0 a1 h) body := by
  refine ⟨fun n => (fun a0 a1 h => ∃ g, m g = n ∧ a0 = f0 g ∧ a1 = f1 g ∧ Inv g h : Value → Value → Heap → Prop), ⟨m g0, g0, rfl, e0, e1, hi⟩, fun n => ?_⟩
  show ∀ a0 a1 h, (∃ g, m g = n ∧ a0 = f0 g ∧ a1 = f1 g ∧ Inv g h) → body (LtT 2 (fun n => (fun a0 a1 h => ∃ g, m g = n ∧ a0 = f0 g ∧ a1 = f1 g ∧ Inv g h : Value → Value → Heap → Prop)) n) a0 a1 h
  rintro a0 a1 h1 ⟨g, rfl, rfl, rfl, i⟩
  have e : (LtT 2 (fun n => (fun a0 a1 h => ∃ g, m g = n ∧ a0 = f0 g ∧ a1 = f1 g ∧ Inv g h : Value → Value → Heap → Prop)) (m g)) = (fun a0 a1 h => ∃ g', m g' < m g ∧ a0 = f0 g' ∧ a1 = f1 g' ∧ Inv g' h : Value → Value → Heap → Prop) := by
    funext a0; funext a1; funext h
    exact propext ⟨fun ⟨n, hlt, g', e, r⟩ => ⟨g', e ▸ hlt, r⟩, fun ⟨g', hlt, r⟩ => ⟨m g', hlt, g', rfl, r⟩⟩
  rw [e]
  exact hr g h1 i
theorem jn3 {body : (Value → Value → Value → Heap → Prop) → Prop} {rest : Value → Value → Value → Heap → Prop} (Φ : Value → Value → Value → Heap → Prop) (hb : ∀ K : Value → Value → Value → Heap → Prop, (∀ a0 a1 a2 h, Φ a0 a1 a2 h → K a0 a1 a2 h) → body K) (hr : ∀ a0 a1 a2 h, Φ a0 a1 a2 h → rest a0 a1 a2 h) : JN 3 body rest := ⟨hb rest hr⟩
theorem lp3 {a0 a1 a2 : Value} {h : Heap} {body : (Value → Value → Value → Heap → Prop) → Value → Value → Value → Heap → Prop} (G : Type) (f0 : G → Value) (f1 : G → Value) (f2 : G → Value) (Inv : G → Heap → Prop) (m : G → Nat) (g0 : G) (e0 : a0 = f0 g0) (e1 : a1 = f1 g0) (e2 : a2 = f2 g0) (hi : Inv g0 h)
    (hr : ∀ g h', Inv g h' → body (fun a0 a1 a2 h => ∃ g', m g' < m g ∧ a0 = f0 g' ∧ a1 = f1 g' ∧ a2 = f2 g' ∧ Inv g' h) (f0 g) (f1 g) (f2 g) h') : LP 3 (fun I => (show Value → Value → Value → Heap → Prop from I) a0 a1 a2 h) body := by
  refine ⟨fun n => (fun a0 a1 a2 h => ∃ g, m g = n ∧ a0 = f0 g ∧ a1 = f1 g ∧ a2 = f2 g ∧ Inv g h : Value → Value → Value → Heap → Prop), ⟨m g0, g0, rfl, e0, e1, e2, hi⟩, fun n => ?_⟩
  show ∀ a0 a1 a2 h, (∃ g, m g = n ∧ a0 = f0 g ∧ a1 = f1 g ∧ a2 = f2 g ∧ Inv g h) → body (LtT 3 (fun n => (fun a0 a1 a2 h => ∃ g, m g = n ∧ a0 = f0 g ∧ a1 = f1 g ∧ a2 = f2 g ∧ Inv g h : Value → Value → Value → Heap → Prop)) n) a0 a1 a2 h
  rintro a0 a1 a2 h1 ⟨g, rfl, rfl, rfl, rfl, i⟩
  have e : (LtT 3 (fun n => (fun a0 a1 a2 h => ∃ g, m g = n ∧ a0 = f0 g ∧ a1 = f1 g ∧ a2 = f2 g ∧ Inv g h : Value → Value → Value → Heap → Prop)) (m g)) = (fun a0 a1 a2 h => ∃ g', m g' < m g ∧ a0 = f0 g' ∧ a1 = f1 g' ∧ a2 = f2 g' ∧ Inv g' h : Value → Value → Value → Heap → Prop) := by
    funext a0; funext a1; funext a2; funext h
    exact propext ⟨fun ⟨n, hlt, g', e, r⟩ => ⟨g', e ▸ hlt, r⟩, fun ⟨g', hlt, r⟩ => ⟨m g', hlt, g', rfl, r⟩⟩
  rw [e]
  exact hr g h1 i
theorem jn4 {body : (Value → Value → Value → Value → Heap → Prop) → Prop} {rest : Value → Value → Value → Value → Heap → Prop} (Φ : Value → Value → Value → Value → Heap → Prop) (hb : ∀ K : Value → Value → Value → Value → Heap → Prop, (∀ a0 a1 a2 a3 h, Φ a0 a1 a2 a3 h → K a0 a1 a2 a3 h) → body K) (hr : ∀ a0 a1 a2 a3 h, Φ a0 a1 a2 a3 h → rest a0 a1 a2 a3 h) : JN 4 body rest := ⟨hb rest hr⟩
theorem lp4 {a0 a1 a2 a3 : Value} {h : Heap} {body : (Value → Value → Value → Value → Heap → Prop) → Value → Value → Value → Value → Heap → Prop} (G : Type) (f0 : G → Value) (f1 : G → Value) (f2 : G → Value) (f3 : G → Value) (Inv : G → Heap → Prop) (m : G → Nat) (g0 : G) (e0 : a0 = f0 g0) (e1 : a1 = f1 g0) (e2 : a2 = f2 g0) (e3 : a3 = f3 g0) (hi : Inv g0 h)
    (hr : ∀ g h', Inv g h' → body (fun a0 a1 a2 a3 h => ∃ g', m g' < m g ∧ a0 = f0 g' ∧ a1 = f1 g' ∧ a2 = f2 g' ∧ a3 = f3 g' ∧ Inv g' h) (f0 g) (f1 g) (f2 g) (f3 g) h') : LP 4 (fun I => (show Value → Value → Value → Value → Heap → Prop from I) a0 a1 a2 a3 h) body := by
  refine ⟨fun n => (fun a0 a1 a2 a3 h => ∃ g, m g = n ∧ a0 = f0 g ∧ a1 = f1 g ∧ a2 = f2 g ∧ a3 = f3 g ∧ Inv g h : Value → Value → Value → Value → Heap → Prop), ⟨m g0, g0, rfl, e0, e1, e2, e3, hi⟩, fun n => ?_⟩
  show ∀ a0 a1 a2 a3 h, (∃ g, m g = n ∧ a0 = f0 g ∧ a1 = f1 g ∧ a2 = f2 g ∧ a3 = f3 g ∧ Inv g h) → body (LtT 4 (fun n => (fun a0 a1 a2 a3 h => ∃ g, m g = n ∧ a0 = f0 g ∧ a1 = f1 g ∧ a2 = f2 g ∧ a3 = f3 g ∧ Inv g h : Value → Value → Value → Value → Heap → Prop)) n) a0 a1 a2 a3 h
  rintro a0 a1 a2 a3 h1 ⟨g, rfl, rfl, rfl, rfl, rfl, i⟩
  have e : (LtT 4 (fun n => (fun a0 a1 a2 a3 h => ∃ g, m g = n ∧ a0 = f0 g ∧ a1 = f1 g ∧ a2 = f2 g ∧ a3 = f3 g ∧ Inv g h : Value → Value → Value → Value → Heap → Prop)) (m g)) = (fun a0 a1 a2 a3 h => ∃ g', m g' < m g ∧ a0 = f0 g' ∧ a1 = f1 g' ∧ a2 = f2 g' ∧ a3 = f3 g' ∧ Inv g' h : Value → Value → Value → Value → Heap → Prop) := by
    funext a0; funext a1; funext a2; funext a3; funext h
    exact propext ⟨fun ⟨n, hlt, g', e, r⟩ => ⟨g', e ▸ hlt, r⟩, fun ⟨g', hlt, r⟩ => ⟨m g', hlt, g', rfl, r⟩⟩
  rw [e]
  exact hr g h1 i
theorem jn5 {body : (Value → Value → Value → Value → Value → Heap → Prop) → Prop} {rest : Value → Value → Value → Value → Value → Heap → Prop} (Φ : Value → Value → Value → Value → Value → Heap → Prop) (hb : ∀ K : Value → Value → Value → Value → Value → Heap → Prop, (∀ a0 a1 a2 a3 a4 h, Φ a0 a1 a2 a3 a4 h → K a0 a1 a2 a3 a4 h) → body K) (hr : ∀ a0 a1 a2 a3 a4 h, Φ a0 a1 a2 a3 a4 h → rest a0 a1 a2 a3 a4 h) : JN 5 body rest := ⟨hb rest hr⟩
theorem lp5 {a0 a1 a2 a3 a4 : Value} {h : Heap} {body : (Value → Value → Value → Value → Value → Heap → Prop) → Value → Value → Value → Value → Value → Heap → Prop} (G : Type) (f0 : G → Value) (f1 : G → Value) (f2 : G → Value) (f3 : G → Value) (f4 : G → Value) (Inv : G → Heap → Prop) (m : G → Nat) (g0 : G) (e0 : a0 = f0 g0) (e1 : a1 = f1 g0) (e2 : a2 = f2 g0) (e3 : a3 = f3 g0) (e4 : a4 = f4 g0) (hi : Inv g0 h)
    (hr : ∀ g h', Inv g h' → body (fun a0 a1 a2 a3 a4 h => ∃ g', m g' < m g ∧ a0 = f0 g' ∧ a1 = f1 g' ∧ a2 = f2 g' ∧ a3 = f3 g' ∧ a4 = f4 g' ∧ Inv g' h) (f0 g) (f1 g) (f2 g) (f3 g) (f4 g) h') : LP 5 (fun I => (show Value → Value → Value → Value → Value → Heap → Prop from I) a0 a1 a2 a3 a4 h) body := by
  refine ⟨fun n => (fun a0 a1 a2 a3 a4 h => ∃ g, m g = n ∧ a0 = f0 g ∧ a1 = f1 g ∧ a2 = f2 g ∧ a3 = f3 g ∧ a4 = f4 g ∧ Inv g h : Value → Value → Value → Value → Value → Heap → Prop), ⟨m g0, g0, rfl, e0, e1, e2, e3, e4, hi⟩, fun n => ?_⟩
  show ∀ a0 a1 a2 a3 a4 h, (∃ g, m g = n ∧ a0 = f0 g ∧ a1 = f1 g ∧ a2 = f2 g ∧ a3 = f3 g ∧ a4 = f4 g ∧ Inv g h) → body (LtT 5 (fun n => (fun a0 a1 a2 a3 a4 h => ∃ g, m g = n ∧ a0 = f0 g ∧ a1 = f1 g ∧ a2 = f2 g ∧ a3 = f3 g ∧ a4 = f4 g ∧ Inv g h : Value → Value → Value → Value → Value → Heap → Prop)) n) a0 a1 a2 a3 a4 h
  rintro a0 a1 a2 a3 a4 h1 ⟨g, rfl, rfl, rfl, rfl, rfl, rfl, i⟩
  have e : (LtT 5 (fun n => (fun a0 a1 a2 a3 a4 h => ∃ g, m g = n ∧ a0 = f0 g ∧ a1 = f1 g ∧ a2 = f2 g ∧ a3 = f3 g ∧ a4 = f4 g ∧ Inv g h : Value → Value → Value → Value → Value → Heap → Prop)) (m g)) = (fun a0 a1 a2 a3 a4 h => ∃ g', m g' < m g ∧ a0 = f0 g' ∧ a1 = f1 g' ∧ a2 = f2 g' ∧ a3 = f3 g' ∧ a4 = f4 g' ∧ Inv g' h : Value → Value → Value → Value → Value → Heap → Prop) := by
    funext a0; funext a1; funext a2; funext a3; funext a4; funext h
    exact propext ⟨fun ⟨n, hlt, g', e, r⟩ => ⟨g', e ▸ hlt, r⟩, fun ⟨g', hlt, r⟩ => ⟨m g', hlt, g', rfl, r⟩⟩
  rw [e]
  exact hr g h1 i
theorem jn6 {body : (Value → Value → Value → Value → Value → Value → Heap → Prop) → Prop} {rest : Value → Value → Value → Value → Value → Value → Heap → Prop} (Φ : Value → Value → Value → Value → Value → Value → Heap → Prop) (hb : ∀ K : Value → Value → Value → Value → Value → Value → Heap → Prop, (∀ a0 a1 a2 a3 a4 a5 h, Φ a0 a1 a2 a3 a4 a5 h → K a0 a1 a2 a3 a4 a5 h) → body K) (hr : ∀ a0 a1 a2 a3 a4 a5 h, Φ a0 a1 a2 a3 a4 a5 h → rest a0 a1 a2 a3 a4 a5 h) : JN 6 body rest := ⟨hb rest hr⟩
theorem lp6 {a0 a1 a2 a3 a4 a5 : Value} {h : Heap} {body : (Value → Value → Value → Value → Value → Value → Heap → Prop) → Value → Value → Value → Value → Value → Value → Heap → Prop} (G : Type) (f0 : G → Value) (f1 : G → Value) (f2 : G → Value) (f3 : G → Value) (f4 : G → Value) (f5 : G → Value) (Inv : G → Heap → Prop) (m : G → Nat) (g0 : G) (e0 : a0 = f0 g0) (e1 : a1 = f1 g0) (e2 : a2 = f2 g0) (e3 : a3 = f3 g0) (e4 : a4 = f4 g0) (e5 : a5 = f5 g0) (hi : Inv g0 h)
    (hr : ∀ g h', Inv g h' → body (fun a0 a1 a2 a3 a4 a5 h => ∃ g', m g' < m g ∧ a0 = f0 g' ∧ a1 = f1 g' ∧ a2 = f2 g' ∧ a3 = f3 g' ∧ a4 = f4 g' ∧ a5 = f5 g' ∧ Inv g' h) (f0 g) (f1 g) (f2 g) (f3 g) (f4 g) (f5 g) h') : LP 6 (fun I => (show Value → Value → Value → Value → Value → Value → Heap → Prop from I) a0 a1 a2 a3 a4 a5 h) body := by
  refine ⟨fun n => (fun a0 a1 a2 a3 a4 a5 h => ∃ g, m g = n ∧ a0 = f0 g ∧ a1 = f1 g ∧ a2 = f2 g ∧ a3 = f3 g ∧ a4 = f4 g ∧ a5 = f5 g ∧ Inv g h : Value → Value → Value → Value → Value → Value → Heap → Prop), ⟨m g0, g0, rfl, e0, e1, e2, e3, e4, e5, hi⟩, fun n => ?_⟩
  show ∀ a0 a1 a2 a3 a4 a5 h, (∃ g, m g = n ∧ a0 = f0 g ∧ a1 = f1 g ∧ a2 = f2 g ∧ a3 = f3 g ∧ a4 = f4 g ∧ a5 = f5 g ∧ Inv g h) → body (LtT 6 (fun n => (fun a0 a1 a2 a3 a4 a5 h => ∃ g, m g = n ∧ a0 = f0 g ∧ a1 = f1 g ∧ a2 = f2 g ∧ a3 = f3 g ∧ a4 = f4 g ∧ a5 = f5 g ∧ Inv g h : Value → Value → Value → Value → Value → Value → Heap → Prop)) n) a0 a1 a2 a3 a4 a5 h
  rintro a0 a1 a2 a3 a4 a5 h1 ⟨g, rfl, rfl, rfl, rfl, rfl, rfl, rfl, i⟩
  have e : (LtT 6 (fun n => (fun a0 a1 a2 a3 a4 a5 h => ∃ g, m g = n ∧ a0 = f0 g ∧ a1 = f1 g ∧ a2 = f2 g ∧ a3 = f3 g ∧ a4 = f4 g ∧ a5 = f5 g ∧ Inv g h : Value → Value → Value → Value → Value → Value → Heap → Prop)) (m g)) = (fun a0 a1 a2 a3 a4 a5 h => ∃ g', m g' < m g ∧ a0 = f0 g' ∧ a1 = f1 g' ∧ a2 = f2 g' ∧ a3 = f3 g' ∧ a4 = f4 g' ∧ a5 = f5 g' ∧ Inv g' h : Value → Value → Value → Value → Value → Value → Heap → Prop) := by
    funext a0; funext a1; funext a2; funext a3; funext a4; funext a5; funext h
    exact propext ⟨fun ⟨n, hlt, g', e, r⟩ => ⟨g', e ▸ hlt, r⟩, fun ⟨g', hlt, r⟩ => ⟨m g', hlt, g', rfl, r⟩⟩
  rw [e]
  exact hr g h1 i
theorem jn7 {body : (Value → Value → Value → Value → Value → Value → Value → Heap → Prop) → Prop} {rest : Value → Value → Value → Value → Value → Value → Value → Heap → Prop} (Φ : Value → Value → Value → Value → Value → Value → Value → Heap → Prop) (hb : ∀ K : Value → Value → Value → Value → Value → Value → Value → Heap → Prop, (∀ a0 a1 a2 a3 a4 a5 a6 h, Φ a0 a1 a2 a3 a4 a5 a6 h → K a0 a1 a2 a3 a4 a5 a6 h) → body K) (hr : ∀ a0 a1 a2 a3 a4 a5 a6 h, Φ a0 a1 a2 a3 a4 a5 a6 h → rest a0 a1 a2 a3 a4 a5 a6 h) : JN 7 body rest := ⟨hb rest hr⟩
theorem lp7 {a0 a1 a2 a3 a4 a5 a6 : Value} {h : Heap} {body : (Value → Value → Value → Value → Value → Value → Value → Heap → Prop) → Value → Value → Value → Value → Value → Value → Value → Heap → Prop} (G : Type) (f0 : G → Value) (f1 : G → Value) (f2 : G → Value) (f3 : G → Value) (f4 : G → Value) (f5 : G → Value) (f6 : G → Value) (Inv : G → Heap → Prop) (m : G → Nat) (g0 : G) (e0 : a0 = f0 g0) (e1 : a1 = f1 g0) (e2 : a2 = f2 g0) (e3 : a3 = f3 g0) (e4 : a4 = f4 g0) (e5 : a5 = f5 g0) (e6 : a6 = f6 g0) (hi : Inv g0 h)
    (hr : ∀ g h', Inv g h' → body (fun a0 a1 a2 a3 a4 a5 a6 h => ∃ g', m g' < m g ∧ a0 = f0 g' ∧ a1 = f1 g' ∧ a2 = f2 g' ∧ a3 = f3 g' ∧ a4 = f4 g' ∧ a5 = f5 g' ∧ a6 = f6 g' ∧ Inv g' h) (f0 g) (f1 g) (f2 g) (f3 g) (f4 g) (f5 g) (f6 g) h') : LP 7 (fun I => (show Value → Value → Value → Value → Value → Value → Value → Heap → Prop from I) a0 a1 a2 a3 a4 a5 a6 h) body := by
  refine ⟨fun n => (fun a0 a1 a2 a3 a4 a5 a6 h => ∃ g, m g = n ∧ a0 = f0 g ∧ a1 = f1 g ∧ a2 = f2 g ∧ a3 = f3 g ∧ a4 = f4 g ∧ a5 = f5 g ∧ a6 = f6 g ∧ Inv g h : Value → Value → Value → Value → Value → Value → Value → Heap → Prop), ⟨m g0, g0, rfl, e0, e1, e2, e3, e4, e5, e6, hi⟩, fun n => ?_⟩
  show ∀ a0 a1 a2 a3 a4 a5 a6 h, (∃ g, m g = n ∧ a0 = f0 g ∧ a1 = f1 g ∧ a2 = f2 g ∧ a3 = f3 g ∧ a4 = f4 g ∧ a5 = f5 g ∧ a6 = f6 g ∧ Inv g h) → body (LtT 7 (fun n => (fun a0 a1 a2 a3 a4 a5 a6 h => ∃ g, m g = n ∧ a0 = f0 g ∧ a1 = f1 g ∧ a2 = f2 g ∧ a3 = f3 g ∧ a4 = f4 g ∧ a5 = f5 g ∧ a6 = f6 g ∧ Inv g h : Value → Value → Value → Value → Value → Value → Value → Heap → Prop)) n) a0 a1 a2 a3 a4 a5 a6 h
  rintro a0 a1 a2 a3 a4 a5 a6 h1 ⟨g, rfl, rfl, rfl, rfl, rfl, rfl, rfl, rfl, i⟩
  have e : (LtT 7 (fun n => (fun a0 a1 a2 a3 a4 a5 a6 h => ∃ g, m g = n ∧ a0 = f0 g ∧ a1 = f1 g ∧ a2 = f2 g ∧ a3 = f3 g ∧ a4 = f4 g ∧ a5 = f5 g ∧ a6 = f6 g ∧ Inv g h : Value → Value → Value → Value → Value → Value → Value → Heap → Prop)) (m g)) = (fun a0 a1 a2 a3 a4 a5 a6 h => ∃ g', m g' < m g ∧ a0 = f0 g' ∧ a1 = f1 g' ∧ a2 = f2 g' ∧ a3 = f3 g' ∧ a4 = f4 g' ∧ a5 = f5 g' ∧ a6 = f6 g' ∧ Inv g' h : Value → Value → Value → Value → Value → Value → Value → Heap → Prop) := by
    funext a0; funext a1; funext a2; funext a3; funext a4; funext a5; funext a6; funext h
    exact propext ⟨fun ⟨n, hlt, g', e, r⟩ => ⟨g', e ▸ hlt, r⟩, fun ⟨g', hlt, r⟩ => ⟨m g', hlt, g', rfl, r⟩⟩
  rw [e]
  exact hr g h1 i
theorem jn8 {body : (Value → Value → Value → Value → Value → Value → Value → Value → Heap → Prop) → Prop} {rest : Value → Value → Value → Value → Value → Value → Value → Value → Heap → Prop} (Φ : Value → Value → Value → Value → Value → Value → Value → Value → Heap → Prop) (hb : ∀ K : Value → Value → Value → Value → Value → Value → Value → Value → Heap → Prop, (∀ a0 a1 a2 a3 a4 a5 a6 a7 h, Φ a0 a1 a2 a3 a4 a5 a6 a7 h → K a0 a1 a2 a3 a4 a5 a6 a7 h) → body K) (hr : ∀ a0 a1 a2 a3 a4 a5 a6 a7 h, Φ a0 a1 a2 a3 a4 a5 a6 a7 h → rest a0 a1 a2 a3 a4 a5 a6 a7 h) : JN 8 body rest := ⟨hb rest hr⟩
theorem lp8 {a0 a1 a2 a3 a4 a5 a6 a7 : Value} {h : Heap} {body : (Value → Value → Value → Value → Value → Value → Value → Value → Heap → Prop) → Value → Value → Value → Value → Value → Value → Value → Value → Heap → Prop} (G : Type) (f0 : G → Value) (f1 : G → Value) (f2 : G → Value) (f3 : G → Value) (f4 : G → Value) (f5 : G → Value) (f6 : G → Value) (f7 : G → Value) (Inv : G → Heap → Prop) (m : G → Nat) (g0 : G) (e0 : a0 = f0 g0) (e1 : a1 = f1 g0) (e2 : a2 = f2 g0) (e3 : a3 = f3 g0) (e4 : a4 = f4 g0) (e5 : a5 = f5 g0) (e6 : a6 = f6 g0) (e7 : a7 = f7 g0) (hi : Inv g0 h)
    (hr : ∀ g h', Inv g h' → body (fun a0 a1 a2 a3 a4 a5 a6 a7 h => ∃ g', m g' < m g ∧ a0 = f0 g' ∧ a1 = f1 g' ∧ a2 = f2 g' ∧ a3 = f3 g' ∧ a4 = f4 g' ∧ a5 = f5 g' ∧ a6 = f6 g' ∧ a7 = f7 g' ∧ Inv g' h) (f0 g) (f1 g) (f2 g) (f3 g) (f4 g) (f5 g) (f6 g) (f7 g) h') : LP 8 (fun I => (show Value → Value → Value → Value → Value → Value → Value → Value → Heap → Prop from I) a0 a1 a2 a3 a4 a5 a6 a7 h) body := by
  refine ⟨fun n => (fun a0 a1 a2 a3 a4 a5 a6 a7 h => ∃ g, m g = n ∧ a0 = f0 g ∧ a1 = f1 g ∧ a2 = f2 g ∧ a3 = f3 g ∧ a4 = f4 g ∧ a5 = f5 g ∧ a6 = f6 g ∧ a7 = f7 g ∧ Inv g h : Value → Value → Value → Value → Value → Value → Value → Value → Heap → Prop), ⟨m g0, g0, rfl, e0, e1, e2, e3, e4, e5, e6, e7, hi⟩, fun n => ?_⟩
  show ∀ a0 a1 a2 a3 a4 a5 a6 a7 h, (∃ g, m g = n ∧ a0 = f0 g ∧ a1 = f1 g ∧ a2 = f2 g ∧ a3 = f3 g ∧ a4 = f4 g ∧ a5 = f5 g ∧ a6 = f6 g ∧ a7 = f7 g ∧ Inv g h) → body (LtT 8 (fun n => (fun a0 a1 a2 a3 a4 a5 a6 a7 h => ∃ g, m g = n ∧ a0 = f0 g ∧ a1 = f1 g ∧ a2 = f2 g ∧ a3 = f3 g ∧ a4 = f4 g ∧ a5 = f5 g ∧ a6 = f6 g ∧ a7 = f7 g ∧ Inv g h : Value → Value → Value → Value → Value → Value → Value → Value → Heap → Prop)) n) a0 a1 a2 a3 a4 a5 a6 a7 h
  rintro a0 a1 a2 a3 a4 a5 a6 a7 h1 ⟨g, rfl, rfl, rfl, rfl, rfl, rfl, rfl, rfl, rfl, i⟩
  have e : (LtT 8 (fun n => (fun a0 a1 a2 a3 a4 a5 a6 a7 h => ∃ g, m g = n ∧ a0 = f0 g ∧ a1 = f1 g ∧ a2 = f2 g ∧ a3 = f3 g ∧ a4 = f4 g ∧ a5 = f5 g ∧ a6 = f6 g ∧ a7 = f7 g ∧ Inv g h : Value → Value → Value → Value → Value → Value → Value → Value → Heap → Prop)) (m g)) = (fun a0 a1 a2 a3 a4 a5 a6 a7 h => ∃ g', m g' < m g ∧ a0 = f0 g' ∧ a1 = f1 g' ∧ a2 = f2 g' ∧ a3 = f3 g' ∧ a4 = f4 g' ∧ a5 = f5 g' ∧ a6 = f6 g' ∧ a7 = f7 g' ∧ Inv g' h : Value → Value → Value → Value → Value → Value → Value → Value → Heap → Prop) := by
    funext a0; funext a1; funext a2; funext a3; funext a4; funext a5; funext a6; funext a7; funext h
    exact propext ⟨fun ⟨n, hlt, g', e, r⟩ => ⟨g', e ▸ hlt, r⟩, fun ⟨g', hlt, r⟩ => ⟨m g', hlt, g', rfl, r⟩⟩
  rw [e]
  exact hr g h1 i
theorem jn9 {body : (Value → Value → Value → Value → Value → Value → Value → Value → Value → Heap → Prop) → Prop} {rest : Value → Value → Value → Value → Value → Value → Value → Value → Value → Heap → Prop} (Φ : Value → Value → Value → Value → Value → Value → Value → Value → Value → Heap → Prop) (hb : ∀ K : Value → Value → Value → Value → Value → Value → Value → Value → Value → Heap → Prop, (∀ a0 a1 a2 a3 a4 a5 a6 a7 a8 h, Φ a0 a1 a2 a3 a4 a5 a6 a7 a8 h → K a0 a1 a2 a3 a4 a5 a6 a7 a8 h) → body K) (hr : ∀ a0 a1 a2 a3 a4 a5 a6 a7 a8 h, Φ a0 a1 a2 a3 a4 a5 a6 a7 a8 h → rest a0 a1 a2 a3 a4 a5 a6 a7 a8 h) : JN 9 body rest := ⟨hb rest hr⟩
theorem lp9 {a0 a1 a2 a3 a4 a5 a6 a7 a8 : Value} {h : Heap} {body : (Value → Value → Value → Value → Value → Value → Value → Value → Value → Heap → Prop) → Value → Value → Value → Value → Value → Value → Value → Value → Value → Heap → Prop} (G : Type) (f0 : G → Value) (f1 : G → Value) (f2 : G → Value) (f3 : G → Value) (f4 : G → Value) (f5 : G → Value) (f6 : G → Value) (f7 : G → Value) (f8 : G → Value) (Inv : G → Heap → Prop) (m : G → Nat) (g0 : G) (e0 : a0 = f0 g0) (e1 : a1 = f1 g0) (e2 : a2 = f2 g0) (e3 : a3 = f3 g0) (e4 : a4 = f4 g0) (e5 : a5 = f5 g0) (e6 : a6 = f6 g0) (e7 : a7 = f7 g0) (e8 : a8 = f8 g0) (hi : Inv g0 h)
    (hr : ∀ g h', Inv g h' → body (fun a0 a1 a2 a3 a4 a5 a6 a7 a8 h => ∃ g', m g' < m g ∧ a0 = f0 g' ∧ a1 = f1 g' ∧ a2 = f2 g' ∧ a3 = f3 g' ∧ a4 = f4 g' ∧ a5 = f5 g' ∧ a6 = f6 g' ∧ a7 = f7 g' ∧ a8 = f8 g' ∧ Inv g' h) (f0 g) (f1 g) (f2 g) (f3 g) (f4 g) (f5 g) (f6 g) (f7 g) (f8 g) h') : LP 9 (fun I => (show Value → Value → Value → Value → Value → Value → Value → Value → Value → Heap → Prop from I) a0 a1 a2 a3 a4 a5 a6 a7 a8 h) body := by
  refine ⟨fun n => (fun a0 a1 a2 a3 a4 a5 a6 a7 a8 h => ∃ g, m g = n ∧ a0 = f0 g ∧ a1 = f1 g ∧ a2 = f2 g ∧ a3 = f3 g ∧ a4 = f4 g ∧ a5 = f5 g ∧ a6 = f6 g ∧ a7 = f7 g ∧ a8 = f8 g ∧ Inv g h : Value → Value → Value → Value → Value → Value → Value → Value → Value → Heap → Prop), ⟨m g0, g0, rfl, e0, e1, e2, e3, e4, e5, e6, e7, e8, hi⟩, fun n => ?_⟩
  show ∀ a0 a1 a2 a3 a4 a5 a6 a7 a8 h, (∃ g, m g = n ∧ a0 = f0 g ∧ a1 = f1 g ∧ a2 = f2 g ∧ a3 = f3 g ∧ a4 = f4 g ∧ a5 = f5 g ∧ a6 = f6 g ∧ a7 = f7 g ∧ a8 = f8 g ∧ Inv g h) → body (LtT 9 (fun n => (fun a0 a1 a2 a3 a4 a5 a6 a7 a8 h => ∃ g, m g = n ∧ a0 = f0 g ∧ a1 = f1 g ∧ a2 = f2 g ∧ a3 = f3 g ∧ a4 = f4 g ∧ a5 = f5 g ∧ a6 = f6 g ∧ a7 = f7 g ∧ a8 = f8 g ∧ Inv g h : Value → Value → Value → Value → Value → Value → Value → Value → Value → Heap → Prop)) n) a0 a1 a2 a3 a4 a5 a6 a7 a8 h
  rintro a0 a1 a2 a3 a4 a5 a6 a7 a8 h1 ⟨g, rfl, rfl, rfl, rfl, rfl, rfl, rfl, rfl, rfl, rfl, i⟩
  have e : (LtT 9 (fun n => (fun a0 a1 a2 a3 a4 a5 a6 a7 a8 h => ∃ g, m g = n ∧ a0 = f0 g ∧ a1 = f1 g ∧ a2 = f2 g ∧ a3 = f3 g ∧ a4 = f4 g ∧ a5 = f5 g ∧ a6 = f6 g ∧ a7 = f7 g ∧ a8 = f8 g ∧ Inv g h : Value → Value → Value → Value → Value → Value → Value → Value → Value → Heap → Prop)) (m g)) = (fun a0 a1 a2 a3 a4 a5 a6 a7 a8 h => ∃ g', m g' < m g ∧ a0 = f0 g' ∧ a1 = f1 g' ∧ a2 = f2 g' ∧ a3 = f3 g' ∧ a4 = f4 g' ∧ a5 = f5 g' ∧ a6 = f6 g' ∧ a7 = f7 g' ∧ a8 = f8 g' ∧ Inv g' h : Value → Value → Value → Value → Value → Value → Value → Value → Value → Heap → Prop) := by
    funext a0; funext a1; funext a2; funext a3; funext a4; funext a5; funext a6; funext a7; funext a8; funext h
    exact propext ⟨fun ⟨n, hlt, g', e, r⟩ => ⟨g', e ▸ hlt, r⟩, fun ⟨g', hlt, r⟩ => ⟨m g', hlt, g', rfl, r⟩⟩
  rw [e]
  exact hr g h1 i

end Go.Sl
end
