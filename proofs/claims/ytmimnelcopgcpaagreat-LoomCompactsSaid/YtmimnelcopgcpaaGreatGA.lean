/- Parts of the proof, laid together: D1 G1 G2 G3 G4 G5 G6. No statement of the seat is proved here. -/
import Derived.Test.YtmimnelcopgcpaaGreatWA
set_option linter.unusedVariables false
set_option linter.unusedSimpArgs false
section
namespace Go.Sl
open Go

structure Ev where
  kind : Int
  g : Int
  chan : Int
  case : Int
  value : Int
  mate : Int
  send : Bool
  ok : Bool
  deriving DecidableEq, Repr

structure Cs where
  send : Bool
  chan : Int
  value : Int
  deriving DecidableEq, Repr

structure Op where
  kind : Int
  a : Int
  b : Int
  cases : List Cs
  dflt : Bool
  deriving DecidableEq, Repr

structure Script where
  t : Int
  m : Int
  programs : List (List Op)
  plan : List Int
  draws : List Int
  deriving DecidableEq, Repr

structure One where
  program : Int
  place : Int
  state : Int
  deriving DecidableEq, Repr

structure Wt where
  g : Int
  case : Int
  value : Int
  deriving DecidableEq, Repr

/-- A slice's value. -/
structure SlV where
  a : Option Addr
  n : Nat
  c : Nat

/-- An operation as it lies in memory. -/
structure OpV where
  kind : Int
  a : Int
  b : Int
  cases : SlV
  dflt : Bool

abbrev SlV.v (s : SlV) : Value := .slice s.a s.n s.c

instance : Cel Ev := ⟨8, fun x => [int x.kind, int x.g, int x.chan, int x.case, int x.value, int x.mate, .bool x.send, .bool x.ok], fun _ => rfl, fun _ => rfl⟩
instance : Cel Cs := ⟨3, fun x => [.bool x.send, int x.chan, int x.value], fun _ => rfl, fun _ => rfl⟩
instance : Cel One := ⟨3, fun x => [int x.program, int x.place, int x.state], fun _ => rfl, fun _ => rfl⟩
instance : Cel Wt := ⟨3, fun x => [int x.g, int x.case, int x.value], fun _ => rfl, fun _ => rfl⟩
instance : Cel SlV := ⟨1, fun x => [x.v], fun _ => rfl, fun _ => rfl⟩
instance : Cel OpV := ⟨5, fun x => [int x.kind, int x.a, int x.b, x.cases.v, .bool x.dflt], fun _ => rfl, fun _ => rfl⟩

abbrev agg {α : Type} [Cel α] (x : α) : Value := .agg (Cel.cells x).toArray

/-- A list of operations that is read at a slice's value. -/
def readsOps (s : PH) (v : Value) (l : List Op) : Prop :=
  ∃ vs : List OpV, readsP s v vs ∧ vs.length = l.length ∧ ∀ (i : Nat) (x : OpV) (o : Op), vs[i]? = some x → l[i]? = some o → x.kind = o.kind ∧ x.a = o.a ∧ x.b = o.b ∧ x.dflt = o.dflt ∧ readsP s x.cases.v o.cases

def readsProgs (s : PH) (v : Value) (l : List (List Op)) : Prop :=
  ∃ vs : List SlV, readsP s v vs ∧ vs.length = l.length ∧ ∀ (i : Nat) (x : SlV) (o : List Op), vs[i]? = some x → l[i]? = some o → readsOps s x.v o

structure ScriptV where
  t : Int
  m : Int
  programs : SlV
  plan : SlV
  draws : SlV

instance : Cel ScriptV := ⟨5, fun x => [int x.t, int x.m, x.programs.v, x.plan.v, x.draws.v], fun _ => rfl, fun _ => rfl⟩

structure readsScript (s : PH) (v : ScriptV) (x : Script) : Prop where
  t : v.t = x.t
  m : v.m = x.m
  programs : readsProgs s v.programs.v x.programs
  plan : readsP s v.plan.v x.plan
  draws : readsP s v.draws.v x.draws

theorem readsOps.up {s t : PH} {v : Value} {l : List Op} (r : readsOps s v l) (x : Sub s t) : readsOps t v l := by
  obtain ⟨vs, h1, h2, h3⟩ := r
  exact ⟨vs, h1.up x, h2, fun i y o hy ho => by obtain ⟨a, b, c, d, e⟩ := h3 i y o hy ho; exact ⟨a, b, c, d, e.up x⟩⟩

theorem readsProgs.up {s t : PH} {v : Value} {l : List (List Op)} (r : readsProgs s v l) (x : Sub s t) : readsProgs t v l := by
  obtain ⟨vs, h1, h2, h3⟩ := r
  exact ⟨vs, h1.up x, h2, fun i y o hy ho => (h3 i y o hy ho).up x⟩

theorem readsScript.up {s t : PH} {v : ScriptV} {c : Script} (r : readsScript s v c) (x : Sub s t) : readsScript t v c := ⟨r.t, r.m, r.programs.up x, r.plan.up x, r.draws.up x⟩

/-- What a function value answers of each of some things, whatever was made meanwhile. -/
def Tells {α : Type} (enc : α → Value) (fv : Value) (h : Heap) (xs : List α) (p : α → Bool) : Prop :=
  ∃ f first cap, fv = .func (.func f) first cap ∧ ∀ h', Ext h h' → ∀ x ∈ xs, HT P f (first.toList ++ [enc x] ++ cap.toList) h' fun v h'' => v = .bool (p x) ∧ Ext h' h''

theorem Tells.ext {α : Type} {enc : α → Value} {fv : Value} {h h' : Heap} {xs : List α} {p : α → Bool} (t : Tells enc fv h xs p) (x : Ext h h') : Tells enc fv h' xs p := by
  obtain ⟨f, a, c, e, r⟩ := t
  exact ⟨f, a, c, e, fun h2 x2 => r h2 (x.trans x2)⟩

end Go.Sl
end

section
namespace Go.Sl
open Go
attribute [local irreducible] HT

theorem findIdx_step {α : Type} {p : α → Bool} {xs : List α} {k : Nat} (hk : ∀ i, i < k → ∀ x, xs[i]? = some x → p x = false) {x : α} (hx : xs[k]? = some x) (hp : p x = true) : xs.findIdx p = k := by
  have hlt := (List.getElem?_eq_some_iff.1 hx).1
  refine (List.findIdx_eq hlt).2 ⟨?_, fun j hj => ?_⟩
  · have := (List.getElem?_eq_some_iff.1 hx).2; rw [this]; exact hp
  · exact hk j hj _ (List.getElem?_eq_getElem _)

theorem any_findIdx {α : Type} {p : α → Bool} {xs : List α} : xs.any p = decide (xs.findIdx p < xs.length) := by
  rw [Bool.eq_iff_iff]; simp [List.findIdx_lt_length]

/-- What IndexFunc answers. -/
def idxOf {α : Type} (p : α → Bool) (xs : List α) : Int := if xs.findIdx p < xs.length then (xs.findIdx p : Int) else -1

theorem indexFunc_int {h : Heap} {v fv : Value} {xs : List Int} {p : Int → Bool} (hv : reads h v xs) (hf : Tells int fv h xs p) (hn : xs.length ≤ 1000000000) :
    HT P 38 [v, fv] h fun r h' => r = int (idxOf p xs) ∧ Ext h h' := by
  obtain ⟨a, c, rfl⟩ := hv.len
  obtain ⟨f, first, cap, rfl, hf⟩ := hf
  refine u38 ?_
  refine lp1 Nat (fun k => int k) (fun k h' => k ≤ xs.length ∧ Ext h h' ∧ ∀ i, i < k → ∀ x, xs[i]? = some x → p x = false) (fun k => xs.length - k) 0 rfl ⟨by omega, Ext.refl _, fun i hi => by omega⟩ ?_
  rintro k h1 ⟨hk, x1, hno⟩ _
  refine cmp (fun hlt => ?_) (fun hge => ?_)
  · have hlt' : k < xs.length := by omega
    have hx := List.getElem?_eq_getElem hlt'
    obtain ⟨b, o, rfl, _, hr⟩ := (hv.ext x1).get hx
    refine idx k rfl hlt' ?_
    refine rd1 (hr 0 _ rfl) ?_
    refine callv (hf h1 x1 _ (List.getElem_mem hlt')) ?_
    rintro _ h2 ⟨rfl, x2⟩
    cases hp : p xs[k] with
    | true =>
      have he := findIdx_step hno hx hp
      exact ⟨by simp only [idxOf]; rw [he, if_pos hlt'], x1.trans x2⟩
    | false =>
      refine ari64 (by omega) ?_
      refine ⟨k + 1, by omega, rfl, hlt', x1.trans x2, fun i hi x hxi => ?_⟩
      by_cases hik : i < k
      · exact hno i hik x hxi
      · have : i = k := by omega
        subst this
        rw [hx] at hxi; injection hxi with hxi; subst hxi; exact hp
  · have : ¬ xs.findIdx p < xs.length := fun hlt => by
      have h2 := List.findIdx_getElem (w := hlt)
      rw [hno _ (by omega) _ (List.getElem?_eq_getElem hlt)] at h2; cases h2
    exact ⟨by simp only [idxOf]; rw [if_neg this], x1⟩

theorem containsFunc_int {h : Heap} {v fv : Value} {xs : List Int} {p : Int → Bool} (hv : reads h v xs) (hf : Tells int fv h xs p) (hn : xs.length ≤ 1000000000) :
    HT P 44 [v, fv] h fun r h' => r = .bool (xs.any p) ∧ Ext h h' := by
  refine u44 ?_
  refine call (indexFunc_int hv hf hn) ?_
  rintro _ h1 ⟨rfl, x1⟩
  refine cmp (fun hge => ?_) (fun hlt => ?_)
  · refine ⟨?_, x1⟩
    rw [any_findIdx]
    by_cases h : xs.findIdx p < xs.length
    · simp [h]
    · simp [idxOf, h] at hge
  · refine ⟨?_, x1⟩
    rw [any_findIdx]
    by_cases h : xs.findIdx p < xs.length
    · simp [idxOf, h] at hlt
    · simp [h]

theorem indexFunc_ops {h : Heap} {v fv : Value} {xs : List SlV} {p : SlV → Bool} (hv : reads h v xs) (hf : Tells SlV.v fv h xs p) (hn : xs.length ≤ 1000000000) :
    HT P 84 [v, fv] h fun r h' => r = int (idxOf p xs) ∧ Ext h h' := by
  obtain ⟨a, c, rfl⟩ := hv.len
  obtain ⟨f, first, cap, rfl, hf⟩ := hf
  refine u84 ?_
  refine lp1 Nat (fun k => int k) (fun k h' => k ≤ xs.length ∧ Ext h h' ∧ ∀ i, i < k → ∀ x, xs[i]? = some x → p x = false) (fun k => xs.length - k) 0 rfl ⟨by omega, Ext.refl _, fun i hi => by omega⟩ ?_
  rintro k h1 ⟨hk, x1, hno⟩ _
  refine cmp (fun hlt => ?_) (fun hge => ?_)
  · have hlt' : k < xs.length := by omega
    have hx := List.getElem?_eq_getElem hlt'
    obtain ⟨b, o, rfl, _, hr⟩ := (hv.ext x1).get hx
    refine idx k rfl hlt' ?_
    refine rd1 (hr 0 _ rfl) ?_
    refine callv (hf h1 x1 _ (List.getElem_mem hlt')) ?_
    rintro _ h2 ⟨rfl, x2⟩
    cases hp : p xs[k] with
    | true =>
      have he := findIdx_step hno hx hp
      exact ⟨by simp only [idxOf]; rw [he, if_pos hlt'], x1.trans x2⟩
    | false =>
      refine ari64 (by omega) ?_
      refine ⟨k + 1, by omega, rfl, hlt', x1.trans x2, fun i hi x hxi => ?_⟩
      by_cases hik : i < k
      · exact hno i hik x hxi
      · have : i = k := by omega
        subst this
        rw [hx] at hxi; injection hxi with hxi; subst hxi; exact hp
  · have : ¬ xs.findIdx p < xs.length := fun hlt => by
      have h2 := List.findIdx_getElem (w := hlt)
      rw [hno _ (by omega) _ (List.getElem?_eq_getElem hlt)] at h2; cases h2
    exact ⟨by simp only [idxOf]; rw [if_neg this], x1⟩

theorem containsFunc_ops {h : Heap} {v fv : Value} {xs : List SlV} {p : SlV → Bool} (hv : reads h v xs) (hf : Tells SlV.v fv h xs p) (hn : xs.length ≤ 1000000000) :
    HT P 59 [v, fv] h fun r h' => r = .bool (xs.any p) ∧ Ext h h' := by
  refine u59 ?_
  refine call (indexFunc_ops hv hf hn) ?_
  rintro _ h1 ⟨rfl, x1⟩
  refine cmp (fun hge => ?_) (fun hlt => ?_)
  · refine ⟨?_, x1⟩
    rw [any_findIdx]
    by_cases h : xs.findIdx p < xs.length
    · simp [h]
    · simp [idxOf, h] at hge
  · refine ⟨?_, x1⟩
    rw [any_findIdx]
    by_cases h : xs.findIdx p < xs.length
    · simp [idxOf, h] at hlt
    · simp [h]

theorem indexFunc_wt {h : Heap} {v fv : Value} {xs : List Wt} {p : Wt → Bool} (hv : reads h v xs) (hf : Tells agg fv h xs p) (hn : xs.length ≤ 1000000000) :
    HT P 111 [v, fv] h fun r h' => r = int (idxOf p xs) ∧ Ext h h' := by
  obtain ⟨a, c, rfl⟩ := hv.len
  obtain ⟨f, first, cap, rfl, hf⟩ := hf
  refine u111 ?_
  refine lp1 Nat (fun k => int k) (fun k h' => k ≤ xs.length ∧ Ext h h' ∧ ∀ i, i < k → ∀ x, xs[i]? = some x → p x = false) (fun k => xs.length - k) 0 rfl ⟨by omega, Ext.refl _, fun i hi => by omega⟩ ?_
  rintro k h1 ⟨hk, x1, hno⟩ _
  refine cmp (fun hlt => ?_) (fun hge => ?_)
  · have hlt' : k < xs.length := by omega
    have hx := List.getElem?_eq_getElem hlt'
    obtain ⟨b, o, rfl, _, hr⟩ := (hv.ext x1).get hx
    refine idx k rfl hlt' ?_
    refine rdn rfl hr ?_
    refine callv (hf h1 x1 _ (List.getElem_mem hlt')) ?_
    rintro _ h2 ⟨rfl, x2⟩
    cases hp : p xs[k] with
    | true =>
      have he := findIdx_step hno hx hp
      exact ⟨by simp only [idxOf]; rw [he, if_pos hlt'], x1.trans x2⟩
    | false =>
      refine ari64 (by omega) ?_
      refine ⟨k + 1, by omega, rfl, hlt', x1.trans x2, fun i hi x hxi => ?_⟩
      by_cases hik : i < k
      · exact hno i hik x hxi
      · have : i = k := by omega
        subst this
        rw [hx] at hxi; injection hxi with hxi; subst hxi; exact hp
  · have : ¬ xs.findIdx p < xs.length := fun hlt => by
      have h2 := List.findIdx_getElem (w := hlt)
      rw [hno _ (by omega) _ (List.getElem?_eq_getElem hlt)] at h2; cases h2
    exact ⟨by simp only [idxOf]; rw [if_neg this], x1⟩

theorem containsFunc_wt {h : Heap} {v fv : Value} {xs : List Wt} {p : Wt → Bool} (hv : reads h v xs) (hf : Tells agg fv h xs p) (hn : xs.length ≤ 1000000000) :
    HT P 105 [v, fv] h fun r h' => r = .bool (xs.any p) ∧ Ext h h' := by
  refine u105 ?_
  refine call (indexFunc_wt hv hf hn) ?_
  rintro _ h1 ⟨rfl, x1⟩
  refine cmp (fun hge => ?_) (fun hlt => ?_)
  · refine ⟨?_, x1⟩
    rw [any_findIdx]
    by_cases h : xs.findIdx p < xs.length
    · simp [h]
    · simp [idxOf, h] at hge
  · refine ⟨?_, x1⟩
    rw [any_findIdx]
    by_cases h : xs.findIdx p < xs.length
    · simp [idxOf, h] at hlt
    · simp [h]

/-- A copy of its own, of what can be read. -/
theorem clone_int {h : Heap} {L : List HP} {v : Value} {xs : List Int} (H : Sat h L) (hv : reads h v xs) (hn : xs.length * 1000 ≤ 2 ^ 46) :
    HT P 37 [v] h fun r h' => Ext h h' ∧ Sat h' (own 3 r xs :: L) := by
  obtain ⟨a, c, rfl⟩ := hv.len
  refine u37 ?_
  cases a with
  | none =>
    have : xs = [] := by
      cases xs with
      | nil => rfl
      | cons x r =>
        obtain ⟨_, _, e, _⟩ := hv.get (i := 0) (x := x) rfl
        cases e
    subst this
    exact ⟨Ext.refl _, own_new H _⟩
  | some ad =>
    refine fil rfl ?_
    have H1 := (H.push (.cells #[] 3 (0, 0)))
    have x1 : Ext h (h.push (.cells #[] 3 (0, 0))) := Ext.push _ _
    have H2 : Sat (h.push (.cells #[] 3 (0, 0))) (own 3 (.slice (some ⟨h.size, 0, none⟩) 0 0) ([] : List Int) :: L) := SatP.imp H1 fun t _ => own_nil _ _ t
    refine app_ext H2 rfl rfl (hv.ext x1) (by simp; omega) (fun v' h' x2 H' => ?_)
    exact ⟨x1.trans x2, H'⟩

/-- A copy of its own, of what can be read. -/
theorem clone_ev {h : Heap} {L : List HP} {v : Value} {xs : List Ev} (H : Sat h L) (hv : reads h v xs) (hn : xs.length * 1000 ≤ 2 ^ 46) :
    HT P 31 [v] h fun r h' => Ext h h' ∧ Sat h' (own 34 r xs :: L) := by
  obtain ⟨a, c, rfl⟩ := hv.len
  refine u31 ?_
  cases a with
  | none =>
    have : xs = [] := by
      cases xs with
      | nil => rfl
      | cons x r =>
        obtain ⟨_, _, e, _⟩ := hv.get (i := 0) (x := x) rfl
        cases e
    subst this
    exact ⟨Ext.refl _, own_new H _⟩
  | some ad =>
    refine fil rfl ?_
    have H1 := (H.push (.cells #[] 34 (0, 0)))
    have x1 : Ext h (h.push (.cells #[] 34 (0, 0))) := Ext.push _ _
    have H2 : Sat (h.push (.cells #[] 34 (0, 0))) (own 34 (.slice (some ⟨h.size, 0, none⟩) 0 0) ([] : List Ev) :: L) := SatP.imp H1 fun t _ => own_nil _ _ t
    refine app_ext H2 rfl rfl (hv.ext x1) (by simp; omega) (fun v' h' x2 H' => ?_)
    exact ⟨x1.trans x2, H'⟩

/-- A copy of its own, of what can be read. -/
theorem clone_cs {h : Heap} {L : List HP} {v : Value} {xs : List Cs} (H : Sat h L) (hv : reads h v xs) (hn : xs.length * 1000 ≤ 2 ^ 46) :
    HT P 36 [v] h fun r h' => Ext h h' ∧ Sat h' (own 52 r xs :: L) := by
  obtain ⟨a, c, rfl⟩ := hv.len
  refine u36 ?_
  cases a with
  | none =>
    have : xs = [] := by
      cases xs with
      | nil => rfl
      | cons x r =>
        obtain ⟨_, _, e, _⟩ := hv.get (i := 0) (x := x) rfl
        cases e
    subst this
    exact ⟨Ext.refl _, own_new H _⟩
  | some ad =>
    refine fil rfl ?_
    have H1 := (H.push (.cells #[] 52 (0, 0)))
    have x1 : Ext h (h.push (.cells #[] 52 (0, 0))) := Ext.push _ _
    have H2 : Sat (h.push (.cells #[] 52 (0, 0))) (own 52 (.slice (some ⟨h.size, 0, none⟩) 0 0) ([] : List Cs) :: L) := SatP.imp H1 fun t _ => own_nil _ _ t
    refine app_ext H2 rfl rfl (hv.ext x1) (by simp; omega) (fun v' h' x2 H' => ?_)
    exact ⟨x1.trans x2, H'⟩

end Go.Sl
end

section
namespace Go.Sl
open Go
attribute [local irreducible] HT

section
variable {α : Type} [Cel α]

theorem flat_drop : ∀ (xs : List α) (l : Nat), flat (xs.drop l) = (flat xs).drop (l * Cel.n α)
  | xs, 0 => by simp
  | [], l + 1 => by simp [flat]
  | x :: r, l + 1 => by
    rw [List.drop_succ_cons, flat_drop r l, flat_cons, Nat.succ_mul, List.drop_append, Cel.len]
    have h1 : (Cel.cells x).drop (l * Cel.n α + Cel.n α) = [] := List.drop_eq_nil_of_le (by rw [Cel.len]; omega)
    rw [h1, List.nil_append]; congr 1; omega

theorem flat_take : ∀ (xs : List α) (l : Nat), flat (xs.take l) = (flat xs).take (l * Cel.n α)
  | xs, 0 => by simp [flat]
  | [], l + 1 => by simp [flat]
  | x :: r, l + 1 => by
    rw [List.take_succ_cons, flat_cons, flat_take r l, flat_cons, Nat.succ_mul, List.take_append, Cel.len]
    have h1 : (Cel.cells x).take (l * Cel.n α + Cel.n α) = Cel.cells x := List.take_of_length_le (by rw [Cel.len]; omega)
    rw [h1]; congr 2; omega

/-- A slice of a slice that can be read. -/
theorem readsP.sub {s : PH} {a a' : Option Addr} {n c l h m : Nat} {xs : List α} (r : readsP s (.slice a n c) xs) (hlh : l ≤ h) (hh : h ≤ n) (hm : h ≤ m) (h0 : m = l → a' = a) (h1 : m ≠ l → a' = a.map (·.add (l * Cel.n α))) :
    readsP s (.slice a' (h - l) (m - l)) ((xs.take h).drop l) := by
  obtain ⟨a0, c0, e, hc, r⟩ := r
  injection e with e1 e2 e3
  subst e1; subst e2
  have hlen : ((xs.take h).drop l).length = h - l := by simp; omega
  refine ⟨a', m - l, by rw [hlen], by rw [hlen]; omega, ?_⟩
  by_cases hml : m = l
  · left; apply List.eq_nil_of_length_eq_zero; rw [hlen]; omega
  · rcases r with rfl | ⟨b, o, rfl, r⟩
    · left; simp
    · right
      refine ⟨b, o + l * Cel.n α, by rw [h1 hml]; simp [addr_add], fun i u hi => ?_⟩
      rw [flat_drop, flat_take, List.getElem?_drop] at hi
      have hlt : l * Cel.n α + i < h * Cel.n α := by
        have := (List.getElem?_eq_some_iff.1 hi).1
        simp at this; omega
      rw [List.getElem?_take_of_lt hlt] at hi
      have := r _ u hi
      rwa [Nat.add_assoc]
end

/-- A cursor over what is left of a plan and of draws. -/
def cursorAt (c : Nat) (plan draws : List Int) : HP := fun s =>
  ∃ pv dv : SlV, star (pt c (cells [pv.v, dv.v] 90)) (fun t => readsP t pv.v plan ∧ readsP t dv.v draws) s

theorem cursor_open {h : Heap} {c : Nat} {p d : List Int} {L : List HP} (H : Sat h (cursorAt c p d :: L)) :
    ∃ pv dv : SlV, Sat h (pt c (cells [pv.v, dv.v] 90) :: (fun t => readsP t pv.v p ∧ readsP t dv.v d) :: L) := by
  obtain ⟨pv, H⟩ := SatP.ex.1 H
  obtain ⟨dv, H⟩ := SatP.ex.1 H
  exact ⟨pv, dv, SatP.star.1 H⟩

theorem cursor_shut {h : Heap} {c : Nat} {p d : List Int} {L : List HP} {pv dv : SlV} (H : Sat h (pt c (cells [pv.v, dv.v] 90) :: (fun t => readsP t pv.v p ∧ readsP t dv.v d) :: L)) : Sat h (cursorAt c p d :: L) :=
  SatP.ex.2 ⟨pv, SatP.ex.2 ⟨dv, SatP.star.2 H⟩⟩

theorem cursor_reads {h : Heap} {p d : List Int} {L : List HP} {pv dv : SlV} {A : HP} (H : Sat h (A :: (fun t => readsP t pv.v p ∧ readsP t dv.v d) :: L)) : reads h pv.v p ∧ reads h dv.v d := by
  obtain ⟨s, hs, h1, h2⟩ := H.mem m1
  exact ⟨h1.up hs, h2.up hs⟩

/-- 'take' of a queue that lies in a block. -/
theorem take_raw {h : Heap} {b off T : Nat} {cs : List Value} {v : SlV} {xs : List Int} {L : List HP} (H : Sat h (pt b (cells cs T) :: L)) (ho : cs[off]? = some v.v) (hv : reads h v.v xs) :
    HT P 50 [.pointer (some ⟨b, off, none⟩)] h fun r h' => r = .tuple #[int (xs.headD 0), .bool (!xs.isEmpty)] ∧
      ∃ v' : SlV, Sat h' (pt b (cells (cs.set off v'.v) T) :: L) ∧ ∀ s, readsP s v.v xs → readsP s v'.v xs.tail := by
  have hlt : off < cs.length := (List.getElem?_eq_some_iff.1 ho).1
  obtain ⟨a, n, c⟩ := v
  obtain ⟨_, _, e⟩ := hv.len
  injection e with _ e2 _
  subst e2
  refine u50 ?_
  refine l0 H (by simpa using ho) ?_
  cases xs with
  | nil =>
    refine cmpT (by simp) ?_
    refine ⟨rfl, ⟨a, 0, c⟩, ?_, fun s hs => hs⟩
    have : cs.set off (SlV.v ⟨a, 0, c⟩) = cs := by
      apply List.ext_getElem?
      intro i
      by_cases hi : off = i
      · subst hi; simp [hlt]; rw [List.getElem?_eq_getElem hlt] at ho; injection ho with ho; exact ho.symm
      · simp [hi]
    rw [this]; exact H
  | cons x r =>
    refine cmpF (by simp; omega) ?_
    refine l0 H (by simpa using ho) ?_
    obtain ⟨bb, o, rfl, hi, hr⟩ := hv.get (i := 0) (x := x) rfl
    refine idx 0 rfl hi ?_
    refine rd1 (hr 0 _ rfl) ?_
    refine l0 H (by simpa using ho) ?_
    have hcc : (x :: r).length ≤ c := hv.cap.2
    refine slc_lo 1 rfl hi (fun a' h0 h1 => ?_)
    refine s0 H (SlV.v ⟨a', (x :: r).length - 1, c - 1⟩) rfl rfl (by simpa [Nat.blt_eq] using hlt) (fun h' H => ?_)
    refine ⟨rfl, ⟨a', (x :: r).length - 1, c - 1⟩, H, fun s hs => ?_⟩
    have := hs.sub (l := 1) (h := (x :: r).length) (m := c) (by simp) (Nat.le_refl _) hcc h0 h1
    simpa using this

/-- 'Next' of a cursor that lies in a block. -/
theorem next_raw {h : Heap} {c : Nat} {pv dv : SlV} {p : List Int} {L : List HP} (H : Sat h (pt c (cells [pv.v, dv.v] 90) :: L)) (hv : reads h pv.v p) :
    HT P 27 [ptr c] h fun r h' => r = .tuple #[int (p.headD 0), .bool (!p.isEmpty)] ∧
      ∃ v' : SlV, Sat h' (pt c (cells [v'.v, dv.v] 90) :: L) ∧ ∀ s, readsP s pv.v p → readsP s v'.v p.tail := by
  refine u27 ?_
  refine call (take_raw H (off := 0) rfl hv) ?_
  rintro _ h1 ⟨rfl, v', H', hs⟩
  refine getA rfl ?_
  refine getA rfl ?_
  exact ⟨rfl, v', H', hs⟩

theorem Next_cursor {h : Heap} {c : Nat} {p d : List Int} {L : List HP} (H : Sat h (cursorAt c p d :: L)) :
    HT P 27 [ptr c] h fun r h' => r = .tuple #[int (p.headD 0), .bool (!p.isEmpty)] ∧ Sat h' (cursorAt c p.tail d :: L) := by
  obtain ⟨pv, dv, H⟩ := cursor_open H
  refine (next_raw H (cursor_reads H).1).mono ?_
  rintro _ h1 ⟨rfl, v', H', hs⟩
  exact ⟨rfl, cursor_shut (SatP.cons (fun t ht => SatP.imp ht fun t ⟨a, b⟩ => ⟨hs t a, b⟩) H')⟩

/-- What 'Draw' chooses of n, and what is left of the draws. -/
def drawOf (d : List Int) (n : Int) : Int := if n = 1 then 0 else (d.headD 0).tmod n
def drawLeft (d : List Int) (n : Int) : List Int := if n = 1 then d else d.tail

theorem Draw_cursor {h : Heap} {c : Nat} {p d : List Int} {L : List HP} {n : Int} (H : Sat h (cursorAt c p d :: L)) (h1 : 1 ≤ n) (h2 : n ≤ 64) :
    HT P 79 [ptr c, int n] h fun r h' => r = .tuple #[int (drawOf d n), int 0] ∧ Sat h' (cursorAt c p (drawLeft d n) :: L) := by
  refine u79 ?_
  repeat (first | refine jnI ?_ | refine gdI ?_ | refine gqI ?_ | refine fun (_ : Env) => ?_)
  refine cmpF (by omega) ?_
  repeat (first | refine jnI ?_ | refine gdI ?_ | refine gqI ?_ | refine fun (_ : Env) => ?_)
  refine cmpF (by omega) ?_
  repeat (first | refine jnI ?_ | refine gdI ?_ | refine gqI ?_ | refine fun (_ : Env) => ?_)
  refine cmp (fun hn => ?_) (fun hn => ?_)
  · repeat (first | refine jnI ?_ | refine gdI ?_ | refine gqI ?_ | refine fun (_ : Env) => ?_)
    repeat (first | refine jnI ?_ | refine gdI ?_ | refine gqI ?_ | refine fun (_ : Env) => ?_)
    exact ⟨by simp only [drawOf, if_pos hn], by simp only [drawLeft, if_pos hn]; exact H⟩
  obtain ⟨pv, dv, H⟩ := cursor_open H
  repeat (first | refine jnI ?_ | refine gdI ?_ | refine gqI ?_ | refine fun (_ : Env) => ?_)
  refine call (take_raw H (off := 1) rfl (cursor_reads H).2) ?_
  rintro _ h1 ⟨rfl, v', H', hs⟩
  refine getA rfl ?_
  refine getA rfl ?_
  refine ⟨by omega, _, rfl, ?_⟩
  repeat (first | refine jnI ?_ | refine gdI ?_ | refine gqI ?_ | refine fun (_ : Env) => ?_)
  refine ⟨by simp only [drawOf, if_neg hn], by simp only [drawLeft, if_neg hn]; exact cursor_shut (SatP.cons (fun t ht => SatP.imp ht fun t ⟨a, b⟩ => ⟨a, hs t b⟩) H')⟩

theorem Left_cursor {h : Heap} {c : Nat} {p d : List Int} {L : List HP} (H : Sat h (cursorAt c p d :: L)) :
    HT P 25 [ptr c] h fun r h' => r = .tuple #[int p.length, int d.length] ∧ h' = h := by
  obtain ⟨pv, dv, H⟩ := cursor_open H
  obtain ⟨r1, r2⟩ := cursor_reads H
  obtain ⟨a1, n1, c1⟩ := pv
  obtain ⟨a2, n2, c2⟩ := dv
  have e1 := r1.cap.1
  have e2 := r2.cap.1
  subst e1; subst e2
  refine u25 ?_
  refine l0 H rfl ?_
  refine l0 H rfl ?_
  exact ⟨rfl, rfl⟩

theorem Copy_cursor {h : Heap} {c : Nat} {p d : List Int} {L : List HP} (H : Sat h (cursorAt c p d :: L)) :
    HT P 47 [ptr c] h fun r h' => ∃ (c' : Nat) (pv dv : SlV), r = ptr c' ∧ Ext h h' ∧ Sat h' (pt c' (cells [pv.v, dv.v] 90) :: cursorAt c p d :: L) ∧ reads h' pv.v p := by
  have H0 := H
  obtain ⟨pv, dv, H⟩ := cursor_open H
  obtain ⟨r1, r2⟩ := cursor_reads H
  refine u47 ?_
  refine lA H rfl ?_
  have Hn := H0.push (cells [.slice none 0 0, .slice none 0 0] 90)
  refine sA Hn [pv.v, dv.v] rfl rfl rfl rfl (fun h' hx H' => ?_)
  have x1 : Ext h h' := hx h (Ext.push _ _) (Nat.le_refl _)
  exact ⟨h.size, pv, dv, rfl, x1, H', r1.ext x1⟩

/-- 'Of'. -/
theorem pick_Of {h : Heap} {v : Value} {l : List Int} {p : Int} (hp : 0 ≤ p) (hl : l ≠ []) (hv : reads h v l) (hn : l.length ≤ 1000000) :
    HT P 66 [int p, v] h fun r h' => r = .tuple #[int (l.getD (p.tmod l.length).toNat 0), int 0] ∧ h' = h := by
  obtain ⟨a, c, rfl⟩ := hv.len
  have hpos : 0 < l.length := by cases l with | nil => exact absurd rfl hl | cons _ _ => simp
  refine u66 ?_
  refine cmpF (by omega) ?_
  refine cmpF (by omega) ?_
  refine ⟨by omega, _, rfl, ?_⟩
  have hm0 : 0 ≤ p.tmod l.length := Int.tmod_nonneg _ hp
  have hm1 : p.tmod l.length < l.length := Int.tmod_lt_of_pos _ (by omega)
  obtain ⟨i, hi⟩ := Int.eq_ofNat_of_zero_le hm0
  have hlt : i < l.length := by omega
  obtain ⟨b, o, rfl, _, hr⟩ := hv.get (List.getElem?_eq_getElem hlt)
  refine idx i hi hlt ?_
  refine rd1 (hr 0 _ rfl) ?_
  refine ⟨?_, rfl⟩
  have : l.getD (p.tmod l.length).toNat 0 = l[i] := by rw [hi]; simp [hlt]
  rw [this]

/-- Is a number out of a span? -/
def badN (least n : Int) : Bool := decide (n < least) || decide (n > 1000)

theorem bad_tells {h : Heap} {L : List HP} {least : Int} (H : Sat h L) (xs : List Int) : HT P 42 [int least] h fun r h' => Ext h h' ∧ Tells int r h' xs (badN least) ∧ Sat h' L := by
  refine u42 ?_
  have x1 := Ext.push h (cells [int least] 3)
  refine ⟨x1, ⟨43, #[], #[ptr h.size], rfl, fun h' x2 n _ => ?_⟩, H.ext x1⟩
  have hb : h'[h.size]? = some (cells [int least] 3) := x2.get (show (h.push (cells [int least] 3))[h.size]? = _ by simp)
  refine u43 ?_
  repeat (first | refine jnI ?_ | refine gdI ?_ | refine gqI ?_ | refine fun (_ : Env) => ?_)
  refine ld hb rfl ?_
  refine cmp (fun h1 => ?_) (fun h1 => ?_)
  · repeat (first | refine jnI ?_ | refine gdI ?_ | refine gqI ?_ | refine fun (_ : Env) => ?_)
    repeat (first | refine jnI ?_ | refine gdI ?_ | refine gqI ?_ | refine fun (_ : Env) => ?_)
    exact ⟨by simp only [badN]; rw [decide_eq_true h1]; rfl, Ext.refl _⟩
  · repeat (first | refine jnI ?_ | refine gdI ?_ | refine gqI ?_ | refine fun (_ : Env) => ?_)
    refine cmp (fun h2 => ?_) (fun h2 => ?_)
    · repeat (first | refine jnI ?_ | refine gdI ?_ | refine gqI ?_ | refine fun (_ : Env) => ?_)
      repeat (first | refine jnI ?_ | refine gdI ?_ | refine gqI ?_ | refine fun (_ : Env) => ?_)
      exact ⟨by simp only [badN]; rw [decide_eq_false h1, decide_eq_true h2]; rfl, Ext.refl _⟩
    · repeat (first | refine jnI ?_ | refine gdI ?_ | refine gqI ?_ | refine fun (_ : Env) => ?_)
      repeat (first | refine jnI ?_ | refine gdI ?_ | refine gqI ?_ | refine fun (_ : Env) => ?_)
      exact ⟨by simp only [badN]; rw [decide_eq_false h1, decide_eq_false h2]; rfl, Ext.refl _⟩

/-- 'New': of what is right. -/
theorem pick_New {h : Heap} {L : List HP} {pv dv : Value} {p d : List Int} (H : Sat h L) (hp : reads h pv p) (hd : reads h dv d) (l1 : p.length ≤ 200) (l2 : d.length ≤ 64) (b1 : p.any (badN (-1)) = false) (b2 : d.any (badN 0) = false) :
    HT P 21 [pv, dv] h fun r h' => ∃ c, r = .tuple #[ptr c, int 0] ∧ Ext h h' ∧ Sat h' (cursorAt c p d :: L) := by
  obtain ⟨a1, c1, rfl⟩ := hp.len
  obtain ⟨a2, c2, rfl⟩ := hd.len
  refine u21 ?_
  repeat (first | refine jnI ?_ | refine gdI ?_ | refine gqI ?_ | refine fun (_ : Env) => ?_)
  refine cmpF (by omega) ?_
  repeat (first | refine jnI ?_ | refine gdI ?_ | refine gqI ?_ | refine fun (_ : Env) => ?_)
  refine cmpF (by omega) ?_
  repeat (first | refine jnI ?_ | refine gdI ?_ | refine gqI ?_ | refine fun (_ : Env) => ?_)
  refine call (bad_tells H p) ?_
  rintro f1 h1 ⟨x1, t1, H1⟩
  refine call (containsFunc_int (hp.ext x1) t1 (by omega)) ?_
  rintro _ h2 ⟨rfl, x2⟩
  rw [b1]
  repeat (first | refine jnI ?_ | refine gdI ?_ | refine gqI ?_ | refine fun (_ : Env) => ?_)
  refine call (bad_tells (H1.ext x2) d) ?_
  rintro f2 h3 ⟨x3, t2, H3⟩
  have x13 := (x1.trans x2).trans x3
  repeat (first | refine jnI ?_ | refine gdI ?_ | refine gqI ?_ | refine fun (_ : Env) => ?_)
  refine call (containsFunc_int (hd.ext x13) t2 (by omega)) ?_
  rintro _ h4 ⟨rfl, x4⟩
  rw [b2]
  have x14 := x13.trans x4
  repeat (first | refine jnI ?_ | refine gdI ?_ | refine gqI ?_ | refine fun (_ : Env) => ?_)
  refine call (clone_int (H3.ext x4) (hp.ext x14) (by omega)) ?_
  rintro u1 h5 ⟨x5, H5⟩
  have x15 := x14.trans x5
  obtain ⟨A1, C1, e1⟩ := (own_reads H5 m0).len
  subst e1
  refine fil rfl ?_
  refine call (clone_int H5 (hd.ext x15) (by omega)) ?_
  rintro u2 h6 ⟨x6, H6⟩
  obtain ⟨A2, C2, e2⟩ := (own_reads H6 m0).len
  subst e2
  refine fil rfl ?_
  refine fil rfl ?_
  refine ⟨h6.size, rfl, (x15.trans x6).push' _, ?_⟩
  have H7 := H6.push (cells [SlV.v ⟨A1, p.length, C1⟩, SlV.v ⟨A2, d.length, C2⟩] 90)
  refine cursor_shut (pv := ⟨A1, p.length, C1⟩) (dv := ⟨A2, d.length, C2⟩) (SatP.cons (fun t ht => ?_) H7)
  refine SatP.imp (SatP.star.2 ht) fun s hs => ?_
  obtain ⟨s1, s2, _, a, b, hp1, hp2⟩ := hs
  exact ⟨(own_readsP hp2).up b, (own_readsP hp1).up a⟩

end Go.Sl
end

section
namespace Go.Sl
open Go
attribute [local irreducible] HT

/-! ### parts frozen and thawed -/

theorem Sat.freeze {h : Heap} {A : HP} {L : List HP} (H : Sat h (A :: L)) : ∃ s1, A s1 ∧ Sub s1 (ph h) ∧ Sat h ((fun s => s = s1) :: L) := by
  obtain ⟨s1, s2, d, a, e, p, q⟩ := H
  exact ⟨s1, p, a, s1, s2, d, a, e, rfl, q⟩
theorem Sat.thaw {h : Heap} {A : HP} {L : List HP} {s1 : PH} (H : Sat h ((fun s => s = s1) :: L)) (ha : A s1) : Sat h (A :: L) := SatP.imp H fun t e => by subst e; exact ha
theorem Sat.thaw1 {h : Heap} {A B : HP} {L : List HP} {s1 : PH} (H : Sat h (B :: (fun s => s = s1) :: L)) (ha : A s1) : Sat h (B :: A :: L) := SatP.cons (fun _ H => SatP.imp H fun t e => by subst e; exact ha) H
theorem Sat.frozen {h : Heap} {L : List HP} {s1 : PH} (H : Sat h L) (hm : (fun s => s = s1) ∈ L) : Sub s1 (ph h) := by
  obtain ⟨s, hs, e⟩ := H.mem hm
  subst e; exact hs

/-! ### ring -/

def ringAt (r size : Nat) (q : List Int) : HP := fun s => ∃ (a : Nat) (vs : List Int), vs.length = 4 ∧ size ≤ 4 ∧ q.length ≤ size ∧ (a < size ∨ (size = 0 ∧ a = 0)) ∧ (∀ i x, q[i]? = some x → vs[(a + i) % size]? = some x) ∧
  pt r (cells ([int a, int q.length, int size] ++ vs.map int) 153) s

theorem ring_open {h : Heap} {r size : Nat} {q : List Int} {L : List HP} (H : Sat h (ringAt r size q :: L)) : ∃ (a : Nat) (vs : List Int), vs.length = 4 ∧ size ≤ 4 ∧ q.length ≤ size ∧ (a < size ∨ (size = 0 ∧ a = 0)) ∧ (∀ i x, q[i]? = some x → vs[(a + i) % size]? = some x) ∧
    Sat h (pt r (cells ([int a, int q.length, int size] ++ vs.map int) 153) :: L) := by
  obtain ⟨s1, s2, d, x, e, ⟨a, vs, h1, h2, h3, h4, h5, p⟩, q'⟩ := H
  exact ⟨a, vs, h1, h2, h3, h4, h5, s1, s2, d, x, e, p, q'⟩
theorem ring_shut {h : Heap} {r size : Nat} {q : List Int} {L : List HP} {a : Nat} {vs : List Int} (h1 : vs.length = 4) (h2 : size ≤ 4) (h3 : q.length ≤ size) (h4 : a < size ∨ (size = 0 ∧ a = 0)) (h5 : ∀ i x, q[i]? = some x → vs[(a + i) % size]? = some x)
    (H : Sat h (pt r (cells ([int a, int q.length, int size] ++ vs.map int) 153) :: L)) : Sat h (ringAt r size q :: L) := SatP.imp H fun _ p => ⟨a, vs, h1, h2, h3, h4, h5, p⟩

theorem ring_New {h : Heap} {L : List HP} {size : Nat} (H : Sat h L) (hs : size ≤ 4) : HT P 81 [int size] h fun r h' => ∃ b, r = .tuple #[ptr b, int 0] ∧ Ext h h' ∧ Sat h' (ringAt b size [] :: L) := by
  refine u81 ?_
  repeat (first | refine jnI ?_ | refine gdI ?_ | refine gqI ?_ | refine fun (_ : Env) => ?_ | refine cmpT (by omega) ?_ | refine cmpF (by omega) ?_ | refine ari64 (by omega) ?_)
  repeat (first | refine jnI ?_ | refine gdI ?_ | refine gqI ?_ | refine fun (_ : Env) => ?_)
  refine fil rfl ?_
  refine ⟨h.size, rfl, Ext.push _ _, ?_⟩
  exact ring_shut (a := 0) (vs := [0, 0, 0, 0]) rfl hs (by simp) (by omega) (fun i x hx => by simp at hx) (H.push _)

theorem ring_Len {h : Heap} {r size : Nat} {q : List Int} {L : List HP} (H : Sat h (ringAt r size q :: L)) : HT P 86 [ptr r] h fun v h' => v = int q.length ∧ h' = h := by
  obtain ⟨a, vs, h1, h2, h3, h4, h5, H⟩ := ring_open H
  refine u86 ?_
  refine l0 H rfl ?_
  exact ⟨rfl, rfl⟩

theorem ring_Cap {h : Heap} {r size : Nat} {q : List Int} {L : List HP} (H : Sat h (ringAt r size q :: L)) : HT P 87 [ptr r] h fun v h' => v = int size ∧ h' = h := by
  obtain ⟨a, vs, h1, h2, h3, h4, h5, H⟩ := ring_open H
  refine u87 ?_
  refine l0 H rfl ?_
  exact ⟨rfl, rfl⟩

theorem vs_get {a b c : Value} {vs : List Int} {i : Nat} {x : Int} (h : vs[i]? = some x) : (([a, b, c] ++ vs.map int).toArray)[0 + 3 + i * 1]? = some (int x) := by
  rw [show 0 + 3 + i * 1 = i + 3 by omega]; simp [h]

theorem ring_Push {h : Heap} {r size : Nat} {q : List Int} {L : List HP} {v : Int} (H : Sat h (ringAt r size q :: L)) : HT P 98 [ptr r, int v] h fun u h' =>
    u = int (if q.length = size then 5 else 0) ∧ Sat h' (ringAt r size (if q.length = size then q else q ++ [v]) :: L) := by
  refine u98 ?_
  refine call (ring_Len H) ?_
  rintro _ _ ⟨rfl, rfl⟩
  refine call (ring_Cap H) ?_
  rintro _ _ ⟨rfl, rfl⟩
  refine cmp (fun he => ?_) (fun he => ?_)
  · have : q.length = size := by omega
    rw [if_pos this, if_pos this]; exact ⟨rfl, H⟩
  have hne : ¬ q.length = size := by omega
  rw [if_neg hne, if_neg hne]
  obtain ⟨a, vs, h1, h2, h3, h4, h5, H⟩ := ring_open H
  repeat (first | refine jnI ?_ | refine gdI ?_ | refine gqI ?_ | refine fun (_ : Env) => ?_ | refine l0 H rfl ?_ | refine l1 H rfl ?_ | refine l2 H rfl ?_ | refine l3 H rfl ?_ | refine l4 H rfl ?_ | refine l5 H rfl ?_ | refine l6 H rfl ?_ | refine l7 H rfl ?_ | refine cmpT (by omega) ?_ | refine cmpF (by omega) ?_ | refine ari64 (by omega) ?_ | refine fil rfl ?_)
  refine ⟨by omega, _, rfl, ?_⟩
  have hlt : (a + q.length) % size < size := Nat.mod_lt _ (by omega)
  refine idx ((a + q.length) % size) (by rw [← Int.natCast_add]; exact (Int.ofNat_tmod _ _).symm) (by omega) ?_
  refine s0 H (int v) rfl rfl (by simp [Nat.blt_eq]; omega) (fun h H => ?_)
  have hset : ([int a, int q.length, int size] ++ vs.map int).set (0 + 3 + (a + q.length) % size * 1) (int v) = [int a, int q.length, int size] ++ (vs.set ((a + q.length) % size) v).map int := by
    rw [show 0 + 3 + (a + q.length) % size * 1 = ((a + q.length) % size) + 3 by omega]
    simp [List.map_set]
  rw [hset] at H
  repeat (first | refine jnI ?_ | refine gdI ?_ | refine gqI ?_ | refine fun (_ : Env) => ?_ | refine l0 H rfl ?_ | refine l1 H rfl ?_ | refine l2 H rfl ?_ | refine l3 H rfl ?_ | refine l4 H rfl ?_ | refine l5 H rfl ?_ | refine l6 H rfl ?_ | refine l7 H rfl ?_ | refine cmpT (by omega) ?_ | refine cmpF (by omega) ?_ | refine ari64 (by omega) ?_ | refine fil rfl ?_)
  refine s0 H (int (q.length + 1)) rfl rfl (by simp [Nat.blt_eq]) (fun h H => ?_)
  refine ⟨rfl, ring_shut (a := a) (vs := vs.set ((a + q.length) % size) v) (by simpa using h1) h2 (by simp; omega) h4 (fun i x hx => ?_) ?_⟩
  · by_cases hi : i < q.length
    · rw [List.getElem?_append_left hi] at hx
      have hne : (a + q.length) % size ≠ (a + i) % size := by
        intro e
        have h6 : a < size := by omega
        have e1 : (a + q.length) % size = if a + q.length < size then a + q.length else a + q.length - size := by
          split
          · exact Nat.mod_eq_of_lt (by assumption)
          · rw [Nat.mod_eq_sub_mod (by omega)]; exact Nat.mod_eq_of_lt (by omega)
        have e2 : (a + i) % size = if a + i < size then a + i else a + i - size := by
          split
          · exact Nat.mod_eq_of_lt (by assumption)
          · rw [Nat.mod_eq_sub_mod (by omega)]; exact Nat.mod_eq_of_lt (by omega)
        rw [e1, e2] at e
        split at e <;> split at e <;> omega
      rw [List.getElem?_set_ne hne]; exact h5 i x hx
    · have : i = q.length := by
        have := (List.getElem?_eq_some_iff.1 hx).1
        simp at this; omega
      subst this
      simp at hx; subst hx
      rw [List.getElem?_set_self (by omega)]
  · simpa using H

theorem ring_At0 {h : Heap} {r size : Nat} {x : Int} {q : List Int} {L : List HP} (H : Sat h (ringAt r size (x :: q) :: L)) : HT P 109 [ptr r, int 0] h fun v h' => v = .tuple #[int x, int 0] ∧ h' = h := by
  refine u109 ?_
  repeat (first | refine jnI ?_ | refine gdI ?_ | refine gqI ?_ | refine fun (_ : Env) => ?_)
  refine cmpF (by omega) ?_
  repeat (first | refine jnI ?_ | refine gdI ?_ | refine gqI ?_ | refine fun (_ : Env) => ?_)
  refine call (ring_Len H) ?_
  rintro _ _ ⟨rfl, rfl⟩
  repeat (first | refine jnI ?_ | refine gdI ?_ | refine gqI ?_ | refine fun (_ : Env) => ?_)
  refine cmpF (by simp) ?_
  obtain ⟨a, vs, h1, h2, h3, h4, h5, H⟩ := ring_open H
  simp only [List.length_cons] at h3
  repeat (first | refine jnI ?_ | refine gdI ?_ | refine gqI ?_ | refine fun (_ : Env) => ?_ | refine l0 H rfl ?_ | refine l1 H rfl ?_ | refine l2 H rfl ?_ | refine l3 H rfl ?_ | refine l4 H rfl ?_ | refine l5 H rfl ?_ | refine l6 H rfl ?_ | refine l7 H rfl ?_ | refine cmpT (by omega) ?_ | refine cmpF (by omega) ?_ | refine ari64 (by omega) ?_ | refine fil rfl ?_)
  repeat (first | refine jnI ?_ | refine gdI ?_ | refine gqI ?_ | refine fun (_ : Env) => ?_)
  refine ⟨by omega, _, rfl, ?_⟩
  have hlt : (a + 0) % size < size := Nat.mod_lt _ (by omega)
  refine idx ((a + 0) % size) (by rw [show ((a : Int) + 0) = ((a + 0 : Nat) : Int) by simp]; exact (Int.ofNat_tmod _ _).symm) (by omega) ?_
  refine l0 H (vs_get (h5 0 x rfl)) ?_
  exact ⟨rfl, rfl⟩

theorem ring_Pop {h : Heap} {r size : Nat} {x : Int} {q : List Int} {L : List HP} (H : Sat h (ringAt r size (x :: q) :: L)) : HT P 101 [ptr r] h fun v h' => v = .tuple #[int x, int 0] ∧ Sat h' (ringAt r size q :: L) := by
  refine u101 ?_
  refine call (ring_At0 H) ?_
  rintro _ _ ⟨rfl, rfl⟩
  refine getA rfl ?_
  refine getA rfl ?_
  repeat (first | refine jnI ?_ | refine gdI ?_ | refine gqI ?_ | refine fun (_ : Env) => ?_)
  refine cmpT rfl ?_
  obtain ⟨a, vs, h1, h2, h3, h4, h5, H⟩ := ring_open H
  simp only [List.length_cons] at h3 H
  repeat (first | refine jnI ?_ | refine gdI ?_ | refine gqI ?_ | refine fun (_ : Env) => ?_ | refine l0 H rfl ?_ | refine l1 H rfl ?_ | refine l2 H rfl ?_ | refine l3 H rfl ?_ | refine l4 H rfl ?_ | refine l5 H rfl ?_ | refine l6 H rfl ?_ | refine l7 H rfl ?_ | refine cmpT (by omega) ?_ | refine cmpF (by omega) ?_ | refine ari64 (by omega) ?_ | refine fil rfl ?_)
  refine ⟨by omega, _, rfl, ?_⟩
  have hm : Int.tmod ((a : Int) + 1) size = (((a + 1) % size : Nat) : Int) := by rw [show ((a : Int) + 1) = ((a + 1 : Nat) : Int) by simp]; exact (Int.ofNat_tmod _ _).symm
  have hlt : (a + 1) % size < size := Nat.mod_lt _ (by omega)
  repeat (first | refine jnI ?_ | refine gdI ?_ | refine gqI ?_ | refine fun (_ : Env) => ?_)
  refine s0 H (int (((a + 1) % size : Nat) : Int)) (by rw [← hm]) rfl (by simp [Nat.blt_eq]) (fun h H => ?_)
  repeat (first | refine jnI ?_ | refine gdI ?_ | refine gqI ?_ | refine fun (_ : Env) => ?_ | refine l0 H rfl ?_ | refine l1 H rfl ?_ | refine l2 H rfl ?_ | refine l3 H rfl ?_ | refine l4 H rfl ?_ | refine l5 H rfl ?_ | refine l6 H rfl ?_ | refine l7 H rfl ?_ | refine cmpT (by omega) ?_ | refine cmpF (by omega) ?_ | refine ari64 (by omega) ?_ | refine fil rfl ?_)
  refine s0 H (int (((q.length + 1 : Nat) : Int) - 1)) rfl rfl (by simp [Nat.blt_eq]) (fun h H => ?_)
  rw [show (((q.length + 1 : Nat) : Int) - 1) = (q.length : Int) by simp] at H
  repeat (first | refine jnI ?_ | refine gdI ?_ | refine gqI ?_ | refine fun (_ : Env) => ?_)
  refine ⟨rfl, ring_shut (a := (a + 1) % size) (vs := vs) h1 h2 (by omega) (by omega) (fun i y hy => ?_) H⟩
  have := h5 (i + 1) y (by simpa using hy)
  rw [show ((a + 1) % size + i) % size = (a + (i + 1)) % size by rw [Nat.mod_add_mod]; congr 1; omega]
  exact this

end Go.Sl
end

section
namespace Go.Sl
open Go
attribute [local irreducible] HT

abbrev optr : Option Nat → Value
  | none => nilp
  | some b => ptr b

abbrev seat (w : Wt) (nx : Value) : Obj := cells [int w.g, int w.case, int w.value, nx] 159

/-- Seats from one to another one. -/
def seg : Option Nat → List Wt → Option Nat → HP
  | a, [], b => fun _ => a = b
  | a, w :: r, b => fun s => ∃ x nx, a = some x ∧ star (pt x (seat w (optr nx))) (seg nx r b) s

def pewAt (p : Nat) (l : List Wt) : HP := fun s => l.length ≤ 1024 ∧
  ((l = [] ∧ pt p (cells [nilp, nilp, int 0] 143) s) ∨
   ∃ f y ini w, l = ini ++ [w] ∧ star (pt p (cells [optr f, ptr y, int l.length] 143)) (star (seg f ini (some y)) (pt y (seat w nilp))) s)

theorem seg_some {a : Option Nat} {l : List Wt} {y : Nat} {s : PH} (h : seg a l (some y) s) : ∃ x, a = some x := by
  cases l with
  | nil => exact ⟨y, h⟩
  | cons w r => obtain ⟨x, nx, e, _⟩ := h; exact ⟨x, e⟩

theorem seg_snoc : ∀ {a : Option Nat} {l : List Wt} {y : Nat} {w : Wt} {z : Option Nat} {s : PH}, star (seg a l (some y)) (pt y (seat w (optr z))) s → seg a (l ++ [w]) z s
  | a, [], y, w, z, s, ⟨s1, s2, d, x1, x2, e, p⟩ => by
    have e' : a = some y := e
    exact ⟨y, z, e', s2, s1, d.symm, x2, x1, p, rfl⟩
  | a, u :: r, y, w, z, s, ⟨s1, s2, d, x1, x2, ⟨x, nx, e, t1, t2, d', y1, y2, p1, p2⟩, p⟩ => by
    refine ⟨x, nx, e, t1, fun i => match t1 i with | some _ => none | none => s i, ?_, y1.trans x1, ?_, p1, seg_snoc ⟨t2, s2, d.sub y2 (Sub.refl _), ?_, ?_, p2, p⟩⟩
    · intro i; cases h : t1 i with
      | none => exact .inl rfl
      | some o => right; simp [h]
    · intro i o h; cases h1 : t1 i with
      | none => simpa [h1] using h
      | some o' => simp [h1] at h
    · intro i o h
      have : t1 i = none := by
        rcases d' i with h' | h'
        · exact h'
        · rw [h] at h'; cases h'
      simp [this, x1 i o (y2 i o h)]
    · intro i o h
      have : t1 i = none := by
        rcases d i with h' | h'
        · cases ht : t1 i with
          | none => rfl
          | some u => rw [y1 i u ht] at h'; cases h'
        · rw [h] at h'; cases h'
      simp [this, x2 i o h]

/-- What reading a pew meets. -/
def chainR (s : PH) : Option Nat → List Wt → Prop
  | a, [] => a = none
  | a, w :: r => ∃ x nx, a = some x ∧ s x = some (seat w (optr nx)) ∧ chainR s nx r

theorem chainR.up {s t : PH} (x : Sub s t) : ∀ {l : List Wt} {a : Option Nat}, chainR s a l → chainR t a l
  | [], _, h => h
  | _ :: _, _, ⟨b, nx, e, h, r⟩ => ⟨b, nx, e, x b _ h, r.up x⟩

theorem seg_chain {y : Nat} {w : Wt} : ∀ {l : List Wt} {a : Option Nat} {s t : PH}, seg a l (some y) s → t y = some (seat w nilp) → Sub s t → chainR t a (l ++ [w])
  | [], a, s, t, h, hy, _ => ⟨y, none, h, hy, rfl⟩
  | u :: r, a, s, t, ⟨x, nx, e, s1, s2, _, y1, y2, p, q⟩, hy, hs => ⟨x, nx, e, hs x _ (y1 x _ p), seg_chain q hy (y2.trans hs)⟩

theorem pew_reads {p : Nat} {l : List Wt} {s : PH} (h : pewAt p l s) : l.length ≤ 1024 ∧ ∃ f lst, s p = some (cells [optr f, lst, int l.length] 143) ∧ chainR s f l := by
  obtain ⟨hl, h⟩ := h
  refine ⟨hl, ?_⟩
  rcases h with ⟨rfl, h⟩ | ⟨f, y, ini, w, rfl, s1, s2, d, x1, x2, p1, t1, t2, d2, y1, y2, p2, p3⟩
  · exact ⟨none, nilp, h, rfl⟩
  · exact ⟨f, ptr y, x1 p _ p1, seg_chain p2 (x2 y _ (y2 y _ p3)) (y1.trans x2)⟩

theorem pew_New {h : Heap} {L : List HP} (H : Sat h L) : HT P 82 [] h fun r h' => ∃ b, r = ptr b ∧ Ext h h' ∧ Sat h' (pewAt b [] :: L) := by
  refine u82 ?_
  refine fil rfl ?_
  exact ⟨h.size, rfl, Ext.push _ _, SatP.imp (H.push (cells [nilp, nilp, int 0] 143)) fun _ p => ⟨by simp, .inl ⟨rfl, p⟩⟩⟩

theorem pew_Len_at {h : Heap} {p : Nat} {l : List Wt} {L : List HP} (H : Sat h L) (hm : pewAt p l ∈ L) : HT P 69 [ptr p] h fun v h' => v = int l.length ∧ h' = h := by
  obtain ⟨s, hs, hp⟩ := H.mem hm
  obtain ⟨_, f, lst, hb, _⟩ := pew_reads hp
  refine u69 ?_
  refine ld (hs p _ hb) rfl ?_
  exact ⟨rfl, rfl⟩

theorem pew_Len_nil {h : Heap} : HT P 69 [nilp] h fun v h' => v = int 0 ∧ h' = h := by
  refine u69 ?_
  exact ⟨rfl, rfl⟩

/-- 'Add', as a function. -/
def padd (l : List Wt) (w : Wt) : List Wt × Int :=
  if w.g < 0 ∨ w.case < -1 then (l, 1) else if l.length = 1024 then (l, 5) else (l ++ [w], 0)

theorem pew_Add {h : Heap} {p : Nat} {l : List Wt} {L : List HP} {w : Wt} (H : Sat h (pewAt p l :: L)) : HT P 93 [ptr p, agg w] h fun v h' => v = int (padd l w).2 ∧ Sat h' (pewAt p (padd l w).1 :: L) := by
  refine u93 ?_
  have H0 := H.push (cells [int w.g, int w.case, int w.value] 122)
  repeat (first | refine jnI ?_ | refine gdI ?_ | refine gqI ?_ | refine fun (_ : Env) => ?_)
  refine l0 H0 rfl ?_
  refine cmp (fun hg => ?_) (fun hg => ?_)
  · have : w.g < 0 ∨ w.case < -1 := .inl hg
    simp only [padd, if_pos this]
    repeat (first | refine jnI ?_ | refine gdI ?_ | refine gqI ?_ | refine fun (_ : Env) => ?_)
    exact ⟨by trivial, H0.drop⟩
  repeat (first | refine jnI ?_ | refine gdI ?_ | refine gqI ?_ | refine fun (_ : Env) => ?_)
  refine l0 H0 rfl ?_
  repeat (first | refine jnI ?_ | refine gdI ?_ | refine gqI ?_ | refine fun (_ : Env) => ?_)
  refine cmp (fun hc => ?_) (fun hc => ?_)
  · have : w.g < 0 ∨ w.case < -1 := .inr hc
    simp only [padd, if_pos this]
    repeat (first | refine jnI ?_ | refine gdI ?_ | refine gqI ?_ | refine fun (_ : Env) => ?_)
    exact ⟨by trivial, H0.drop⟩
  have hv : ¬ (w.g < 0 ∨ w.case < -1) := fun h => h.elim hg hc
  simp only [padd, if_neg hv]
  obtain ⟨s, hs, hp⟩ := H0.mem m1
  obtain ⟨hle, f, lst, hb, _⟩ := pew_reads hp
  repeat (first | refine jnI ?_ | refine gdI ?_ | refine gqI ?_ | refine fun (_ : Env) => ?_)
  refine ld (hs p _ hb) rfl ?_
  refine cmp (fun he => ?_) (fun he => ?_)
  · have : l.length = 1024 := by omega
    rw [if_pos this]
    exact ⟨rfl, H0.drop⟩
  have hne : ¬ l.length = 1024 := by omega
  rw [if_neg hne]
  refine lA H0 rfl ?_
  refine fil rfl ?_
  have H1 := H0.push (seat w nilp)
  generalize hz : (h.push (cells [int w.g, int w.case, int w.value] 122)).size = z at H1
  -- the pew itself
  have H2 : Sat _ (pewAt p l :: pt z (seat w nilp) :: L) := SatP.swap (SatP.cons (fun _ => SatP.drop) H1)
  clear H1
  have hcase : (l = [] ∧ Sat ((h.push (cells [int w.g, int w.case, int w.value] 122)).push (seat w nilp)) (pt p (cells [nilp, nilp, int 0] 143) :: pt z (seat w nilp) :: L)) ∨
      ∃ f y ini u, l = ini ++ [u] ∧ Sat ((h.push (cells [int w.g, int w.case, int w.value] 122)).push (seat w nilp)) (pt p (cells [optr f, ptr y, int l.length] 143) :: pt y (seat u nilp) :: seg f ini (some y) :: pt z (seat w nilp) :: L) := by
    obtain ⟨s1, s2, d, a, e, ⟨_, hq0⟩, q⟩ := H2
    rcases hq0 with ⟨e0, hq⟩ | ⟨f, y, ini, u, e1, hq⟩
    · exact .inl ⟨e0, s1, s2, d, a, e, hq, q⟩
    · refine .inr ⟨f, y, ini, u, e1, ?_⟩
      exact SatP.cons (fun _ => SatP.swap) (SatP.cons (fun _ h => SatP.star.1 h) (SatP.star.1 ⟨s1, s2, d, a, e, hq, q⟩))
  clear H H0 H2 hs hp
  rcases hcase with ⟨e0, H⟩ | ⟨f, y, ini, u, e0, H⟩
  · subst e0
    repeat (first | refine jnI ?_ | refine gdI ?_ | refine gqI ?_ | refine fun (_ : Env) => ?_)
    refine l0 H rfl ?_
    refine s0 H (ptr z) (by rw [← hz]; rfl) rfl rfl (fun h H => ?_)
    repeat (first | refine jnI ?_ | refine gdI ?_ | refine gqI ?_ | refine fun (_ : Env) => ?_)
    refine s0 H (ptr z) (by rw [← hz]; rfl) rfl rfl (fun h H => ?_)
    repeat (first | refine jnI ?_ | refine gdI ?_ | refine gqI ?_ | refine fun (_ : Env) => ?_ | refine l0 H rfl ?_ | refine l1 H rfl ?_ | refine l2 H rfl ?_ | refine l3 H rfl ?_ | refine l4 H rfl ?_ | refine l5 H rfl ?_ | refine l6 H rfl ?_ | refine l7 H rfl ?_ | refine cmpT (by omega) ?_ | refine cmpF (by omega) ?_ | refine ari64 (by omega) ?_ | refine fil rfl ?_)
    refine s0 H (int 1) rfl rfl rfl (fun h H => ?_)
    refine ⟨rfl, SatP.imp (SatP.star.2 H) fun s hs => ⟨by simp, .inr ⟨some z, z, [], w, rfl, ?_⟩⟩⟩
    obtain ⟨s1, s2, d, a, e, p1, p2⟩ := hs
    exact ⟨s1, s2, d, a, e, p1, fun _ => none, s2, fun _ => .inl rfl, fun _ _ h => by simp at h, Sub.refl _, rfl, p2⟩
  · subst e0
    repeat (first | refine jnI ?_ | refine gdI ?_ | refine gqI ?_ | refine fun (_ : Env) => ?_)
    refine l0 H rfl ?_
    refine l0 H rfl ?_
    refine s1 H (ptr z) (by rw [← hz]; rfl) rfl rfl (fun h H => ?_)
    repeat (first | refine jnI ?_ | refine gdI ?_ | refine gqI ?_ | refine fun (_ : Env) => ?_)
    refine s0 H (ptr z) (by rw [← hz]; rfl) rfl rfl (fun h H => ?_)
    simp only [List.length_append, List.length_singleton] at H hle he hne ⊢
    repeat (first | refine jnI ?_ | refine gdI ?_ | refine gqI ?_ | refine fun (_ : Env) => ?_ | refine l0 H rfl ?_ | refine l1 H rfl ?_ | refine l2 H rfl ?_ | refine l3 H rfl ?_ | refine l4 H rfl ?_ | refine l5 H rfl ?_ | refine l6 H rfl ?_ | refine l7 H rfl ?_ | refine cmpT (by omega) ?_ | refine cmpF (by omega) ?_ | refine ari64 (by omega) ?_ | refine fil rfl ?_)
    refine s0 H (int (((ini.length + 1 : Nat) : Int) + 1)) rfl rfl rfl (fun h H => ?_)
    repeat (first | refine jnI ?_ | refine gdI ?_ | refine gqI ?_ | refine fun (_ : Env) => ?_)
    refine ⟨by trivial, ?_⟩
    have H' : Sat h (pt p (cells [optr f, ptr z, int ((ini.length + 1 : Nat) + 1)] 143) :: seg f ini (some y) :: pt y (seat u (optr (some z))) :: pt z (seat w nilp) :: L) := SatP.cons (fun _ => SatP.swap) H
    have H2 := SatP.cons (fun _ h => SatP.star.2 (SatP.imp (SatP.star.2 h) fun _ x => seg_snoc x)) H'
    have e : (((ini.length + 1 : Nat) : Int) + 1) = ((ini ++ [u] ++ [w]).length : Int) := by simp; omega
    rw [e] at H2
    exact SatP.imp (SatP.star.2 H2) fun s hs => ⟨by simp; omega, .inr ⟨f, z, ini ++ [u], w, rfl, hs⟩⟩

/-- All of a pew, read. -/
theorem pew_List_raw {h : Heap} {s1 : PH} {p : Nat} {f : Option Nat} {lst : Value} {l : List Wt} {L : List HP} (hle : l.length ≤ 1024) (hb : s1 p = some (cells [optr f, lst, int l.length] 143)) (hch : chainR s1 f l) (H : Sat h ((fun s => s = s1) :: L)) :
    HT P 107 [ptr p] h fun v h' => Sat h' (own 122 v l :: (fun s => s = s1) :: L) := by
  refine u107 ?_
  refine ld (H.frozen m0 p _ hb) rfl ?_
  refine lp2 (Value × List Wt × List Wt × Option Nat) (fun g => g.1) (fun g => optr g.2.2.2) (fun g h' => l = g.2.1 ++ g.2.2.1 ∧ chainR s1 g.2.2.2 g.2.2.1 ∧ Sat h' (own 122 g.1 g.2.1 :: (fun s => s = s1) :: L)) (fun g => g.2.2.1.length) (.slice none 0 0, [], l, f) rfl rfl ⟨rfl, hch, own_new H _⟩ ?_
  rintro ⟨v, done, rest, cur⟩ h1 ⟨hl, hc, H1⟩ _
  simp only at hl hc H1
  cases rest with
  | nil =>
    have hc' : cur = none := hc
    subst hc'
    have : done = l := by simpa using hl.symm
    subst this
    exact H1
  | cons w r =>
    obtain ⟨x, nx, rfl, hx, hr⟩ := hc
    have hx' := H1.frozen m1 x _ hx
    refine rdn (vs := Cel.cells w) rfl (rangeAt_of hx' (fun i v hi => ?_)) ?_
    · have hlt : i < 3 := (List.getElem?_eq_some_iff.1 hi).1
      match i, hlt with
      | 0, _ => exact hi
      | 1, _ => exact hi
      | 2, _ => exact hi
    refine fil rfl ?_
    have hlen : done.length + r.length + 1 ≤ 1024 := by have := congrArg List.length hl; simp at this; omega
    refine app1 w H1 rfl rfl rfl (by omega) (fun v' h2 H2 => ?_)
    have hx2 := H2.frozen m1 x _ hx
    refine ld hx2 rfl ?_
    exact ⟨(v', done ++ [w], r, nx), by simp, rfl, rfl, by simp [hl], hr, H2⟩

theorem pew_List {h : Heap} {p : Nat} {l : List Wt} {L : List HP} (H : Sat h (pewAt p l :: L)) : HT P 107 [ptr p] h fun v h' => Sat h' (own 122 v l :: pewAt p l :: L) := by
  obtain ⟨s1, hp, hs1, H⟩ := H.freeze
  obtain ⟨hle, f, lst, hb, hch⟩ := pew_reads hp
  exact (pew_List_raw hle hb hch H).mono fun v h' H' => H'.thaw1 hp

/-- The same; what was there stands. -/
theorem pew_List_ext {h : Heap} {p : Nat} {l : List Wt} {L : List HP} (H : Sat h L) (hm : pewAt p l ∈ L) : HT P 107 [ptr p] h fun v h' => reads h' v l ∧ Ext h h' := by
  obtain ⟨s, hs, hp⟩ := H.mem hm
  obtain ⟨hle, f, lst, hb, hch⟩ := pew_reads hp
  have H0 : Sat h [fun s => s = ph h] := ⟨ph h, fun _ => none, fun _ => .inr rfl, Sub.refl _, fun _ _ h => by simp at h, rfl, trivial⟩
  exact (pew_List_raw hle (hs p _ hb) (hch.up hs) H0).mono fun v h' H' =>
    ⟨own_reads H' m0, Sat.old_ext (SatP.imp H'.drop fun _ e => (by intro b _; rw [e]; rfl : Sl.old h _)) m0⟩

theorem pew_List_nil {h : Heap} {L : List HP} (H : Sat h L) : HT P 107 [nilp] h fun v h' => Sat h' (own 122 v ([] : List Wt) :: L) := by
  refine u107 ?_
  exact own_new H _

theorem pew_First_nil {h : Heap} {p : Nat} {L : List HP} (H : Sat h (pewAt p [] :: L)) : HT P 108 [ptr p] h fun v h' => v = .tuple #[agg (⟨0, 0, 0⟩ : Wt), .bool false] ∧ Ext h h' := by
  refine u108 ?_
  have H0 := H.push (cells [int 0, int 0, int 0] 122)
  refine call (pew_Len_at H0 m1) ?_
  rintro _ _ ⟨rfl, rfl⟩
  refine cmpT (by simp) ?_
  refine fil rfl ?_
  refine sA H0 [int 0, int 0, int 0] rfl rfl rfl rfl (fun h' hx H' => ?_)
  refine lA H' rfl ?_
  exact ⟨rfl, hx h (Ext.push _ _) (Nat.le_refl _)⟩

theorem pew_First_cons {h : Heap} {p : Nat} {w : Wt} {r : List Wt} {L : List HP} (H : Sat h (pewAt p (w :: r) :: L)) : HT P 108 [ptr p] h fun v h' => v = .tuple #[agg w, .bool true] ∧ Ext h h' := by
  refine u108 ?_
  have H0 := H.push (cells [int 0, int 0, int 0] 122)
  refine call (pew_Len_at H0 m1) ?_
  rintro _ _ ⟨rfl, rfl⟩
  refine cmpF (by simp; omega) ?_
  obtain ⟨s, hs, hp⟩ := H0.mem m1
  obtain ⟨_, f, lst, hb, x, nx, e, hx, _⟩ := pew_reads hp
  subst e
  refine ld (hs p _ hb) rfl ?_
  refine rdn (vs := Cel.cells w) rfl (rangeAt_of (hs x _ hx) (fun i v hi => ?_)) ?_
  · have hlt : i < 3 := (List.getElem?_eq_some_iff.1 hi).1
    match i, hlt with
    | 0, _ => exact hi
    | 1, _ => exact hi
    | 2, _ => exact hi
  refine sA H0 (Cel.cells w) rfl rfl rfl rfl (fun h' hx H' => ?_)
  refine lA H' rfl ?_
  exact ⟨rfl, hx h (Ext.push _ _) (Nat.le_refl _)⟩

theorem pew_split {h : Heap} {p : Nat} {w : Wt} {r : List Wt} {L : List HP} (H : Sat h (pewAt p (w :: r) :: L)) : r.length + 1 ≤ 1024 ∧
    ((r = [] ∧ ∃ y, Sat h (pt p (cells [ptr y, ptr y, int 1] 143) :: pt y (seat w nilp) :: L)) ∨
     ∃ x nx y ini u, r = ini ++ [u] ∧ Sat h (pt p (cells [ptr x, ptr y, int (r.length + 1)] 143) :: pt x (seat w (ptr nx)) :: seg (some nx) ini (some y) :: pt y (seat u nilp) :: L)) := by
  obtain ⟨s1, s2, d, a, e, ⟨hle, hq0⟩, q⟩ := H
  refine ⟨by simpa using hle, ?_⟩
  rcases hq0 with ⟨e0, hq⟩ | ⟨f, y, ini, u, e1, hq⟩
  · cases e0
  · have H1 : Sat h (pt p (cells [optr f, ptr y, int (w :: r).length] 143) :: seg f ini (some y) :: pt y (seat u nilp) :: L) :=
      SatP.cons (fun _ h => SatP.star.1 h) (SatP.star.1 ⟨s1, s2, d, a, e, hq, q⟩)
    cases ini with
    | nil =>
      simp at e1
      obtain ⟨rfl, rfl⟩ := e1
      left
      obtain ⟨t1, t2, d', a', e', p1, t3, t4, d2, a2, e2, p2, q2⟩ := H1
      have hf : f = some y := p2
      subst hf
      exact ⟨rfl, y, t1, t2, d', a', e', p1, q2.mono e2⟩
    | cons w' ini' =>
      simp at e1
      obtain ⟨rfl, rfl⟩ := e1
      right
      obtain ⟨t1, t2, d', a', e', p1, t3, t4, d2, a2, e2, ⟨x, nx, rfl, st⟩, q2⟩ := H1
      have H2 : Sat h (pt p (cells [ptr x, ptr y, int (w :: (ini' ++ [u])).length] 143) :: star (pt x (seat w (optr nx))) (seg nx ini' (some y)) :: pt y (seat u nilp) :: L) := ⟨t1, t2, d', a', e', p1, t3, t4, d2, a2, e2, st, q2⟩
      have H3 : Sat h (pt p (cells [ptr x, ptr y, int (w :: (ini' ++ [u])).length] 143) :: pt x (seat w (optr nx)) :: seg nx ini' (some y) :: pt y (seat u nilp) :: L) := SatP.cons (fun _ h => SatP.star.1 h) H2
      obtain ⟨s, hs, hseg⟩ := H3.mem m2
      obtain ⟨n', rfl⟩ := seg_some hseg
      exact ⟨x, n', y, ini', u, rfl, by simpa using H3⟩

/-- 'Take'. -/
theorem pew_Take {h : Heap} {p : Nat} {l : List Wt} {L : List HP} (H : Sat h (pewAt p l :: L)) : HT P 97 [ptr p] h fun v h' => v = .tuple #[agg (l.headD ⟨0, 0, 0⟩), .bool (!l.isEmpty)] ∧ Sat h' (pewAt p l.tail :: L) := by
  refine u97 ?_
  have H0 := H.push (cells [int 0, int 0, int 0] 122)
  cases l with
  | nil =>
    refine call (pew_First_nil (SatP.swap H0)) ?_
    rintro _ h1 ⟨rfl, x1⟩
    refine getA rfl ?_
    refine getA rfl ?_
    have H1 := (H0.ext x1).push (cells [int 0, int 0, int 0] 122)
    refine sA H1 [int 0, int 0, int 0] rfl rfl rfl rfl (fun h hx H => ?_)
    repeat (first | refine jnI ?_ | refine gdI ?_ | refine gqI ?_ | refine fun (_ : Env) => ?_)
    refine lA H rfl ?_
    refine sA (SatP.swap H) [int 0, int 0, int 0] rfl rfl rfl rfl (fun h hx H => ?_)
    refine lA H rfl ?_
    exact ⟨rfl, H.drop.drop⟩
  | cons w r =>
    refine call (pew_First_cons (SatP.swap H0)) ?_
    rintro _ h1 ⟨rfl, x1⟩
    refine getA rfl ?_
    refine getA rfl ?_
    have H1 := (H0.ext x1).push (cells [int 0, int 0, int 0] 122)
    refine sA H1 (Cel.cells w) rfl rfl rfl rfl (fun h2 hx H2 => ?_)
    clear H1 hx
    have H3 : Sat h2 (pewAt p (w :: r) :: _) := H2.front 2 rfl
    clear H2
    obtain ⟨hle, hc⟩ := pew_split H3
    rcases hc with ⟨e0, y, H⟩ | ⟨x, nx, y, ini, u, e0, H⟩
    · subst e0
      repeat (first | refine jnI ?_ | refine gdI ?_ | refine gqI ?_ | refine fun (_ : Env) => ?_ | refine l0 H rfl ?_ | refine l1 H rfl ?_ | refine l2 H rfl ?_ | refine l3 H rfl ?_ | refine l4 H rfl ?_ | refine l5 H rfl ?_ | refine l6 H rfl ?_ | refine l7 H rfl ?_ | refine cmpT (by omega) ?_ | refine cmpF (by omega) ?_ | refine ari64 (by omega) ?_ | refine fil rfl ?_)
      refine s0 H nilp rfl rfl rfl (fun h H => ?_)
      repeat (first | refine jnI ?_ | refine gdI ?_ | refine gqI ?_ | refine fun (_ : Env) => ?_ | refine l0 H rfl ?_ | refine l1 H rfl ?_ | refine l2 H rfl ?_ | refine l3 H rfl ?_ | refine l4 H rfl ?_ | refine l5 H rfl ?_ | refine l6 H rfl ?_ | refine l7 H rfl ?_ | refine cmpT (by omega) ?_ | refine cmpF (by omega) ?_ | refine ari64 (by omega) ?_ | refine fil rfl ?_)
      refine s0 H (int 0) rfl rfl rfl (fun h H => ?_)
      repeat (first | refine jnI ?_ | refine gdI ?_ | refine gqI ?_ | refine fun (_ : Env) => ?_ | refine l0 H rfl ?_ | refine l1 H rfl ?_ | refine l2 H rfl ?_ | refine l3 H rfl ?_ | refine l4 H rfl ?_ | refine l5 H rfl ?_ | refine l6 H rfl ?_ | refine l7 H rfl ?_ | refine cmpT (by omega) ?_ | refine cmpF (by omega) ?_ | refine ari64 (by omega) ?_ | refine fil rfl ?_)
      refine s0 H nilp rfl rfl rfl (fun h H => ?_)
      repeat (first | refine jnI ?_ | refine gdI ?_ | refine gqI ?_ | refine fun (_ : Env) => ?_)
      refine lR H m2 (Cel.cells w) rfl (fun i hi => by simp) ?_
      refine sA (H.front 3 rfl) (Cel.cells w) rfl rfl rfl rfl (fun h hx H => ?_)
      refine lA H rfl ?_
      exact ⟨rfl, SatP.imp (SatP.cons (fun _ h => h.drop.drop) H.drop) fun _ p => ⟨by simp, .inl ⟨rfl, p⟩⟩⟩
    · subst e0
      repeat (first | refine jnI ?_ | refine gdI ?_ | refine gqI ?_ | refine fun (_ : Env) => ?_ | refine l0 H rfl ?_ | refine l1 H rfl ?_ | refine l2 H rfl ?_ | refine l3 H rfl ?_ | refine l4 H rfl ?_ | refine l5 H rfl ?_ | refine l6 H rfl ?_ | refine l7 H rfl ?_ | refine cmpT (by omega) ?_ | refine cmpF (by omega) ?_ | refine ari64 (by omega) ?_ | refine fil rfl ?_)
      refine s0 H (ptr nx) rfl rfl rfl (fun h H => ?_)
      repeat (first | refine jnI ?_ | refine gdI ?_ | refine gqI ?_ | refine fun (_ : Env) => ?_ | refine l0 H rfl ?_ | refine l1 H rfl ?_ | refine l2 H rfl ?_ | refine l3 H rfl ?_ | refine l4 H rfl ?_ | refine l5 H rfl ?_ | refine l6 H rfl ?_ | refine l7 H rfl ?_ | refine cmpT (by omega) ?_ | refine cmpF (by omega) ?_ | refine ari64 (by omega) ?_ | refine fil rfl ?_)
      refine s0 H (int ((ini ++ [u]).length + 1 - 1)) rfl rfl rfl (fun h H => ?_)
      repeat (first | refine jnI ?_ | refine gdI ?_ | refine gqI ?_ | refine fun (_ : Env) => ?_ | refine l0 H rfl ?_ | refine l1 H rfl ?_ | refine l2 H rfl ?_ | refine l3 H rfl ?_ | refine l4 H rfl ?_ | refine l5 H rfl ?_ | refine l6 H rfl ?_ | refine l7 H rfl ?_ | refine cmpT (by omega) ?_ | refine cmpF (by omega) ?_ | refine ari64 (by omega) ?_ | refine fil rfl ?_)
      refine lR H m4 (Cel.cells w) rfl (fun i hi => by simp) ?_
      refine sA (H.front 5 rfl) (Cel.cells w) rfl rfl rfl rfl (fun h hx H => ?_)
      refine lA H rfl ?_
      refine ⟨rfl, ?_⟩
      have e : (((ini ++ [u]).length : Int) + 1 - 1) = ((ini ++ [u]).length : Int) := by omega
      rw [e] at H
      have H' : Sat h (pt p (cells [ptr nx, ptr y, int (ini ++ [u]).length] 143) :: seg (some nx) ini (some y) :: pt y (seat u nilp) :: L) :=
        SatP.cons (fun _ h => SatP.cons (fun _ h => SatP.cons (fun _ h => h.drop) h) h.drop) H.drop
      exact SatP.imp (SatP.star.2 (SatP.cons (fun _ h => SatP.star.2 h) H')) fun s hs => ⟨by simp at hle ⊢; omega, .inr ⟨some nx, y, ini, u, rfl, hs⟩⟩

/-- 'Drop', as a function. -/
def pdrop (l : List Wt) (g : Int) : List Wt := (l.filter (fun w => w.g != g)).foldl (fun acc w => (padd acc w).1) []

theorem pdrop_snoc (xs : List Wt) (w : Wt) (g : Int) : pdrop (xs ++ [w]) g = if w.g = g then pdrop xs g else (padd (pdrop xs g) w).1 := by
  unfold pdrop
  rw [List.filter_append, List.foldl_append]
  by_cases h : w.g = g <;> simp [h]

theorem pew_Drop_nil {h : Heap} {L : List HP} {g : Int} (H : Sat h L) : HT P 110 [nilp, int g] h fun v h' => v = int 0 ∧ Sat h' L := by
  refine u110 ?_
  refine call (pew_List_nil H) ?_
  rintro v h1 H1
  obtain ⟨a, c, e⟩ := (own_reads H1 m0).len
  subst e
  repeat (first | refine jnI ?_ | refine gdI ?_ | refine gqI ?_ | refine fun (_ : Env) => ?_)
  refine lp1 Unit (fun _ => int 0) (fun _ h' => Sat h' L) (fun _ => 0) () rfl H1.drop ?_
  rintro _ h2 H2 _
  refine cmpF (by simp) ?_
  refine call pew_Len_nil ?_
  rintro _ _ ⟨rfl, rfl⟩
  refine ari (r := 0) (by decide) ?_
  exact ⟨rfl, H2⟩

theorem pew_Drop {h : Heap} {p : Nat} {l : List Wt} {L : List HP} {g : Int} (H : Sat h (pewAt p l :: L)) : HT P 110 [ptr p, int g] h fun v h' => v = int (l.length - (pdrop l g).length) ∧ Sat h' (pewAt p (pdrop l g) :: L) := by
  have hle : l.length ≤ 1024 := by obtain ⟨s, _, hp⟩ := H.mem m0; exact hp.1
  refine u110 ?_
  refine call (pew_List H) ?_
  rintro v h1 H1
  obtain ⟨a, c, e⟩ := (own_reads H1 m0).len
  subst e
  repeat (first | refine jnI ?_ | refine gdI ?_ | refine gqI ?_ | refine fun (_ : Env) => ?_)
  refine fil rfl ?_
  -- the pew is made anew
  have hp1 : ∃ cs : List Value, cs.length = 3 ∧ Sat h1 (pt p (cells cs 143) :: own 122 (.slice a l.length c) l :: L) := by
    have H2 := SatP.swap H1
    obtain ⟨s1, s2, d, a', e, hp, q⟩ := H2
    obtain ⟨_, f, lst, hb, _⟩ := pew_reads hp
    exact ⟨[optr f, lst, int l.length], rfl, s1, s2, d, a', e, hb, q⟩
  obtain ⟨cs, hcs, H2⟩ := hp1
  refine sA H2 [nilp, nilp, int 0] rfl rfl rfl hcs (fun h3 _ H3 => ?_)
  have H4 : Sat h3 (pewAt p [] :: own 122 (.slice a l.length c) l :: L) := SatP.imp H3 fun _ p => ⟨by simp, .inl ⟨rfl, p⟩⟩
  repeat (first | refine jnI ?_ | refine gdI ?_ | refine gqI ?_ | refine fun (_ : Env) => ?_)
  refine lp1 Nat (fun k => int k) (fun k h' => k ≤ l.length ∧ Sat h' (pewAt p (pdrop (l.take k) g) :: own 122 (.slice a l.length c) l :: L)) (fun k => l.length - k) 0 rfl ⟨by omega, H4⟩ ?_
  rintro k h5 ⟨hk, H5⟩ _
  refine cmp (fun hlt => ?_) (fun hge => ?_)
  · have hlt' : k < l.length := by omega
    have hx := List.getElem?_eq_getElem hlt'
    have htk : l.take (k + 1) = l.take k ++ [l[k]] := by rw [List.take_succ_eq_append_getElem hlt']
    obtain ⟨b, o, e, _, hr⟩ := (own_reads H5 m1).get hx
    subst e
    repeat (first | refine jnI ?_ | refine gdI ?_ | refine gqI ?_ | refine fun (_ : Env) => ?_)
    refine idx k rfl hlt' ?_
    refine rdn rfl hr ?_
    have H6 := H5.push (cells [int 0, int 0, int 0] 122)
    refine sA H6 (Cel.cells l[k]) rfl rfl rfl rfl (fun h7 _ H7 => ?_)
    refine l0 H7 rfl ?_
    refine cmp (fun hne => ?_) (fun heq => ?_)
    · refine lA H7 rfl ?_
      refine call (pew_Add (H7.front 1 rfl)) ?_
      rintro _ h8 ⟨rfl, H8⟩
      repeat (first | refine jnI ?_ | refine gdI ?_ | refine gqI ?_ | refine fun (_ : Env) => ?_)
      refine ari64 (by omega) ?_
      refine ⟨k + 1, by omega, rfl, hlt', ?_⟩
      rw [htk, pdrop_snoc, if_neg hne]
      exact SatP.cons (fun _ h => h.drop) H8
    · repeat (first | refine jnI ?_ | refine gdI ?_ | refine gqI ?_ | refine fun (_ : Env) => ?_)
      refine ari64 (by omega) ?_
      refine ⟨k + 1, by omega, rfl, hlt', ?_⟩
      rw [htk, pdrop_snoc, if_pos (by simpa using heq)]
      exact H7.drop
  · have hk' : k = l.length := by omega
    subst hk'
    rw [List.take_length] at H5
    refine call (pew_Len_at H5 m0) ?_
    rintro _ _ ⟨rfl, rfl⟩
    have : (pdrop l g).length ≤ 1024 := by obtain ⟨s, _, hp⟩ := H5.mem m0; exact hp.1
    refine ari64 (by omega) ?_
    exact ⟨rfl, SatP.cons (fun _ h => h.drop) H5⟩

end Go.Sl
end

section
namespace Go.Sl
open Go
attribute [local irreducible] HT

structure PipeS where
  cap : Nat
  buf : List Int
  snd : List Wt
  rcv : List Wt
  closed : Bool
  deriving DecidableEq, Repr

structure GotS where
  ready : Bool
  ok : Bool
  woke : Bool
  value : Int
  mate : Wt
  deriving DecidableEq, Repr

abbrev wt0 : Wt := ⟨0, 0, 0⟩
instance : Cel GotS := ⟨7, fun x => [.bool x.ready, .bool x.ok, .bool x.woke, int x.value, int x.mate.g, int x.mate.case, int x.mate.value], fun _ => rfl, fun _ => rfl⟩
abbrev got0 : GotS := ⟨false, false, false, 0, wt0⟩

abbrev pipeB (r a b : Nat) (closed : Bool) (n m : Int) : Obj := cells [ptr r, ptr a, ptr b, .bool closed, int n, int m] 120

def pipeAt (p : Nat) (s : PipeS) : HP := fun t => ∃ (r a b : Nat) (n m : Int), star (pt p (pipeB r a b s.closed n m)) (star (ringAt r s.cap s.buf) (star (pewAt a s.snd) (pewAt b s.rcv))) t

theorem pipe_open {h : Heap} {p : Nat} {s : PipeS} {L : List HP} (H : Sat h (pipeAt p s :: L)) : ∃ (r a b : Nat) (n m : Int), Sat h (pt p (pipeB r a b s.closed n m) :: ringAt r s.cap s.buf :: pewAt a s.snd :: pewAt b s.rcv :: L) := by
  obtain ⟨r, H⟩ := SatP.ex.1 H
  obtain ⟨a, H⟩ := SatP.ex.1 H
  obtain ⟨b, H⟩ := SatP.ex.1 H
  obtain ⟨n, H⟩ := SatP.ex.1 H
  obtain ⟨m, H⟩ := SatP.ex.1 H
  exact ⟨r, a, b, n, m, SatP.cons (fun _ h => SatP.cons (fun _ h => SatP.star.1 h) (SatP.star.1 h)) (SatP.star.1 H)⟩

theorem pipe_shut {h : Heap} {p : Nat} {s : PipeS} {L : List HP} {r a b : Nat} {n m : Int} (H : Sat h (pt p (pipeB r a b s.closed n m) :: ringAt r s.cap s.buf :: pewAt a s.snd :: pewAt b s.rcv :: L)) : Sat h (pipeAt p s :: L) :=
  SatP.ex.2 ⟨r, SatP.ex.2 ⟨a, SatP.ex.2 ⟨b, SatP.ex.2 ⟨n, SatP.ex.2 ⟨m, SatP.star.2 (SatP.cons (fun _ h => SatP.star.2 (SatP.cons (fun _ h => SatP.star.2 h) h)) H)⟩⟩⟩⟩⟩

theorem pipe_shut' {t : PH} {p : Nat} {s : PipeS} {L : List HP} {r a b : Nat} {n m : Int} (H : SatP (pt p (pipeB r a b s.closed n m) :: ringAt r s.cap s.buf :: pewAt a s.snd :: pewAt b s.rcv :: L) t) : SatP (pipeAt p s :: L) t :=
  SatP.ex.2 ⟨r, SatP.ex.2 ⟨a, SatP.ex.2 ⟨b, SatP.ex.2 ⟨n, SatP.ex.2 ⟨m, SatP.star.2 (SatP.cons (fun _ h => SatP.star.2 (SatP.cons (fun _ h => SatP.star.2 h) h)) H)⟩⟩⟩⟩⟩

/-- What is read of a pipe without turning it. -/
theorem pipe_facts {h : Heap} {p : Nat} {s : PipeS} {L : List HP} (H : Sat h L) (hm : pipeAt p s ∈ L) : ∃ (L' : List HP) (r a b : Nat) (n m : Int), Sat h (pt p (pipeB r a b s.closed n m) :: ringAt r s.cap s.buf :: pewAt a s.snd :: pewAt b s.rcv :: L') := by
  obtain ⟨i, hi⟩ := List.mem_iff_getElem?.1 hm
  obtain ⟨r, a, b, n, m, H'⟩ := pipe_open (H.front i hi)
  exact ⟨_, r, a, b, n, m, H'⟩

def PipeS.pew (s : PipeS) (send : Bool) : List Wt := if send then s.snd else s.rcv
def PipeS.ready (s : PipeS) (send : Bool) : Bool := s.closed || decide (0 < (s.pew (!send)).length) || (if send then decide (s.buf.length < s.cap) else decide (0 < s.buf.length))

theorem pipe_New {h : Heap} {L : List HP} {size : Nat} (H : Sat h L) (hs : size ≤ 4) : HT P 56 [int size] h fun r h' => ∃ b, r = .tuple #[ptr b, int 0] ∧ Ext h h' ∧ Sat h' (pipeAt b ⟨size, [], [], [], false⟩ :: L) := by
  refine u56 ?_
  refine call (ring_New H hs) ?_
  rintro _ h1 ⟨b1, rfl, x1, H1⟩
  refine getA rfl ?_
  refine getA rfl ?_
  refine cmpF (by simp) ?_
  refine call (pew_New H1) ?_
  rintro _ h2 ⟨b2, rfl, x2, H2⟩
  refine call (pew_New H2) ?_
  rintro _ h3 ⟨b3, rfl, x3, H3⟩
  refine fil rfl ?_
  refine ⟨h3.size, rfl, ((x1.trans x2).trans x3).push' _, ?_⟩
  have H4 := H3.push (pipeB b1 b2 b3 false 0 0)
  exact pipe_shut (s := ⟨size, [], [], [], false⟩) (n := 0) (m := 0) (H4.re 4 [0, 3, 2, 1] rfl rfl)

theorem pipe_pew {h : Heap} {p : Nat} {s : PipeS} {L : List HP} {send : Bool} {r a b : Nat} {n m : Int} (H : Sat h (pt p (pipeB r a b s.closed n m) :: L)) : HT P 68 [ptr p, .bool send] h fun v h' => v = ptr (if send then a else b) ∧ h' = h := by
  refine u68 ?_
  cases send with
  | true => refine l0 H rfl ?_; exact ⟨rfl, rfl⟩
  | false => refine l0 H rfl ?_; exact ⟨rfl, rfl⟩

theorem pipe_pew_nil {h : Heap} {send : Bool} : HT P 68 [nilp, .bool send] h fun v h' => v = nilp ∧ h' = h := by
  refine u68 ?_
  exact ⟨rfl, rfl⟩

theorem pipe_Closed {h : Heap} {p : Nat} {s : PipeS} {L : List HP} (H : Sat h L) (hm : pipeAt p s ∈ L) : HT P 96 [ptr p] h fun v h' => v = .bool s.closed ∧ h' = h := by
  obtain ⟨L', r, a, b, n, m, H⟩ := pipe_facts H hm
  refine u96 ?_
  repeat (first | refine jnI ?_ | refine gdI ?_ | refine gqI ?_ | refine fun (_ : Env) => ?_)
  refine l0 H rfl ?_
  repeat (first | refine jnI ?_ | refine gdI ?_ | refine gqI ?_ | refine fun (_ : Env) => ?_)
  exact ⟨rfl, rfl⟩

theorem pipe_Closed_nil {h : Heap} : HT P 96 [nilp] h fun v h' => v = .bool false ∧ h' = h := by
  refine u96 ?_
  repeat (first | refine jnI ?_ | refine gdI ?_ | refine gqI ?_ | refine fun (_ : Env) => ?_)
  exact ⟨rfl, rfl⟩

theorem pipe_Len {h : Heap} {p : Nat} {s : PipeS} {L : List HP} (H : Sat h L) (hm : pipeAt p s ∈ L) : HT P 70 [ptr p] h fun v h' => v = int s.buf.length ∧ h' = h := by
  obtain ⟨L', r, a, b, n, m, H⟩ := pipe_facts H hm
  refine u70 ?_
  refine l0 H rfl ?_
  refine call (ring_Len (H.front 1 rfl)) ?_
  rintro _ _ ⟨rfl, rfl⟩
  exact ⟨rfl, rfl⟩

theorem pipe_Cap {h : Heap} {p : Nat} {s : PipeS} {L : List HP} (H : Sat h L) (hm : pipeAt p s ∈ L) : HT P 71 [ptr p] h fun v h' => v = int s.cap ∧ h' = h := by
  obtain ⟨L', r, a, b, n, m, H⟩ := pipe_facts H hm
  refine u71 ?_
  refine l0 H rfl ?_
  refine call (ring_Cap (H.front 1 rfl)) ?_
  rintro _ _ ⟨rfl, rfl⟩
  exact ⟨rfl, rfl⟩

theorem pipe_Ready_nil {h : Heap} {send : Bool} : HT P 51 [nilp, .bool send] h fun v h' => v = .bool false ∧ h' = h := by
  refine u51 ?_
  exact ⟨rfl, rfl⟩

theorem pipe_mates {h : Heap} {p : Nat} {s : PipeS} {L : List HP} {send : Bool} {r a b : Nat} {n m : Int} (H : Sat h (pt p (pipeB r a b s.closed n m) :: ringAt r s.cap s.buf :: pewAt a s.snd :: pewAt b s.rcv :: L)) :
    HT P 69 [ptr (if send = true then a else b)] h fun v h' => v = int (s.pew send).length ∧ h' = h := by
  cases send with
  | true => exact pew_Len_at H m2
  | false => exact pew_Len_at H m3

theorem pipe_Ready {h : Heap} {p : Nat} {s : PipeS} {L : List HP} {send : Bool} (H : Sat h L) (hm : pipeAt p s ∈ L) : HT P 51 [ptr p, .bool send] h fun v h' => v = .bool (s.ready send) ∧ h' = h := by
  have H0 := H
  obtain ⟨L', r, a, b, n, m, H⟩ := pipe_facts H hm
  refine u51 ?_
  refine call (pipe_pew (s := s) (n := n) (m := m) H) ?_
  rintro _ _ ⟨rfl, rfl⟩
  refine call (pipe_mates (send := !send) H) ?_
  rintro _ _ ⟨rfl, rfl⟩
  cases send with
  | true =>
    repeat (first | refine jnI ?_ | refine gdI ?_ | refine gqI ?_ | refine fun (_ : Env) => ?_)
    refine l0 H rfl ?_
    cases hc : s.closed with
    | true =>
      repeat (first | refine jnI ?_ | refine gdI ?_ | refine gqI ?_ | refine fun (_ : Env) => ?_)
      exact ⟨by simp only [PipeS.ready, hc, Bool.true_or], rfl⟩
    | false =>
      repeat (first | refine jnI ?_ | refine gdI ?_ | refine gqI ?_ | refine fun (_ : Env) => ?_)
      refine cmp (fun hl => ?_) (fun hl => ?_)
      · have : 0 < (s.pew (!true)).length := by omega
        repeat (first | refine jnI ?_ | refine gdI ?_ | refine gqI ?_ | refine fun (_ : Env) => ?_)
        exact ⟨by simp only [PipeS.ready, hc, decide_eq_true this, Bool.false_or, Bool.true_or], rfl⟩
      · have h0 : ¬ 0 < (s.pew (!true)).length := by omega
        repeat (first | refine jnI ?_ | refine gdI ?_ | refine gqI ?_ | refine fun (_ : Env) => ?_)
        refine call (pipe_Len H0 hm) ?_
        rintro _ _ ⟨rfl, rfl⟩
        repeat (first | refine jnI ?_ | refine gdI ?_ | refine gqI ?_ | refine fun (_ : Env) => ?_)
        refine call (pipe_Cap H0 hm) ?_
        rintro _ _ ⟨rfl, rfl⟩
        repeat (first | refine jnI ?_ | refine gdI ?_ | refine gqI ?_ | refine fun (_ : Env) => ?_)
        refine cmp (fun hb => ?_) (fun hb => ?_)
        · have : s.buf.length < s.cap := by omega
          repeat (first | refine jnI ?_ | refine gdI ?_ | refine gqI ?_ | refine fun (_ : Env) => ?_)
          exact ⟨by simp only [PipeS.ready, hc, decide_eq_false h0, if_true, decide_eq_true this]; rfl, rfl⟩
        · have : ¬ s.buf.length < s.cap := by omega
          repeat (first | refine jnI ?_ | refine gdI ?_ | refine gqI ?_ | refine fun (_ : Env) => ?_)
          exact ⟨by simp only [PipeS.ready, hc, decide_eq_false h0, if_true, decide_eq_false this]; rfl, rfl⟩
  | false =>
    repeat (first | refine jnI ?_ | refine gdI ?_ | refine gqI ?_ | refine fun (_ : Env) => ?_)
    refine l0 H rfl ?_
    cases hc : s.closed with
    | true =>
      repeat (first | refine jnI ?_ | refine gdI ?_ | refine gqI ?_ | refine fun (_ : Env) => ?_)
      exact ⟨by simp only [PipeS.ready, hc, Bool.true_or], rfl⟩
    | false =>
      repeat (first | refine jnI ?_ | refine gdI ?_ | refine gqI ?_ | refine fun (_ : Env) => ?_)
      refine cmp (fun hl => ?_) (fun hl => ?_)
      · have : 0 < (s.pew (!false)).length := by omega
        repeat (first | refine jnI ?_ | refine gdI ?_ | refine gqI ?_ | refine fun (_ : Env) => ?_)
        exact ⟨by simp only [PipeS.ready, hc, decide_eq_true this, Bool.false_or, Bool.true_or], rfl⟩
      · have h0 : ¬ 0 < (s.pew (!false)).length := by omega
        repeat (first | refine jnI ?_ | refine gdI ?_ | refine gqI ?_ | refine fun (_ : Env) => ?_)
        refine call (pipe_Len H0 hm) ?_
        rintro _ _ ⟨rfl, rfl⟩
        repeat (first | refine jnI ?_ | refine gdI ?_ | refine gqI ?_ | refine fun (_ : Env) => ?_)
        refine cmp (fun hb => ?_) (fun hb => ?_)
        · have : 0 < s.buf.length := by omega
          repeat (first | refine jnI ?_ | refine gdI ?_ | refine gqI ?_ | refine fun (_ : Env) => ?_)
          exact ⟨by simp only [PipeS.ready, hc, decide_eq_false h0, Bool.false_eq_true, if_false, decide_eq_true this]; rfl, rfl⟩
        · have : ¬ 0 < s.buf.length := by omega
          repeat (first | refine jnI ?_ | refine gdI ?_ | refine gqI ?_ | refine fun (_ : Env) => ?_)
          exact ⟨by simp only [PipeS.ready, hc, decide_eq_false h0, Bool.false_eq_true, if_false, decide_eq_false this]; rfl, rfl⟩

/-- 'Send', as a function. -/
def PipeS.send (s : PipeS) (v : Int) : PipeS × GotS × Int :=
  if s.closed then (s, got0, 90) else if s.ready true = false then (s, got0, 0) else
  match s.rcv with
  | w :: r => ({ s with rcv := r }, ⟨true, false, true, 0, w⟩, 0)
  | [] => ({ s with buf := if s.buf.length = s.cap then s.buf else s.buf ++ [v] }, ⟨true, false, false, 0, wt0⟩, if s.buf.length = s.cap then 5 else 0)

theorem pipe_Send {h : Heap} {p : Nat} {s : PipeS} {L : List HP} {v : Int} (H : Sat h (pipeAt p s :: L)) : HT P 89 [ptr p, int v] h fun u h' => u = .tuple #[agg (s.send v).2.1, int (s.send v).2.2] ∧ Sat h' (pipeAt p (s.send v).1 :: L) := by
  refine u89 ?_
  have H0 := H.push (cells (Cel.cells got0) 124)
  refine call (pipe_Closed H0 m1) ?_
  rintro _ _ ⟨rfl, rfl⟩
  cases hc : s.closed with
  | true =>
    refine fil rfl ?_
    refine sA H0 (Cel.cells got0) rfl rfl rfl rfl (fun h _ H => ?_)
    refine lA H rfl ?_
    simp only [PipeS.send, hc, if_true]
    repeat (first | refine jnI ?_ | refine gdI ?_ | refine gqI ?_ | refine fun (_ : Env) => ?_)
    exact ⟨by trivial, H.drop⟩
  | false =>
    refine call (pipe_Ready H0 m1) ?_
    rintro _ _ ⟨rfl, rfl⟩
    cases hr : s.ready true with
    | false =>
      refine fil rfl ?_
      refine sA H0 (Cel.cells got0) rfl rfl rfl rfl (fun h _ H => ?_)
      refine lA H rfl ?_
      simp only [PipeS.send, hc, hr, Bool.false_eq_true, if_false, if_true]
      repeat (first | refine jnI ?_ | refine gdI ?_ | refine gqI ?_ | refine fun (_ : Env) => ?_)
      exact ⟨by trivial, H.drop⟩
    | true =>
      obtain ⟨r, a, b, n, m, H1⟩ := pipe_open (SatP.swap H0)
      rw [hc] at H1
      refine l0 H1 rfl ?_
      refine ari rfl ?_
      refine s0 H1 (int (IntKind.i64.wrap (n + 1))) rfl rfl rfl (fun h H1 => ?_)
      refine l0 H1 rfl ?_
      refine call (pew_Take (H1.front 3 rfl)) ?_
      rintro _ h2 ⟨rfl, H2⟩
      refine getA rfl ?_
      refine getA rfl ?_
      have H3 := H2.push (cells [int 0, int 0, int 0] 122)
      refine sA H3 (Cel.cells (s.rcv.headD wt0)) rfl rfl rfl rfl (fun h4 _ H4 => ?_)
      cases hq : s.rcv with
      | cons w q =>
        rw [hq] at H4
        refine l2 H4 rfl ?_
        refine ari rfl ?_
        refine s2 H4 (int (IntKind.i64.wrap (m + 1))) rfl rfl rfl (fun h5 H5 => ?_)
        refine lA H5 rfl ?_
        refine fil rfl ?_
        refine sA (H5.front 5 rfl) (Cel.cells (⟨true, false, true, 0, w⟩ : GotS)) rfl rfl rfl rfl (fun h6 _ H6 => ?_)
        refine lA H6 rfl ?_
        have hs : s.send v = ({ s with rcv := q }, ⟨true, false, true, 0, w⟩, 0) := by simp [PipeS.send, hc, hr, hq]
        rw [hs]
        refine ⟨rfl, pipe_shut (r := r) (a := a) (b := b) (n := IntKind.i64.wrap (n + 1)) (m := IntKind.i64.wrap (m + 1)) ?_⟩
        rw [show ({ s with rcv := q } : PipeS).closed = false from hc]
        exact H6.re 6 [3, 4, 5, 2] rfl rfl
      | nil =>
        rw [hq] at H4
        refine fil rfl ?_
        refine l2 H4 rfl ?_
        refine call (ring_Push (H4.front 3 rfl)) ?_
        rintro _ h5 ⟨rfl, H5⟩
        refine sA (H5.front 5 rfl) (Cel.cells (⟨true, false, false, 0, wt0⟩ : GotS)) rfl rfl rfl rfl (fun h6 _ H6 => ?_)
        refine lA H6 rfl ?_
        have hs : s.send v = ({ s with buf := if s.buf.length = s.cap then s.buf else s.buf ++ [v], rcv := [] }, ⟨true, false, false, 0, wt0⟩, if s.buf.length = s.cap then 5 else 0) := by simp [PipeS.send, hc, hr, hq]
        rw [hs]
        refine ⟨rfl, pipe_shut (r := r) (a := a) (b := b) (n := IntKind.i64.wrap (n + 1)) (m := m) ?_⟩
        rw [show ({ s with buf := if s.buf.length = s.cap then s.buf else s.buf ++ [v], rcv := [] } : PipeS).closed = false from hc]
        exact H6.re 6 [4, 1, 5, 3] rfl rfl

/-- 'Recv', as a function. -/
def PipeS.recv (s : PipeS) : PipeS × GotS :=
  if s.ready false = false then (s, got0) else
  match s.buf, s.snd with
  | x :: q, w :: r => ({ s with buf := if q.length = s.cap then q else q ++ [w.value], snd := r }, ⟨true, true, true, x, w⟩)
  | x :: q, [] => ({ s with buf := q }, ⟨true, true, false, x, wt0⟩)
  | [], w :: r => ({ s with snd := r }, ⟨true, true, true, w.value, w⟩)
  | [], [] => (s, ⟨true, false, false, 0, wt0⟩)

/-- The closure 'take' of 'Recv'. -/
theorem recv_take {h : Heap} {gb pb p r a b cap f : Nat} {n m x : Int} {fs cs : Array Value} {buf buf' : List Int} {snd rcv : List Wt} {closed : Bool} {L : List HP}
    (H : Sat h (pt gb (cells (Cel.cells (⟨true, false, false, 0, wt0⟩ : GotS)) 124) :: pt pb (cells [ptr p] 101) :: pt p (pipeB r a b closed n m) :: ringAt r cap buf :: pewAt a snd :: pewAt b rcv :: L))
    (hf : ∀ h' n' m', Sat h' (pt gb (cells (Cel.cells (⟨true, true, !snd.isEmpty, 0, snd.headD wt0⟩ : GotS)) 124) :: pt pb (cells [ptr p] 101) :: pt p (pipeB r a b closed n' m') :: ringAt r cap buf :: pewAt a snd.tail :: pewAt b rcv :: L) →
      HT P f (fs.toList ++ [int (snd.headD wt0).value] ++ cs.toList) h' fun v h'' => v = int x ∧ Sat h'' (pt gb (cells (Cel.cells (⟨true, true, !snd.isEmpty, 0, snd.headD wt0⟩ : GotS)) 124) :: pt pb (cells [ptr p] 101) :: pt p (pipeB r a b closed n' m') :: ringAt r cap buf' :: pewAt a snd.tail :: pewAt b rcv :: L)) :
    HT P 99 [.func (.func f) fs cs, ptr gb, ptr pb] h fun _ h' => ∃ n' m', Sat h' (pt gb (cells (Cel.cells (⟨true, true, !snd.isEmpty, x, snd.headD wt0⟩ : GotS)) 124) :: pt pb (cells [ptr p] 101) :: pt p (pipeB r a b closed n' m') :: ringAt r cap buf' :: pewAt a snd.tail :: pewAt b rcv :: L) := by
  refine u99 ?_
  refine s0 H (.bool true) rfl rfl rfl (fun h H => ?_)
  refine l1 H rfl ?_
  refine l2 H rfl ?_
  refine ari rfl ?_
  refine s2 H (int (IntKind.i64.wrap (m + 1))) rfl rfl rfl (fun h H => ?_)
  repeat (first | refine jnI ?_ | refine gdI ?_ | refine gqI ?_ | refine fun (_ : Env) => ?_)
  refine l1 H rfl ?_
  refine l2 H rfl ?_
  refine call (pew_Take (H.front 4 rfl)) ?_
  rintro _ h2 ⟨rfl, H⟩
  refine getA rfl ?_
  refine getA rfl ?_
  have H : Sat h2 (_ :: _ :: _ :: _ :: _ :: _ :: L) := H.re 6 [1, 2, 3, 4, 0, 5] rfl rfl
  cases snd with
  | nil =>
    refine w0 H rfl rfl rfl (fun h H => ?_)
    refine w0 H rfl rfl rfl (fun h H => ?_)
    refine l0 H rfl ?_
    repeat (first | refine jnI ?_ | refine gdI ?_ | refine gqI ?_ | refine fun (_ : Env) => ?_)
    refine l0 H rfl ?_
    refine call (hf _ n (IntKind.i64.wrap (m + 1)) H) ?_
    rintro _ h3 ⟨rfl, H⟩
    refine s0 H (int x) rfl rfl rfl (fun h H => ?_)
    exact ⟨_, _, H⟩
  | cons w q =>
    refine w0 H rfl rfl rfl (fun h H => ?_)
    refine w0 H rfl rfl rfl (fun h H => ?_)
    refine l0 H rfl ?_
    refine l1 H rfl ?_
    refine l2 H rfl ?_
    refine ari rfl ?_
    refine s2 H (int (IntKind.i64.wrap (n + 1))) rfl rfl rfl (fun h H => ?_)
    repeat (first | refine jnI ?_ | refine gdI ?_ | refine gqI ?_ | refine fun (_ : Env) => ?_)
    refine l0 H rfl ?_
    refine call (hf _ (IntKind.i64.wrap (n + 1)) (IntKind.i64.wrap (m + 1)) H) ?_
    rintro _ h3 ⟨rfl, H⟩
    refine s0 H (int x) rfl rfl rfl (fun h H => ?_)
    exact ⟨_, _, H⟩

theorem recv_pop {h : Heap} {gb pb p r a b cap : Nat} {n m x v : Int} {q : List Int} {g : GotS} {closed : Bool} {L : List HP}
    (H : Sat h (pt gb (cells (Cel.cells g) 124) :: pt pb (cells [ptr p] 101) :: pt p (pipeB r a b closed n m) :: ringAt r cap (x :: q) :: L)) :
    HT P 100 [int v, ptr pb, ptr gb] h fun u h' => u = int x ∧ Sat h' (pt gb (cells (Cel.cells g) 124) :: pt pb (cells [ptr p] 101) :: pt p (pipeB r a b closed n m) :: ringAt r cap (if g.woke then (if q.length = cap then q else q ++ [v]) else q) :: L) := by
  obtain ⟨rd, ok, woke, val, mate⟩ := g
  refine u100 ?_
  refine l1 H rfl ?_
  refine l2 H rfl ?_
  refine call (ring_Pop (H.front 3 rfl)) ?_
  rintro _ h2 ⟨rfl, H⟩
  refine getA rfl ?_
  refine getA rfl ?_
  repeat (first | refine jnI ?_ | refine gdI ?_ | refine gqI ?_ | refine fun (_ : Env) => ?_)
  refine l1 H rfl ?_
  have H : Sat h2 (_ :: _ :: _ :: _ :: L) := H.re 4 [1, 2, 3, 0] rfl rfl
  cases woke with
  | false =>
    repeat (first | refine jnI ?_ | refine gdI ?_ | refine gqI ?_ | refine fun (_ : Env) => ?_)
    exact ⟨rfl, H⟩
  | true =>
    refine l1 H rfl ?_
    refine l2 H rfl ?_
    refine call (ring_Push (H.front 3 rfl)) ?_
    rintro _ h3 ⟨rfl, H⟩
    repeat (first | refine jnI ?_ | refine gdI ?_ | refine gqI ?_ | refine fun (_ : Env) => ?_)
    exact ⟨rfl, H.re 4 [1, 2, 3, 0] rfl rfl⟩

theorem pipe_Recv {h : Heap} {p : Nat} {s : PipeS} {L : List HP} (H : Sat h (pipeAt p s :: L)) : HT P 90 [ptr p] h fun u h' => u = agg s.recv.2 ∧ Sat h' (pipeAt p s.recv.1 :: L) := by
  refine u90 ?_
  have H1 := H.push (cells [ptr p] 101)
  have H2 := H1.push (cells (Cel.cells got0) 124)
  refine l1 H2 rfl ?_
  refine call (pipe_Ready H2 m2) ?_
  rintro _ _ ⟨rfl, rfl⟩
  cases hr : s.ready false with
  | false =>
    refine fil rfl ?_
    refine sA H2 (Cel.cells got0) rfl rfl rfl rfl (fun h _ H => ?_)
    refine lA H rfl ?_
    simp only [PipeS.recv, hr, if_true]
    repeat (first | refine jnI ?_ | refine gdI ?_ | refine gqI ?_ | refine fun (_ : Env) => ?_)
    exact ⟨by trivial, H.drop.drop⟩
  | true =>
    refine fil rfl ?_
    have H3 := H2.push (cells (Cel.cells got0) 124)
    refine sA H3 (Cel.cells (⟨true, false, false, 0, wt0⟩ : GotS)) rfl rfl rfl rfl (fun h3 _ H4 => ?_)
    clear H3
    repeat (first | refine jnI ?_ | refine gdI ?_ | refine gqI ?_ | refine fun (_ : Env) => ?_)
    refine l2 H4 rfl ?_
    refine call (pipe_Len H4 m3) ?_
    rintro _ _ ⟨rfl, rfl⟩
    obtain ⟨cap, buf, snd, rcv, closed⟩ := s
    obtain ⟨r, a, b, n, m, H5⟩ := pipe_open (H4.front 3 rfl)
    have H6 : Sat _ (_ :: _ :: _ :: _ :: _ :: _ :: pt _ (cells (Cel.cells got0) 124) :: L) := H5.re 7 [4, 6, 0, 1, 2, 3, 5] rfl rfl
    cases buf with
    | cons x q =>
      refine cmpT (by simp) ?_
      refine call (recv_take H6 (buf' := if (!snd.isEmpty) then (if q.length = cap then q else q ++ [(snd.headD wt0).value]) else q) (x := x) fun h' n' m' H' => ?_) ?_
      · exact recv_pop H'
      rintro _ h7 ⟨n', m', H7⟩
      repeat (first | refine jnI ?_ | refine gdI ?_ | refine gqI ?_ | refine fun (_ : Env) => ?_)
      refine lA H7 rfl ?_
      refine sA (H7.front 6 rfl) (Cel.cells (⟨true, true, !snd.isEmpty, x, snd.headD wt0⟩ : GotS)) rfl rfl rfl rfl (fun h8 _ H8 => ?_)
      refine lA H8 rfl ?_
      cases snd with
      | nil =>
        simp only [PipeS.recv, hr, Bool.true_eq_false, if_false]
        exact ⟨rfl, pipe_shut (r := r) (a := a) (b := b) (n := n') (m := m') (H8.re 7 [3, 4, 5, 6] rfl rfl)⟩
      | cons w t =>
        simp only [PipeS.recv, hr, Bool.true_eq_false, if_false]
        exact ⟨rfl, pipe_shut (r := r) (a := a) (b := b) (n := n') (m := m') (H8.re 7 [3, 4, 5, 6] rfl rfl)⟩
    | nil =>
      refine cmpF (by simp) ?_
      refine l1 H6 rfl ?_
      refine l2 H6 rfl ?_
      refine call (pew_Len_at H6 m4) ?_
      rintro _ _ ⟨rfl, rfl⟩
      cases snd with
      | nil =>
        refine cmpF (by simp) ?_
        repeat (first | refine jnI ?_ | refine gdI ?_ | refine gqI ?_ | refine fun (_ : Env) => ?_)
        refine lA H6 rfl ?_
        refine sA (H6.front 6 rfl) (Cel.cells (⟨true, false, false, 0, wt0⟩ : GotS)) rfl rfl rfl rfl (fun h8 _ H8 => ?_)
        refine lA H8 rfl ?_
        simp only [PipeS.recv, hr, Bool.true_eq_false, if_false]
        repeat (first | refine jnI ?_ | refine gdI ?_ | refine gqI ?_ | refine fun (_ : Env) => ?_)
        exact ⟨by trivial, pipe_shut (r := r) (a := a) (b := b) (n := n) (m := m) (H8.re 7 [3, 4, 5, 6] rfl rfl)⟩
      | cons w t =>
        refine cmpT (by simp) ?_
        refine call (recv_take H6 (buf' := []) (x := w.value) fun h' n' m' H' => ?_) ?_
        · refine u102 ?_
          exact ⟨rfl, H'⟩
        rintro _ h7 ⟨n', m', H7⟩
        repeat (first | refine jnI ?_ | refine gdI ?_ | refine gqI ?_ | refine fun (_ : Env) => ?_)
        refine lA H7 rfl ?_
        refine sA (H7.front 6 rfl) (Cel.cells (⟨true, true, true, w.value, w⟩ : GotS)) rfl rfl rfl rfl (fun h8 _ H8 => ?_)
        refine lA H8 rfl ?_
        simp only [PipeS.recv, hr, Bool.true_eq_false, if_false]
        repeat (first | refine jnI ?_ | refine gdI ?_ | refine gqI ?_ | refine fun (_ : Env) => ?_)
        exact ⟨by trivial, pipe_shut (r := r) (a := a) (b := b) (n := n') (m := m') (H8.re 7 [3, 4, 5, 6] rfl rfl)⟩

theorem pipe_Recv_nil {h : Heap} {L : List HP} (H : Sat h L) : HT P 90 [nilp] h fun u h' => u = agg got0 ∧ Sat h' L := by
  refine u90 ?_
  have H1 := H.push (cells [nilp] 101)
  have H2 := H1.push (cells (Cel.cells got0) 124)
  refine l1 H2 rfl ?_
  refine call pipe_Ready_nil ?_
  rintro _ _ ⟨rfl, rfl⟩
  refine fil rfl ?_
  refine sA H2 (Cel.cells got0) rfl rfl rfl rfl (fun h _ H => ?_)
  refine lA H rfl ?_
  exact ⟨rfl, H.drop.drop⟩

theorem pipe_Waiting {h : Heap} {p : Nat} {s : PipeS} {L : List HP} {send : Bool} (H : Sat h (pipeAt p s :: L)) : HT P 95 [ptr p, .bool send] h fun v h' => Sat h' (own 122 v (s.pew send) :: pipeAt p s :: L) := by
  obtain ⟨r, a, b, n, m, H⟩ := pipe_open H
  refine u95 ?_
  refine call (pipe_pew (s := s) (n := n) (m := m) H) ?_
  rintro _ _ ⟨rfl, rfl⟩
  cases send with
  | true =>
    refine call (pew_List (H.front 2 rfl)) ?_
    rintro v h' H'
    exact SatP.cons (fun _ h => pipe_shut' h) (H'.re 5 [0, 2, 3, 1, 4] rfl rfl)
  | false =>
    refine call (pew_List (H.front 3 rfl)) ?_
    rintro v h' H'
    exact SatP.cons (fun _ h => pipe_shut' h) (H'.re 5 [0, 2, 3, 4, 1] rfl rfl)

theorem pipe_Waiting_ext {h : Heap} {p : Nat} {s : PipeS} {L : List HP} {send : Bool} (H : Sat h L) (hm : pipeAt p s ∈ L) : HT P 95 [ptr p, .bool send] h fun v h' => reads h' v (s.pew send) ∧ Ext h h' := by
  obtain ⟨L', r, a, b, n, m, H⟩ := pipe_facts H hm
  refine u95 ?_
  refine call (pipe_pew (s := s) (n := n) (m := m) H) ?_
  rintro _ _ ⟨rfl, rfl⟩
  cases send with
  | true => refine call (pew_List_ext H m2) ?_; rintro v h' ⟨h1, h2⟩; exact ⟨h1, h2⟩
  | false => refine call (pew_List_ext H m3) ?_; rintro v h' ⟨h1, h2⟩; exact ⟨h1, h2⟩

def PipeS.alone (s : PipeS) (send : Bool) (g : Int) : Bool :=
  decide (0 < (s.pew send).length) && !s.closed && decide (s.cap = 0) && !((s.pew send).any fun w => !(decide (w.g = g)))

theorem pipe_own {h : Heap} {b : Nat} {g : Int} {w : Wt} (hb : h[b]? = some (cells [int g] 3)) : HT P 104 [agg w, ptr b] h fun v h' => v = .bool (decide (w.g = g)) ∧ Ext h h' := by
  refine u104 ?_
  have H0 := (Sat.old h).push (cells [int w.g, int w.case, int w.value] 122)
  refine l0 H0 rfl ?_
  refine ld ((Ext.push h _).get hb) rfl ?_
  refine cmpB ?_
  exact ⟨rfl, Ext.push _ _⟩

theorem pipe_notOwn {h : Heap} {b c : Nat} {g : Int} {w : Wt} (hb : h[b]? = some (cells [int g] 3)) (hc : h[c]? = some (cells [.func (.func 104) #[] #[ptr b]] 160)) : HT P 106 [agg w, ptr c] h fun v h' => v = .bool (!decide (w.g = g)) ∧ Ext h h' := by
  refine u106 ?_
  have H0 := (Sat.old h).push (cells (Cel.cells w) 122)
  refine ld ((Ext.push h _).get hc) rfl ?_
  refine lA H0 rfl ?_
  refine call (pipe_own ((Ext.push h _).get hb)) ?_
  rintro _ h1 ⟨rfl, x1⟩
  exact ⟨rfl, (Ext.push _ _).trans x1⟩

theorem pipe_alone {h : Heap} {p : Nat} {s : PipeS} {L : List HP} {send : Bool} {g : Int} (H : Sat h L) (hm : pipeAt p s ∈ L) : HT P 94 [ptr p, .bool send, int g] h fun v h' => v = .bool (s.alone send g) ∧ Ext h h' := by
  refine u94 ?_
  have H1 := (Sat.old h).push (cells [int g] 3)
  have H2 := H1.push (cells [.nilFunc] 160)
  refine s0 H2 (.func (.func 104) #[] #[ptr h.size]) rfl rfl rfl (fun h3 H3 => ?_)
  clear H1 H2
  have x3 := Sat.old_ext H3 m2
  refine call (pipe_Waiting_ext (H.ext x3) hm) ?_
  rintro v h4 ⟨hv, x4⟩
  obtain ⟨a, c, rfl⟩ := hv.len
  have x := x3.trans x4
  have hle : (s.pew send).length ≤ 1024 := by
    obtain ⟨L', r, a, b, n, m, H⟩ := pipe_facts H hm
    cases send with
    | true => obtain ⟨t, _, hp⟩ := H.mem m2; exact hp.1
    | false => obtain ⟨t, _, hp⟩ := H.mem m3; exact hp.1
  repeat (first | refine jnI ?_ | refine gdI ?_ | refine gqI ?_ | refine fun (_ : Env) => ?_)
  refine cmp (fun hl => ?_) (fun hl => ?_)
  · have hl' : 0 < (s.pew send).length := by omega
    obtain ⟨L', r, pa, pb, n, m, H5⟩ := pipe_facts (H.ext x) hm
    repeat (first | refine jnI ?_ | refine gdI ?_ | refine gqI ?_ | refine fun (_ : Env) => ?_)
    refine l0 H5 rfl ?_
    cases hc : s.closed with
    | true =>
      repeat (first | refine jnI ?_ | refine gdI ?_ | refine gqI ?_ | refine fun (_ : Env) => ?_)
      exact ⟨by simp [PipeS.alone, hc], x⟩
    | false =>
      repeat (first | refine jnI ?_ | refine gdI ?_ | refine gqI ?_ | refine fun (_ : Env) => ?_)
      refine call (pipe_Cap (H.ext x) hm) ?_
      rintro _ _ ⟨rfl, rfl⟩
      repeat (first | refine jnI ?_ | refine gdI ?_ | refine gqI ?_ | refine fun (_ : Env) => ?_)
      refine cmp (fun hz => ?_) (fun hz => ?_)
      · have hz' : s.cap = 0 := by omega
        have H6 := H3.ext x4
        repeat (first | refine jnI ?_ | refine gdI ?_ | refine gqI ?_ | refine fun (_ : Env) => ?_)
        refine call (containsFunc_wt hv (p := fun w => !decide (w.g = g)) ⟨_, _, _, rfl, fun h' x' w _ => pipe_notOwn ((H6.ext x').at_ m1) ((H6.ext x').at_ m0)⟩ (by omega)) ?_
        rintro _ h7 ⟨rfl, x7⟩
        repeat (first | refine jnI ?_ | refine gdI ?_ | refine gqI ?_ | refine fun (_ : Env) => ?_)
        exact ⟨by simp only [PipeS.alone, hc, hz', decide_eq_true hl']; rfl, x.trans x7⟩
      · have hz' : ¬ s.cap = 0 := by omega
        repeat (first | refine jnI ?_ | refine gdI ?_ | refine gqI ?_ | refine fun (_ : Env) => ?_)
        exact ⟨by simp [PipeS.alone, hc, hz'], x⟩
  · have hl' : ¬ 0 < (s.pew send).length := by omega
    repeat (first | refine jnI ?_ | refine gdI ?_ | refine gqI ?_ | refine fun (_ : Env) => ?_)
    exact ⟨by simp only [PipeS.alone, decide_eq_false hl', Bool.false_and], x⟩

/-- 'Wait', as a function. -/
def PipeS.wait (s : PipeS) (send : Bool) (w : Wt) : PipeS × Int :=
  if s.ready send && !(s.alone (!send) w.g) then (s, 7) else
  if send then ({ s with snd := (padd s.snd w).1 }, (padd s.snd w).2) else ({ s with rcv := (padd s.rcv w).1 }, (padd s.rcv w).2)

theorem pipe_Wait_nil {h : Heap} {L : List HP} {send : Bool} {w : Wt} (H : Sat h L) : HT P 74 [nilp, .bool send, agg w] h fun v h' => v = int (padd [] w).2 ∧ Sat h' L := by
  refine u74 ?_
  have H1 := H.push (cells (Cel.cells w) 122)
  refine lA H1 rfl ?_
  refine call (pew_New H1) ?_
  rintro _ h2 ⟨b, rfl, x2, H2⟩
  refine ⟨lA (H2.front 1 rfl) rfl rfl, ?_⟩
  refine call (pew_Add H2) ?_
  rintro _ h3 ⟨rfl, H3⟩
  exact ⟨rfl, H3.drop.drop⟩

theorem pipe_Wait {h : Heap} {p : Nat} {s : PipeS} {L : List HP} {send : Bool} {w : Wt} (H : Sat h (pipeAt p s :: L)) : HT P 74 [ptr p, .bool send, agg w] h fun v h' => v = int (s.wait send w).2 ∧ Sat h' (pipeAt p (s.wait send w).1 :: L) := by
  refine u74 ?_
  have H1 := H.push (cells (Cel.cells w) 122)
  repeat (first | refine jnI ?_ | refine gdI ?_ | refine gqI ?_ | refine fun (_ : Env) => ?_)
  refine call (pipe_Ready H1 m1) ?_
  rintro _ _ ⟨rfl, rfl⟩
  have hgo : ∀ h1, Ext (h.push (cells (Cel.cells w) 122)) h1 → (s.ready send && !(s.alone (!send) w.g)) = false → ∃ (r a b : Nat) (n m : Int),
      Sat h1 (pt h.size (cells (Cel.cells w) 122) :: pt p (pipeB r a b s.closed n m) :: ringAt r s.cap s.buf :: pewAt a s.snd :: pewAt b s.rcv :: L) := by
    intro h1 x1 _
    obtain ⟨r, a, b, n, m, H2⟩ := pipe_open ((H1.ext x1).front 1 rfl)
    exact ⟨r, a, b, n, m, H2.re 5 [4, 0, 1, 2, 3] rfl rfl⟩
  cases hr : s.ready send with
  | true =>
    repeat (first | refine jnI ?_ | refine gdI ?_ | refine gqI ?_ | refine fun (_ : Env) => ?_)
    refine l0 H1 rfl ?_
    repeat (first | refine jnI ?_ | refine gdI ?_ | refine gqI ?_ | refine fun (_ : Env) => ?_)
    refine call (pipe_alone H1 m1) ?_
    rintro _ h1 ⟨rfl, x1⟩
    cases ha : s.alone (!send) w.g with
    | false =>
      simp only [PipeS.wait, hr, ha, Bool.not_false, Bool.and_self, if_true]
      repeat (first | refine jnI ?_ | refine gdI ?_ | refine gqI ?_ | refine fun (_ : Env) => ?_)
      exact ⟨by trivial, (H1.ext x1).drop⟩
    | true =>
      obtain ⟨r, a, b, n, m, H2⟩ := hgo h1 x1 (by simp [ha])
      simp only [PipeS.wait, hr, ha, Bool.not_true, Bool.and_false, Bool.false_eq_true, if_false]
      repeat (first | refine jnI ?_ | refine gdI ?_ | refine gqI ?_ | refine fun (_ : Env) => ?_)
      refine lA H2 rfl ?_
      refine call (pipe_pew (s := s) (n := n) (m := m) (H2.front 1 rfl)) ?_
      rintro _ _ ⟨rfl, rfl⟩
      refine ⟨lA H2 rfl rfl, ?_⟩
      cases send with
      | true =>
        refine call (pew_Add (H2.front 3 rfl)) ?_
        rintro _ h3 ⟨rfl, H3⟩
        exact ⟨rfl, pipe_shut (r := r) (a := a) (b := b) (n := n) (m := m) (H3.re 5 [2, 3, 0, 4] rfl rfl)⟩
      | false =>
        refine call (pew_Add (H2.front 4 rfl)) ?_
        rintro _ h3 ⟨rfl, H3⟩
        exact ⟨rfl, pipe_shut (r := r) (a := a) (b := b) (n := n) (m := m) (H3.re 5 [2, 3, 4, 0] rfl rfl)⟩
  | false =>
    obtain ⟨r, a, b, n, m, H2⟩ := hgo _ (Ext.refl _) (by simp [hr])
    simp only [PipeS.wait, hr, Bool.false_and, Bool.false_eq_true, if_false]
    repeat (first | refine jnI ?_ | refine gdI ?_ | refine gqI ?_ | refine fun (_ : Env) => ?_)
    refine lA H2 rfl ?_
    refine call (pipe_pew (s := s) (n := n) (m := m) (H2.front 1 rfl)) ?_
    rintro _ _ ⟨rfl, rfl⟩
    refine ⟨lA H2 rfl rfl, ?_⟩
    cases send with
    | true =>
      refine call (pew_Add (H2.front 3 rfl)) ?_
      rintro _ h3 ⟨rfl, H3⟩
      exact ⟨rfl, pipe_shut (r := r) (a := a) (b := b) (n := n) (m := m) (H3.re 5 [2, 3, 0, 4] rfl rfl)⟩
    | false =>
      refine call (pew_Add (H2.front 4 rfl)) ?_
      rintro _ h3 ⟨rfl, H3⟩
      exact ⟨rfl, pipe_shut (r := r) (a := a) (b := b) (n := n) (m := m) (H3.re 5 [2, 3, 4, 0] rfl rfl)⟩

/-- 'Close', as a function: the pipe, who received, who sent, the error. -/
def PipeS.close (s : PipeS) : PipeS × List Wt × List Wt × Int :=
  if s.closed then (s, [], [], 90) else ({ s with closed := true, snd := [], rcv := [] }, s.rcv, s.snd, 0)

theorem pipe_Close_nil {h : Heap} : HT P 76 [nilp] h fun v h' => v = .tuple #[.slice none 0 0, .slice none 0 0, int 6] ∧ h' = h := by
  refine u76 ?_
  exact ⟨rfl, rfl⟩

theorem pipe_Close {h : Heap} {p : Nat} {s : PipeS} {L : List HP} (H : Sat h (pipeAt p s :: L)) : HT P 76 [ptr p] h fun v h' => ∃ v1 v2 : Value, v = .tuple #[v1, v2, int s.close.2.2.2] ∧ Sat h' (own 122 v1 s.close.2.1 :: own 122 v2 s.close.2.2.1 :: pipeAt p s.close.1 :: L) := by
  refine u76 ?_
  obtain ⟨cap, buf, snd, rcv, closed⟩ := s
  obtain ⟨r, a, b, n, m, H1⟩ := pipe_open H
  clear H
  cases closed with
  | true =>
    refine l0 H1 rfl ?_
    exact ⟨_, _, rfl, own_new (own_new (pipe_shut H1) _) _⟩
  | false =>
    refine l0 H1 rfl ?_
    refine s0 H1 (.bool true) rfl rfl rfl (fun h H2 => ?_)
    have H3 : Sat _ (pipeAt p ⟨cap, buf, snd, rcv, true⟩ :: L) := pipe_shut (r := r) (a := a) (b := b) (n := n) (m := m) H2
    refine call (pipe_Waiting (send := false) H3) ?_
    rintro v1 h4 H4
    refine call (pipe_Waiting (send := true) (H4.front 1 rfl)) ?_
    rintro v2 h5 H5
    refine call (pew_New H5) ?_
    rintro _ h6 ⟨b1, rfl, _, H6⟩
    refine call (pew_New H6) ?_
    rintro _ h7 ⟨b2, rfl, _, H7⟩
    obtain ⟨r', a', b', n', m', H8⟩ := pipe_open (H7.front 3 rfl)
    refine s0 H8 (ptr b1) rfl rfl rfl (fun h H8 => ?_)
    refine s0 H8 (ptr b2) rfl rfl rfl (fun h H8 => ?_)
    refine ⟨v1, v2, rfl, ?_⟩
    have H9 := pipe_shut (s := ⟨cap, buf, [], [], true⟩) (r := r') (a := b2) (b := b1) (n := n') (m := m') (H8.re 8 [0, 1, 4, 5, 6, 7] rfl rfl)
    exact H9.re 3 [2, 1, 0] rfl rfl

def PipeS.drop (s : PipeS) (g : Int) : PipeS := { s with snd := pdrop s.snd g, rcv := pdrop s.rcv g }

theorem pipe_Drop_nil {h : Heap} {L : List HP} {g : Int} (H : Sat h L) : HT P 103 [nilp, int g] h fun v h' => v = int 0 ∧ Sat h' L := by
  refine u103 ?_
  refine call pipe_pew_nil ?_
  rintro _ _ ⟨rfl, rfl⟩
  refine call (pew_Drop_nil H) ?_
  rintro _ h1 ⟨rfl, H1⟩
  refine call pipe_pew_nil ?_
  rintro _ _ ⟨rfl, rfl⟩
  refine call (pew_Drop_nil H1) ?_
  rintro _ h1 ⟨rfl, H1⟩
  refine ari (r := 0) (by decide) ?_
  exact ⟨rfl, H1⟩

theorem pipe_Drop {h : Heap} {p : Nat} {s : PipeS} {L : List HP} {g : Int} (H : Sat h (pipeAt p s :: L)) : HT P 103 [ptr p, int g] h fun v h' => ∃ k, v = int k ∧ Sat h' (pipeAt p (s.drop g) :: L) := by
  refine u103 ?_
  obtain ⟨r, a, b, n, m, H1⟩ := pipe_open H
  refine call (pipe_pew (s := s) (n := n) (m := m) (send := true) H1) ?_
  rintro _ _ ⟨rfl, rfl⟩
  refine call (pew_Drop (H1.front 2 rfl)) ?_
  rintro _ h2 ⟨rfl, H2⟩
  refine call (pipe_pew (s := s) (n := n) (m := m) (send := false) (H2.front 1 rfl)) ?_
  rintro _ _ ⟨rfl, rfl⟩
  refine call (pew_Drop (H2.front 3 rfl)) ?_
  rintro _ h3 ⟨rfl, H3⟩
  refine ari rfl ?_
  exact ⟨_, rfl, pipe_shut (s := s.drop g) (r := r) (a := a) (b := b) (n := n) (m := m) (H3.re 4 [2, 3, 1, 0] rfl rfl)⟩

end Go.Sl
end

section
namespace Go.Sl
open Go
attribute [local irreducible] HT

def crewAt (c : Nat) (l : List One) : HP := fun s => ∃ v, l.length ≤ 512 ∧ star (pt c (cells [v] 93)) (own 95 v l) s

theorem crew_open {h : Heap} {c : Nat} {l : List One} {L : List HP} (H : Sat h (crewAt c l :: L)) : ∃ v, l.length ≤ 512 ∧ Sat h (pt c (cells [v] 93) :: own 95 v l :: L) := by
  obtain ⟨v, H⟩ := SatP.ex.1 H
  obtain ⟨s, _, hl, _⟩ := Sat.mem H m0
  exact ⟨v, hl, SatP.star.1 (SatP.imp H fun _ p => p.2)⟩
theorem crew_shut {h : Heap} {c : Nat} {l : List One} {L : List HP} {v : Value} (hl : l.length ≤ 512) (H : Sat h (pt c (cells [v] 93) :: own 95 v l :: L)) : Sat h (crewAt c l :: L) :=
  SatP.ex.2 ⟨v, SatP.imp (SatP.star.2 H) fun _ p => ⟨hl, p⟩⟩

theorem crew_facts {h : Heap} {c : Nat} {l : List One} {L : List HP} (H : Sat h L) (hm : crewAt c l ∈ L) : ∃ v, l.length ≤ 512 ∧ h[c]? = some (cells [v] 93) ∧ reads h v l := by
  obtain ⟨s, hs, v, hl, s1, s2, d, x1, x2, p1, p2⟩ := H.mem hm
  exact ⟨v, hl, hs c _ (x1 c _ p1), (own_readsP p2).up (x2.trans hs)⟩

/-- What stands at a place that is a number. -/
def at? {α : Type} (l : List α) (g : Int) : Option α := if 0 ≤ g then l[g.toNat]? else none

theorem at?_nat {α : Type} (l : List α) (k : Nat) : at? l (k : Int) = l[k]? := by simp [at?]
theorem at?_none {α : Type} {l : List α} {g : Int} (h : g < 0 ∨ (l.length : Int) ≤ g) : at? l g = none := by
  unfold at?; split
  · exact List.getElem?_eq_none (by omega)
  · rfl

theorem crew_New {h : Heap} {L : List HP} (H : Sat h L) : HT P 22 [] h fun v h' => ∃ b, v = ptr b ∧ Ext h h' ∧ Sat h' (crewAt b [] :: L) := by
  refine u22 ?_
  refine fil rfl ?_
  refine ⟨h.size, rfl, Ext.push _ _, ?_⟩
  have H1 := own_new (α := One) (H.push (cells [.slice none 0 0] 93)) 95
  exact crew_shut (by simp) (H1.re 2 [1, 0] rfl rfl)

theorem crew_Len_raw {h : Heap} {c : Nat} {a : Option Addr} {n cp : Nat} (hb : h[c]? = some (cells [.slice a n cp] 93)) : HT P 65 [ptr c] h fun v h' => v = int n ∧ h' = h := by
  refine u65 ?_
  refine ld hb rfl ?_
  exact ⟨rfl, rfl⟩

theorem crew_Len {h : Heap} {c : Nat} {l : List One} {L : List HP} (H : Sat h L) (hm : crewAt c l ∈ L) : HT P 65 [ptr c] h fun v h' => v = int l.length ∧ h' = h := by
  obtain ⟨v, hl, hb, hr⟩ := crew_facts H hm
  obtain ⟨a, cp, rfl⟩ := hr.len
  exact crew_Len_raw hb

theorem crew_of_none {h : Heap} {c : Nat} {l : List One} {L : List HP} {g : Int} (H : Sat h L) (hm : crewAt c l ∈ L) (hg : at? l g = none) : HT P 85 [ptr c, int g] h fun v h' => v = nilp ∧ h' = h := by
  refine u85 ?_
  repeat (first | refine jnI ?_ | refine gdI ?_ | refine gqI ?_ | refine fun (_ : Env) => ?_)
  refine cmp (fun hg0 => ?_) (fun hg0 => ?_)
  · repeat (first | refine jnI ?_ | refine gdI ?_ | refine gqI ?_ | refine fun (_ : Env) => ?_)
    exact ⟨rfl, rfl⟩
  repeat (first | refine jnI ?_ | refine gdI ?_ | refine gqI ?_ | refine fun (_ : Env) => ?_)
  refine call (crew_Len H hm) ?_
  rintro _ _ ⟨rfl, rfl⟩
  repeat (first | refine jnI ?_ | refine gdI ?_ | refine gqI ?_ | refine fun (_ : Env) => ?_)
  refine cmpT ?_ ?_
  · obtain ⟨i, rfl⟩ := Int.eq_ofNat_of_zero_le (Int.not_lt.1 hg0)
    rw [at?_nat] at hg
    have := List.getElem?_eq_none_iff.1 hg
    omega
  repeat (first | refine jnI ?_ | refine gdI ?_ | refine gqI ?_ | refine fun (_ : Env) => ?_)
  exact ⟨rfl, rfl⟩

theorem crew_of_some {h : Heap} {c b o cp i n : Nat} (hb : h[c]? = some (cells [.slice (some ⟨b, o, none⟩) n cp] 93)) (hi : i < n) : HT P 85 [ptr c, int i] h fun v h' => v = .pointer (some ⟨b, o + i * 3, none⟩) ∧ h' = h := by
  refine u85 ?_
  repeat (first | refine jnI ?_ | refine gdI ?_ | refine gqI ?_ | refine fun (_ : Env) => ?_)
  refine cmpF (by omega) ?_
  repeat (first | refine jnI ?_ | refine gdI ?_ | refine gqI ?_ | refine fun (_ : Env) => ?_)
  refine call (crew_Len_raw hb) ?_
  rintro _ _ ⟨rfl, rfl⟩
  repeat (first | refine jnI ?_ | refine gdI ?_ | refine gqI ?_ | refine fun (_ : Env) => ?_)
  refine cmpF (by omega) ?_
  repeat (first | refine jnI ?_ | refine gdI ?_ | refine gqI ?_ | refine fun (_ : Env) => ?_)
  refine ld hb rfl ?_
  refine idx i rfl hi ?_
  exact ⟨rfl, rfl⟩

/-- The cells of a goroutine that is there. -/
theorem crew_at {h : Heap} {v : Value} {l : List One} {g : Int} {x : One} (hv : reads h v l) (hg : at? l g = some x) : ∃ (i b o cp : Nat), g = (i : Int) ∧ i < l.length ∧ l[i]? = some x ∧ v = .slice (some ⟨b, o, none⟩) l.length cp ∧ rangeAt h b (o + i * 3) (Cel.cells x) := by
  unfold at? at hg
  split at hg
  · rename_i h0
    obtain ⟨i, rfl⟩ := Int.eq_ofNat_of_zero_le h0
    simp at hg
    obtain ⟨a, cp, rfl⟩ := hv.len
    obtain ⟨b, o, rfl, hi, hr⟩ := hv.get hg
    exact ⟨i, b, o, cp, rfl, hi, hg, rfl, hr⟩
  · cases hg

theorem crew_State {h : Heap} {c : Nat} {l : List One} {L : List HP} {g : Int} (H : Sat h L) (hm : crewAt c l ∈ L) : HT P 77 [ptr c, int g] h fun v h' =>
    v = .tuple #[int (match at? l g with | some x => x.state | none => 0), .bool (at? l g).isSome] ∧ h' = h := by
  refine u77 ?_
  cases hg : at? l g with
  | none =>
    refine call (crew_of_none H hm hg) ?_
    rintro _ _ ⟨rfl, rfl⟩
    exact ⟨rfl, rfl⟩
  | some x =>
    obtain ⟨v, hl, hb, hr⟩ := crew_facts H hm
    obtain ⟨i, b, o, cp, rfl, hi, hx, rfl, hc⟩ := crew_at hr hg
    refine call (crew_of_some hb hi) ?_
    rintro _ _ ⟨rfl, rfl⟩
    refine rd1 (hc 2 _ rfl) ?_
    exact ⟨rfl, rfl⟩

theorem crew_At {h : Heap} {c : Nat} {l : List One} {L : List HP} {g : Int} (H : Sat h L) (hm : crewAt c l ∈ L) : HT P 67 [ptr c, int g] h fun v h' =>
    v = .tuple #[int (match at? l g with | some x => x.program | none => 0), int (match at? l g with | some x => x.place | none => 0), .bool (at? l g).isSome] ∧ h' = h := by
  refine u67 ?_
  cases hg : at? l g with
  | none =>
    refine call (crew_of_none H hm hg) ?_
    rintro _ _ ⟨rfl, rfl⟩
    exact ⟨rfl, rfl⟩
  | some x =>
    obtain ⟨v, hl, hb, hr⟩ := crew_facts H hm
    obtain ⟨i, b, o, cp, rfl, hi, hx, rfl, hc⟩ := crew_at hr hg
    refine call (crew_of_some hb hi) ?_
    rintro _ _ ⟨rfl, rfl⟩
    refine rd1 (hc 0 _ rfl) ?_
    refine rd1 (hc 1 _ rfl) ?_
    exact ⟨rfl, rfl⟩

/-- 'turn', as a function. -/
def turn (l : List One) (g src dst by' : Int) : List One × Int :=
  match at? l g with
  | none => (l, 6)
  | some x => if x.state = src then (l.set g.toNat { x with state := dst, place := IntKind.i64.wrap (x.place + by') }, 0) else (l, 7)

theorem crew_turn {h : Heap} {c : Nat} {l : List One} {L : List HP} {g src dst by' : Int} (H : Sat h (crewAt c l :: L)) : HT P 83 [ptr c, int g, int src, int dst, int by'] h fun v h' =>
    v = int (turn l g src dst by').2 ∧ Sat h' (crewAt c (turn l g src dst by').1 :: L) := by
  refine u83 ?_
  cases hg : at? l g with
  | none =>
    refine call (crew_of_none H m0 hg) ?_
    rintro _ _ ⟨rfl, rfl⟩
    simp only [turn, hg]
    exact ⟨by trivial, H⟩
  | some x =>
    obtain ⟨v, hl, H1⟩ := crew_open H
    have hr := own_reads H1 m1
    obtain ⟨i, b, o, cp, rfl, hi, hx, rfl, hc⟩ := crew_at hr hg
    refine call (crew_of_some (H1.at_ m0) hi) ?_
    rintro _ _ ⟨rfl, rfl⟩
    refine rd1 (hc 2 _ rfl) ?_
    simp only [turn, hg]
    refine cmp (fun hs => ?_) (fun hs => ?_)
    · rw [if_neg (fun e => hs (by rw [e]))]
      exact ⟨rfl, H⟩
    have hs' : x.state = src := by simpa using hs
    rw [if_pos hs']
    have H2 : Sat _ (own 95 (.slice (some ⟨b, o, none⟩) l.length cp) l :: _ :: L) := H1.re 2 [1, 0] rfl rfl
    refine ws (x' := { x with state := dst }) (off := 2) H2 hx rfl rfl (by decide) rfl (fun h3 H3 => ?_)
    have hx3 : (l.set i { x with state := dst })[i]? = some { x with state := dst } := by simp [hi]
    obtain ⟨_, _, e3, _, hc3⟩ := (own_reads H3 m0).get (n := l.length) hx3
    injection e3 with e3
    injection e3 with e4 e5
    subst e4; subst e5
    refine rd1 (hc3 1 _ rfl) ?_
    refine ari rfl ?_
    refine ws (x' := { x with state := dst, place := IntKind.i64.wrap (x.place + by') }) (off := 1) H3 hx3 rfl rfl (by decide) rfl (fun h4 H4 => ?_)
    rw [List.set_set] at H4
    exact ⟨rfl, crew_shut (v := .slice (some ⟨b, o, none⟩) l.length cp) (by simpa using hl) (H4.re 2 [1, 0] rfl rfl)⟩

theorem crew_Go {h : Heap} {c : Nat} {l : List One} {L : List HP} {g : Int} (H : Sat h (crewAt c l :: L)) : HT P 58 [ptr c, int g] h fun v h' => v = int (turn l g 0 0 1).2 ∧ Sat h' (crewAt c (turn l g 0 0 1).1 :: L) := by
  refine u58 ?_
  refine call (crew_turn H) ?_
  rintro _ h' ⟨rfl, H'⟩
  exact ⟨rfl, H'⟩
theorem crew_Park {h : Heap} {c : Nat} {l : List One} {L : List HP} {g : Int} (H : Sat h (crewAt c l :: L)) : HT P 75 [ptr c, int g] h fun v h' => v = int (turn l g 0 1 0).2 ∧ Sat h' (crewAt c (turn l g 0 1 0).1 :: L) := by
  refine u75 ?_
  refine call (crew_turn H) ?_
  rintro _ h' ⟨rfl, H'⟩
  exact ⟨rfl, H'⟩
theorem crew_Wake {h : Heap} {c : Nat} {l : List One} {L : List HP} {g : Int} (H : Sat h (crewAt c l :: L)) : HT P 92 [ptr c, int g] h fun v h' => v = int (turn l g 1 0 1).2 ∧ Sat h' (crewAt c (turn l g 1 0 1).1 :: L) := by
  refine u92 ?_
  refine call (crew_turn H) ?_
  rintro _ h' ⟨rfl, H'⟩
  exact ⟨rfl, H'⟩
theorem crew_Exit {h : Heap} {c : Nat} {l : List One} {L : List HP} {g : Int} (H : Sat h (crewAt c l :: L)) : HT P 57 [ptr c, int g] h fun v h' => v = int (turn l g 0 2 0).2 ∧ Sat h' (crewAt c (turn l g 0 2 0).1 :: L) := by
  refine u57 ?_
  refine call (crew_turn H) ?_
  rintro _ h' ⟨rfl, H'⟩
  exact ⟨rfl, H'⟩

/-- 'Spawn', as a function: the crew, the id, the error. -/
def spawnOf (l : List One) (program : Int) : List One × Int × Int :=
  if program < 0 then (l, 0, 1) else if l.length = 512 then (l, 0, 5) else (l ++ [⟨program, 0, 0⟩], l.length, 0)

theorem crew_Spawn {h : Heap} {c : Nat} {l : List One} {L : List HP} {p : Int} (H : Sat h (crewAt c l :: L)) : HT P 23 [ptr c, int p] h fun v h' => v = .tuple #[int (spawnOf l p).2.1, int (spawnOf l p).2.2] ∧ Sat h' (crewAt c (spawnOf l p).1 :: L) := by
  refine u23 ?_
  unfold spawnOf
  refine cmp (fun hp => ?_) (fun hp => ?_)
  · rw [if_pos hp]; exact ⟨rfl, H⟩
  rw [if_neg hp]
  obtain ⟨v, hl, H1⟩ := crew_open H
  obtain ⟨a, cp, rfl⟩ := (own_reads H1 m1).len
  refine l0 H1 rfl ?_
  refine cmp (fun he => ?_) (fun he => ?_)
  · have : l.length = 512 := by omega
    rw [if_pos this]; exact ⟨rfl, H⟩
  have hne : ¬ l.length = 512 := by omega
  rw [if_neg hne]
  refine l0 H1 rfl ?_
  refine fil rfl ?_
  refine fil rfl ?_
  have H2 : Sat _ (own 95 (.slice a l.length cp) l :: _ :: L) := H1.re 2 [1, 0] rfl rfl
  refine app1 (⟨p, 0, 0⟩ : One) H2 rfl rfl rfl (by omega) (fun v' h3 H3 => ?_)
  obtain ⟨a', cp', rfl⟩ := (own_reads H3 m0).len
  refine s1 H3 (.slice a' (l ++ [(⟨p, 0, 0⟩ : One)]).length cp') rfl rfl rfl (fun h4 H4 => ?_)
  refine l1 H4 rfl ?_
  refine ari (r := (l.length : Int)) (by rw [wrap_i64 (by simp; try omega) (by simp; try omega)]; simp) ?_
  refine ⟨rfl, crew_shut (by simp; omega) (H4.re 2 [1, 0] rfl rfl)⟩

/-- Those of a state among the first k. -/
def inTo (l : List One) (st : Int) (k : Nat) : List Int := (List.range k).filterMap fun i => match l[i]? with | some x => if x.state = st then some (i : Int) else none | none => none
abbrev inOf (l : List One) (st : Int) : List Int := inTo l st l.length

theorem inTo_succ {l : List One} {st : Int} {k : Nat} {x : One} (hx : l[k]? = some x) : inTo l st (k + 1) = if x.state = st then inTo l st k ++ [(k : Int)] else inTo l st k := by
  unfold inTo
  rw [List.range_succ, List.filterMap_append]
  by_cases h : x.state = st <;> simp [hx, h]

theorem inTo_le (l : List One) (st : Int) (k : Nat) : (inTo l st k).length ≤ k := by
  unfold inTo
  exact Nat.le_trans (List.length_filterMap_le _ _) (by simp)

theorem crew_in {h : Heap} {c : Nat} {l : List One} {L : List HP} {st : Int} (H : Sat h L) (hm : crewAt c l ∈ L) : HT P 46 [ptr c, int st] h fun v h' => reads h' v (inOf l st) ∧ Ext h h' := by
  obtain ⟨v, hl, hb, hr⟩ := crew_facts H hm
  obtain ⟨a, cp, rfl⟩ := hr.len
  refine u46 ?_
  refine call (crew_Len_raw hb) ?_
  rintro _ _ ⟨rfl, rfl⟩
  refine lp2 (Nat × Value) (fun g => g.2) (fun g => int g.1) (fun g h' => g.1 ≤ l.length ∧ Sat h' [own 3 g.2 (inTo l st g.1), old _]) (fun g => l.length - g.1) (0, .slice none 0 0) rfl rfl ⟨by omega, own_new (Sat.old _) _⟩ ?_
  rintro ⟨k, v⟩ h1 ⟨hk, H1⟩ _
  simp only at hk H1
  have x1 := Sat.old_ext H1 m1
  refine cmp (fun hlt => ?_) (fun hge => ?_)
  · have hlt' : k < l.length := by omega
    have hx := List.getElem?_eq_getElem hlt'
    obtain ⟨b, o, rfl, _, hc⟩ := (hr.ext x1).get hx
    repeat (first | refine jnI ?_ | refine gdI ?_ | refine gqI ?_ | refine fun (_ : Env) => ?_)
    refine ld (x1.get hb) rfl ?_
    refine idx k rfl hlt' ?_
    refine rd1 (hc 2 _ rfl) ?_
    refine cmp (fun hs => ?_) (fun hs => ?_)
    · have hs' : l[k].state = st := by simpa using hs
      refine fil rfl ?_
      have := inTo_le l st k
      refine app1 (k : Int) H1 rfl rfl rfl (by omega) (fun v' h2 H2 => ?_)
      repeat (first | refine jnI ?_ | refine gdI ?_ | refine gqI ?_ | refine fun (_ : Env) => ?_)
      refine ari64 (by omega) ?_
      refine ⟨(k + 1, v'), by simp; omega, rfl, rfl, hlt', ?_⟩
      rw [inTo_succ hx, if_pos hs']
      exact H2
    · have hs' : ¬ l[k].state = st := by simpa using hs
      repeat (first | refine jnI ?_ | refine gdI ?_ | refine gqI ?_ | refine fun (_ : Env) => ?_)
      refine ari64 (by omega) ?_
      refine ⟨(k + 1, v), by simp; omega, rfl, rfl, hlt', ?_⟩
      rw [inTo_succ hx, if_neg hs']
      exact H1
  · have : k = l.length := by omega
    subst this
    exact ⟨own_reads H1 m0, x1⟩

theorem crew_Able {h : Heap} {c : Nat} {l : List One} {L : List HP} (H : Sat h L) (hm : crewAt c l ∈ L) : HT P 45 [ptr c] h fun v h' => reads h' v (inOf l 0) ∧ Ext h h' := by
  refine u45 ?_
  refine call (crew_in H hm) ?_
  rintro v h' ⟨h1, h2⟩
  exact ⟨h1, h2⟩

/-- 'Over', as a function. -/
def overOf (l : List One) : Int := if inOf l 0 ≠ [] then 0 else if inOf l 1 ≠ [] then 2 else 1

theorem crew_Over {h : Heap} {c : Nat} {l : List One} {L : List HP} (H : Sat h L) (hm : crewAt c l ∈ L) : HT P 24 [ptr c] h fun v h' => v = int (overOf l) ∧ Ext h h' := by
  refine u24 ?_
  refine call (crew_Able H hm) ?_
  rintro v h1 ⟨hv, x1⟩
  obtain ⟨a, cp, rfl⟩ := hv.len
  unfold overOf
  refine cmp (fun hp => ?_) (fun hp => ?_)
  · rw [if_pos (by intro e; rw [e] at hp; simp at hp)]
    exact ⟨rfl, x1⟩
  rw [if_neg (by simp; exact List.eq_nil_of_length_eq_zero (by omega))]
  refine call (crew_in (H.ext x1) hm) ?_
  rintro v h2 ⟨hv, x2⟩
  obtain ⟨a, cp, rfl⟩ := hv.len
  refine cmp (fun hp => ?_) (fun hp => ?_)
  · rw [if_pos (by intro e; rw [e] at hp; simp at hp)]
    exact ⟨rfl, x1.trans x2⟩
  rw [if_neg (by simp; exact List.eq_nil_of_length_eq_zero (by omega))]
  exact ⟨rfl, x1.trans x2⟩

end Go.Sl
end
