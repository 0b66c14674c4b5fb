/- Parts of the proof, laid together: G44 G45 G46 G47 G48. No statement of the seat is proved here. -/
import Derived.Test.YtmimnelcopgcpaaGreatGD
import Derived.Laws.StructEq
import Derived.ChangeKeysEq
set_option linter.unusedVariables false
set_option linter.unusedSimpArgs false
section
namespace Go.Sl
open Go
attribute [local irreducible] HT

/-- A script without its plan's Compact entries. -/
def bare (x : Script) : Script := { x with plan := x.plan.filter notC }

theorem sheet_Bare {h : Heap} {sv : ScriptV} {x : Script} (hs : readsScript (ph h) sv x) (hn : x.programs.length ≤ 1000) (hn2 : ∀ p ∈ x.programs, p.length ≤ 1000) (hcs : ∀ p ∈ x.programs, ∀ o ∈ p, o.cases.length ≤ 1000000) (hp : x.plan.length ≤ 1000000) (hd : x.draws.length ≤ 1000000) :
    HT P 8 [agg sv] h fun r h' => ∃ sv' : ScriptV, r = agg sv' ∧ readsScript (ph h') sv' (bare x) ∧ Ext h h' := by
  have et := hs.t
  have em := hs.m
  obtain ⟨t, m, progs, plan, draws⟩ := sv
  simp only at et em
  refine u8 ?_
  refine box [int t, int m, progs.v, plan.v, draws.v] (Sat.old h) rfl (fun b1 h1 x1 _ H => ?_)
  refine nw H (fun b2 h2 x2 _ H => ?_)
  refine lA1 H rfl ?_
  refine call (sheet_Copy (sv := ⟨t, m, progs, plan, draws⟩) (hs.ext (x1.trans x2)) hn hn2 hcs hp hd) ?_
  rintro _ h3 ⟨pl, dr, sv', e1, e2, e3, e4, rfl, H3⟩
  have H := H.liftN (M := [_, _, _]) H3
  obtain ⟨t', m', progs', plan', draws'⟩ := sv'
  simp only at e1 e2 e3 e4
  subst e1; subst e2; subst e3; subst e4
  refine sA (H.front 4 rfl) [int t', int m', progs'.v, plan'.v, draws'.v] rfl rfl rfl rfl (fun h4 _ H => ?_)
  refine l0 H rfl ?_
  refine call (deleteFunc (H.front 1 rfl) (by omega)) ?_
  rintro r h5 H
  obtain ⟨ra, rc, rfl⟩ := (own_reads H m0).len
  refine s1 H (.slice ra (x.plan.filter notC).length rc) rfl rfl rfl (fun h6 H => ?_)
  refine lA1 H rfl ?_
  refine sA (H.front 4 rfl) [int t', int m', progs'.v, .slice ra (x.plan.filter notC).length rc, draws'.v] rfl rfl rfl rfl (fun h7 _ H => ?_)
  refine lA H rfl ?_
  refine ⟨⟨t', m', progs', ⟨ra, _, rc⟩, draws'⟩, rfl, ⟨et, em, ?_, own_reads H m1, own_reads H m3⟩, H.old_ext (List.mem_of_getElem? (i := 5) rfl)⟩
  obtain ⟨s, hs, hp⟩ := H.mem (List.mem_of_getElem? (i := 4) rfl)
  exact readsProgs.up hp hs

end Go.Sl
end

section
namespace Go.Sl
open Go
attribute [local irreducible] HT

theorem plain_int : Program.plainKey P 3 = true := by kernel_rfl
theorem plain_bool : Program.plainKey P 4 = true := by kernel_rfl

theorem eqf_int {d : Nat} {xs ys : Array Value} {fs : List Field} {f : Field} {a b : Int} {Q : Prop} {w : World} (h1 : f.name ≠ "_") (h2 : f.type = 3) (hx : xs[f.offset]? = some (int a)) (hy : ys[f.offset]? = some (int b))
    (k : ∃ r : Bool, (r = true ↔ Q) ∧ (Op.eqFields (d + 1) xs ys fs).run P w = .ok r w) : ∃ r : Bool, (r = true ↔ a = b ∧ Q) ∧ (Op.eqFields (d + 1) xs ys (f :: fs)).run P w = .ok r w := by
  obtain ⟨r, hq, hr⟩ := k
  have e1 : (part f.type xs f.offset).run P w = .ok (int a) w := by rw [h2]; exact run_part_plain w plain_int hx
  have e2 : (part f.type ys f.offset).run P w = .ok (int b) w := by rw [h2]; exact run_part_plain w plain_int hy
  have e3 : (Op.equalIn (d + 1) f.type (int a) (int b)).run P w = .ok (a == b) w := by rw [h2]; exact run_equalIn_int w d _ _ _ _ _ Proofs.Tryz.underlying3
  by_cases hab : a = b
  · refine ⟨r, by rw [hq]; simp [hab], ?_⟩
    subst hab
    simp [Op.eqFields, h1, e1, e2, e3, hr]
  · refine ⟨false, by simp [hab], ?_⟩
    simp [Op.eqFields, h1, e1, e2, e3, hab]

theorem eqf_bool {d : Nat} {xs ys : Array Value} {fs : List Field} {f : Field} {a b : Bool} {Q : Prop} {w : World} (h1 : f.name ≠ "_") (h2 : f.type = 4) (hx : xs[f.offset]? = some (.bool a)) (hy : ys[f.offset]? = some (.bool b))
    (k : ∃ r : Bool, (r = true ↔ Q) ∧ (Op.eqFields (d + 1) xs ys fs).run P w = .ok r w) : ∃ r : Bool, (r = true ↔ a = b ∧ Q) ∧ (Op.eqFields (d + 1) xs ys (f :: fs)).run P w = .ok r w := by
  obtain ⟨r, hq, hr⟩ := k
  have e1 : (part f.type xs f.offset).run P w = .ok (.bool a) w := by rw [h2]; exact run_part_plain w plain_bool hx
  have e2 : (part f.type ys f.offset).run P w = .ok (.bool b) w := by rw [h2]; exact run_part_plain w plain_bool hy
  have e3 : (Op.equalIn (d + 1) f.type (.bool a) (.bool b)).run P w = .ok (a == b) w := by rw [h2]; exact run_equalIn_bool' w d _ _ _ Proofs.Tryz.underlying4
  by_cases hab : a = b
  · refine ⟨r, by rw [hq]; simp [hab], ?_⟩
    subst hab
    simp [Op.eqFields, h1, e1, e2, e3, hr]
  · refine ⟨false, by simp [hab], ?_⟩
    simp [Op.eqFields, h1, e1, e2, e3, hab]

theorem ev_run (e f : Ev) (w : World) : ∃ b : Bool, (b = true ↔ e = f) ∧ (Op.equal 34 (agg e) (agg f)).run P w = .ok b w := by
  obtain ⟨a0, a1, a2, a3, a4, a5, a6, a7⟩ := e
  obtain ⟨b0, b1, b2, b3, b4, b5, b6, b7⟩ := f
  have key : ∃ b : Bool, (b = true ↔ a0 = b0 ∧ a1 = b1 ∧ a2 = b2 ∧ a3 = b3 ∧ a4 = b4 ∧ a5 = b5 ∧ a6 = b6 ∧ a7 = b7 ∧ True) ∧ (Op.eqFields 9999 (Cel.cells (⟨a0, a1, a2, a3, a4, a5, a6, a7⟩ : Ev)).toArray (Cel.cells (⟨b0, b1, b2, b3, b4, b5, b6, b7⟩ : Ev)).toArray (Program.fieldsOf P 34).toList).run P w = .ok b w := by
    simp only [Program.fieldsOf, Proofs.Tryz.underlying34]
    refine eqf_int (by decide) rfl rfl rfl ?_
    refine eqf_int (by decide) rfl rfl rfl ?_
    refine eqf_int (by decide) rfl rfl rfl ?_
    refine eqf_int (by decide) rfl rfl rfl ?_
    refine eqf_int (by decide) rfl rfl rfl ?_
    refine eqf_int (by decide) rfl rfl rfl ?_
    refine eqf_bool (by decide) rfl rfl rfl ?_
    refine eqf_bool (by decide) rfl rfl rfl ?_
    exact ⟨true, by simp, by simp [Op.eqFields]⟩
  obtain ⟨b, hb, hr⟩ := key
  refine ⟨b, by rw [hb]; simp, equalIn_run ?_⟩
  rw [run_equalIn_struct w 9999 34 _ _ (by kernel_rfl) (by kernel_rfl)]
  exact hr

theorem guard_ev : Program.eqGuardType P P.depth 34 = false := by kernel_rfl

theorem seq_same {e : Ev} {K : Value → Prop} (k : K (.bool false)) : SEQ P true 34 (agg e) (agg e) K :=
  ⟨Cel.cells e, Cel.cells e, rfl, rfl, rfl, ⟨true, by simp, fun w => by obtain ⟨b, hb, hr⟩ := ev_run e e w; rw [hr, hb.2 rfl]⟩, fun w op ox oy => run_eqGuard_agg w op _ ox oy _ _ guard_ev, fun _ => k, fun h => absurd rfl h⟩

theorem plain_Events {h : Heap} {v1 v2 : Value} {l : List Ev} (r1 : reads h v1 l) (r2 : reads h v2 l) (hn : l.length ≤ 1000000000) : HT P 9 [v1, v2] h fun r h' => r = .bool true ∧ Ext h h' := by
  obtain ⟨a1, c1, rfl⟩ := r1.len
  obtain ⟨a2, c2, rfl⟩ := r2.len
  refine u9 ?_
  refine lp1 Nat (fun k => int k) (fun k h' => h = h' ∧ k ≤ l.length) (fun k => l.length - k) 0 rfl ⟨rfl, by omega⟩ ?_
  rintro k _ ⟨rfl, hk⟩ _
  refine cmp (fun hlt => ?_) (fun hge => ?_)
  · have hlt' : k < l.length := by omega
    have hx := List.getElem?_eq_getElem hlt'
    obtain ⟨b, o, e, _, hr⟩ := r1.get hx
    obtain ⟨b', o', e', _, hr'⟩ := r2.get hx
    generalize l[k] = ev at hr hr'
    subst e; subst e'
    refine jn1 (fun t h' => t = .bool false ∧ h = h') ?_ ?_
    · intro K hK
      refine cmpF (by omega) ?_
      repeat (first | refine jnI ?_ | refine gdI ?_ | refine gqI ?_ | refine fun (_ : Env) => ?_)
      refine idx k rfl hlt' ?_
      repeat (first | refine jnI ?_ | refine gdI ?_ | refine gqI ?_ | refine fun (_ : Env) => ?_)
      refine rdn (vs := Cel.cells ev) rfl hr ?_
      repeat (first | refine jnI ?_ | refine gdI ?_ | refine gqI ?_ | refine fun (_ : Env) => ?_)
      refine idx k rfl hlt' ?_
      repeat (first | refine jnI ?_ | refine gdI ?_ | refine gqI ?_ | refine fun (_ : Env) => ?_)
      refine rdn (vs := Cel.cells ev) rfl hr' ?_
      repeat (first | refine jnI ?_ | refine gdI ?_ | refine gqI ?_ | refine fun (_ : Env) => ?_)
      refine seq_same ?_
      exact hK _ _ ⟨rfl, rfl⟩
    rintro _ _ ⟨rfl, rfl⟩ _
    refine ari64 (by omega) ?_
    exact ⟨k + 1, by omega, by simp, rfl, hlt'⟩
  · refine cmpT rfl ?_
    exact ⟨rfl, Ext.refl _⟩

end Go.Sl
end

section
namespace Go.Sl
open Go

def notCp (e : Ev) : Bool := decide (e.kind ≠ 13)
def Lm.strip (s : Lm) : Lm := { s with plan := s.plan.filter notC, trace := s.trace.filter notCp }

theorem strip_note {s : Lm} {e : Ev} (h : e.kind ≠ 13) : s.strip.note e = (s.note e).strip := by
  obtain ⟨crew, nm, chans, plan, draws, trace, pan⟩ := s
  simp [Lm.strip, Lm.note, List.filter_append, notCp, h]
theorem strip_chans (s : Lm) (c : List PipeS) : ({ s.strip with chans := c } : Lm) = ({ s with chans := c } : Lm).strip := rfl
theorem strip_draws (s : Lm) (c : List Int) : ({ s.strip with draws := c } : Lm) = ({ s with draws := c } : Lm).strip := rfl
theorem strip_turn (s : Lm) (g a b c : Int) : s.strip.turn g a b c = (s.turn g a b c).strip := rfl
theorem strip_num (s : Lm) (c : Int) : s.strip.num c = s.num c := rfl
theorem strip_wake (s : Lm) (e : Ev) : s.strip.wake e = (s.wake e).strip := by
  unfold Lm.wake
  rw [strip_note (by show (7 : Int) ≠ 13; decide)]
  rfl
theorem strip_wake1 (g num : Int) (s : Lm) (w : Wt) : wake1 g num s.strip w = (wake1 g num s w).strip := by
  unfold wake1
  show (if stateOf s.crew w.g = 1 then _ else _) = _
  split
  · exact strip_wake _ _
  · rfl
theorem strip_wakes (g num : Int) : ∀ (l : List Wt) (s : Lm), l.foldl (wake1 g num) s.strip = (l.foldl (wake1 g num) s).strip
  | [], s => rfl
  | w :: r, s => by rw [List.foldl_cons, List.foldl_cons, strip_wake1, strip_wakes g num r]

/-- A pair's state, bare. -/
def strip2 (p : Lm × Bool) : Lm × Bool := (p.1.strip, p.2)

theorem commEv_kind {g n : Int} {c : Cs} {p : Int} {r} : (commEv g n c p r).kind ≠ 13 := by
  unfold commEv
  cases c.send <;> simp

theorem strip_communicate (s : Lm) (g : Int) (c : Cs) (p : Int) : s.strip.communicate g c p = strip2 (s.communicate g c p) := by
  unfold Lm.communicate
  show (if (tryOf s.nm s.chans c).2.2 ≠ 0 then _ else _) = _
  split
  · show ((({ s with chans := (tryOf s.nm s.chans c).1 } : Lm).strip).note (bareE 12 g), false) = _
    rw [strip_note (by show (12 : Int) ≠ 13; decide)]; rfl
  · show ((if (tryOf s.nm s.chans c).2.1.woke then (((({ s with chans := (tryOf s.nm s.chans c).1 } : Lm).strip).note (commEv g (s.num c.chan) c p (tryOf s.nm s.chans c).2.1)).turn g 0 0 1).wake (commWake g (s.num c.chan) c (tryOf s.nm s.chans c).2.1) else ((({ s with chans := (tryOf s.nm s.chans c).1 } : Lm).strip).note (commEv g (s.num c.chan) c p (tryOf s.nm s.chans c).2.1)).turn g 0 0 1), true) = _
    rw [strip_note commEv_kind, strip_turn, strip_wake]
    split <;> rfl

theorem strip_shut (s : Lm) (g n : Int) : s.strip.shut g n = strip2 (s.shut g n) := by
  have e12 : s.strip.note (bareE 12 g) = (s.note (bareE 12 g)).strip := strip_note (by show (12 : Int) ≠ 13; decide)
  unfold Lm.shut
  show (match nameP s.nm n with | none => (s.strip.note (bareE 12 g), false) | some k => _) = _
  cases nameP s.nm n with
  | none => simp only; rw [e12]; rfl
  | some k =>
    simp only
    show (match s.chans[k]? with | none => (s.strip.note (bareE 12 g), false) | some p => _) = _
    cases s.chans[k]? with
    | none => simp only; rw [e12]; rfl
    | some p =>
      simp only
      cases p.closed with
      | true => simp only [if_true]; rw [e12]; rfl
      | false =>
        simp only [Bool.false_eq_true, if_false]
        have e5 : (({ s.strip with chans := s.chans.set k p.close.1 } : Lm).note { bareE 5 g with chan := s.num n }).turn g 0 0 1 = ((({ s with chans := s.chans.set k p.close.1 } : Lm).note { bareE 5 g with chan := s.num n }).turn g 0 0 1).strip := by
          rw [strip_chans, strip_note (by show (5 : Int) ≠ 13; decide), strip_turn]
        have ew : p.rcv.foldl (wake1 g (s.num n)) ((({ s.strip with chans := s.chans.set k p.close.1 } : Lm).note { bareE 5 g with chan := s.num n }).turn g 0 0 1) = (p.rcv.foldl (wake1 g (s.num n)) ((({ s with chans := s.chans.set k p.close.1 } : Lm).note { bareE 5 g with chan := s.num n }).turn g 0 0 1)).strip := by rw [e5, strip_wakes]
        show (match p.snd.find? fun w => decide (stateOf (p.rcv.foldl (wake1 g (s.num n)) ((({ s.strip with chans := s.chans.set k p.close.1 } : Lm).note { bareE 5 g with chan := s.num n }).turn g 0 0 1)).crew w.g = 1) with
          | some w => ((p.rcv.foldl (wake1 g (s.num n)) ((({ s.strip with chans := s.chans.set k p.close.1 } : Lm).note { bareE 5 g with chan := s.num n }).turn g 0 0 1)).note (bareE 12 w.g), false)
          | none => (p.rcv.foldl (wake1 g (s.num n)) ((({ s.strip with chans := s.chans.set k p.close.1 } : Lm).note { bareE 5 g with chan := s.num n }).turn g 0 0 1), true)) = _
        rw [ew]
        generalize p.rcv.foldl (wake1 g (s.num n)) ((({ s with chans := s.chans.set k p.close.1 } : Lm).note { bareE 5 g with chan := s.num n }).turn g 0 0 1) = u
        show (match p.snd.find? fun w => decide (stateOf u.crew w.g = 1) with | some w => (u.strip.note (bareE 12 w.g), false) | none => (u.strip, true)) = _
        cases p.snd.find? fun w => decide (stateOf u.crew w.g = 1) with
        | none => rfl
        | some w => simp only; rw [strip_note (by show (12 : Int) ≠ 13; decide)]; rfl

theorem strip_choose (s : Lm) (g : Int) (o : Op) : s.strip.choose g o = strip2 (s.choose g o) := by
  unfold Lm.choose
  show (if 0 < (readyOf s.nm s.chans o.cases).length then _ else _) = _
  split
  · exact strip_communicate ({ s with draws := drawLeft s.draws (readyOf s.nm s.chans o.cases).length } : Lm) g _ _
  · split
    · rw [strip_note (by show (8 : Int) ≠ 13; decide)]; rfl
    · have := strip_note (s := s) (e := ⟨6, g, -1, o.cases.length, 0, -1, false, false⟩) (by show (6 : Int) ≠ 13; decide)
      rw [this]; rfl

theorem strip_park (s : Lm) (g : Int) (c : Cs) : s.strip.park g c = (s.park g c).strip := by
  unfold Lm.park
  have := strip_note (s := s) (e := ⟨6, g, s.num c.chan, -1, c.value, -1, c.send, false⟩) (by show (6 : Int) ≠ 13; decide)
  rw [strip_num, this]
  rfl

theorem strip_does (s : Lm) (g : Int) (o : Op) : s.strip.does g o = strip2 (s.does g o) := by
  unfold Lm.does
  split
  · show (if ready1 s.nm s.chans ⟨decide (o.kind = 3), o.a, o.b⟩ then _ else _) = _
    split
    · exact strip_communicate _ _ _ _
    · rw [strip_park]; rfl
  · split
    · exact strip_shut _ _ _
    · split
      · exact strip_choose _ _ _
      · have hk : (s.doesPre g o).2.kind ≠ 13 := by
          unfold Lm.doesPre
          (repeat' split) <;> simp
        have e1 : (s.strip.doesPre g o) = ((s.doesPre g o).1.strip, (s.doesPre g o).2) := by
          unfold Lm.doesPre
          (repeat' split) <;> rfl
        rw [e1]
        simp only
        rw [strip_note hk]; rfl

end Go.Sl
end

section
namespace Go.Sl
open Go

theorem iter_bare {x : Script} : ∀ (k : Nat) (s : Lm), iter (bare x) k s = iter x k s
  | 0, _ => rfl
  | k + 1, s => by
    show (iter (bare x) k s).step (bare x) = (iter x k s).step x
    rw [iter_bare k s]; rfl
theorem iter_succ' {x : Script} : ∀ (k : Nat) (s : Lm), iter x (k + 1) s = iter x k (s.step x)
  | 0, _ => rfl
  | k + 1, s => by
    show (iter x (k + 1) s).step x = (iter x k (s.step x)).step x
    rw [iter_succ' k s]

theorem strip_stop {s : Lm} (h : s.verdict ≠ 0) : s.strip.verdict = s.verdict := by
  unfold Lm.verdict at h ⊢
  show (if s.pan then (3 : Int) else if overOf s.crew ≠ 0 then overOf s.crew else if (s.plan.filter notC).length = 0 then 4 else 0) = _
  cases hp : s.pan with
  | true => simp
  | false =>
    simp only [hp, Bool.false_eq_true, if_false] at h ⊢
    by_cases ho : overOf s.crew = 0
    · simp only [ho] at h ⊢
      by_cases hl : s.plan.length = 0
      · have : s.plan = [] := List.eq_nil_of_length_eq_zero hl
        simp [this]
      · simp [hl] at h
    · simp [ho]

theorem strip_go {s : Lm} (h : s.verdict = 0) (hp : s.plan.filter notC ≠ []) : s.strip.verdict = 0 := by
  unfold Lm.verdict at h ⊢
  show (if s.pan then (3 : Int) else if overOf s.crew ≠ 0 then overOf s.crew else if (s.plan.filter notC).length = 0 then 4 else 0) = _
  cases hpp : s.pan with
  | true => rw [hpp] at h; simp at h
  | false =>
    rw [hpp] at h
    simp only [Bool.false_eq_true, if_false] at h ⊢
    by_cases ho : overOf s.crew = 0
    · simp [ho, hp]
    · rw [if_pos ho] at h; exact absurd h ho

theorem step_go {x : Script} {s : Lm} {a : Int} (hv : s.verdict = 0) (hh : s.plan.headD 0 = a) (hc : ¬ s.chosen a < 0) : s.step x = if (({ s with plan := s.plan.tail } : Lm).does (s.chosen a) (s.opAt x (s.chosen a))).2 then (({ s with plan := s.plan.tail } : Lm).does (s.chosen a) (s.opAt x (s.chosen a))).1
    else { (({ s with plan := s.plan.tail } : Lm).does (s.chosen a) (s.opAt x (s.chosen a))).1 with pan := true } := by
  unfold Lm.step
  rw [if_neg (by omega : ¬ s.verdict ≠ 0), hh, if_neg hc]

theorem strip_iter {x : Script} : ∀ (n : Nat) (s : Lm), s.plan.length = n → (∀ m ∈ s.plan, -1 ≤ m) → iter x (s.plan.filter notC).length s.strip = (iter x n s).strip := by
  intro n
  induction n with
  | zero =>
    intro s hs _
    have : s.plan = [] := List.eq_nil_of_length_eq_zero hs
    rw [this]; rfl
  | succ n ih =>
    intro s hs hm
    by_cases hv : s.verdict = 0
    · cases hpl : s.plan with
      | nil => exact absurd hpl (verdict_plan hv)
      | cons a r =>
        have hr : r.length = n := by rw [hpl] at hs; simpa using hs
        have hsp : (s.step x).plan = r := by rw [step_plan hv, hpl]; rfl
        have hi := ih (s.step x) (by rw [hsp]; exact hr) (fun m hmm => hm m (by rw [hpl]; rw [hsp] at hmm; exact List.mem_cons_of_mem _ hmm))
        rw [hsp] at hi
        rw [iter_succ' n s]
        have hhd : s.plan.headD 0 = a := by rw [hpl]; rfl
        by_cases ha : a = -1
        · have hst : s.step x = ({ s with plan := r } : Lm).note (bareE 13 (-1)) := by
            unfold Lm.step
            rw [if_neg (by omega), hhd, if_pos (by unfold Lm.chosen; rw [if_pos ha]; decide), hpl]; rfl
          have hss : (s.step x).strip = s.strip := by
            rw [hst]
            obtain ⟨crew, nm, chans, plan, draws, trace, pan⟩ := s
            simp only at hpl
            subst hpl
            subst ha
            simp [Lm.note, Lm.strip, notCp, notC, bareE]
          rw [hss] at hi
          have : (a :: r).filter notC = r.filter notC := by subst ha; simp [notC]
          rw [this]; exact hi
        · have hf : (a :: r).filter notC = a :: r.filter notC := by simp [notC, ha]
          have hch : ¬ s.chosen a < 0 := by
            rcases chosen_at (s := s) hv (hm a (by rw [hpl]; simp)) with ⟨e, _⟩ | ⟨o, _, _, h0⟩
            · exact absurd e ha
            · omega
          have hsv : s.strip.verdict = 0 := strip_go hv (by rw [hpl, hf]; simp)
          have hsplan : s.strip.plan = a :: r.filter notC := by show s.plan.filter notC = _; rw [hpl, hf]
          have hcs : s.strip.chosen a = s.chosen a := rfl
          have hss : s.strip.step x = (s.step x).strip := by
            have e1 : ({ s.strip with plan := s.strip.plan.tail } : Lm) = ({ s with plan := r } : Lm).strip := by
              rw [hsplan]; rfl
            have e2 : ({ s with plan := s.plan.tail } : Lm) = { s with plan := r } := by rw [hpl]; rfl
            have e3 : s.strip.opAt x (s.chosen a) = s.opAt x (s.chosen a) := rfl
            have hhs : s.strip.plan.headD 0 = a := by rw [hsplan]; rfl
            rw [step_go hsv hhs (show ¬ s.chosen a < 0 from hch), step_go hv hhd hch, hcs, e1, e2, e3, strip_does]
            unfold strip2
            simp only
            split <;> rfl
          rw [hf, List.length_cons, iter_succ', hss]
          exact hi
    · have h1 : iter x (n + 1) s = s := iter_stop (k := 0) (s := s) hv (n + 1) (by omega)
      rw [h1]
      have hv' : s.strip.verdict ≠ 0 := by rw [strip_stop hv]; exact hv
      exact iter_stop (k := 0) (s := s.strip) hv' _ (by omega)

theorem bare_last {x : Script} (hm : ∀ m ∈ x.plan, -1 ≤ m) : Lm.last (bare x) = (Lm.last x).strip := by
  show iter (bare x) (x.plan.filter notC).length (Lm.start (bare x)) = (iter x x.plan.length (Lm.start x)).strip
  rw [iter_bare]
  exact strip_iter (x := x) x.plan.length (Lm.start x) rfl hm

theorem bare_verdict {x : Script} (hm : ∀ m ∈ x.plan, -1 ≤ m) : (Lm.last (bare x)).verdict = (Lm.last x).verdict := by
  rw [bare_last hm]
  exact strip_stop (iter_ends (x := x) (Lm.start x))

theorem bare_check {x : Script} (h : checkOf x = 0) : checkOf (bare x) = 0 := by
  obtain ⟨_, c2, c3, c4, c5, c6⟩ := check_ok h
  have h' := h
  unfold checkOf at h' ⊢
  show (if x.t < 1 ∨ x.t > 256 ∨ x.m < 1 ∨ x.m > 1048576 then 1 else if longOf (bare x) then 2 else if (decide (x.programs.length = 0) || (x.plan.filter notC).any (outB (-1) 1000) || x.draws.any (outB 0 1000)) then 4 else if x.programs.any (fun p => p.any (opWrong x.programs.length)) then 4 else 0 : Int) = 0
  have e1 : longOf (bare x) = false := by
    have hl := List.length_filter_le notC x.plan
    obtain ⟨l1, l2, l3, l4⟩ := longOf_false c2
    unfold longOf at c2 ⊢
    rw [Bool.or_eq_false_iff, Bool.or_eq_false_iff, Bool.or_eq_false_iff] at c2 ⊢
    exact ⟨⟨⟨c2.1.1.1, decide_eq_false (by show ¬ 200 < (x.plan.filter notC).length; omega)⟩, c2.1.2⟩, c2.2⟩
  have e2 : (x.plan.filter notC).any (outB (-1) 1000) = false := by
    rw [List.any_eq_false] at c4 ⊢
    exact fun n hn => c4 n (List.mem_filter.1 hn).1
  rw [e1, e2]
  rw [c2, c4] at h'
  exact h'

end Go.Sl
end

section
namespace Go.Sl
open Go
attribute [local irreducible] HT

theorem Small.big' {x : Script} (s : Small x) : ∀ p ∈ x.programs, ∀ o ∈ p, o.cases.length ≤ 1000000 := fun p hp o ho => Nat.le_trans ((s.ops p hp).2 o ho) (by omega)

theorem law13_LoomCompacts {h : Heap} {x : Script} {sv : ScriptV} (rs : readsScript (ph h) sv x) (sz : ScriptSz x) : HT P 3 [agg sv] h fun r h' => r = .bool true ∧ Ext h h' := by
  obtain ⟨t, m, ⟨pa, pn, pc⟩, ⟨qa, qn, qc⟩, ⟨da, dn, dc⟩⟩ := sv
  refine u3 ?_
  refine box [int t, int m, .slice pa pn pc, .slice qa qn qc, .slice da dn dc] (Sat.old h) rfl (fun b1 h1 x1 _ H => ?_)
  refine jn1 (fun tt h' => ∃ bb : Bool, tt = .bool bb ∧ Sat h' [pt b1 (cells [int t, int m, .slice pa pn pc, .slice qa qn qc, .slice da dn dc] 25), old h] ∧ (bb = false → Small x ∧ checkOf x = 0)) ?_ ?_
  · intro K hK
    refine lA H rfl ?_
    refine call (law13_large (sv := ⟨t, m, ⟨pa, pn, pc⟩, ⟨qa, qn, qc⟩, ⟨da, dn, dc⟩⟩) (rs.ext x1) sz) ?_
    rintro _ h2 ⟨b, rfl, hb, x2⟩
    have H := H.ext x2
    cases b with
    | true =>
      repeat (first | refine jnI ?_ | refine gdI ?_ | refine gqI ?_ | refine fun (_ : Env) => ?_)
      exact hK _ _ ⟨true, rfl, H, fun h => (by cases h)⟩
    | false =>
      refine gdI ?_
      refine lA H rfl ?_
      refine gdI ?_
      refine call (ref05_Check (sv := ⟨t, m, ⟨pa, pn, pc⟩, ⟨qa, qn, qc⟩, ⟨da, dn, dc⟩⟩) (rs.ext (x1.trans x2))) ?_
      rintro _ h3 ⟨e, rfl, he, x3⟩
      have H := H.ext x3
      refine gdI ?_
      refine cmp (fun c => ?_) (fun c => ?_)
      · exact hK _ _ ⟨true, rfl, H, fun h => (by cases h)⟩
      · exact hK _ _ ⟨false, rfl, H, fun _ => ⟨hb rfl, he (by omega)⟩⟩
  rintro _ h2 ⟨bb, rfl, H, hbb⟩ _
  have x2 := H.old_ext m1
  cases bb with
  | true => exact callX (law13_hands h2) (fun h3 x3 => ⟨rfl, x2.trans x3⟩)
  | false =>
  obtain ⟨sm, hc⟩ := hbb rfl
  obtain ⟨sf, hp, hd, hpl, hdl, hprl⟩ := check_fine hc
  have hm : ∀ n ∈ x.plan, -1 ≤ n := fun n hn => (hp n hn).1
  have hB := B.iter sf hm (fun d hd' => (hd d hd').1)
  have hpn : x.programs.length ≤ 1000000 := by omega
  have htr : (Lm.last x).trace.length ≤ 1000000 := Nat.le_trans (hB x.plan.length (by omega)).trace (by omega)
  refine lA H rfl ?_
  refine call (loom_Run (sv := ⟨t, m, ⟨pa, pn, pc⟩, ⟨qa, qn, qc⟩, ⟨da, dn, dc⟩⟩) (rs.ext x2) hpn sm.big' H hc) ?_
  rintro _ h3 ⟨tv, rfl, x3, H⟩
  obtain ⟨ta, tc, rfl⟩ := (own_reads H m0).len
  refine getA (v := .slice ta (Lm.last x).trace.length tc) rfl ?_
  refine getA (v := int (Lm.last x).verdict) rfl ?_
  refine lA1 H rfl ?_
  refine call (sheet_Bare (sv := ⟨t, m, ⟨pa, pn, pc⟩, ⟨qa, qn, qc⟩, ⟨da, dn, dc⟩⟩) (rs.ext (x2.trans x3)) (by omega) (fun p hp => Nat.le_trans (sm.ops p hp).1 (by omega)) sm.big' (by omega) (by omega)) ?_
  rintro _ h4 ⟨sv', rfl, rs', x4⟩
  have H := H.ext x4
  refine call (loom_Run rs' hpn sm.big' H (bare_check hc)) ?_
  rintro _ h5 ⟨wv, rfl, x5, H⟩
  have etr : (Lm.last (bare x)).trace = (Lm.last x).trace.filter notCp := by rw [bare_last hm]; rfl
  rw [etr] at H
  rw [bare_verdict hm]
  obtain ⟨wa, wc, rfl⟩ := (own_reads H m0).len
  refine getA (v := .slice wa ((Lm.last x).trace.filter notCp).length wc) rfl ?_
  refine getA (v := int (Lm.last x).verdict) rfl ?_
  have H := own_new (α := Ev) H 34
  generalize (Lm.last x).trace = l at H htr
  refine lp2 (Value × Nat) (fun g => g.1) (fun g => int g.2) (fun g h' => g.2 ≤ l.length ∧ Sat h' [own 34 g.1 ((l.take g.2).filter notCp), own 34 (.slice wa (l.filter notCp).length wc) (l.filter notCp), own 34 (.slice ta l.length tc) l, pt b1 (cells [int t, int m, .slice pa pn pc, .slice qa qn qc, .slice da dn dc] 25), old h]) (fun g => l.length - g.2) (.slice none 0 0, 0) rfl rfl ⟨by simp, H⟩ ?_
  rintro ⟨acc, k⟩ h6 ⟨hk, H⟩ _
  simp only at hk H
  refine cmp (fun hlt => ?_) (fun hge => ?_)
  · have hlt : (k : Int) < (l.length : Int) := hlt
    have hlt' : k < l.length := by omega
    have hx := List.getElem?_eq_getElem hlt'
    obtain ⟨b, o, e, _, hr⟩ := (own_reads H m2).get hx
    generalize l[k] = ev at hr hx
    have htk : l.take (k + 1) = l.take k ++ [ev] := by rw [List.take_add_one, hx]; rfl
    refine jn1 (fun tt h' => Sat h' [own 34 tt ((l.take (k + 1)).filter notCp), own 34 (.slice wa (l.filter notCp).length wc) (l.filter notCp), own 34 (.slice ta l.length tc) l, pt b1 (cells [int t, int m, .slice pa pn pc, .slice qa qn qc, .slice da dn dc] 25), old h]) ?_ ?_
    · intro K hK
      subst e
      refine idx k rfl hlt' ?_
      refine rdn (vs := Cel.cells ev) rfl hr ?_
      refine nw H (fun b2 h7 x7 _ H => ?_)
      refine sA H (Cel.cells ev) rfl rfl rfl rfl (fun h8 _ H => ?_)
      refine l0 H rfl ?_
      refine cmp (fun c => ?_) (fun c => ?_)
      · refine lA H rfl ?_
        refine fil rfl ?_
        have hl1 : ((l.take k).filter notCp).length ≤ l.length := Nat.le_trans (List.length_filter_le _ _) (by simp; omega)
        refine app1 ev (H.front 1 rfl) rfl rfl rfl (by omega) (fun va h9 H => ?_)
        refine hK _ _ ?_
        have ef : (l.take (k + 1)).filter notCp = (l.take k).filter notCp ++ [ev] := by rw [htk, List.filter_append]; simp [notCp, c]
        rw [ef]
        exact H.re 2 [0] rfl rfl
      · refine hK _ _ ?_
        have ef : (l.take (k + 1)).filter notCp = (l.take k).filter notCp := by
          have hc' : ev.kind = 13 := by omega
          rw [htk, List.filter_append]; simp [notCp, hc']
        rw [ef]
        exact H.drop
    rintro acc' h9 H _
    refine ari64 (by omega) ?_
    exact ⟨(acc', k + 1), by simp; omega, rfl, by simp, hlt', H⟩
  · have hge : ¬ (k : Int) < (l.length : Int) := hge
    have hkl : k = l.length := by omega
    subst hkl
    rw [List.take_length] at H
    have hl2 : (l.filter notCp).length ≤ l.length := List.length_filter_le _ _
    refine jn1 (fun tt h' => tt = .bool true ∧ Ext h h') ?_ (fun _ _ h _ => h)
    intro K hK
    refine callX (plain_Events (own_reads H m0) (own_reads H m1) (by omega)) (fun h7 x7 => ?_)
    refine gdI ?_
    refine gdI ?_
    refine gdI ?_
    refine cmpT rfl ?_
    refine gdI ?_
    refine callX (law13_hands h7) (fun h8 x8 => ?_)
    exact hK _ _ ⟨rfl, (H.old_ext (List.mem_of_getElem? (i := 4) rfl)).trans (x7.trans x8)⟩

end Go.Sl
end
