/- Parts of the proof, laid together: G7 G8 G9 G10 G11 G12 G13 G14 G15 G16. No statement of the seat is proved here. -/
import Derived.Test.YtmimnelcopgcpaaGreatGA
set_option linter.unusedVariables false
set_option linter.unusedSimpArgs false
section
namespace Go.Sl
open Go
attribute [local irreducible] HT

/-- The whole of a heap, as one part. -/
def whole (h : Heap) : HP := fun s => s = ph h
theorem Sat.whole (h : Heap) : Sat h [Sl.whole h] := ⟨ph h, fun _ => none, fun _ => .inr rfl, Sub.refl _, fun _ _ h => by simp at h, rfl, trivial⟩
theorem Sat.whole_ext {h h' : Heap} {L : List HP} (H : Sat h' L) (hm : Sl.whole h ∈ L) : Ext h h' := by
  obtain ⟨s, hs, e⟩ := H.mem hm
  have : Sl.old h s := by intro b _; rw [show s = ph h from e]; rfl
  exact Sat.old_ext (L := [Sl.old h]) ⟨s, fun _ => none, fun _ => .inr rfl, hs, fun _ _ h => by simp at h, this, trivial⟩ m0
theorem SatP.lift {h : Heap} {L : List HP} (H : Sat h L) {t : PH} (H' : SatP [Sl.whole h] t) : SatP L t := by
  obtain ⟨s1, s2, _, a, _, e, _⟩ := H'
  have e : s1 = ph h := e
  subst e
  exact SatP.mono a H
theorem Sat.lift {h h' : Heap} {A : HP} {L : List HP} (H : Sat h L) (H' : Sat h' [A, Sl.whole h]) : Ext h h' ∧ Sat h' (A :: L) :=
  ⟨H'.whole_ext m1, SatP.cons (fun _ ht => SatP.lift H ht) H'⟩

/-- Some pipes, at their places. -/
def pipesAt : List Nat → List PipeS → HP
  | p :: ps, s :: ss => star (pipeAt p s) (pipesAt ps ss)
  | _, _ => emp

def pipesHole : List Nat → List PipeS → Nat → HP
  | _ :: ps, _ :: ss, 0 => pipesAt ps ss
  | p :: ps, s :: ss, i + 1 => star (pipeAt p s) (pipesHole ps ss i)
  | _, _, _ => emp

theorem pipes_pick : ∀ {ps : List Nat} {ss : List PipeS} {i p : Nat} {s : PipeS} {L : List HP} {t : PH}, ps[i]? = some p → ss[i]? = some s → SatP (pipesAt ps ss :: L) t → SatP (pipeAt p s :: pipesHole ps ss i :: L) t
  | p' :: ps, s' :: ss, 0, p, s, L, t, hp, hs, H => by
    simp at hp hs; subst hp; subst hs
    exact SatP.star.1 H
  | p' :: ps, s' :: ss, i + 1, p, s, L, t, hp, hs, H => by
    have H1 := SatP.star.1 H
    have H2 := SatP.cons (fun _ h => pipes_pick (i := i) (by simpa using hp) (by simpa using hs) h) H1
    exact SatP.cons (fun _ h => SatP.star.2 h) (SatP.swap H2)
  | [], _, i, p, s, L, t, hp, hs, H => by simp at hp
  | _ :: _, [], i, p, s, L, t, hp, hs, H => by simp at hs

theorem pipes_put : ∀ {ps : List Nat} {ss : List PipeS} {i p : Nat} {s s' : PipeS} {L : List HP} {t : PH}, ps[i]? = some p → ss[i]? = some s → SatP (pipeAt p s' :: pipesHole ps ss i :: L) t → SatP (pipesAt ps (ss.set i s') :: L) t
  | p' :: ps, s' :: ss, 0, p, s, s2, L, t, hp, hs, H => by
    simp at hp hs; subst hp; subst hs
    exact SatP.star.2 H
  | p' :: ps, s' :: ss, i + 1, p, s, s2, L, t, hp, hs, H => by
    have H1 := SatP.swap (SatP.cons (fun _ h => SatP.star.1 h) H)
    exact SatP.star.2 (SatP.cons (fun _ h => pipes_put (i := i) (by simpa using hp) (by simpa using hs) h) H1)
  | [], _, i, p, s, s2, L, t, hp, hs, H => by simp at hp
  | _ :: _, [], i, p, s, s2, L, t, hp, hs, H => by simp at hs

theorem pipes_snoc : ∀ {ps : List Nat} {ss : List PipeS} {p : Nat} {s : PipeS} {L : List HP} {t : PH}, ps.length = ss.length → SatP (pipeAt p s :: pipesAt ps ss :: L) t → SatP (pipesAt (ps ++ [p]) (ss ++ [s]) :: L) t
  | [], [], p, s, L, t, _, H => SatP.star.2 (SatP.cons (fun _ h => h) H)
  | p' :: ps, s' :: ss, p, s, L, t, hl, H => by
    have H1 := SatP.swap (SatP.cons (fun _ h => SatP.star.1 h) H)
    have H2 := SatP.cons (fun _ h => h) H1
    exact SatP.star.2 (SatP.cons (fun _ h => pipes_snoc (by simpa using hl) h) H2)
  | [], _ :: _, _, _, _, _, hl, _ => by simp at hl
  | _ :: _, [], _, _, _, _, hl, _ => by simp at hl

theorem pipes_facts {h : Heap} {L : List HP} {ps : List Nat} {ss : List PipeS} {i p : Nat} {s : PipeS} (H : Sat h L) (hm : pipesAt ps ss ∈ L) (hp : ps[i]? = some p) (hs : ss[i]? = some s) : ∃ L', Sat h (pipeAt p s :: L') := by
  obtain ⟨j, hj⟩ := List.mem_iff_getElem?.1 hm
  exact ⟨_, pipes_pick hp hs (H.front j hj)⟩

instance : Cel (Option Nat) := ⟨1, fun x => [optr x], fun _ => rfl, fun x => by cases x <;> rfl⟩

/-- The channel of a name: its number. -/
def nameP (nm : List (Option Nat)) (c : Int) : Option Nat := (at? nm c).join
def ptrsOf (nm : List (Option Nat)) (ps : List Nat) : List (Option Nat) := nm.map fun o => o.bind fun k => ps[k]?
def chanOf (nm : List (Option Nat)) (ss : List PipeS) (c : Int) : Option PipeS := (nameP nm c).bind fun k => ss[k]?

theorem ptrs_at (nm : List (Option Nat)) (ps : List Nat) (c : Int) : (at? (ptrsOf nm ps) c).join = (nameP nm c).bind fun k => ps[k]? := by
  unfold at? ptrsOf nameP at?
  split
  · rw [List.getElem?_map]
    cases nm[c.toNat]? <;> simp
  · rfl

theorem chan_cases {nm : List (Option Nat)} {ps : List Nat} {ss : List PipeS} (hl : ps.length = ss.length) (c : Int) :
    ((at? (ptrsOf nm ps) c).join = none ∧ chanOf nm ss c = none) ∨ ∃ k p s, nameP nm c = some k ∧ ps[k]? = some p ∧ ss[k]? = some s ∧ (at? (ptrsOf nm ps) c).join = some p ∧ chanOf nm ss c = some s := by
  rw [ptrs_at]; unfold chanOf
  cases hk : nameP nm c with
  | none => exact .inl ⟨rfl, rfl⟩
  | some k =>
    by_cases h : k < ps.length
    · exact .inr ⟨k, ps[k], ss[k]'(by omega), rfl, by simp [h], by simp [hl ▸ h], by simp [h], by simp [hl ▸ h]⟩
    · left; exact ⟨by simp; omega, by simp; omega⟩

theorem fork_named {h : Heap} {pv : Value} {ptrs : List (Option Nat)} {c : Int} (hv : reads h pv ptrs) : HT P 88 [pv, int c] h fun v h' => v = optr (at? ptrs c).join ∧ h' = h := by
  obtain ⟨a, cp, rfl⟩ := hv.len
  refine u88 ?_
  repeat (first | refine jnI ?_ | refine gdI ?_ | refine gqI ?_ | refine fun (_ : Env) => ?_)
  refine cmp (fun hc => ?_) (fun hc => ?_)
  · rw [at?_none (.inl hc)]
    repeat (first | refine jnI ?_ | refine gdI ?_ | refine gqI ?_ | refine fun (_ : Env) => ?_)
    exact ⟨rfl, rfl⟩
  repeat (first | refine jnI ?_ | refine gdI ?_ | refine gqI ?_ | refine fun (_ : Env) => ?_)
  refine cmp (fun hn => ?_) (fun hn => ?_)
  · rw [at?_none (.inr hn)]
    repeat (first | refine jnI ?_ | refine gdI ?_ | refine gqI ?_ | refine fun (_ : Env) => ?_)
    exact ⟨rfl, rfl⟩
  obtain ⟨i, rfl⟩ := Int.eq_ofNat_of_zero_le (Int.not_lt.1 hc)
  have hi : i < ptrs.length := by omega
  have hx := List.getElem?_eq_getElem hi
  obtain ⟨b, o, rfl, _, hr⟩ := hv.get hx
  repeat (first | refine jnI ?_ | refine gdI ?_ | refine gqI ?_ | refine fun (_ : Env) => ?_)
  refine idx i rfl hi ?_
  refine rd1 (hr 0 _ rfl) ?_
  rw [at?_nat, hx]
  exact ⟨rfl, rfl⟩

def ready1 (nm : List (Option Nat)) (ss : List PipeS) (c : Cs) : Bool := match chanOf nm ss c.chan with | some s => s.ready c.send | none => false

theorem fork_ready1 {h : Heap} {L : List HP} {nm : List (Option Nat)} {ps : List Nat} {ss : List PipeS} (H : Sat h L) (hm : pipesAt ps ss ∈ L) (hl : ps.length = ss.length) (c : Cs) :
    HT P 51 [optr (at? (ptrsOf nm ps) c.chan).join, .bool c.send] h fun v h' => v = .bool (ready1 nm ss c) ∧ h' = h := by
  unfold ready1
  rcases chan_cases (nm := nm) hl c.chan with ⟨h1, h2⟩ | ⟨k, p, s, _, hp, hs, h1, h2⟩
  · rw [h1, h2]; exact pipe_Ready_nil
  · rw [h1, h2]
    obtain ⟨L', H'⟩ := pipes_facts H hm hp hs
    exact pipe_Ready H' m0

/-- The ready ones among the first k cases. -/
def readyTo (nm : List (Option Nat)) (ss : List PipeS) (cs : List Cs) (k : Nat) : List Int := (List.range k).filterMap fun (i : Nat) => match cs[i]? with | some c => if ready1 nm ss c then some (i : Int) else none | none => none
abbrev readyOf (nm : List (Option Nat)) (ss : List PipeS) (cs : List Cs) : List Int := readyTo nm ss cs cs.length

theorem readyTo_succ {nm : List (Option Nat)} {ss : List PipeS} {cs : List Cs} {k : Nat} {x : Cs} (hx : cs[k]? = some x) : readyTo nm ss cs (k + 1) = if ready1 nm ss x then readyTo nm ss cs k ++ [(k : Int)] else readyTo nm ss cs k := by
  unfold readyTo
  rw [List.range_succ, List.filterMap_append]
  cases h : ready1 nm ss x <;> simp [hx, h]

theorem readyTo_le (nm : List (Option Nat)) (ss : List PipeS) (cs : List Cs) (k : Nat) : (readyTo nm ss cs k).length ≤ k := by
  unfold readyTo
  exact Nat.le_trans (List.length_filterMap_le _ _) (by simp)

theorem fork_Ready_own {h : Heap} {L : List HP} {pv cv : Value} {nm : List (Option Nat)} {ps : List Nat} {ss : List PipeS} {cs : List Cs} (H : Sat h L) (hm : pipesAt ps ss ∈ L) (hl : ps.length = ss.length) (hv : reads h pv (ptrsOf nm ps)) (hc : reads h cv cs) (hn : cs.length ≤ 1000000) :
    HT P 78 [cv, pv] h fun v h' => Sat h' [own 3 v (readyOf nm ss cs), whole h] := by
  obtain ⟨a, cp, rfl⟩ := hc.len
  refine u78 ?_
  refine lp2 (Nat × Value) (fun g => g.2) (fun g => int g.1) (fun g h' => g.1 ≤ cs.length ∧ Sat h' [own 3 g.2 (readyTo nm ss cs g.1), whole h]) (fun g => cs.length - g.1) (0, .slice none 0 0) rfl rfl ⟨by omega, own_new (Sat.whole _) _⟩ ?_
  rintro ⟨k, v⟩ h1 ⟨hk, H1⟩ _
  simp only at hk H1
  have x1 := Sat.whole_ext H1 m1
  refine cmp (fun hlt => ?_) (fun hge => ?_)
  · have hlt' : k < cs.length := by omega
    have hx := List.getElem?_eq_getElem hlt'
    obtain ⟨b, o, rfl, _, hr⟩ := (hc.ext x1).get hx
    repeat (first | refine jnI ?_ | refine gdI ?_ | refine gqI ?_ | refine fun (_ : Env) => ?_)
    refine idx k rfl hlt' ?_
    refine rd1 (hr 1 _ rfl) ?_
    refine idx k rfl hlt' ?_
    refine rd1 (hr 0 _ rfl) ?_
    refine call (fork_named (hv.ext x1)) ?_
    rintro _ _ ⟨rfl, rfl⟩
    refine ⟨rd1 (hr 0 _ rfl) rfl, ?_⟩
    refine call (fork_ready1 (H.ext x1) hm hl cs[k]) ?_
    rintro _ _ ⟨rfl, rfl⟩
    cases hrd : ready1 nm ss cs[k] with
    | true =>
      refine fil rfl ?_
      have := readyTo_le nm ss cs k
      refine app1 (k : Int) H1 rfl rfl rfl (by omega) (fun v' h2 H2 => ?_)
      repeat (first | refine jnI ?_ | refine gdI ?_ | refine gqI ?_ | refine fun (_ : Env) => ?_)
      refine ari64 (by omega) ?_
      refine ⟨(k + 1, v'), by simp; omega, rfl, rfl, hlt', ?_⟩
      rw [readyTo_succ hx, if_pos hrd]
      exact H2
    | false =>
      repeat (first | refine jnI ?_ | refine gdI ?_ | refine gqI ?_ | refine fun (_ : Env) => ?_)
      refine ari64 (by omega) ?_
      refine ⟨(k + 1, v), by simp; omega, rfl, rfl, hlt', ?_⟩
      rw [readyTo_succ hx, hrd]
      exact H1
  · have : k = cs.length := by omega
    subst this
    exact H1

theorem fork_Ready {h : Heap} {L : List HP} {pv cv : Value} {nm : List (Option Nat)} {ps : List Nat} {ss : List PipeS} {cs : List Cs} (H : Sat h L) (hm : pipesAt ps ss ∈ L) (hl : ps.length = ss.length) (hv : reads h pv (ptrsOf nm ps)) (hc : reads h cv cs) (hn : cs.length ≤ 1000000) :
    HT P 78 [cv, pv] h fun v h' => reads h' v (readyOf nm ss cs) ∧ Ext h h' :=
  (fork_Ready_own H hm hl hv hc hn).mono fun v h' H' => ⟨own_reads H' m0, H'.whole_ext m1⟩

theorem pipe_Send_nil {h : Heap} {L : List HP} {v : Int} (H : Sat h L) : HT P 89 [nilp, int v] h fun u h' => u = .tuple #[agg got0, int 0] ∧ Sat h' L := by
  refine u89 ?_
  have H0 := H.push (cells (Cel.cells got0) 124)
  refine call pipe_Closed_nil ?_
  rintro _ _ ⟨rfl, rfl⟩
  refine call pipe_Ready_nil ?_
  rintro _ _ ⟨rfl, rfl⟩
  refine fil rfl ?_
  refine sA H0 (Cel.cells got0) rfl rfl rfl rfl (fun h _ H => ?_)
  refine lA H rfl ?_
  exact ⟨rfl, H.drop⟩

/-- 'Try', as a function. -/
def tryOf (nm : List (Option Nat)) (ss : List PipeS) (c : Cs) : List PipeS × GotS × Int :=
  match nameP nm c.chan with
  | none => (ss, got0, 0)
  | some k => match ss[k]? with
    | none => (ss, got0, 0)
    | some s => if c.send then (ss.set k (s.send c.value).1, (s.send c.value).2.1, (s.send c.value).2.2) else (ss.set k s.recv.1, s.recv.2, 0)

theorem tryOf_none {nm : List (Option Nat)} {ss : List PipeS} {c : Cs} (h : chanOf nm ss c.chan = none) : tryOf nm ss c = (ss, got0, 0) := by
  unfold tryOf chanOf at *
  cases hk : nameP nm c.chan with
  | none => rfl
  | some k => rw [hk] at h; simp only [Option.bind_some] at h; simp only [h]

theorem fork_Try {h : Heap} {L : List HP} {pv : Value} {nm : List (Option Nat)} {ps : List Nat} {ss : List PipeS} {c : Cs} (H : Sat h (pipesAt ps ss :: L)) (hl : ps.length = ss.length) (hv : reads h pv (ptrsOf nm ps)) :
    HT P 72 [agg c, pv] h fun v h' => v = .tuple #[agg (tryOf nm ss c).2.1, int (tryOf nm ss c).2.2] ∧ Sat h' (pipesAt ps (tryOf nm ss c).1 :: L) := by
  refine u72 ?_
  have H1 := (H.push (cells (Cel.cells c) 52)).push (cells (Cel.cells got0) 124)
  refine l1 H1 rfl ?_
  refine call (fork_named ((hv.ext (Ext.push _ _)).ext (Ext.push _ _))) ?_
  rintro _ _ ⟨rfl, rfl⟩
  obtain ⟨send, chan, value⟩ := c
  rcases chan_cases (nm := nm) hl chan with ⟨h1, h2⟩ | ⟨k, p, s, hk, hp, hs, h1, h2⟩
  · simp only [h1, tryOf_none (c := ⟨send, chan, value⟩) h2]
    cases send with
    | true =>
      refine l1 H1 rfl ?_
      refine l1 H1 rfl ?_
      refine call (pipe_Send_nil H1) ?_
      rintro _ h2 ⟨rfl, H2⟩
      refine getA rfl ?_
      refine getA rfl ?_
      refine sA H2 (Cel.cells got0) rfl rfl rfl rfl (fun h _ H => ?_)
      refine lA H rfl ?_
      exact ⟨rfl, H.drop.drop⟩
    | false =>
      refine l1 H1 rfl ?_
      refine call (pipe_Recv_nil H1) ?_
      rintro _ h2 ⟨rfl, H2⟩
      refine sA H2 (Cel.cells got0) rfl rfl rfl rfl (fun h _ H => ?_)
      refine lA H rfl ?_
      exact ⟨rfl, H.drop.drop⟩
  · simp only [h1, tryOf, hk, hs]
    have H2 : Sat _ (pipeAt p s :: pipesHole ps ss k :: _ :: _ :: L) := pipes_pick hp hs (H1.re 3 [2, 0, 1] rfl rfl)
    cases send with
    | true =>
      refine l1 H1 rfl ?_
      refine l1 H1 rfl ?_
      refine call (pipe_Send H2) ?_
      rintro _ h3 ⟨rfl, H3⟩
      refine getA rfl ?_
      refine getA rfl ?_
      refine sA (H3.front 2 rfl) (Cel.cells (s.send value).2.1) rfl rfl rfl rfl (fun h _ H => ?_)
      refine lA H rfl ?_
      exact ⟨rfl, pipes_put hp hs (H.re 4 [1, 2] rfl rfl)⟩
    | false =>
      refine l1 H1 rfl ?_
      refine call (pipe_Recv H2) ?_
      rintro _ h3 ⟨rfl, H3⟩
      refine sA (H3.front 2 rfl) (Cel.cells s.recv.2) rfl rfl rfl rfl (fun h _ H => ?_)
      refine lA H rfl ?_
      exact ⟨rfl, pipes_put hp hs (H.re 4 [1, 2] rfl rfl)⟩

/-- One waits for a case. -/
def park1 (nm : List (Option Nat)) (g : Int) (ss : List PipeS) (i : Nat) (c : Cs) : List PipeS :=
  match nameP nm c.chan with
  | none => ss
  | some k => match ss[k]? with
    | none => ss
    | some s => ss.set k (s.wait c.send ⟨g, i, c.value⟩).1
def parkTo (nm : List (Option Nat)) (g : Int) (cs : List Cs) (ss : List PipeS) : Nat → List PipeS
  | 0 => ss
  | k + 1 => match cs[k]? with | some c => park1 nm g (parkTo nm g cs ss k) k c | none => parkTo nm g cs ss k
/-- 'Park', as a function. -/
def parkOf (nm : List (Option Nat)) (g : Int) (cs : List Cs) (ss : List PipeS) : List PipeS :=
  if g < 0 ∨ 4 < cs.length then ss else if readyOf nm ss cs ≠ [] then ss else parkTo nm g cs ss cs.length

theorem park1_len (nm : List (Option Nat)) (g : Int) (ss : List PipeS) (i : Nat) (c : Cs) : (park1 nm g ss i c).length = ss.length := by
  unfold park1; split
  · rfl
  · split <;> simp
theorem parkTo_len (nm : List (Option Nat)) (g : Int) (cs : List Cs) (ss : List PipeS) : ∀ k, (parkTo nm g cs ss k).length = ss.length
  | 0 => rfl
  | k + 1 => by
    simp only [parkTo]; split
    · rw [park1_len, parkTo_len]
    · exact parkTo_len nm g cs ss k

theorem park1_none {nm : List (Option Nat)} {g : Int} {ss : List PipeS} {i : Nat} {c : Cs} (h : chanOf nm ss c.chan = none) : park1 nm g ss i c = ss := by
  unfold park1 chanOf at *
  cases hk : nameP nm c.chan with
  | none => rfl
  | some k => rw [hk] at h; simp only [Option.bind_some] at h; simp only [h]

theorem fork_Park {h : Heap} {L : List HP} {pv cv : Value} {nm : List (Option Nat)} {ps : List Nat} {ss : List PipeS} {cs : List Cs} {g : Int} (H : Sat h (pipesAt ps ss :: L)) (hl : ps.length = ss.length)
    (hv : ∀ h', Sat h' L → reads h' pv (ptrsOf nm ps)) (hc : ∀ h', Sat h' L → reads h' cv cs) :
    HT P 80 [int g, cv, pv] h fun v h' => (∃ n e : Int, v = .tuple #[int n, int e]) ∧ Sat h' (pipesAt ps (parkOf nm g cs ss) :: L) := by
  obtain ⟨a, cp, rfl⟩ := (hc h H.drop).len
  refine u80 ?_
  unfold parkOf
  repeat (first | refine jnI ?_ | refine gdI ?_ | refine gqI ?_ | refine fun (_ : Env) => ?_)
  refine cmp (fun hg => ?_) (fun hg => ?_)
  · rw [if_pos (.inl hg)]
    repeat (first | refine jnI ?_ | refine gdI ?_ | refine gqI ?_ | refine fun (_ : Env) => ?_)
    exact ⟨⟨_, _, rfl⟩, H⟩
  repeat (first | refine jnI ?_ | refine gdI ?_ | refine gqI ?_ | refine fun (_ : Env) => ?_)
  refine cmp (fun hn => ?_) (fun hn => ?_)
  · rw [if_pos (.inr (by omega))]
    repeat (first | refine jnI ?_ | refine gdI ?_ | refine gqI ?_ | refine fun (_ : Env) => ?_)
    exact ⟨⟨_, _, rfl⟩, H⟩
  rw [if_neg (by omega)]
  repeat (first | refine jnI ?_ | refine gdI ?_ | refine gqI ?_ | refine fun (_ : Env) => ?_)
  refine call (fork_Ready H m0 hl (hv h H.drop) (hc h H.drop) (by omega)) ?_
  rintro v h1 ⟨hr, x1⟩
  obtain ⟨a1, cp1, rfl⟩ := hr.len
  refine cmp (fun hp => ?_) (fun hp => ?_)
  · rw [if_pos (by intro e; rw [e] at hp; simp at hp)]; exact ⟨⟨_, _, rfl⟩, H.ext x1⟩
  rw [if_neg (by simp; exact List.eq_nil_of_length_eq_zero (by omega))]
  refine lp2 (Nat × Int) (fun q => int q.2) (fun q => int q.1) (fun q h' => q.1 ≤ cs.length ∧ 0 ≤ q.2 ∧ q.2 ≤ q.1 ∧ Sat h' (pipesAt ps (parkTo nm g cs ss q.1) :: L)) (fun q => cs.length - q.1) (0, 0) rfl rfl ⟨by omega, by omega, by omega, H.ext x1⟩ ?_
  rintro ⟨k, n⟩ h2 ⟨hk, hn0, hnk, H2⟩ _
  simp only at hk hn0 hnk H2
  refine cmp (fun hlt => ?_) (fun hge => ?_)
  · have hlt' : k < cs.length := by omega
    have hx := List.getElem?_eq_getElem hlt'
    obtain ⟨b, o, rfl, _, hcr⟩ := (hc h2 H2.drop).get hx
    have hstep : parkTo nm g cs ss (k + 1) = park1 nm g (parkTo nm g cs ss k) k cs[k] := by simp only [parkTo, hx]
    generalize cs[k] = c at hcr hstep
    have hl2 : ps.length = (parkTo nm g cs ss k).length := by rw [parkTo_len, hl]
    repeat (first | refine jnI ?_ | refine gdI ?_ | refine gqI ?_ | refine fun (_ : Env) => ?_)
    refine idx k rfl hlt' ?_
    refine rdn (vs := Cel.cells c) rfl hcr ?_
    have H3 := H2.push (cells [.bool false, int 0, int 0] 52)
    refine sA H3 (Cel.cells c) rfl rfl rfl rfl (fun h4 _ H4 => ?_)
    refine l0 H4 rfl ?_
    refine call (fork_named (hv h4 H4.drop.drop)) ?_
    rintro _ _ ⟨rfl, rfl⟩
    rcases chan_cases (nm := nm) hl2 c.chan with ⟨h1, h2⟩ | ⟨j, p, s, hj, hp', hs, h1, h2⟩
    · rw [h1]
      repeat (first | refine jnI ?_ | refine gdI ?_ | refine gqI ?_ | refine fun (_ : Env) => ?_)
      refine ari64 (by omega) ?_
      refine ⟨(k + 1, n), by simp; omega, rfl, rfl, hlt', hn0, by simp; omega, ?_⟩
      rw [hstep, park1_none h2]
      exact H4.drop
    · rw [h1]
      refine l0 H4 rfl ?_
      refine l0 H4 rfl ?_
      refine fil rfl ?_
      have H5 : Sat _ (pipeAt p s :: pipesHole ps (parkTo nm g cs ss k) j :: _ :: L) := pipes_pick hp' hs (H4.re 2 [1, 0] rfl rfl)
      refine call (pipe_Wait (w := ⟨g, k, c.value⟩) H5) ?_
      rintro _ h6 ⟨rfl, H6⟩
      have H7 : Sat h6 (pipesAt ps (parkTo nm g cs ss (k + 1)) :: L) := by
        rw [hstep]; simp only [park1, hj, hs]
        exact pipes_put hp' hs (H6.re 3 [0, 1] rfl rfl)
      refine cmp (fun hz => ?_) (fun hz => ?_)
      · refine ari64 (by omega) ?_
        repeat (first | refine jnI ?_ | refine gdI ?_ | refine gqI ?_ | refine fun (_ : Env) => ?_)
        refine ari64 (by omega) ?_
        exact ⟨(k + 1, n + 1), by simp; omega, rfl, rfl, hlt', by simp; omega, by simp; omega, H7⟩
      · repeat (first | refine jnI ?_ | refine gdI ?_ | refine gqI ?_ | refine fun (_ : Env) => ?_)
        refine ari64 (by omega) ?_
        exact ⟨(k + 1, n), by simp; omega, rfl, rfl, hlt', by simp; omega, by simp; omega, H7⟩
  · have : k = cs.length := by omega
    subst this
    exact ⟨⟨_, _, rfl⟩, H2⟩

/-- The first k pipes dropped a goroutine. -/
def leaveTo (g : Int) (ss : List PipeS) (k : Nat) : List PipeS := (ss.take k).map (·.drop g) ++ ss.drop k

theorem fork_Leave {h : Heap} {L : List HP} {pv : Value} {ps : List Nat} {ss : List PipeS} {g : Int} (H : Sat h (pipesAt ps ss :: L)) (hl : ps.length = ss.length) (hn : ps.length ≤ 1000000000)
    (hv : ∀ h', Sat h' L → reads h' pv (ps.map some)) :
    HT P 91 [int g, pv] h fun v h' => (∃ n : Int, v = int n) ∧ Sat h' (pipesAt ps (ss.map (·.drop g)) :: L) := by
  obtain ⟨a, cp, rfl⟩ := (hv h H.drop).len
  refine u91 ?_
  refine lp2 (Nat × Int) (fun q => int q.2) (fun q => int q.1) (fun q h' => q.1 ≤ ps.length ∧ Sat h' (pipesAt ps (leaveTo g ss q.1) :: L)) (fun q => ps.length - q.1) (0, 0) rfl rfl ⟨by omega, by simpa [leaveTo] using H⟩ ?_
  rintro ⟨k, n⟩ h2 ⟨hk, H2⟩ _
  simp only at hk H2
  have hlen : (ps.map some).length = ps.length := by simp
  refine cmp (fun hlt => ?_) (fun hge => ?_)
  · have hlt' : k < ps.length := by rw [hlen] at hlt; omega
    have hp := List.getElem?_eq_getElem hlt'
    have hx : (ps.map some)[k]? = some (some ps[k]) := by simp [hlt']
    obtain ⟨b, o, rfl, hik, hr⟩ := (hv h2 H2.drop).get hx
    have hs : (leaveTo g ss k)[k]? = some (ss[k]'(by omega)) := by
      unfold leaveTo
      have h1 : ((ss.take k).map (·.drop g)).length = k := by simp; omega
      rw [List.getElem?_append_right (by omega), h1]; simp
    refine idx k rfl hik ?_
    refine rd1 (hr 0 _ rfl) ?_
    refine call (pipe_Drop (pipes_pick hp hs H2)) ?_
    rintro _ h3 ⟨m, rfl, H3⟩
    refine ari rfl ?_
    refine ari64 (by omega) ?_
    refine ⟨(k + 1, _), by simp; omega, rfl, rfl, hlt', ?_⟩
    have H4 := pipes_put hp hs H3
    have e : (leaveTo g ss k).set k ((ss[k]'(by omega)).drop g) = leaveTo g ss (k + 1) := by
      unfold leaveTo
      have h1 : ((ss.take k).map (·.drop g)).length = k := by simp; omega
      rw [List.set_append_right _ _ (by omega), h1, List.take_succ_eq_append_getElem (by omega), List.drop_eq_getElem_cons (i := k) (by omega), Nat.sub_self, List.set_cons_zero, List.map_append, List.append_assoc]
      rfl
    rw [e] at H4
    exact H4
  · have : k = ss.length := by rw [hlen] at hge; omega
    subst this
    simp [leaveTo] at H2
    exact ⟨⟨_, rfl⟩, H2⟩

end Go.Sl
end

section
namespace Go.Sl
open Go
attribute [local irreducible] HT

theorem entry_Bare {h : Heap} {k g : Int} : HT P 29 [int k, int g] h fun v h' => v = agg (⟨k, g, -1, -1, -1, -1, false, false⟩ : Ev) ∧ Ext h h' := by
  refine u29 ?_
  have H := (Sat.old h).push (cells (Cel.cells (⟨0, 0, 0, 0, 0, 0, false, false⟩ : Ev)) 34)
  refine fil rfl ?_
  refine sA H (Cel.cells (⟨k, g, -1, -1, -1, -1, false, false⟩ : Ev)) rfl rfl rfl rfl (fun h1 _ H1 => ?_)
  refine lA H1 rfl ?_
  exact ⟨rfl, H1.old_ext m1⟩

/-! ### deed -/

def belowB (n m : Int) : Bool := decide (0 ≤ n ∧ n < m)
theorem deed_below {h : Heap} {n m : Int} : HT P 64 [int n, int m] h fun v h' => v = .bool (belowB n m) ∧ h' = h := by
  refine u64 ?_
  repeat' (first | refine jnI ?_ | refine gdI ?_ | refine gqI ?_ | refine fun (_ : Env) => ?_ | refine l0 H rfl ?_ | refine l1 H rfl ?_ | refine l2 H rfl ?_ | refine l3 H rfl ?_ | refine getA rfl ?_ | refine cmp (fun _ => ?_) (fun _ => ?_))
  all_goals exact ⟨by first | exact bT (by omega) | exact bF (by omega), rfl⟩

def fitsB (n m : Int) : Bool := belowB n (if m > 1 then m else 1)
theorem deed_fits {h : Heap} {n m : Int} : HT P 63 [int n, int m] h fun v h' => v = .bool (fitsB n m) ∧ h' = h := by
  refine u63 ?_
  exact callE deed_below ⟨rfl, rfl⟩

def limitsOf (kind programs : Int) : Int × Int :=
  if kind = 1 then (programs, 0) else if kind = 2 then (8, 5) else if kind = 4 ∨ kind = 5 then (8, 0) else if kind = 3 then (8, 100) else if kind = 7 ∨ kind = 8 then (8, 0) else (0, 0)

theorem deed_limits {h : Heap} {kind programs : Int} : HT P 62 [int kind, int programs] h fun v h' => v = .tuple #[int (limitsOf kind programs).1, int (limitsOf kind programs).2] ∧ h' = h := by
  refine u62 ?_
  repeat' (first | refine jnI ?_ | refine gdI ?_ | refine gqI ?_ | refine fun (_ : Env) => ?_ | refine l0 H rfl ?_ | refine l1 H rfl ?_ | refine l2 H rfl ?_ | refine l3 H rfl ?_ | refine getA rfl ?_ | refine cmp (fun _ => ?_) (fun _ => ?_))
  all_goals exact ⟨by simp [limitsOf, *], rfl⟩

def caseBad (c : Cs) : Bool := !(belowB c.chan 8) || !(belowB c.value 100) || (!c.send && decide (c.value ≠ 0))

def opBad (o : Op) (p : Int) : Bool := !(fitsB o.a (limitsOf o.kind p).1) || !(fitsB o.b (limitsOf o.kind p).2) || (decide (o.kind ≠ 6) && (decide ((o.cases.length : Int) > 0) || o.dflt))

/-- 'deed.Check', as a function. -/
def deedCheck (o : Op) (p : Int) : Int :=
  if p < 1 ∨ p > 8 ∨ o.kind < 1 ∨ o.kind > 9 then 1 else if (o.cases.length : Int) > 4 then 2 else if opBad o p then 4 else if o.cases.any caseBad then 4 else 0

theorem any_next {α : Type} {l : List α} {p : α → Bool} {k : Nat} {x : α} (hno : ∀ i, i < k → ∀ c, l[i]? = some c → p c = false) (hx : l[k]? = some x) (hp : p x = false) : ∀ i, i < k + 1 → ∀ c, l[i]? = some c → p c = false := by
  intro i hi c hc
  by_cases h : i < k
  · exact hno i h c hc
  · have : i = k := by omega
    subst this
    rw [hx] at hc; injection hc with hc; subst hc; exact hp

theorem any_none {α : Type} {l : List α} {p : α → Bool} (hno : ∀ i, i < l.length → ∀ c, l[i]? = some c → p c = false) : l.any p = false := by
  rw [List.any_eq_false]
  intro c hc
  obtain ⟨i, hi, rfl⟩ := List.mem_iff_getElem.1 hc
  rw [hno i hi _ (List.getElem?_eq_getElem hi)]; exact Bool.false_ne_true

theorem any_at {α : Type} {l : List α} {p : α → Bool} {k : Nat} {x : α} (hx : l[k]? = some x) (hp : p x = true) : l.any p = true :=
  List.any_eq_true.2 ⟨x, List.mem_of_getElem? hx, hp⟩

theorem deed_Check {h : Heap} {ov : OpV} {o : Op} {p : Int} (h1 : ov.kind = o.kind) (h2 : ov.a = o.a) (h3 : ov.b = o.b) (h4 : ov.dflt = o.dflt) (h5 : reads h ov.cases.v o.cases) :
    HT P 41 [agg ov, int p] h fun v h' => v = int (deedCheck o p) ∧ Ext h h' := by
  obtain ⟨kind, a, b, cases, dflt⟩ := o
  obtain ⟨kind', a', b', cv, dflt'⟩ := ov
  simp only at h1 h2 h3 h4 h5
  subst h1; subst h2; subst h3; subst h4
  obtain ⟨ca, cn, cc⟩ := cv
  obtain ⟨_, _, e⟩ := h5.len
  injection e with _ e2 _
  subst e2
  have h5 : reads h (.slice ca cases.length cc) cases := h5
  refine u41 ?_
  refine box [int kind', int a', int b', .slice ca cases.length cc, .bool dflt'] (Sat.old h) rfl (fun b0 h1 x1 _ H => ?_)
  refine jn1 (fun t h' => t = .bool (decide (p < 1 ∨ p > 8 ∨ kind' < 1 ∨ kind' > 9)) ∧ h1 = h') ?_ ?_
  · intro K hK
    repeat' (first | refine jnI ?_ | refine gdI ?_ | refine gqI ?_ | refine fun (_ : Env) => ?_ | refine l0 H rfl ?_ | refine l1 H rfl ?_ | refine l2 H rfl ?_ | refine l3 H rfl ?_ | refine getA rfl ?_ | refine cmp (fun _ => ?_) (fun _ => ?_))
    all_goals exact hK _ _ ⟨by first | exact bT (by omega) | exact bF (by omega), rfl⟩
  rintro _ _ ⟨rfl, rfl⟩ _
  simp only [deedCheck]
  by_cases c0 : p < 1 ∨ p > 8 ∨ kind' < 1 ∨ kind' > 9
  · rw [decide_eq_true c0, if_pos c0]; exact ⟨rfl, x1⟩
  rw [decide_eq_false c0, if_neg c0]
  refine l0 H rfl ?_
  refine cmp (fun c1 => ?_) (fun c1 => ?_)
  · rw [if_pos c1]; exact ⟨rfl, x1⟩
  rw [if_neg c1]
  refine l0 H rfl ?_
  refine callE deed_limits ?_
  refine getA rfl ?_
  refine getA rfl ?_
  refine jn1 (fun t h' => t = .bool (opBad ⟨kind', a', b', cases, dflt'⟩ p) ∧ h1 = h') ?_ ?_
  · intro K hK
    by_cases k6 : kind' = 6 <;> by_cases kl : 0 < cases.length <;> cases f1 : fitsB a' (limitsOf kind' p).1 <;> cases f2 : fitsB b' (limitsOf kind' p).2 <;> cases dflt'
    all_goals repeat' (first | refine jnI ?_ | refine gdI ?_ | refine gqI ?_ | refine fun (_ : Env) => ?_ | refine callE deed_fits ?_; (first | rw [f1] | rw [f2]) | refine l0 H rfl ?_ | refine l1 H rfl ?_ | refine l2 H rfl ?_ | refine l3 H rfl ?_ | refine getA rfl ?_ | refine cmp (fun _ => ?_) (fun _ => ?_))
    all_goals exact hK _ _ ⟨by first | (exfalso; omega) | (simp only [opBad, f1, f2]; simp; done) | (simp only [opBad, f1, f2]; simp; omega) | (simp only [opBad, f1, f2]; simp; intros; exact List.eq_nil_of_length_eq_zero (by omega)), rfl⟩
  rintro _ _ ⟨rfl, rfl⟩ _
  cases c2 : opBad ⟨kind', a', b', cases, dflt'⟩ p with
  | true => exact ⟨rfl, x1⟩
  | false =>
    refine l0 H rfl ?_
    refine lp1 Nat (fun k => int k) (fun k h' => k ≤ cases.length ∧ Ext h h' ∧ ∀ i, i < k → ∀ c, cases[i]? = some c → caseBad c = false) (fun k => cases.length - k) 0 rfl ⟨by omega, x1, fun i hi => by omega⟩ ?_
    rintro k h2 ⟨hk, x2, hno⟩ _
    refine cmp (fun hlt => ?_) (fun hge => ?_)
    · have hlt' : k < cases.length := by omega
      have hx := List.getElem?_eq_getElem hlt'
      obtain ⟨b, o, e, _, hr⟩ := readsP.get (h5.ext x2) hx
      subst e
      refine idx k rfl hlt' ?_
      refine rdn (vs := Cel.cells cases[k]) rfl hr ?_
      refine nw (Sat.old h2) (fun b3 h3 _ _ H3 => ?_)
      refine sA H3 (Cel.cells cases[k]) rfl rfl rfl rfl (fun h4 _ H4 => ?_)
      have x4 := x2.trans (H4.old_ext m1)
      obtain ⟨c, hc⟩ : ∃ c, cases[k] = c := ⟨_, rfl⟩
      have H : Sat h4 [pt b3 (cells (Cel.cells c) 52), old h2] := hc ▸ H4
      have hx' : cases[k]? = some c := hc ▸ hx
      clear H3 H4 hx hr hc
      obtain ⟨send, chan, value⟩ := c
      refine jn1 (fun t h' => t = .bool (caseBad ⟨send, chan, value⟩) ∧ h4 = h') ?_ ?_
      · intro K hK
        cases f1 : belowB chan 8 <;> cases f2 : belowB value 100 <;> cases send
        all_goals repeat' (first | refine jnI ?_ | refine gdI ?_ | refine gqI ?_ | refine fun (_ : Env) => ?_ | refine callE deed_below ?_; (first | rw [f1] | rw [f2]) | refine l0 H rfl ?_ | refine l1 H rfl ?_ | refine l2 H rfl ?_ | refine l3 H rfl ?_ | refine getA rfl ?_ | refine cmp (fun _ => ?_) (fun _ => ?_))
        all_goals exact hK _ _ ⟨by simp [caseBad, *], rfl⟩
      rintro _ _ ⟨rfl, rfl⟩ _
      cases c3 : caseBad ⟨send, chan, value⟩ with
      | true => exact ⟨by rw [any_at hx' c3]; rfl, x4⟩
      | false =>
        refine ari64 (by omega) ?_
        exact ⟨k + 1, by omega, rfl, hlt', x4, any_next hno hx' c3⟩
    · have : k = cases.length := by omega
      subst this
      exact ⟨by rw [any_none hno]; rfl, x2⟩

end Go.Sl
end

section
namespace Go.Sl
open Go
attribute [local irreducible] HT

def outB (lo hi : Int) (n : Int) : Bool := decide (n < lo) || decide (n > hi)

theorem sheet_out1 {h : Heap} {b1 b2 : Nat} {lo hi n : Int} (h1 : h[b1]? = some (cells [int lo] 3)) (h2 : h[b2]? = some (cells [int hi] 3)) : HT P 61 [int n, ptr b1, ptr b2] h fun v h' => v = .bool (outB lo hi n) ∧ h' = h := by
  refine u61 ?_
  repeat (first | refine jnI ?_ | refine gdI ?_ | refine gqI ?_ | refine fun (_ : Env) => ?_)
  refine ld h1 rfl ?_
  refine cmp (fun c1 => ?_) (fun c1 => ?_)
  · repeat (first | refine jnI ?_ | refine gdI ?_ | refine gqI ?_ | refine fun (_ : Env) => ?_)
    exact ⟨by rw [outB, decide_eq_true c1]; rfl, rfl⟩
  repeat (first | refine jnI ?_ | refine gdI ?_ | refine gqI ?_ | refine fun (_ : Env) => ?_)
  refine ld h2 rfl ?_
  repeat (first | refine jnI ?_ | refine gdI ?_ | refine gqI ?_ | refine fun (_ : Env) => ?_)
  refine cmp (fun c2 => ?_) (fun c2 => ?_)
  · repeat (first | refine jnI ?_ | refine gdI ?_ | refine gqI ?_ | refine fun (_ : Env) => ?_)
    exact ⟨by rw [outB, decide_eq_false c1, decide_eq_true c2]; rfl, rfl⟩
  · repeat (first | refine jnI ?_ | refine gdI ?_ | refine gqI ?_ | refine fun (_ : Env) => ?_)
    exact ⟨by rw [outB, decide_eq_false c1, decide_eq_false c2]; rfl, rfl⟩

theorem sheet_outside {h : Heap} {v : Value} {xs : List Int} {lo hi : Int} (hv : reads h v xs) (hn : xs.length ≤ 1000000000) : HT P 40 [v, int lo, int hi] h fun r h' => ∃ b, xs.any (outB lo hi) = b ∧ r = .bool b ∧ Ext h h' := by
  refine u40 ?_
  have H1 := ((Sat.old h).push (cells [int lo] 3)).push (cells [int hi] 3)
  have x1 : Ext h ((h.push (cells [int lo] 3)).push (cells [int hi] 3)) := (Ext.push _ _).trans (Ext.push _ _)
  refine call (containsFunc_int (p := outB lo hi) (hv.ext x1) ⟨_, _, _, rfl, fun h' x' n _ => (sheet_out1 ((H1.ext x').at_ m1) ((H1.ext x').at_ m0)).mono fun v h'' ⟨a, b⟩ => ⟨a, b ▸ Ext.refl _⟩⟩ hn) ?_
  rintro _ h2 ⟨rfl, x2⟩
  exact ⟨_, rfl, rfl, x1.trans x2⟩

theorem readsOps.len {s : PH} {v : SlV} {l : List Op} (r : readsOps s v.v l) : v.n = l.length := by
  obtain ⟨vs, h1, h2, _⟩ := r
  obtain ⟨a, c, e⟩ := h1.len
  injection e with _ e _
  rw [e, h2]

theorem readsProgs.len {s : PH} {v : SlV} {l : List (List Op)} (r : readsProgs s v.v l) : v.n = l.length := by
  obtain ⟨vs, h1, h2, _⟩ := r
  obtain ⟨a, c, e⟩ := h1.len
  injection e with _ e _
  rw [e, h2]

theorem readsP.len' {s : PH} {v : SlV} {l : List Int} (r : readsP s v.v l) : v.n = l.length := by
  obtain ⟨a, c, e⟩ := r.len
  injection e

theorem any_two {α β : Type} {p : α → Bool} {q : β → Bool} : ∀ {xs : List α} {ys : List β}, xs.length = ys.length → (∀ (i : Nat) (x : α) (y : β), xs[i]? = some x → ys[i]? = some y → p x = q y) → xs.any p = ys.any q
  | [], [], _, _ => rfl
  | x :: xs, y :: ys, hl, h => by
    rw [List.any_cons, List.any_cons, h 0 x y rfl rfl, any_two (by simpa using hl) fun i a b ha hb => h (i + 1) a b (by simpa using ha) (by simpa using hb)]
  | [], _ :: _, hl, _ => by simp at hl
  | _ :: _, [], hl, _ => by simp at hl

def longOf (x : Script) : Bool := decide (8 < x.programs.length) || decide (200 < x.plan.length) || decide (64 < x.draws.length) || x.programs.any (fun p => decide (32 < p.length))

theorem sheet_long1 {h : Heap} {v : SlV} : HT P 60 [v.v] h fun r h' => r = .bool (decide (32 < v.n)) ∧ h' = h := by
  refine u60 ?_
  repeat' (first | refine jnI ?_ | refine gdI ?_ | refine gqI ?_ | refine fun (_ : Env) => ?_ | refine l0 H rfl ?_ | refine l1 H rfl ?_ | refine l2 H rfl ?_ | refine l3 H rfl ?_ | refine getA rfl ?_ | refine cmp (fun _ => ?_) (fun _ => ?_))
  all_goals exact ⟨by first | exact bT (by omega) | exact bF (by omega), rfl⟩

theorem sheet_long {h : Heap} {sv : ScriptV} {x : Script} (hs : readsScript (ph h) sv x) (hn : x.programs.length ≤ 1000000000) : HT P 39 [agg sv] h fun r h' => r = .bool (longOf x) ∧ Ext h h' := by
  obtain ⟨t, m, ⟨pa, pn, pc⟩, ⟨qa, qn, qc⟩, ⟨da, dn, dc⟩⟩ := sv
  have e1 := hs.programs.len
  have e2 := readsP.len' hs.plan
  have e3 := readsP.len' hs.draws
  simp only at e1 e2 e3
  obtain ⟨vs, r1, r2, r3⟩ := hs.programs
  have e4 : vs.any (fun v => decide (32 < v.n)) = x.programs.any (fun p => decide (32 < p.length)) := any_two r2 fun i v p hv hp => by rw [(r3 i v p hv hp).len]
  refine u39 ?_
  refine box [int t, int m, .slice pa pn pc, .slice qa qn qc, .slice da dn dc] (Sat.old h) rfl (fun b1 h1 x1 _ H => ?_)
  refine jn1 (fun t h' => t = .bool (longOf x) ∧ Ext h h') ?_ (fun t h' hh _ => hh)
  intro K hK
  by_cases c1 : 8 < x.programs.length <;> by_cases c2 : 200 < x.plan.length <;> by_cases c3 : 64 < x.draws.length
  all_goals repeat' (first | refine jnI ?_ | refine gdI ?_ | refine gqI ?_ | refine fun (_ : Env) => ?_ | refine l0 H rfl ?_ | refine l1 H rfl ?_ | refine l2 H rfl ?_ | refine l3 H rfl ?_ | refine getA rfl ?_ | refine cmp (fun _ => ?_) (fun _ => ?_))
  all_goals first
    | (exfalso; omega)
    | exact hK _ _ ⟨by simp [longOf, *], x1⟩
    | skip
  refine callX (containsFunc_ops (p := fun v => decide (32 < v.n)) (readsP.ext (h := h) r1 x1) ⟨_, #[], #[], rfl, fun h' x' n _ => sheet_long1.mono fun v h'' ⟨a, b⟩ => ⟨a, b ▸ Ext.refl _⟩⟩ (by omega)) (fun h2 x2 => ?_)
  rw [e4]
  exact hK _ _ ⟨by simp [longOf, c1, c2, c3], x1.trans x2⟩

end Go.Sl
end

section
namespace Go.Sl
open Go
attribute [local irreducible] HT

theorem readsScript.ext {h h' : Heap} {v : ScriptV} {c : Script} (r : readsScript (ph h) v c) (x : Ext h h') : readsScript (ph h') v c := r.up x.sub

theorem sheet_out {h : Heap} {v : Value} {xs : List Int} {lo hi : Int} (hv : reads h v xs) (hn : xs.length ≤ 1000000000) : HT P 40 [v, int lo, int hi] h fun r h' => r = .bool (xs.any (outB lo hi)) ∧ Ext h h' :=
  (sheet_outside hv hn).mono fun _ _ ⟨_, e, e', x⟩ => ⟨by rw [e', e], x⟩

def opWrong (n : Nat) (o : Op) : Bool := decide (deedCheck o n ≠ 0)
/-- 'sheet.Check', as a function. -/
def checkOf (x : Script) : Int :=
  if x.t < 1 ∨ x.t > 256 ∨ x.m < 1 ∨ x.m > 1048576 then 1 else if longOf x then 2 else
  if (decide (x.programs.length = 0) || x.plan.any (outB (-1) 1000) || x.draws.any (outB 0 1000)) then 4 else if x.programs.any (fun p => p.any (opWrong x.programs.length)) then 4 else 0

theorem longOf_false {x : Script} (h : longOf x = false) : x.programs.length ≤ 8 ∧ x.plan.length ≤ 200 ∧ x.draws.length ≤ 64 ∧ ∀ p ∈ x.programs, p.length ≤ 32 := by
  simp [longOf] at h
  obtain ⟨⟨⟨h1, h2⟩, h3⟩, h4⟩ := h
  exact ⟨h1, h2, h3, fun p hp => h4 p hp⟩

theorem sheet_Check {h : Heap} {sv : ScriptV} {x : Script} (hs : readsScript (ph h) sv x) (hn : x.programs.length ≤ 1000000000) : HT P 20 [agg sv] h fun r h' => r = int (checkOf x) ∧ Ext h h' := by
  have hs0 := hs
  obtain ⟨t, m, ⟨pa, pn, pc⟩, ⟨qa, qn, qc⟩, ⟨da, dn, dc⟩⟩ := sv
  have et := hs.t
  have em := hs.m
  simp only at et em
  subst et; subst em
  have e1 := hs.programs.len
  simp only at e1
  obtain ⟨vs, r1, r2, r3⟩ := hs.programs
  refine u20 ?_
  refine box [int x.t, int x.m, .slice pa pn pc, .slice qa qn qc, .slice da dn dc] (Sat.old h) rfl (fun b1 h1 x1 _ H => ?_)
  refine jn1 (fun t h' => t = .bool (decide (x.t < 1 ∨ x.t > 256 ∨ x.m < 1 ∨ x.m > 1048576)) ∧ h1 = h') ?_ ?_
  · intro K hK
    repeat' (first | refine jnI ?_ | refine gdI ?_ | refine gqI ?_ | refine fun (_ : Env) => ?_ | refine l0 H rfl ?_ | refine l1 H rfl ?_ | refine l2 H rfl ?_ | refine l3 H rfl ?_ | refine getA rfl ?_ | refine cmp (fun _ => ?_) (fun _ => ?_))
    all_goals exact hK _ _ ⟨by first | exact bT (by omega) | exact bF (by omega), rfl⟩
  rintro _ _ ⟨rfl, rfl⟩ _
  unfold checkOf
  by_cases c0 : x.t < 1 ∨ x.t > 256 ∨ x.m < 1 ∨ x.m > 1048576
  · rw [decide_eq_true c0, if_pos c0]; exact ⟨rfl, x1⟩
  rw [decide_eq_false c0, if_neg c0]
  refine lA H rfl ?_
  refine callX (sheet_long (sv := ⟨x.t, x.m, ⟨pa, pn, pc⟩, ⟨qa, qn, qc⟩, ⟨da, dn, dc⟩⟩) (hs0.ext x1) hn) (fun h2 x2 => ?_)
  cases cl : longOf x with
  | true => exact ⟨rfl, x1.trans x2⟩
  | false =>
  obtain ⟨b1', b2', b3', b4'⟩ := longOf_false cl
  have H := H.ext x2
  have x2 := x1.trans x2
  refine jn1 (fun t h' => t = .bool (decide (x.programs.length = 0) || x.plan.any (outB (-1) 1000) || x.draws.any (outB 0 1000)) ∧ Ext h h' ∧ Sat h' [pt b1 (cells [int x.t, int x.m, .slice pa pn pc, .slice qa qn qc, .slice da dn dc] 25), old h]) ?_ ?_
  · intro K hK
    refine l0 H rfl ?_
    refine cmp (fun c => ?_) (fun c => ?_)
    · repeat (first | refine jnI ?_ | refine gdI ?_ | refine gqI ?_ | refine fun (_ : Env) => ?_)
      exact hK _ _ ⟨by have : x.programs.length = 0 := by omega
                       simp [this], x2, H⟩
    have c' : ¬ x.programs.length = 0 := by omega
    repeat (first | refine jnI ?_ | refine gdI ?_ | refine gqI ?_ | refine fun (_ : Env) => ?_)
    refine l0 H rfl ?_
    repeat (first | refine jnI ?_ | refine gdI ?_ | refine gqI ?_ | refine fun (_ : Env) => ?_)
    refine callX (sheet_out (xs := x.plan) (readsP.ext (h := h) hs.plan x2) (by omega)) (fun h3 x3 => ?_)
    have H := H.ext x3
    have x3 := x2.trans x3
    cases c2 : x.plan.any (outB (-1) 1000) with
    | true =>
      repeat (first | refine jnI ?_ | refine gdI ?_ | refine gqI ?_ | refine fun (_ : Env) => ?_)
      exact hK _ _ ⟨by simp [c2], x3, H⟩
    | false =>
    repeat (first | refine jnI ?_ | refine gdI ?_ | refine gqI ?_ | refine fun (_ : Env) => ?_)
    refine l0 H rfl ?_
    repeat (first | refine jnI ?_ | refine gdI ?_ | refine gqI ?_ | refine fun (_ : Env) => ?_)
    refine callX (sheet_out (xs := x.draws) (readsP.ext (h := h) hs.draws x3) (by omega)) (fun h4 x4 => ?_)
    have H := H.ext x4
    have x4 := x3.trans x4
    exact hK _ _ ⟨by simp only [c2, decide_eq_false c']; rfl, x4, H⟩
  rintro _ h3 ⟨rfl, x3, H⟩ _
  cases cf : (decide (x.programs.length = 0) || x.plan.any (outB (-1) 1000) || x.draws.any (outB 0 1000)) with
  | true => exact ⟨rfl, x3⟩
  | false =>
  refine l0 H rfl ?_
  refine lp1 Nat (fun k => int k) (fun k h' => k ≤ vs.length ∧ Ext h h' ∧ Sat h' [pt b1 (cells [int x.t, int x.m, .slice pa pn pc, .slice qa qn qc, .slice da dn dc] 25), old h] ∧ ∀ i, i < k → ∀ p, x.programs[i]? = some p → p.any (opWrong x.programs.length) = false) (fun k => vs.length - k) 0 rfl ⟨by omega, x3, H, fun i hi => by omega⟩ ?_
  rintro k h4 ⟨hk, x4, H, hno⟩ _
  refine cmp (fun hlt => ?_) (fun hge => ?_)
  · have hlt' : k < vs.length := by omega
    have hx := List.getElem?_eq_getElem hlt'
    have hx' := List.getElem?_eq_getElem (show k < x.programs.length by omega)
    obtain ⟨b, o, e, _, hr⟩ := readsP.get (readsP.ext (h := h) r1 x4) hx
    have hp := r3 k _ _ hx hx'
    have hpl := hp.len
    have hp32 := b4' _ (List.getElem_mem (show k < x.programs.length by omega))
    obtain ⟨sl, hsl⟩ : ∃ s, vs[k] = s := ⟨_, rfl⟩
    obtain ⟨pr, hpr⟩ : ∃ s, x.programs[k] = s := ⟨_, rfl⟩
    rw [hsl] at hp hpl hr
    rw [hpr] at hp hpl hx' hp32
    obtain ⟨sa, sn, sc⟩ := sl
    simp only at hpl
    subst e
    refine idx k rfl (by omega) ?_
    refine rd1 (v := .slice sa sn sc) (hr 0 _ rfl) ?_
    obtain ⟨ws, q1, q2, q3⟩ := hp
    refine lp1 Nat (fun j => int j) (fun j h' => j ≤ ws.length ∧ Ext h h' ∧ Sat h' [pt b1 (cells [int x.t, int x.m, .slice (some ⟨b, o, none⟩) pn pc, .slice qa qn qc, .slice da dn dc] 25), old h] ∧ ∀ i, i < j → ∀ p, pr[i]? = some p → opWrong x.programs.length p = false) (fun j => ws.length - j) 0 rfl ⟨by omega, x4, H, fun i hi => by omega⟩ ?_
    rintro j h5 ⟨hj, x5, H, hno2⟩ _
    refine cmp (fun hlt2 => ?_) (fun hge2 => ?_)
    · have hlt2' : j < ws.length := by omega
      have hy := List.getElem?_eq_getElem hlt2'
      have hy' := List.getElem?_eq_getElem (show j < pr.length by omega)
      obtain ⟨b', o', e', _, hr'⟩ := readsP.get (readsP.ext (h := h) q1 x5) hy
      obtain ⟨ka, kb, kc, kd, ke⟩ := q3 j _ _ hy hy'
      subst e'
      refine idx j rfl (by omega) ?_
      refine rdn (vs := Cel.cells ws[j]) rfl hr' ?_
      refine nw H (fun b6 h6 x6 _ H => ?_)
      refine sA H (Cel.cells ws[j]) rfl rfl rfl rfl (fun h7 hx7 H => ?_)
      have x7 : Ext h h7 := H.old_ext m2
      refine lA H rfl ?_
      refine l1 H rfl ?_
      refine callX (deed_Check (p := pn) ka kb kc kd (readsP.ext (h := h) ke x7)) (fun h8 x8 => ?_)
      have H := H.ext x8
      have x8 := x7.trans x8
      have epn : (pn : Int) = (x.programs.length : Nat) := by omega
      rw [epn]
      refine cmp (fun cw => ?_) (fun cw => ?_)
      · refine ⟨?_, x8⟩
        have : x.programs.any (fun p => p.any (opWrong x.programs.length)) = true := any_at hx' (any_at hy' (by simp only [opWrong]; exact decide_eq_true cw))
        rw [this]; rfl
      · refine ari64 (by omega) ?_
        exact ⟨j + 1, by omega, rfl, hlt2', x8, H.drop, any_next hno2 hy' (by simp only [opWrong]; exact decide_eq_false cw)⟩
    · have : j = pr.length := by omega
      subst this
      refine ari64 (by omega) ?_
      exact ⟨k + 1, by omega, rfl, hlt', x5, H, any_next hno hx' (any_none hno2)⟩
  · have : k = x.programs.length := by omega
    subst this
    exact ⟨by rw [any_none hno]; rfl, x4⟩

end Go.Sl
end

section
namespace Go.Sl
open Go
attribute [local irreducible] HT

/-- Two parts as one. -/
theorem Sat.merge {h : Heap} {A B C : HP} {L : List HP} (H : Sat h (A :: B :: L)) (hc : ∀ s, star A B s → C s) : Sat h (C :: L) :=
  SatP.imp (SatP.star.2 H) hc

theorem star_up {A B : HP} {s : PH} (h : star A B s) (ua : ∀ t, Sub t s → A t → A s) (ub : ∀ t, Sub t s → B t → B s) : A s ∧ B s := by
  obtain ⟨s1, s2, _, a, b, p, q⟩ := h
  exact ⟨ua s1 a p, ub s2 b q⟩

theorem copy_op {h : Heap} {ov : OpV} {cs : List Cs} (hc : reads h ov.cases.v cs) (hn : cs.length ≤ 1000000) :
    HT P 35 [agg ov] h fun r h' => ∃ cv : SlV, r = agg (⟨ov.kind, ov.a, ov.b, cv, ov.dflt⟩ : OpV) ∧ Sat h' [(fun s => readsP s cv.v cs), whole h] := by
  obtain ⟨k, a, b, cases, d⟩ := ov
  refine u35 ?_
  refine box [int k, int a, int b, cases.v, .bool d] (Sat.whole h) rfl (fun b1 h1 x1 _ H => ?_)
  refine nw H (fun b2 h2 x2 _ H => ?_)
  refine l1 H rfl ?_
  refine call (clone_cs H (hc.ext (x1.trans x2)) (by omega)) ?_
  rintro r h3 ⟨x3, H⟩
  obtain ⟨ra, rc, rfl⟩ := (own_reads H m0).len
  refine s2 H (.slice ra cs.length rc) rfl rfl rfl (fun h4 H => ?_)
  have H4 := H.re 3 [2, 1, 0] rfl rfl
  refine lA H4 rfl ?_
  have H5 := H4.front 1 rfl
  refine sA H5 [int k, int a, int b, .slice ra cs.length rc, .bool d] rfl rfl rfl rfl (fun h5 _ H => ?_)
  refine lA H rfl ?_
  exact ⟨⟨ra, cs.length, rc⟩, rfl, SatP.cons (fun _ t => t) (SatP.imp (H.re 3 [2] rfl rfl) fun t ht => own_readsP ht)⟩

def casesP (vs : List OpV) (l : List Op) : HP := fun s => vs.length = l.length ∧ ∀ (i : Nat) (x : OpV) (o : Op), vs[i]? = some x → l[i]? = some o → x.kind = o.kind ∧ x.a = o.a ∧ x.b = o.b ∧ x.dflt = o.dflt ∧ readsP s x.cases.v o.cases

theorem casesP_snoc {vs : List OpV} {l : List Op} {x : OpV} {o : Op} {s t : PH} (h : casesP vs l s) (e1 : x.kind = o.kind) (e2 : x.a = o.a) (e3 : x.b = o.b) (e4 : x.dflt = o.dflt) (hr : readsP t x.cases.v o.cases) {u : PH} (a : Sub s u) (b : Sub t u) : casesP (vs ++ [x]) (l ++ [o]) u := by
  refine ⟨by simp [h.1], fun i y p hy hp => ?_⟩
  by_cases hi : i < vs.length
  · rw [List.getElem?_append_left hi] at hy
    rw [List.getElem?_append_left (by rw [← h.1]; exact hi)] at hp
    obtain ⟨q1, q2, q3, q4, q5⟩ := h.2 i y p hy hp
    exact ⟨q1, q2, q3, q4, q5.up a⟩
  · have : i = vs.length := by have := (List.getElem?_eq_some_iff.1 hy).1; simp at this; omega
    subst this
    simp at hy
    rw [h.1] at hp
    simp at hp
    subst hy; subst hp
    exact ⟨e1, e2, e3, e4, hr.up b⟩

theorem each_op {h : Heap} {v : Value} {l : List Op} (hr : readsOps (ph h) v l) (hn : l.length ≤ 1000) (hcs : ∀ o ∈ l, o.cases.length ≤ 1000000) :
    HT P 34 [v, fnv 35] h fun r h' => ∃ rv : SlV, r = rv.v ∧ Sat h' [(fun s => readsOps s rv.v l), whole h] := by
  obtain ⟨vs, q1, q2, q3⟩ := hr
  obtain ⟨a, c, rfl⟩ := q1.len
  refine u34 ?_
  refine lp2 (Nat × Value) (fun g => g.2) (fun g => int g.1) (fun g h' => g.1 ≤ vs.length ∧ ∃ vs' : List OpV, vs'.length = g.1 ∧ Sat h' [own 39 g.2 vs', casesP vs' (l.take g.1), whole h]) (fun g => vs.length - g.1) (0, .slice none 0 0) rfl rfl
    ⟨by omega, [], rfl, own_new (SatP.imp (SatP.star.1 (SatP.imp (Sat.whole h) fun s hs => ⟨fun _ => none, s, fun _ => .inl rfl, fun _ _ h => by simp at h, Sub.refl _, trivial, hs⟩) : Sat h [fun _ => True, whole h]) fun t _ => ⟨by simp, fun i x o hx => by simp at hx⟩) _⟩ ?_
  rintro ⟨k, v'⟩ h1 ⟨hk, vs', hl', H⟩ _
  simp only at hk hl' H
  have x1 := H.whole_ext m2
  refine cmp (fun hlt => ?_) (fun hge => ?_)
  · have hlt' : k < vs.length := by omega
    have hx := List.getElem?_eq_getElem hlt'
    have hx' := List.getElem?_eq_getElem (show k < l.length by omega)
    obtain ⟨b, o, e, _, hr⟩ := readsP.get (readsP.ext (h := h) q1 x1) hx
    subst e
    obtain ⟨ka, kb, kc, kd, ke⟩ := q3 k _ _ hx hx'
    refine idx k rfl (by omega) ?_
    refine rdn (vs := Cel.cells vs[k]) rfl hr ?_
    have hcl := hcs _ (List.getElem_mem (show k < l.length by omega))
    refine nw H (fun b6 h6 x6 _ H => ?_)
    refine sA H (Cel.cells vs[k]) rfl rfl rfl rfl (fun h7 hx7 H => ?_)
    refine lA H rfl ?_
    refine callf (copy_op (readsP.ext (h := h) ke (H.whole_ext m3)) hcl) ?_
    rintro _ h2 ⟨cv, rfl, H2⟩
    obtain ⟨x2, H⟩ := H.lift H2
    refine fil rfl ?_
    refine app1 (⟨vs[k].kind, vs[k].a, vs[k].b, cv, vs[k].dflt⟩ : OpV) (H.re 3 [2, 0] rfl rfl) rfl rfl rfl (by omega) (fun v2 h3 H => ?_)
    refine ari64 (by omega) ?_
    refine ⟨(k + 1, v2), by simp; omega, rfl, rfl, hlt', vs' ++ [⟨vs[k].kind, vs[k].a, vs[k].b, cv, vs[k].dflt⟩], by simp [hl'], ?_⟩
    refine SatP.cons (fun t ht => ?_) H
    refine SatP.imp (SatP.star.2 ht) fun u ⟨s1, s2, _, a1, a2, p1, p2⟩ => ?_
    have et : l.take (k + 1) = l.take k ++ [l[k]'(by omega)] := by rw [List.take_add_one, hx']; rfl
    simp only
    rw [et]
    exact casesP_snoc (x := ⟨vs[k].kind, vs[k].a, vs[k].b, cv, vs[k].dflt⟩) p2 ka kb kc kd p1 a2 a1
  · have : k = vs.length := by omega
    subst this
    obtain ⟨va, vc, rfl⟩ := (own_reads H m0).len
    refine ⟨⟨va, vs'.length, vc⟩, rfl, SatP.imp (SatP.star.2 H) fun u ⟨s1, s2, _, a1, a2, p1, p2⟩ => ?_⟩
    rw [q2, List.take_length] at p2
    exact ⟨vs', (own_readsP p1).up a1, p2.1, fun i x o hx ho => by
      obtain ⟨z1, z2, z3, z4, z5⟩ := p2.2 i x o hx ho
      exact ⟨z1, z2, z3, z4, z5.up a2⟩⟩

theorem copy_prog {h : Heap} {v : Value} {l : List Op} (hr : readsOps (ph h) v l) (hn : l.length ≤ 1000) (hcs : ∀ o ∈ l, o.cases.length ≤ 1000000) :
    HT P 33 [v] h fun r h' => ∃ rv : SlV, r = rv.v ∧ Sat h' [(fun s => readsOps s rv.v l), whole h] := by
  refine u33 ?_
  exact call (each_op hr hn hcs) fun _ _ x => x

def progsP (vs : List SlV) (l : List (List Op)) : HP := fun s => vs.length = l.length ∧ ∀ (i : Nat) (x : SlV) (o : List Op), vs[i]? = some x → l[i]? = some o → readsOps s x.v o

theorem progsP_snoc {vs : List SlV} {l : List (List Op)} {x : SlV} {o : List Op} {s t : PH} (h : progsP vs l s) (hr : readsOps t x.v o) {u : PH} (a : Sub s u) (b : Sub t u) : progsP (vs ++ [x]) (l ++ [o]) u := by
  refine ⟨by simp [h.1], fun i y p hy hp => ?_⟩
  by_cases hi : i < vs.length
  · rw [List.getElem?_append_left hi] at hy
    rw [List.getElem?_append_left (by rw [← h.1]; exact hi)] at hp
    exact (h.2 i y p hy hp).up a
  · have : i = vs.length := by have := (List.getElem?_eq_some_iff.1 hy).1; simp at this; omega
    subst this
    simp at hy
    rw [h.1] at hp
    simp at hp
    subst hy; subst hp
    exact hr.up b

theorem each_prog {h : Heap} {v : Value} {l : List (List Op)} (hr : readsProgs (ph h) v l) (hn : l.length ≤ 1000) (hn2 : ∀ p ∈ l, p.length ≤ 1000) (hcs : ∀ p ∈ l, ∀ o ∈ p, o.cases.length ≤ 1000000) :
    HT P 32 [v, fnv 33] h fun r h' => ∃ rv : SlV, r = rv.v ∧ Sat h' [(fun s => readsProgs s rv.v l), whole h] := by
  obtain ⟨vs, q1, q2, q3⟩ := hr
  obtain ⟨a, c, rfl⟩ := q1.len
  refine u32 ?_
  refine lp2 (Nat × Value) (fun g => g.2) (fun g => int g.1) (fun g h' => g.1 ≤ vs.length ∧ ∃ vs' : List SlV, vs'.length = g.1 ∧ Sat h' [own 36 g.2 vs', progsP vs' (l.take g.1), whole h]) (fun g => vs.length - g.1) (0, .slice none 0 0) rfl rfl
    ⟨by omega, [], rfl, own_new (SatP.imp (SatP.star.1 (SatP.imp (Sat.whole h) fun s hs => ⟨fun _ => none, s, fun _ => .inl rfl, fun _ _ h => by simp at h, Sub.refl _, trivial, hs⟩) : Sat h [fun _ => True, whole h]) fun t _ => ⟨by simp, fun i x o hx => by simp at hx⟩) _⟩ ?_
  rintro ⟨k, v'⟩ h1 ⟨hk, vs', hl', H⟩ _
  simp only at hk hl' H
  have x1 := H.whole_ext m2
  refine cmp (fun hlt => ?_) (fun hge => ?_)
  · have hlt' : k < vs.length := by omega
    have hx := List.getElem?_eq_getElem hlt'
    have hx' := List.getElem?_eq_getElem (show k < l.length by omega)
    obtain ⟨b, o, e, _, hr⟩ := readsP.get (readsP.ext (h := h) q1 x1) hx
    subst e
    have ke := q3 k _ _ hx hx'
    refine idx k rfl (by omega) ?_
    refine rd1 (v := vs[k].v) (hr 0 _ rfl) ?_
    have hm := List.getElem_mem (show k < l.length by omega)
    refine callf (copy_prog (ke.up x1.sub) (hn2 _ hm) (hcs _ hm)) ?_
    rintro _ h2 ⟨cv, rfl, H2⟩
    obtain ⟨x2, H⟩ := H.lift H2
    refine fil rfl ?_
    refine app1 cv (H.re 2 [1, 0] rfl rfl) rfl rfl rfl (by omega) (fun v2 h3 H => ?_)
    refine ari64 (by omega) ?_
    refine ⟨(k + 1, v2), by simp; omega, rfl, rfl, hlt', vs' ++ [cv], by simp [hl'], ?_⟩
    refine SatP.cons (fun t ht => ?_) H
    refine SatP.imp (SatP.star.2 ht) fun u ⟨s1, s2, _, a1, a2, p1, p2⟩ => ?_
    have et : l.take (k + 1) = l.take k ++ [l[k]'(by omega)] := by rw [List.take_add_one, hx']; rfl
    simp only
    rw [et]
    exact progsP_snoc p2 p1 a2 a1
  · have : k = vs.length := by omega
    subst this
    obtain ⟨va, vc, rfl⟩ := (own_reads H m0).len
    refine ⟨⟨va, vs'.length, vc⟩, rfl, SatP.imp (SatP.star.2 H) fun u ⟨s1, s2, _, a1, a2, p1, p2⟩ => ?_⟩
    rw [q2, List.take_length] at p2
    exact ⟨vs', (own_readsP p1).up a1, p2.1, fun i x o hx ho => (p2.2 i x o hx ho).up a2⟩

/-- 'Copy': all that is read of it lies in memory of its own. -/
theorem sheet_Copy {h : Heap} {sv : ScriptV} {x : Script} (hs : readsScript (ph h) sv x) (hn : x.programs.length ≤ 1000) (hn2 : ∀ p ∈ x.programs, p.length ≤ 1000) (hcs : ∀ p ∈ x.programs, ∀ o ∈ p, o.cases.length ≤ 1000000) (hp : x.plan.length ≤ 1000000) (hd : x.draws.length ≤ 1000000) :
    HT P 15 [agg sv] h fun r h' => ∃ pl dr : Value, ∃ sv' : ScriptV, sv'.plan.v = pl ∧ sv'.draws.v = dr ∧ sv'.t = sv.t ∧ sv'.m = sv.m ∧ r = agg sv' ∧ Sat h' [own 3 pl x.plan, own 3 dr x.draws, (fun s => readsProgs s sv'.programs.v x.programs), whole h] := by
  obtain ⟨t, m, progs, plan, draws⟩ := sv
  refine u15 ?_
  refine box [int t, int m, progs.v, plan.v, draws.v] (Sat.whole h) rfl (fun b1 h1 x1 _ H => ?_)
  refine nw H (fun b2 h2 x2 _ H => ?_)
  refine l1 H rfl ?_
  refine call (each_prog (hs.programs.up (x1.trans x2).sub) hn hn2 hcs) ?_
  rintro _ h3 ⟨rv, rfl, H3⟩
  obtain ⟨x3, H⟩ := H.lift H3
  refine s2 H rv.v rfl rfl rfl (fun h4 H => ?_)
  have x4 := H.whole_ext m3
  refine l2 H rfl ?_
  refine l2 H rfl ?_
  refine call (clone_int H (readsP.ext (h := h) hs.plan x4) (by omega)) ?_
  rintro r1 h5 ⟨x5, H⟩
  refine ⟨l3 H rfl rfl, ?_⟩
  obtain ⟨ra, rc, rfl⟩ := (own_reads H m0).len
  refine call (clone_int H (readsP.ext (h := h) hs.draws (x4.trans x5)) (by omega)) ?_
  rintro r2 h6 ⟨x6, H⟩
  obtain ⟨qa, qc, rfl⟩ := (own_reads H m0).len
  refine s4 H (.slice ra x.plan.length rc) rfl rfl rfl (fun h7 H => ?_)
  refine s4 H (.slice qa x.draws.length qc) rfl rfl rfl (fun h8 H => ?_)
  have H4 := H.re 5 [4, 3, 1, 0, 2] rfl rfl
  refine lA H4 rfl ?_
  have H5 := H4.front 1 rfl
  refine sA H5 [int t, int m, rv.v, .slice ra x.plan.length rc, .slice qa x.draws.length qc] rfl rfl rfl rfl (fun h9 _ H => ?_)
  refine lA H rfl ?_
  refine ⟨_, _, ⟨t, m, rv, ⟨ra, x.plan.length, rc⟩, ⟨qa, x.draws.length, qc⟩⟩, rfl, rfl, rfl, rfl, rfl, ?_⟩
  exact H.re 5 [2, 3, 4] rfl rfl

end Go.Sl
end

section
namespace Go.Sl
open Go
attribute [local irreducible] HT

theorem SatP.flat : ∀ {M L : List HP} {t : PH}, SatP ((fun s => SatP M s) :: L) t → SatP (M ++ L) t
  | [], _, _, h => h.drop
  | A :: M, L, t, h => by
    have h1 : SatP (Sl.star A (fun s => SatP M s) :: L) t := SatP.imp h fun s ⟨s1, s2, d, a, b, p, q⟩ => ⟨s1, s2, d, a, b, p, q⟩
    exact SatP.cons (fun _ h => SatP.flat h) (SatP.star.1 h1)
theorem SatP.unflat : ∀ {M L : List HP} {t : PH}, SatP (M ++ L) t → SatP ((fun s => SatP M s) :: L) t
  | [], L, t, h => ⟨fun _ => none, t, fun _ => .inl rfl, fun _ _ h => by simp at h, Sub.refl _, trivial, h⟩
  | A :: M, L, t, h => by
    have h1 := SatP.star.2 (SatP.cons (fun _ h => SatP.unflat h) h)
    exact SatP.imp h1 fun s ⟨s1, s2, d, a, b, p, q⟩ => ⟨s1, s2, d, a, b, p, q⟩

theorem lc0 {h : Heap} {L : List HP} {b o T : Nat} {cs : List Value} {v : Value} {K : Value → Prop} (H : Sat h (pt b (cells cs T) :: L)) (hv : cs[o]? = some v) (k : K v) : RD1 h (.pointer (some ⟨b, o, none⟩)) K := l0 H (by simpa using hv) k

structure Lm where
  crew : List One
  nm : List (Option Nat)
  chans : List PipeS
  plan : List Int
  draws : List Int
  trace : List Ev
  pan : Bool

def numI : Option Nat → Int
  | none => -1
  | some k => k
def numV (o : Option Nat) : Value := int (numI o)

structure LV where
  t : Int
  m : Int
  progs : Value
  planV : Value
  drawsV : Value
  cu : Nat
  cr : Nat
  pipes : Value
  all : Value
  trace : Value
  ps : List Nat

def LV.cells (v : LV) (s : Lm) : List Value := [int v.t, int v.m, v.progs, v.planV, v.drawsV, ptr v.cu, ptr v.cr, v.pipes] ++ (s.nm.map numV ++ [v.all, v.trace, .bool s.pan])

structure LV.ok (v : LV) (s : Lm) : Prop where
  nm8 : s.nm.length = 8
  pl : v.ps.length = s.chans.length
  nm : ∀ k, some k ∈ s.nm → k < s.chans.length

def LV.parts (v : LV) (x : Script) (lp : Nat) (s : Lm) : List HP :=
  [pt lp (Sl.cells (v.cells s) 62), cursorAt v.cu s.plan s.draws, crewAt v.cr s.crew, own 101 v.pipes (ptrsOf s.nm v.ps), own 101 v.all (v.ps.map some), own 34 v.trace s.trace, pipesAt v.ps s.chans, (fun t => readsProgs t v.progs x.programs)]

def loomAt (x : Script) (lp : Nat) (s : Lm) : HP := fun t => ∃ v : LV, v.ok s ∧ SatP (v.parts x lp s) t

theorem loom_open {h : Heap} {x : Script} {lp : Nat} {s : Lm} {L : List HP} (H : Sat h (loomAt x lp s :: L)) : ∃ v : LV, v.ok s ∧ Sat h (v.parts x lp s ++ L) := by
  obtain ⟨v, H⟩ := SatP.ex.1 H
  obtain ⟨s1, s2, d, a, b, p, q⟩ := H
  exact ⟨v, p.1, SatP.flat ⟨s1, s2, d, a, b, p.2, q⟩⟩
theorem loom_shut {t : PH} {x : Script} {lp : Nat} {s : Lm} {L : List HP} (v : LV) (ok : v.ok s) (H : SatP (v.parts x lp s ++ L) t) : SatP (loomAt x lp s :: L) t := by
  obtain ⟨s1, s2, d, a, b, p, q⟩ := SatP.unflat H
  exact ⟨s1, s2, d, a, b, ⟨v, ok, p⟩, q⟩

theorem loom_close {h : Heap} {x : Script} {lp : Nat} {s : Lm} {L : List HP} (v : LV) (ok : v.ok s) (H : Sat h (v.parts x lp s ++ L)) : Sat h (loomAt x lp s :: L) := loom_shut v ok H

theorem LV.len {v : LV} {s : Lm} (h : s.nm.length = 8) : (v.cells s).length = 19 := by simp [LV.cells, h]
theorem LV.g16 {v : LV} {s : Lm} (h : s.nm.length = 8) : (v.cells s)[16]? = some v.all := by simp [LV.cells, List.getElem?_append, h]
theorem LV.g17 {v : LV} {s : Lm} (h : s.nm.length = 8) : (v.cells s)[17]? = some v.trace := by simp [LV.cells, List.getElem?_append, h]
theorem LV.g18 {v : LV} {s : Lm} (h : s.nm.length = 8) : (v.cells s)[18]? = some (.bool s.pan) := by simp [LV.cells, List.getElem?_append, h]
theorem LV.gn {v : LV} {s : Lm} (h : s.nm.length = 8) {i : Nat} {o : Option Nat} (ho : s.nm[i]? = some o) : (v.cells s)[8 + i]? = some (numV o) := by
  have hi := (List.getElem?_eq_some_iff.1 ho).1
  have e : (v.cells s)[8 + i]? = (s.nm.map numV ++ [v.all, v.trace, .bool s.pan])[i]? := by
    unfold LV.cells
    rw [List.getElem?_append_right (by simp)]
    congr 1; simp
  rw [e, List.getElem?_append_left (by simpa using hi), List.getElem?_map, ho]; rfl

theorem set_pre {A B : List Value} {k : Nat} {w : Value} : (A ++ B).set (A.length + k) w = A ++ B.set k w := by
  rw [List.set_append_right _ _ (by omega)]; congr 1; congr 1; omega

theorem LV.set_tail {v : LV} {s : Lm} (h : s.nm.length = 8) (k : Nat) (w : Value) : (v.cells s).set (16 + k) w = [int v.t, int v.m, v.progs, v.planV, v.drawsV, ptr v.cu, ptr v.cr, v.pipes] ++ (s.nm.map numV ++ [v.all, v.trace, .bool s.pan].set k w) := by
  have e1 : 16 + k = ([int v.t, int v.m, v.progs, v.planV, v.drawsV, ptr v.cu, ptr v.cr, v.pipes] : List Value).length + ((s.nm.map numV).length + k) := by simp [h]; omega
  unfold LV.cells
  rw [e1, set_pre, set_pre]

theorem LV.s16 {v : LV} {s : Lm} (h : s.nm.length = 8) (w : Value) : (v.cells s).set 16 w = LV.cells { v with all := w } s := LV.set_tail h 0 w
theorem LV.s17 {v : LV} {s : Lm} (h : s.nm.length = 8) (w : Value) : (v.cells s).set 17 w = LV.cells { v with trace := w } s := LV.set_tail h 1 w
theorem LV.s18 {v : LV} {s : Lm} (h : s.nm.length = 8) (b : Bool) : (v.cells s).set 18 (.bool b) = LV.cells v { s with pan := b } := LV.set_tail h 2 _
theorem LV.sn {v : LV} {s : Lm} (h : s.nm.length = 8) (i : Nat) (hi : i < 8) (o : Option Nat) : (v.cells s).set (8 + i) (numV o) = LV.cells v { s with nm := s.nm.set i o } := by
  have e1 : 8 + i = ([int v.t, int v.m, v.progs, v.planV, v.drawsV, ptr v.cu, ptr v.cr, v.pipes] : List Value).length + i := by simp
  unfold LV.cells
  rw [e1, set_pre, List.set_append_left _ _ (by simp [h]; omega), List.map_set]

def bareE (k g : Int) : Ev := ⟨k, g, -1, -1, -1, -1, false, false⟩
def Lm.note (s : Lm) (e : Ev) : Lm := { s with trace := s.trace ++ [e] }

theorem loom_note {h : Heap} {x : Script} {lp : Nat} {s : Lm} {L : List HP} {e : Ev} (H : Sat h (loomAt x lp s :: L)) (hb : s.trace.length ≤ 100000000) :
    HT P 28 [ptr lp, agg e] h fun r h' => r = .tuple #[] ∧ Sat h' (loomAt x lp (s.note e) :: L) := by
  refine u28 ?_
  refine box (Cel.cells e) H rfl (fun b1 h1 x1 _ H => ?_)
  obtain ⟨v, ok, H⟩ := loom_open (SatP.swap H)
  refine lc0 H (LV.g17 ok.nm8) ?_
  refine lA (H.front 8 rfl) rfl ?_
  refine fil rfl ?_
  refine ⟨lc0 (SatP.swap (H.push _)) (LV.g17 ok.nm8) rfl, ?_⟩
  refine app1 e (H.front 5 rfl) rfl rfl rfl (by omega) (fun v' h2 H => ?_)
  have H2 := H.front 1 rfl
  obtain ⟨ta, tc, rfl⟩ := (own_reads H m0).len
  refine s0 H2 (.slice ta (s.trace ++ [e]).length tc) rfl rfl (by rw [LV.len ok.nm8]; rfl) (fun h3 H => ?_)
  rw [LV.s17 ok.nm8] at H
  refine ⟨rfl, loom_shut { v with trace := .slice ta (s.trace ++ [e]).length tc } ⟨ok.nm8, ok.pl, ok.nm⟩ ?_⟩
  exact H.re 9 [0, 2, 3, 4, 5, 1, 6, 7] rfl rfl

end Go.Sl
end

section
namespace Go.Sl
open Go
attribute [local irreducible] HT

theorem loom_facts {h : Heap} {x : Script} {lp : Nat} {s : Lm} {L : List HP} (H : Sat h L) (hm : loomAt x lp s ∈ L) : ∃ (v : LV) (L' : List HP), v.ok s ∧ Sat h (v.parts x lp s ++ L') := by
  obtain ⟨i, hi⟩ := List.mem_iff_getElem?.1 hm
  obtain ⟨v, ok, H'⟩ := loom_open (H.front i hi)
  exact ⟨v, _, ok, H'⟩

theorem loom_progs {h : Heap} {x : Script} {lp : Nat} {s : Lm} {v : LV} {L : List HP} (H : Sat h (v.parts x lp s ++ L)) : readsProgs (ph h) v.progs x.programs := by
  obtain ⟨t, a, p⟩ := H.mem (A := fun t => readsProgs t v.progs x.programs) (by simp [LV.parts])
  exact readsProgs.up p a

def Lm.verdict (s : Lm) : Int := if s.pan then 3 else if overOf s.crew ≠ 0 then overOf s.crew else if s.plan.length = 0 then 4 else 0

theorem loom_Verdict {h : Heap} {x : Script} {lp : Nat} {s : Lm} {L : List HP} (H : Sat h L) (hm : loomAt x lp s ∈ L) :
    HT P 12 [ptr lp] h fun r h' => r = int s.verdict ∧ Ext h h' := by
  obtain ⟨v, L', ok, H⟩ := loom_facts H hm
  refine u12 ?_
  unfold Lm.verdict
  refine lc0 H (LV.g18 ok.nm8) ?_
  cases hp : s.pan with
  | true => exact ⟨rfl, Ext.refl _⟩
  | false =>
    refine lc0 H (v := ptr v.cr) rfl ?_
    refine callX (crew_Over H m2) (fun h1 x1 => ?_)
    have H := H.ext x1
    refine cmp (fun c => ?_) (fun c => ?_)
    · rw [if_neg (by simp), if_pos c]; exact ⟨rfl, x1⟩
    rw [if_neg (by simp), if_neg c]
    refine lc0 H (v := ptr v.cu) rfl ?_
    refine callE (Left_cursor (H.front 1 rfl)) ?_
    refine getA rfl ?_
    refine getA rfl ?_
    refine cmp (fun c => ?_) (fun c => ?_)
    · rw [if_pos (by omega)]; exact ⟨rfl, x1⟩
    · rw [if_neg (by omega)]; exact ⟨rfl, x1⟩

abbrev exitOp : Op := ⟨9, 0, 0, [], false⟩
abbrev zeroOp : Op := ⟨0, 0, 0, [], false⟩
def opOf (x : Script) (o : One) : Op := ((x.programs[o.program.toNat]?).bind fun p => p[o.place.toNat]?).getD exitOp
def Lm.opAt (x : Script) (s : Lm) (g : Int) : Op := match at? s.crew g with | some o => opOf x o | none => exitOp

def oneOk (x : Script) (o : One) : Prop := 0 ≤ o.program ∧ o.program < x.programs.length ∧ 0 ≤ o.place
structure OpIs (ov : OpV) (o : Op) : Prop where
  kind : ov.kind = o.kind
  a : ov.a = o.a
  b : ov.b = o.b
  dflt : ov.dflt = o.dflt

/-- An operation's cases, in memory of their own. -/
def csP (ov : OpV) (o : Op) : HP := fun s => readsP s ov.cases.v o.cases

theorem loom_op {h : Heap} {x : Script} {lp : Nat} {s : Lm} {L : List HP} {g : Int} {o : One} (H : Sat h L) (hm : loomAt x lp s ∈ L) (hg : at? s.crew g = some o) (ho : oneOk x o) (hcs : ∀ p ∈ x.programs, ∀ o ∈ p, o.cases.length ≤ 1000000) (hn : ∀ p ∈ x.programs, p.length ≤ 1000000) :
    HT P 49 [ptr lp, int g] h fun r h' => ∃ ov : OpV, r = agg ov ∧ OpIs ov (opOf x o) ∧ Ext h h' ∧ Sat h' (csP ov (opOf x o) :: L) := by
  suffices key : HT P 49 [ptr lp, int g] h fun r h' => ∃ ov : OpV, r = agg ov ∧ OpIs ov (opOf x o) ∧ Sat h' [csP ov (opOf x o), whole h] from
    key.mono fun r h' ⟨ov, e, i, H'⟩ => ⟨ov, e, i, H.lift H'⟩
  refine u49 ?_
  refine nw (Sat.whole h) (fun b1 h1 x1 _ H1 => ?_)
  obtain ⟨v, L', ok, H⟩ := loom_facts (H.ext x1) hm
  refine lc0 H (v := ptr v.cr) rfl ?_
  refine callE (crew_At H m2) ?_
  rw [hg]
  refine getA rfl ?_
  refine getA rfl ?_
  refine getA rfl ?_
  refine lc0 H (v := v.progs) rfl ?_
  obtain ⟨vs, r1, r2, r3⟩ := loom_progs H
  obtain ⟨pa, pc, hpv⟩ := r1.len
  rw [hpv] at r1 ⊢
  obtain ⟨k, hk⟩ := Int.eq_ofNat_of_zero_le ho.1
  have hkl : k < x.programs.length := by have := ho.2.1; omega
  have hx := List.getElem?_eq_getElem (show k < vs.length by omega)
  have hx' := List.getElem?_eq_getElem hkl
  obtain ⟨b, o', e, _, hr⟩ := readsP.get r1 hx
  subst e
  refine idx k hk (by omega) ?_
  obtain ⟨⟨sa, sn, sc⟩, hsl⟩ : ∃ sl, vs[k] = sl := ⟨_, rfl⟩
  obtain ⟨pr, hpr⟩ : ∃ pr, x.programs[k] = pr := ⟨_, rfl⟩
  have hops := r3 k _ _ hx hx'
  rw [hsl] at hr hops
  rw [hpr] at hops hx'
  have hsn : sn = pr.length := hops.len
  have hpl : pr.length ≤ 1000000 := by rw [← hpr]; exact hn _ (List.getElem_mem hkl)
  obtain ⟨j, hj⟩ := Int.eq_ofNat_of_zero_le ho.2.2
  have eop : opOf x o = (pr[j]?).getD exitOp := by
    unfold opOf; rw [hk, hj]; simp only [Int.toNat_natCast, hx', Option.bind_some]
  refine rd1 (v := .slice sa sn sc) (hr 0 _ rfl) ?_
  simp only [hj]
  refine cmp (fun c => ?_) (fun c => ?_)
  · have : pr[j]? = none := by simp; omega
    refine fil rfl ?_
    refine sA H1 (Cel.cells (⟨9, 0, 0, ⟨none, 0, 0⟩, false⟩ : OpV)) rfl rfl rfl rfl (fun h2 _ H2 => ?_)
    refine lA H2 rfl ?_
    rw [eop, this]
    exact ⟨⟨9, 0, 0, ⟨none, 0, 0⟩, false⟩, rfl, ⟨rfl, rfl, rfl, rfl⟩, SatP.imp (SatP.star.1 (SatP.imp H2.drop fun t ht => ⟨fun _ => none, t, fun _ => .inl rfl, fun _ _ h => by simp at h, Sub.refl _, trivial, ht⟩) : Sat h2 [fun _ => True, whole h]) fun t _ => readsP.nil t⟩
  · have hjl : j < pr.length := by omega
    obtain ⟨ws, q1, q2, q3⟩ := hops
    have hy := List.getElem?_eq_getElem (show j < ws.length by omega)
    have hy' := List.getElem?_eq_getElem hjl
    refine lc0 H (v := v.progs) rfl ?_
    rw [hpv]
    refine idx k hk (by omega) ?_
    refine rd1 (v := .slice sa sn sc) (hr 0 _ rfl) ?_
    obtain ⟨b', o'', e', _, hr'⟩ := readsP.get q1 hy
    simp only at e'
    subst e'
    refine idx j rfl (by omega) ?_
    refine rdn (vs := Cel.cells ws[j]) rfl hr' ?_
    obtain ⟨ka, kb, kc, kd, ke⟩ := q3 j _ _ hy hy'
    have hcl : pr[j].cases.length ≤ 1000000 := hcs pr (by rw [← hpr]; exact List.getElem_mem hkl) _ (List.getElem_mem hjl)
    rw [eop, hy', Option.getD_some]
    obtain ⟨⟨wk, wa, wb, wc, wd⟩, hw⟩ : ∃ w, ws[j] = w := ⟨_, rfl⟩
    obtain ⟨oo, hoo⟩ : ∃ w, pr[j] = w := ⟨_, rfl⟩
    rw [hw] at ka kb kc kd ke
    rw [hoo] at ka kb kc kd ke hcl
    rw [hw, hoo]
    refine nw H1 (fun b3 h3 x3 _ H3 => ?_)
    refine sA H3 [int wk, int wa, int wb, wc.v, .bool wd] rfl rfl rfl rfl (fun h4 hx4 H4 => ?_)
    have x4 : Ext h1 h4 := hx4 h1 x3 (by assumption)
    refine l0 H4 rfl ?_
    refine call (clone_cs H4 (readsP.ext (h := h1) ke x4) (by omega)) ?_
    rintro r h5 ⟨x5, H5⟩
    obtain ⟨ra, rc, rfl⟩ := (own_reads H5 m0).len
    refine s1 H5 (.slice ra oo.cases.length rc) rfl rfl rfl (fun h6 H6 => ?_)
    refine lA1 H6 rfl ?_
    refine sA (H6.front 2 rfl) [int wk, int wa, int wb, .slice ra oo.cases.length rc, .bool wd] rfl rfl rfl rfl (fun h7 _ H7 => ?_)
    refine lA H7 rfl ?_
    refine ⟨⟨wk, wa, wb, ⟨ra, oo.cases.length, rc⟩, wd⟩, rfl, ⟨ka, kb, kc, kd⟩, ?_⟩
    exact SatP.imp (H7.re 3 [1] rfl rfl) fun t ht => own_readsP ht

def Lm.chosen (s : Lm) (n : Int) : Int := if n = -1 then -1 else (inOf s.crew 0).getD (n.tmod (inOf s.crew 0).length).toNat 0

theorem loom_chosen {h : Heap} {x : Script} {lp : Nat} {s : Lm} {L : List HP} {n : Int} (H : Sat h L) (hm : loomAt x lp s ∈ L) (hn : -1 ≤ n) (ha : inOf s.crew 0 ≠ []) :
    HT P 48 [ptr lp, int n] h fun r h' => r = int (s.chosen n) ∧ Ext h h' := by
  obtain ⟨v, L', ok, H⟩ := loom_facts H hm
  refine u48 ?_
  unfold Lm.chosen
  refine cmp (fun c => ?_) (fun c => ?_)
  · rw [if_pos c]; exact ⟨rfl, Ext.refl _⟩
  rw [if_neg c]
  refine lc0 H (v := ptr v.cr) rfl ?_
  refine call (crew_Able H m2) ?_
  rintro r h1 ⟨hr, x1⟩
  have hl : s.crew.length ≤ 512 := by
    obtain ⟨_, hl, _⟩ := crew_facts H m2; exact hl
  have hi : (inOf s.crew 0).length ≤ s.crew.length := inTo_le s.crew 0 s.crew.length
  refine callE (pick_Of (by omega) ha hr (by omega)) ?_
  refine getA rfl ?_
  refine getA rfl ?_
  exact ⟨rfl, x1⟩

end Go.Sl
end

section
namespace Go.Sl
open Go
attribute [local irreducible] HT

def Lm.turn (s : Lm) (g a b c : Int) : Lm := { s with crew := (Sl.turn s.crew g a b c).1 }
def Lm.num (s : Lm) (c : Int) : Int := numI (nameP s.nm c)

theorem loom_turn {h : Heap} {x : Script} {lp : Nat} {s : Lm} {v : LV} {L : List HP} {g a b c : Int} (ok : v.ok s) (H : Sat h (crewAt v.cr (Sl.turn s.crew g a b c).1 :: (v.parts x lp s).eraseIdx 2 ++ L)) : Sat h (loomAt x lp (s.turn g a b c) :: L) :=
  loom_shut v ⟨ok.nm8, ok.pl, ok.nm⟩ (H.re 8 [1, 2, 0, 3, 4, 5, 6, 7] rfl rfl)

theorem at_lt {α : Type} {l : List α} {i : Nat} (h : i < l.length) : at? l (i : Int) = some l[i] := by rw [at?_nat, List.getElem?_eq_getElem h]

theorem nameP_at {nm : List (Option Nat)} {c : Int} (h0 : 0 ≤ c) (h1 : c < nm.length) : ∃ i : Nat, c = i ∧ i < nm.length ∧ nm[i]? = some (nameP nm c) := by
  obtain ⟨i, rfl⟩ := Int.eq_ofNat_of_zero_le h0
  have hi : i < nm.length := by omega
  refine ⟨i, rfl, hi, ?_⟩
  unfold nameP
  rw [at_lt hi, List.getElem?_eq_getElem hi]; rfl

/-- The pointer of a name. -/
theorem ptrs_get {nm : List (Option Nat)} {ps : List Nat} {i : Nat} {o : Option Nat} (h : nm[i]? = some o) : (ptrsOf nm ps)[i]? = some (o.bind fun k => ps[k]?) := by
  unfold ptrsOf; rw [List.getElem?_map, h]; rfl

def Lm.wake (s : Lm) (e : Ev) : Lm := ({ (s.note { e with kind := 7 }) with chans := s.chans.map (·.drop e.g) } : Lm).turn e.g 1 0 1

theorem reads_of {h : Heap} {L : List HP} {T : Nat} {v : Value} {xs : List (Option Nat)} (i : Nat) (H : Sat h L) (hi : L[i]? = some (own T v xs)) : reads h v xs := own_reads H (List.mem_of_getElem? hi)

theorem loom_wake {h : Heap} {x : Script} {lp : Nat} {s : Lm} {L : List HP} {e : Ev} (H : Sat h (loomAt x lp s :: L)) (hb : s.trace.length ≤ 100000000) (hc : s.chans.length ≤ 1000000) :
    HT P 73 [ptr lp, agg e] h fun r h' => r = .tuple #[] ∧ Sat h' (loomAt x lp (s.wake e) :: L) := by
  obtain ⟨k, g, ch, cs, vl, mt, sd, okk⟩ := e
  refine u73 ?_
  refine box [int k, int g, int ch, int cs, int vl, int mt, .bool sd, .bool okk] H rfl (fun b1 h1 x1 _ H => ?_)
  refine s0 H (int 7) rfl rfl rfl (fun h2 H => ?_)
  refine lA H rfl ?_
  refine call (loom_note (e := ⟨7, g, ch, cs, vl, mt, sd, okk⟩) (SatP.swap H) hb) ?_
  rintro _ h3 ⟨rfl, H⟩
  obtain ⟨v, ok, H⟩ := loom_open H
  refine l0 (H.front 8 rfl) rfl ?_
  refine lc0 H (LV.g16 ok.nm8) ?_
  refine call (fork_Leave (H.front 6 rfl) ok.pl (by rw [ok.pl]; exact Nat.le_trans hc (by omega)) (fun h' H' => reads_of 4 H' rfl)) ?_
  rintro _ h4 ⟨⟨n, rfl⟩, H⟩
  refine lc0 (H.front 1 rfl) (v := ptr v.cr) rfl ?_
  refine l0 (H.front 8 rfl) rfl ?_
  refine call (crew_Wake (H.front 3 rfl)) ?_
  rintro _ h5 ⟨rfl, H⟩
  refine ⟨rfl, ?_⟩
  have H := H.re 9 [2, 3, 0, 4, 5, 6, 1, 7] rfl rfl
  exact loom_shut v ⟨ok.nm8, by simpa [Lm.wake, Lm.turn, Lm.note] using ok.pl, fun k hk => by simpa [Lm.wake, Lm.turn, Lm.note] using ok.nm k hk⟩ H

/-- 'park', as a function. -/
def Lm.park (s : Lm) (g : Int) (c : Cs) : Lm :=
  (({ (s.note ⟨6, g, s.num c.chan, -1, c.value, -1, c.send, false⟩) with chans := match nameP s.nm c.chan with | none => s.chans | some k => (match s.chans[k]? with | none => s.chans | some p => s.chans.set k (p.wait c.send ⟨g, -1, c.value⟩).1) } : Lm)).turn g 0 1 0

theorem loom_park {h : Heap} {x : Script} {lp : Nat} {s : Lm} {L : List HP} {g : Int} {c : Cs} (H : Sat h (loomAt x lp s :: L)) (hb : s.trace.length ≤ 100000000) (h0 : 0 ≤ c.chan) (h8 : c.chan < 8) :
    HT P 53 [ptr lp, int g, agg c] h fun r h' => r = .tuple #[] ∧ Sat h' (loomAt x lp (s.park g c) :: L) := by
  obtain ⟨sd, ch, vl⟩ := c
  simp only at h0 h8
  refine u53 ?_
  refine box [.bool sd, int ch, int vl] H rfl (fun b1 h1 x1 _ H => ?_)
  refine callX entry_Bare (fun h2 x2 => ?_)
  refine nw (H.ext x2) (fun b3 h3 x3 _ H => ?_)
  refine sA H (Cel.cells (bareE 6 g)) rfl rfl rfl rfl (fun h4 _ H => ?_)
  have H1 := H.re 3 [1, 0, 2] rfl rfl
  refine l0 H1 rfl ?_
  obtain ⟨v, ok, H2⟩ := loom_open (H1.re 3 [2, 0, 1] rfl rfl)
  obtain ⟨i, rfl, hi, hnm⟩ := nameP_at h0 (by rw [ok.nm8]; exact h8)
  refine idx i rfl (by rw [← ok.nm8]; exact hi) ?_
  refine lc0 H2 (by rw [show 0 + 8 + i * 1 = 8 + i by omega]; exact LV.gn ok.nm8 hnm) ?_
  refine l0 H1 rfl ?_
  refine l0 H1 rfl ?_
  have H3 := H1.re 3 [1, 0, 2] rfl rfl
  have hnum : numV (nameP s.nm i) = int (s.num i) := rfl
  rw [hnum]
  refine s0 H3 (int (s.num i)) rfl rfl rfl (fun h5 H3 => ?_)
  refine ⟨l1 H3 rfl rfl, l1 H3 rfl rfl, ?_⟩
  refine s0 H3 (int vl) rfl rfl rfl (fun h6 H3 => ?_)
  refine ⟨l1 H3 rfl rfl, ?_⟩
  refine s0 H3 (.bool sd) rfl rfl rfl (fun h7 H3 => ?_)
  refine lA H3 rfl ?_
  refine call (loom_note (e := ⟨6, g, s.num i, -1, vl, -1, sd, false⟩) (H3.re 3 [2, 0, 1] rfl rfl) hb) ?_
  rintro _ h8 ⟨rfl, H⟩
  obtain ⟨v, ok, H⟩ := loom_open H
  refine lc0 H (v := v.pipes) rfl ?_
  refine l0 (H.front 9 rfl) rfl ?_
  have hrd := reads_of 3 H rfl
  have hpt := ptrs_get (ps := v.ps) hnm
  obtain ⟨pb, po, pc, hpv, hpi, hr⟩ := hrd.get' hpt
  rw [hpv]
  refine idx i rfl hpi ?_
  refine rd1 (hr 0 _ rfl) ?_
  refine l0 (H.front 9 rfl) rfl ?_
  refine l0 (H.front 9 rfl) rfl ?_
  refine fil rfl ?_
  have fin : ∀ (ch' : List PipeS) (h9 : Heap), (match nameP s.nm i with | none => s.chans | some k => (match s.chans[k]? with | none => s.chans | some p => s.chans.set k (p.wait sd ⟨g, -1, vl⟩).1)) = ch' → v.ps.length = ch'.length →
      Sat h9 (pipesAt v.ps ch' :: pt lp (cells (v.cells (s.note ⟨6, g, s.num i, -1, vl, -1, sd, false⟩)) 62) :: cursorAt v.cu s.plan s.draws :: crewAt v.cr s.crew :: own 101 v.pipes (ptrsOf s.nm v.ps) :: own 101 v.all (v.ps.map some) :: own 34 v.trace (s.trace ++ [⟨6, g, s.num i, -1, vl, -1, sd, false⟩]) :: (fun t => readsProgs t v.progs x.programs) :: L) →
      NILC (ptr lp) fun t42 => FADDR 6 t42 fun t43 => RD1 h9 t43 fun t44 => HT P 75 [t44, int g] h9 fun t46 h10 => (fun (r : Value) h' => r = Value.tuple #[] ∧ Sat h' (loomAt x lp (s.park g ⟨sd, i, vl⟩) :: L)) (Value.tuple #[]) h10 := by
    intro ch' h9 hch hlen H
    refine lc0 (H.front 1 rfl) (v := ptr v.cr) rfl ?_
    refine call (crew_Park (H.front 3 rfl)) ?_
    rintro _ h10 ⟨rfl, H⟩
    refine ⟨rfl, ?_⟩
    subst hch
    have H := H.re 8 [2, 3, 0, 4, 5, 6, 1, 7] rfl rfl
    exact loom_shut v ⟨ok.nm8, hlen, fun k hk => Nat.lt_of_lt_of_eq (ok.nm k hk) (ok.pl.symm.trans hlen)⟩ H
  have Hq := H.re 10 [6, 0, 1, 2, 3, 4, 5, 7] rfl rfl
  cases hk : nameP s.nm i with
  | none =>
    refine call (pipe_Wait_nil (w := ⟨g, -1, vl⟩) Hq) ?_
    rintro _ h9 ⟨rfl, H⟩
    exact fin s.chans h9 (by simp only [hk]) ok.pl H
  | some k =>
    have hkl := ok.nm k (by rw [← hk]; exact List.mem_of_getElem? hnm)
    have hkl : k < s.chans.length := hkl
    have hps := List.getElem?_eq_getElem (show k < v.ps.length by rw [ok.pl]; exact hkl)
    have hss := List.getElem?_eq_getElem hkl
    rw [show ((some k).bind fun k => v.ps[k]?) = some (v.ps[k]'(by rw [ok.pl]; exact hkl)) from hps]
    refine call (pipe_Wait (w := ⟨g, -1, vl⟩) (pipes_pick hps hss Hq)) ?_
    rintro _ h9 ⟨rfl, H⟩
    exact fin _ h9 (by simp only [hk, hss]) (by rw [List.length_set]; exact ok.pl) (pipes_put hps hss H)

end Go.Sl
end

section
namespace Go.Sl
open Go
attribute [local irreducible] HT

theorem tryOf_len (nm : List (Option Nat)) (ss : List PipeS) (c : Cs) : (tryOf nm ss c).1.length = ss.length := by
  unfold tryOf; split
  · rfl
  · split
    · rfl
    · split <;> simp

def mateOf (got : GotS) : Int := if got.woke then got.mate.g else -1
def commEv (g : Int) (num : Int) (c : Cs) (place : Int) (got : GotS) : Ev :=
  if c.send then ⟨3, g, num, place, c.value, mateOf got, true, got.ok⟩ else ⟨4, g, num, place, got.value, mateOf got, false, got.ok⟩
def commWake (g : Int) (num : Int) (c : Cs) (got : GotS) : Ev := ⟨0, got.mate.g, num, got.mate.case, if c.send then c.value else got.mate.value, g, !c.send, true⟩

/-- 'communicate', as a function. -/
def Lm.communicate (s : Lm) (g : Int) (c : Cs) (place : Int) : Lm × Bool :=
  if (tryOf s.nm s.chans c).2.2 ≠ 0 then (({ s with chans := (tryOf s.nm s.chans c).1 } : Lm).note (bareE 12 g), false)
  else (if (tryOf s.nm s.chans c).2.1.woke then ((({ s with chans := (tryOf s.nm s.chans c).1 } : Lm).note (commEv g (s.num c.chan) c place (tryOf s.nm s.chans c).2.1)).turn g 0 0 1).wake (commWake g (s.num c.chan) c (tryOf s.nm s.chans c).2.1)
    else (({ s with chans := (tryOf s.nm s.chans c).1 } : Lm).note (commEv g (s.num c.chan) c place (tryOf s.nm s.chans c).2.1)).turn g 0 0 1, true)

set_option maxHeartbeats 2000000 in
theorem loom_communicate {h : Heap} {x : Script} {lp : Nat} {s : Lm} {L : List HP} {g : Int} {c : Cs} {place : Int} (H : Sat h (loomAt x lp s :: L)) (hb : s.trace.length ≤ 10000000) (hc : s.chans.length ≤ 1000000) (h0 : 0 ≤ c.chan) (h8 : c.chan < 8) :
    HT P 52 [ptr lp, int g, agg c, int place] h fun r h' => r = .bool (s.communicate g c place).2 ∧ Sat h' (loomAt x lp (s.communicate g c place).1 :: L) := by
  refine u52 ?_
  refine box (Cel.cells c) H rfl (fun b1 h1 x1 _ H => ?_)
  obtain ⟨v, ok, H2⟩ := loom_open (SatP.swap H)
  obtain ⟨i, hci, hi, hnm⟩ := nameP_at h0 (by rw [ok.nm8]; exact h8)
  refine l0 H rfl ?_
  refine idx i hci (by rw [← ok.nm8]; exact hi) ?_
  refine lc0 H2 (by rw [show 0 + 8 + i * 1 = 8 + i by omega]; exact LV.gn ok.nm8 hnm) ?_
  have hnum : numV (nameP s.nm c.chan) = int (s.num c.chan) := rfl
  rw [hnum]
  refine jn2 (fun t10 t11 h' => ∃ b10, t10 = ptr b10 ∧ t11 = int (tryOf s.nm s.chans c).2.2 ∧ Sat h' (pt b10 (cells (Cel.cells (tryOf s.nm s.chans c).2.1) 124) :: pt b1 (cells (Cel.cells c) 52) :: loomAt x lp { s with chans := (tryOf s.nm s.chans c).1 } :: L)) ?_ ?_
  · intro K hK
    have shut : ∀ {h'} {b10 : Nat}, Sat h' (pt b10 (cells (Cel.cells (tryOf s.nm s.chans c).2.1) 124) :: pipesAt v.ps (tryOf s.nm s.chans c).1 :: ((v.parts x lp s ++ pt b1 (cells (Cel.cells c) 52) :: L).eraseIdx 6)) → K (ptr b10) (int (tryOf s.nm s.chans c).2.2) h' := by
      intro h' b10 H
      refine hK _ _ _ ⟨b10, rfl, rfl, ?_⟩
      have H := H.re 10 [2, 3, 4, 5, 6, 7, 1, 8, 0, 9] rfl rfl
      have := loom_shut (s := { s with chans := (tryOf s.nm s.chans c).1 }) v ⟨ok.nm8, by rw [ok.pl]; exact (tryOf_len _ _ _).symm, fun k hk => Nat.lt_of_lt_of_eq (ok.nm k hk) (tryOf_len _ _ _).symm⟩ H
      exact Sat.re this 3 [1, 2, 0] rfl rfl
    refine lA H rfl ?_
    refine lc0 H2 (v := v.pipes) rfl ?_
    refine ⟨?_, ?_⟩
    · refine call (fork_Try (c := c) (H2.front 6 rfl) ok.pl (reads_of 3 H2 rfl)) ?_
      rintro _ h2 ⟨rfl, H⟩
      refine getA rfl ?_
      refine getA rfl ?_
      refine nw H (fun b10 h3 x3 _ H => ?_)
      refine ⟨lc0 (H.front 2 rfl) (v := v.pipes) rfl rfl, lA (H.front 9 rfl) rfl rfl, ?_⟩
      refine sA H (Cel.cells (tryOf s.nm s.chans c).2.1) rfl rfl rfl rfl (fun h4 _ H => ?_)
      exact shut H
    · refine nw H2 (fun b10 h3 x3 _ H => ?_)
      refine ⟨lc0 (H.front 1 rfl) (v := v.pipes) rfl rfl, lA (H.front 9 rfl) rfl rfl, ?_⟩
      refine call (fork_Try (c := c) (H.front 7 rfl) ok.pl (reads_of 4 H rfl)) ?_
      rintro _ h2 ⟨rfl, H⟩
      refine getA rfl ?_
      refine getA rfl ?_
      refine sA (H.front 1 rfl) (Cel.cells (tryOf s.nm s.chans c).2.1) rfl rfl rfl rfl (fun h4 _ H => ?_)
      exact shut H
  rintro _ _ h8 ⟨b10, rfl, rfl, H⟩ _
  clear H2
  have hb' : ({ s with chans := (tryOf s.nm s.chans c).1 } : Lm).trace.length ≤ 10000000 := hb
  have hc' : ({ s with chans := (tryOf s.nm s.chans c).1 } : Lm).chans.length ≤ 1000000 := by rw [show ({ s with chans := (tryOf s.nm s.chans c).1 } : Lm).chans.length = s.chans.length from tryOf_len _ _ _]; exact hc
  unfold Lm.communicate
  generalize hs1 : ({ s with chans := (tryOf s.nm s.chans c).1 } : Lm) = s1 at H hb' hc' ⊢
  generalize s.num c.chan = num at H ⊢
  generalize (tryOf s.nm s.chans c).2.2 = e at H ⊢
  generalize (tryOf s.nm s.chans c).2.1 = got at H ⊢
  clear hs1
  refine cmp (fun ce => ?_) (fun ce => ?_)
  · rw [if_pos ce]
    refine callX entry_Bare (fun h9 x9 => ?_)
    refine call (loom_note (e := bareE 12 g) ((H.ext x9).re 3 [2] rfl rfl) (by omega)) ?_
    rintro _ h10 ⟨rfl, H⟩
    exact ⟨rfl, H⟩
  rw [if_neg ce]
  obtain ⟨rd, gok, woke, gval, mate⟩ := got
  obtain ⟨mg, mc, mv⟩ := mate
  obtain ⟨sd, ch, vl⟩ := c
  refine l0 H rfl ?_
  refine l0 H rfl ?_
  refine fil rfl ?_
  refine nw H (fun b12 h11 x11 _ H => ?_)
  refine sA H [int 4, int g, int num, int place, int gval, int (-1), .bool false, .bool gok] rfl rfl rfl rfl (fun h12 _ H => ?_)
  refine jn0 (fun h' => Sat h' (pt b12 (cells (if sd then [int 3, int g, int num, int place, int vl, int (-1), .bool true, .bool gok] else [int 4, int g, int num, int place, int gval, int (-1), .bool false, .bool gok]) 34) :: pt b10 (cells [.bool rd, .bool gok, .bool woke, int gval, int mg, int mc, int mv] 124) :: pt b1 (cells [.bool sd, int ch, int vl] 52) :: loomAt x lp s1 :: L)) ?_ ?_
  · intro K hK
    have H1 := H.re 3 [2, 0, 1] rfl rfl
    refine l0 H1 rfl ?_
    cases sd with
    | false => exact hK _ H
    | true =>
      refine l0 H1 rfl ?_
      refine s0 H (int 3) rfl rfl rfl (fun h13 H => ?_)
      refine ⟨l2 H rfl rfl, ?_⟩
      refine s0 H (int vl) rfl rfl rfl (fun h13 H => ?_)
      refine s0 H (.bool true) rfl rfl rfl (fun h13 H => ?_)
      exact hK _ H
  rintro h16 H _
  refine jn0 (fun h' => Sat h' (pt b12 (cells (Cel.cells (commEv g num ⟨sd, ch, vl⟩ place ⟨rd, gok, woke, gval, ⟨mg, mc, mv⟩⟩)) 34) :: pt b10 (cells [.bool rd, .bool gok, .bool woke, int gval, int mg, int mc, int mv] 124) :: pt b1 (cells [.bool sd, int ch, int vl] 52) :: loomAt x lp s1 :: L)) ?_ ?_
  · intro K hK
    have H1 := H.re 2 [1, 0] rfl rfl
    refine l0 H1 rfl ?_
    cases woke with
    | false =>
      refine hK _ ?_
      cases sd <;> exact H
    | true =>
      refine l0 H1 rfl ?_
      cases sd with
      | false =>
        refine s0 H (int mg) rfl rfl rfl (fun h13 H => ?_)
        exact hK _ H
      | true =>
        refine s0 H (int mg) rfl rfl rfl (fun h13 H => ?_)
        exact hK _ H
  rintro h18 H _
  refine lA H rfl ?_
  refine call (loom_note (e := commEv g num ⟨sd, ch, vl⟩ place ⟨rd, gok, woke, gval, ⟨mg, mc, mv⟩⟩) (H.re 4 [3, 1, 2] rfl rfl) (by omega)) ?_
  rintro _ h19 ⟨rfl, H⟩
  have hb2 : (s1.note (commEv g num ⟨sd, ch, vl⟩ place ⟨rd, gok, woke, gval, ⟨mg, mc, mv⟩⟩)).trace.length ≤ 10000001 := by simp [Lm.note]; omega
  have hc2 : (s1.note (commEv g num ⟨sd, ch, vl⟩ place ⟨rd, gok, woke, gval, ⟨mg, mc, mv⟩⟩)).chans.length ≤ 1000000 := hc'
  generalize s1.note (commEv g num ⟨sd, ch, vl⟩ place ⟨rd, gok, woke, gval, ⟨mg, mc, mv⟩⟩) = s2 at H hb2 hc2 ⊢
  obtain ⟨v2, ok2, H⟩ := loom_open H
  refine lc0 H (v := ptr v2.cr) rfl ?_
  refine call (crew_Go (H.front 2 rfl)) ?_
  rintro _ h20 ⟨rfl, H⟩
  have H := loom_turn ok2 H
  have hb3 : (s2.turn g 0 0 1).trace.length ≤ 10000001 := hb2
  have hc3 : (s2.turn g 0 0 1).chans.length ≤ 1000000 := hc2
  generalize s2.turn g 0 0 1 = s3 at H hb3 hc3 ⊢
  refine jn0 (fun h' => Sat h' (loomAt x lp (if woke then s3.wake (commWake g num ⟨sd, ch, vl⟩ ⟨rd, gok, woke, gval, ⟨mg, mc, mv⟩⟩) else s3) :: L)) ?_ ?_
  · intro K hK
    have H1 := H.re 3 [1, 2, 0] rfl rfl
    refine l0 H1 rfl ?_
    cases woke with
    | false => exact hK _ (H1.re 3 [2] rfl rfl)
    | true =>
      refine l0 H1 rfl ?_
      refine l0 H1 rfl ?_
      refine l0 H1 rfl ?_
      refine l1 H1 rfl ?_
      refine fil rfl ?_
      refine nw H1 (fun b13 h21 x21 _ H => ?_)
      refine sA H [int 0, int mg, int num, int mc, int mv, int g, .bool (!sd), .bool true] rfl rfl rfl rfl (fun h22 _ H => ?_)
      refine jn0 (fun h' => Sat h' (pt b13 (cells (Cel.cells (commWake g num ⟨sd, ch, vl⟩ ⟨rd, gok, true, gval, ⟨mg, mc, mv⟩⟩)) 34) :: loomAt x lp s3 :: L)) ?_ ?_
      · intro K2 hK2
        refine l2 H rfl ?_
        cases sd with
        | false => exact hK2 _ (H.re 4 [0, 3] rfl rfl)
        | true =>
          refine l2 H rfl ?_
          refine s0 H (int vl) rfl rfl rfl (fun h23 H => ?_)
          exact hK2 _ (H.re 4 [0, 3] rfl rfl)
      rintro h24 H _
      refine lA H rfl ?_
      refine call (loom_wake (e := commWake g num ⟨sd, ch, vl⟩ ⟨rd, gok, true, gval, ⟨mg, mc, mv⟩⟩) H.drop (by omega) hc3) ?_
      rintro _ h25 ⟨rfl, H⟩
      exact hK _ H
  rintro h26 H _
  exact ⟨rfl, H⟩

end Go.Sl
end

section
namespace Go.Sl
open Go
attribute [local irreducible] HT

def stateOf (l : List One) (g : Int) : Int := match at? l g with | some x => x.state | none => 0
def wake1 (g num : Int) (s : Lm) (w : Wt) : Lm := if stateOf s.crew w.g = 1 then s.wake ⟨0, w.g, num, w.case, 0, g, false, false⟩ else s

/-- 'shut', as a function. -/
def Lm.shut (s : Lm) (g name : Int) : Lm × Bool :=
  match nameP s.nm name with
  | none => (s.note (bareE 12 g), false)
  | some k => match s.chans[k]? with
    | none => (s.note (bareE 12 g), false)
    | some p =>
      if p.closed then (s.note (bareE 12 g), false) else
      match p.snd.find? fun w => decide (stateOf (p.rcv.foldl (wake1 g (s.num name)) ((({ s with chans := s.chans.set k p.close.1 } : Lm).note { bareE 5 g with chan := s.num name }).turn g 0 0 1)).crew w.g = 1) with
      | some w => ((p.rcv.foldl (wake1 g (s.num name)) ((({ s with chans := s.chans.set k p.close.1 } : Lm).note { bareE 5 g with chan := s.num name }).turn g 0 0 1)).note (bareE 12 w.g), false)
      | none => (p.rcv.foldl (wake1 g (s.num name)) ((({ s with chans := s.chans.set k p.close.1 } : Lm).note { bareE 5 g with chan := s.num name }).turn g 0 0 1), true)

theorem wake1_trace (g num : Int) (s : Lm) (w : Wt) : (wake1 g num s w).trace.length ≤ s.trace.length + 1 ∧ (wake1 g num s w).chans.length = s.chans.length := by
  unfold wake1; split
  · simp [Lm.wake, Lm.turn, Lm.note]
  · simp
theorem wakes_trace (g num : Int) : ∀ (l : List Wt) (s : Lm), (l.foldl (wake1 g num) s).trace.length ≤ s.trace.length + l.length ∧ (l.foldl (wake1 g num) s).chans.length = s.chans.length
  | [], s => by simp
  | w :: r, s => by
    have h1 := wake1_trace g num s w
    have h2 := wakes_trace g num r (wake1 g num s w)
    simp only [List.foldl_cons, List.length_cons]
    omega

theorem set_same {α : Type} : ∀ {l : List α} {k : Nat} {a : α}, l[k]? = some a → l.set k a = l
  | [], _, _, h => by simp at h
  | x :: r, 0, a, h => by simp at h; simp [h]
  | x :: r, k + 1, a, h => by simp at h; simp [set_same h]

theorem loom_State1 {h : Heap} {x : Script} {lp : Nat} {s : Lm} {v : LV} {L : List HP} {g : Int} (H : Sat h (v.parts x lp s ++ L)) :
    HT P 77 [ptr v.cr, int g] h fun r h' => r = .tuple #[int (stateOf s.crew g), .bool (at? s.crew g).isSome] ∧ h' = h := crew_State H m2

theorem foldl_take_succ {α β : Type} (f : β → α → β) (b : β) {l : List α} {k : Nat} (h : k < l.length) : (l.take (k + 1)).foldl f b = f ((l.take k).foldl f b) l[k] := by
  rw [List.take_add_one, List.getElem?_eq_getElem h, List.foldl_append]; rfl

set_option maxHeartbeats 2000000 in
theorem loom_shut_ {h : Heap} {x : Script} {lp : Nat} {s : Lm} {L : List HP} {g : Int} {name : Int} (H : Sat h (loomAt x lp s :: L)) (hb : s.trace.length ≤ 10000000) (hc : s.chans.length ≤ 1000000) (h0 : 0 ≤ name) (h8 : name < 8) :
    HT P 54 [ptr lp, int g, int name] h fun r h' => r = .bool (s.shut g name).2 ∧ Sat h' (loomAt x lp (s.shut g name).1 :: L) := by
  refine u54 ?_
  obtain ⟨v, ok, H2⟩ := loom_open H
  obtain ⟨i, hci, hi, hnm⟩ := nameP_at h0 (by rw [ok.nm8]; exact h8)
  refine lc0 H2 (v := v.pipes) rfl ?_
  have hrd := reads_of 3 H2 rfl
  have hpt := ptrs_get (ps := v.ps) hnm
  obtain ⟨pb, po, pc, hpv, hpi, hr⟩ := hrd.get' hpt
  rw [hpv]
  refine idx i hci hpi ?_
  refine rd1 (hr 0 _ rfl) ?_
  have pan : ∀ {h1 : Heap}, Sat h1 (loomAt x lp s :: L) → HT P 29 [int 12, int g] h1 fun t35 h2 => HT P 28 [ptr lp, t35] h2 fun t36 h3 => Value.bool false = .bool (s.note (bareE 12 g), false).2 ∧ Sat h3 (loomAt x lp (s.note (bareE 12 g), false).1 :: L) := by
    intro h1 H
    refine callX entry_Bare (fun h9 x9 => ?_)
    refine call (loom_note (e := bareE 12 g) (H.ext x9) (by omega)) ?_
    rintro _ h10 ⟨rfl, H⟩
    exact ⟨rfl, H⟩
  unfold Lm.shut
  cases hk : nameP s.nm name with
  | none =>
    refine callE pipe_Close_nil ?_
    refine getA rfl ?_
    refine getA rfl ?_
    refine getA rfl ?_
    refine cmpT (by decide) ?_
    exact pan H
  | some k =>
    have hkl := ok.nm k (by rw [← hk]; exact List.mem_of_getElem? hnm)
    have hps := List.getElem?_eq_getElem (show k < v.ps.length by rw [ok.pl]; exact hkl)
    have hss := List.getElem?_eq_getElem hkl
    simp only [hss]
    obtain ⟨p, hp⟩ : ∃ p, s.chans[k] = p := ⟨_, rfl⟩
    rw [hp] at hss
    rw [hp]
    rw [show ((some k).bind fun k => v.ps[k]?) = some (v.ps[k]'(by rw [ok.pl]; exact hkl)) from hps]
    have H3 := pipes_pick hps hss (H2.front 6 rfl)
    have hlen : p.rcv.length ≤ 1024 := by
      obtain ⟨_, a, b, _, _, H4⟩ := pipe_open H3
      obtain ⟨t, _, ht⟩ := H4.mem m3
      exact (pew_reads ht).1
    have hlen2 : p.snd.length ≤ 1024 := by
      obtain ⟨_, a, b, _, _, H4⟩ := pipe_open H3
      obtain ⟨t, _, ht⟩ := H4.mem m2
      exact (pew_reads ht).1
    refine call (pipe_Close H3) ?_
    rintro _ h1 ⟨v1, v2, rfl, H⟩
    refine getA rfl ?_
    refine getA rfl ?_
    refine getA rfl ?_
    have H : Sat h1 (loomAt x lp { s with chans := s.chans.set k p.close.1 } :: own 122 v1 p.close.2.1 :: own 122 v2 p.close.2.2.1 :: L) := by
      have H5 := pipes_put hps hss (Sat.re H 4 [2, 3, 0, 1] rfl rfl)
      have H6 := Sat.re H5 10 [3, 4, 5, 6, 7, 8, 0, 9, 1, 2] rfl rfl
      exact loom_shut v ⟨ok.nm8, by rw [List.length_set]; exact ok.pl, fun k' hk' => by rw [List.length_set]; exact ok.nm k' hk'⟩ H6
    cases hcl : p.closed with
    | true =>
      have e : p.close = (p, [], [], 90) := by simp [PipeS.close, hcl]
      rw [e] at H ⊢
      refine cmpT (by show (90 : Int) ≠ 0; decide) ?_
      rw [set_same hss] at H
      exact pan (H.re 3 [0] rfl rfl)
    | false =>
      have e : p.close = ({ p with closed := true, snd := [], rcv := [] }, p.rcv, p.snd, 0) := by simp [PipeS.close, hcl]
      have e2 : p.close.2.2.2 = 0 := by rw [e]
      have e3 : p.close.2.1 = p.rcv := by rw [e]
      have e4 : p.close.2.2.1 = p.snd := by rw [e]
      rw [e3, e4] at H
      rw [e2]
      refine cmpF (by decide) ?_
      simp only [Bool.false_eq_true, if_false]
      have hnum : s.num name = ({ s with chans := s.chans.set k p.close.1 } : Lm).num name := rfl
      have hnm' : ({ s with chans := s.chans.set k p.close.1 } : Lm).nm[i]? = some (nameP s.nm name) := hnm
      have hb1 : ({ s with chans := s.chans.set k p.close.1 } : Lm).trace.length ≤ 10000000 := hb
      have hc1 : ({ s with chans := s.chans.set k p.close.1 } : Lm).chans.length ≤ 1000000 := by simpa using hc
      have hnv : numV (nameP s.nm name) = int (s.num name) := rfl
      generalize ({ s with chans := s.chans.set k p.close.1 } : Lm) = s1 at H hnm' hb1 hc1 ⊢
      generalize s.num name = num at hnv ⊢
      refine callX entry_Bare (fun h2 x2 => ?_)
      refine nw (H.ext x2) (fun b10 h3 x3 _ H => ?_)
      refine sA H (Cel.cells (bareE 5 g)) rfl rfl rfl rfl (fun h4 _ H => ?_)
      obtain ⟨v', ok', H7⟩ := loom_open (H.re 2 [1, 0] rfl rfl)
      refine idx i hci (by rw [← ok.nm8]; exact hi) ?_
      refine lc0 H7 (by rw [show 0 + 8 + i * 1 = 8 + i by omega]; exact LV.gn ok'.nm8 hnm') ?_
      rw [hnv]
      refine s0 H (int num) rfl rfl rfl (fun h5 H => ?_)
      refine lA H rfl ?_
      refine call (loom_note (e := { bareE 5 g with chan := num }) (H.re 2 [1, 0] rfl rfl) (by omega)) ?_
      rintro _ h6 ⟨rfl, H⟩
      have hb2 : (s1.note { bareE 5 g with chan := num }).trace.length ≤ 10000001 := by simp [Lm.note]; omega
      have hc2 : (s1.note { bareE 5 g with chan := num }).chans.length ≤ 1000000 := hc1
      generalize s1.note { bareE 5 g with chan := num } = s2 at H hb2 hc2 ⊢
      obtain ⟨w2, ok2, H⟩ := loom_open H
      refine lc0 H (v := ptr w2.cr) rfl ?_
      refine call (crew_Go (H.front 2 rfl)) ?_
      rintro _ h7 ⟨rfl, H⟩
      have H := loom_turn ok2 H
      have hb3 : (s2.turn g 0 0 1).trace.length ≤ 10000001 := hb2
      have hc3 : (s2.turn g 0 0 1).chans.length ≤ 1000000 := hc2
      generalize s2.turn g 0 0 1 = s3 at H hb3 hc3 ⊢
      obtain ⟨a1, c1, hv1⟩ := (own_reads H m2).len
      obtain ⟨a2, c2, hv2⟩ := (own_reads H m3).len
      subst hv1
      refine lp1 Nat (fun k => int k) (fun k h' => k ≤ p.rcv.length ∧ Sat h' (loomAt x lp ((p.rcv.take k).foldl (wake1 g num) s3) :: pt b10 (cells [int 5, int g, int num, int (-1), int (-1), int (-1), .bool false, .bool false] 34) :: own 122 (.slice a1 p.rcv.length c1) p.rcv :: own 122 v2 p.snd :: L)) (fun k => p.rcv.length - k) 0 rfl ⟨by omega, H⟩ ?_
      rintro j h8 ⟨hj, H⟩ _
      have hw := wakes_trace g num (p.rcv.take j) s3
      refine cmp (fun hlt => ?_) (fun hge => ?_)
      · have hlt' : j < p.rcv.length := by omega
        rw [List.length_take_of_le hj] at hw
        obtain ⟨b, o, e, _, hr⟩ := readsP.get (own_reads H m2) (List.getElem?_eq_getElem hlt')
        subst e
        refine jn0 (fun h' => Sat h' (loomAt x lp ((p.rcv.take (j + 1)).foldl (wake1 g num) s3) :: pt b10 (cells [int 5, int g, int num, int (-1), int (-1), int (-1), .bool false, .bool false] 34) :: own 122 (.slice (some ⟨b, o, none⟩) p.rcv.length c1) p.rcv :: own 122 v2 p.snd :: L)) ?_ ?_
        · intro K hK
          refine idx j rfl hlt' ?_
          refine rdn (vs := Cel.cells p.rcv[j]) rfl hr ?_
          rw [foldl_take_succ _ _ hlt'] at hK
          generalize (p.rcv.take j).foldl (wake1 g num) s3 = s4 at H hK hw
          generalize p.rcv[j] = w at hK ⊢
          obtain ⟨wg, wc, wv⟩ := w
          refine nw H (fun b12 h9 x9 _ H => ?_)
          refine sA H (Cel.cells (⟨wg, wc, wv⟩ : Wt)) rfl rfl rfl rfl (fun h10 _ H => ?_)
          obtain ⟨v4, ok4, H9⟩ := loom_open (H.re 2 [1, 0] rfl rfl)
          refine lc0 H9 (v := ptr v4.cr) rfl ?_
          refine l0 H rfl ?_
          refine callE (loom_State1 H9) ?_
          refine getA rfl ?_
          refine getA rfl ?_
          refine cmp (fun c => ?_) (fun c => ?_)
          · have ew : wake1 g num s4 ⟨wg, wc, wv⟩ = s4.wake ⟨0, wg, num, wc, 0, g, false, false⟩ := if_pos c
            rw [ew] at hK
            refine l0 H rfl ?_
            refine l0 (H.front 2 rfl) rfl ?_
            refine l0 H rfl ?_
            refine fil rfl ?_
            refine call (loom_wake (e := ⟨0, wg, num, wc, 0, g, false, false⟩) (H.re 2 [1] rfl rfl) (by omega) (by omega)) ?_
            rintro _ h11 ⟨rfl, H⟩
            exact hK _ H
          · have ew : wake1 g num s4 ⟨wg, wc, wv⟩ = s4 := if_neg c
            rw [ew] at hK
            exact hK _ (H.re 2 [1] rfl rfl)
        rintro h9 H _
        refine ari64 (by omega) ?_
        exact ⟨j + 1, by omega, rfl, hlt', H⟩
      · have : j = p.rcv.length := by omega
        subst this
        rw [List.take_length] at H hw
        generalize p.rcv.foldl (wake1 g num) s3 = s4 at H hw ⊢
        have hb4 : s4.trace.length ≤ 100000000 := by omega
        subst hv2
        refine lp1 Nat (fun k => int k) (fun k h' => k ≤ p.snd.length ∧ Sat h' (loomAt x lp s4 :: own 122 (.slice a2 p.snd.length c2) p.snd :: L) ∧ ∀ i, i < k → ∀ w, p.snd[i]? = some w → decide (stateOf s4.crew w.g = 1) = false) (fun k => p.snd.length - k) 0 rfl ⟨by omega, H.re 4 [0, 3] rfl rfl, fun i hi => by omega⟩ ?_
        rintro j h9 ⟨hj, H, hno⟩ _
        refine cmp (fun hlt => ?_) (fun hge => ?_)
        · have hlt' : j < p.snd.length := by omega
          have hx := List.getElem?_eq_getElem hlt'
          obtain ⟨b, o, e, _, hr⟩ := readsP.get (own_reads H m1) hx
          subst e
          refine idx j rfl hlt' ?_
          refine rdn (vs := Cel.cells p.snd[j]) rfl hr ?_
          obtain ⟨w, hwj⟩ : ∃ w, p.snd[j] = w := ⟨_, rfl⟩
          rw [hwj] at hx ⊢
          refine nw H (fun b12 h10 x10 _ H => ?_)
          refine sA H (Cel.cells w) rfl rfl rfl rfl (fun h11 _ H => ?_)
          obtain ⟨wg, wc, wv⟩ := w
          obtain ⟨v4, ok4, H9⟩ := loom_open (H.re 2 [1, 0] rfl rfl)
          refine lc0 H9 (v := ptr v4.cr) rfl ?_
          refine l0 H rfl ?_
          refine callE (loom_State1 H9) ?_
          refine getA rfl ?_
          refine getA rfl ?_
          refine cmp (fun c => ?_) (fun c => ?_)
          · have hf : p.snd.find? (fun w => decide (stateOf s4.crew w.g = 1)) = some ⟨wg, wc, wv⟩ := by
              rw [List.find?_eq_some_iff_getElem]
              refine ⟨decide_eq_true c, j, hlt', hwj, fun i hi => ?_⟩
              simpa using hno i hi _ (List.getElem?_eq_getElem (by omega))
            rw [hf]
            refine l0 H rfl ?_
            refine callX entry_Bare (fun h12 x12 => ?_)
            refine call (loom_note (e := bareE 12 wg) ((H.ext x12).re 3 [1] rfl rfl) hb4) ?_
            rintro _ h13 ⟨rfl, H⟩
            exact ⟨rfl, H⟩
          · refine ari64 (by omega) ?_
            refine ⟨j + 1, by omega, rfl, hlt', H.re 3 [1, 2] rfl rfl, any_next hno hx (decide_eq_false c)⟩
        · have : j = p.snd.length := by omega
          subst this
          have hf : p.snd.find? (fun w => decide (stateOf s4.crew w.g = 1)) = none := by
            rw [List.find?_eq_none]
            intro w hw2
            obtain ⟨i, hi, rfl⟩ := List.mem_iff_getElem.1 hw2
            rw [hno i hi _ (List.getElem?_eq_getElem hi)]; exact Bool.false_ne_true
          rw [hf]
          exact ⟨rfl, H.re 2 [0] rfl rfl⟩

end Go.Sl
end
