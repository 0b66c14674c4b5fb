/- Parts of the proof, laid together: G17 G18 G19 G20 G21 G22 G23 G24. No statement of the seat is proved here. -/
import Derived.Test.YtmimnelcopgcpaaGreatGB
set_option linter.unusedVariables false
set_option linter.unusedSimpArgs false
section
namespace Go.Sl
open Go
attribute [local irreducible] HT

theorem readyTo_mem {nm : List (Option Nat)} {ss : List PipeS} {cs : List Cs} {k : Nat} {z : Int} (h : z ∈ readyTo nm ss cs k) : ∃ i : Nat, z = i ∧ i < cs.length := by
  unfold readyTo at h
  obtain ⟨i, _, hi⟩ := List.mem_filterMap.1 h
  cases hc : cs[i]? with
  | none => simp [hc] at hi
  | some c =>
    rw [hc] at hi
    simp only at hi
    split at hi
    · exact ⟨i, by injection hi with hi; exact hi.symm, (List.getElem?_eq_some_iff.1 hc).1⟩
    · cases hi

theorem parkOf_len (nm : List (Option Nat)) (g : Int) (cs : List Cs) (ss : List PipeS) : (parkOf nm g cs ss).length = ss.length := by
  unfold parkOf; split
  · rfl
  · split
    · rfl
    · exact parkTo_len nm g cs ss _

theorem drawOf_lt {d : List Int} {n : Int} (hd : ∀ x ∈ d, 0 ≤ x) (hn : 1 ≤ n) : 0 ≤ drawOf d n ∧ drawOf d n < n := by
  unfold drawOf
  split
  · omega
  · have h0 : 0 ≤ d.headD 0 := by
      cases d with
      | nil => simp
      | cons x r => exact hd x (by simp)
    exact ⟨Int.tmod_nonneg _ h0, Int.tmod_lt_of_pos _ (by omega)⟩

/-- 'choose', as a function. -/
def Lm.choose (s : Lm) (g : Int) (o : Op) : Lm × Bool :=
  if 0 < (readyOf s.nm s.chans o.cases).length then
    ({ s with draws := drawLeft s.draws (readyOf s.nm s.chans o.cases).length } : Lm).communicate g
      (o.cases.getD ((readyOf s.nm s.chans o.cases).getD (drawOf s.draws (readyOf s.nm s.chans o.cases).length).toNat 0).toNat ⟨false, 0, 0⟩) ((readyOf s.nm s.chans o.cases).getD (drawOf s.draws (readyOf s.nm s.chans o.cases).length).toNat 0)
  else if o.dflt then ((s.note (bareE 8 g)).turn g 0 0 1, true)
  else (({ (s.note ⟨6, g, -1, o.cases.length, 0, -1, false, false⟩) with chans := parkOf s.nm g o.cases s.chans } : Lm).turn g 0 1 0, true)

theorem csP_reads {h : Heap} {L : List HP} {ov : OpV} {o : Op} (i : Nat) (H : Sat h L) (hi : L[i]? = some (csP ov o)) : reads h ov.cases.v o.cases := by
  obtain ⟨t, a, p⟩ := H.mem (List.mem_of_getElem? hi)
  exact readsP.up p a

set_option maxHeartbeats 2000000 in
theorem loom_choose {h : Heap} {x : Script} {lp : Nat} {s : Lm} {L : List HP} {g : Int} {ov : OpV} {o : Op} (io : OpIs ov o) (H : Sat h (loomAt x lp s :: csP ov o :: L)) (hb : s.trace.length ≤ 10000000) (hc : s.chans.length ≤ 1000000)
    (hch : ∀ c ∈ o.cases, 0 ≤ c.chan ∧ c.chan < 8) (hcl : o.cases.length ≤ 4) (hd : ∀ d ∈ s.draws, 0 ≤ d) :
    HT P 55 [ptr lp, int g, agg ov] h fun r h' => r = .bool (s.choose g o).2 ∧ Sat h' (loomAt x lp (s.choose g o).1 :: L) := by
  refine u55 ?_
  refine box [int ov.kind, int ov.a, int ov.b, ov.cases.v, .bool ov.dflt] H rfl (fun b5 h1 x1 _ H => ?_)
  obtain ⟨v, ok, H2⟩ := loom_open (H.re 3 [1, 2, 0] rfl rfl)
  refine l0 H rfl ?_
  refine lc0 H2 (v := v.pipes) rfl ?_
  refine call (fork_Ready_own H2 m6 ok.pl (reads_of 3 H2 rfl) (csP_reads 8 H2 rfl) (by omega)) ?_
  rintro r h2 H'
  obtain ⟨x2, H⟩ := H2.lift H'
  clear H2 H'
  have hrl := readyTo_le s.nm s.chans o.cases o.cases.length
  have hrm : ∀ z ∈ readyOf s.nm s.chans o.cases, ∃ i : Nat, z = i ∧ i < o.cases.length := fun z hz => readyTo_mem hz
  unfold Lm.choose
  have hpk := parkOf_len s.nm g o.cases s.chans
  obtain ⟨rdy, hrdy⟩ : ∃ l, readyOf s.nm s.chans o.cases = l := ⟨_, rfl⟩
  have hrl : rdy.length ≤ o.cases.length := by rw [← hrdy]; exact hrl
  rw [hrdy] at H hrm ⊢
  obtain ⟨ra, rc, rfl⟩ := (own_reads H m0).len
  refine cmp (fun c1 => ?_) (fun c1 => ?_)
  · rw [if_pos (by omega)]
    refine lc0 (H.front 1 rfl) (v := ptr v.cu) rfl ?_
    refine call (Draw_cursor (n := rdy.length) (H.front 2 rfl) (by omega) (by omega)) ?_
    rintro _ h3 ⟨rfl, H⟩
    obtain ⟨d0, d1⟩ := drawOf_lt (n := rdy.length) hd (by omega)
    obtain ⟨j, hj⟩ := Int.eq_ofNat_of_zero_le d0
    have hjl : j < rdy.length := by omega
    refine getA rfl ?_
    refine getA rfl ?_
    refine l0 (H.front 10 rfl) rfl ?_
    obtain ⟨ia, hia, hial⟩ := hrm rdy[j] (List.getElem_mem hjl)
    have hrr := own_reads H m1
    obtain ⟨b, o', e, _, hr⟩ := readsP.get hrr (List.getElem?_eq_getElem hjl)
    subst e
    rw [hia] at hr
    refine idx j hj hjl ?_
    refine rd1 (hr 0 _ rfl) ?_
    have hcv := csP_reads 9 H rfl
    obtain ⟨ca, cc, hcvv⟩ := hcv.len
    rw [hcvv] at hcv ⊢
    obtain ⟨b', o'', e', _, hr'⟩ := readsP.get hcv (List.getElem?_eq_getElem hial)
    subst e'
    refine idx ia rfl hial ?_
    refine rdn (vs := Cel.cells o.cases[ia]) rfl hr' ?_
    refine idx j hj hjl ?_
    refine rd1 (hr 0 _ rfl) ?_
    have e1 : rdy.getD (drawOf s.draws rdy.length).toNat 0 = ia := by rw [hj, Int.toNat_natCast, List.getD_eq_getElem?_getD, List.getElem?_eq_getElem hjl, Option.getD_some, hia]
    have e2 : o.cases.getD ia ⟨false, 0, 0⟩ = o.cases[ia] := by rw [List.getD_eq_getElem?_getD, List.getElem?_eq_getElem hial, Option.getD_some]
    rw [e1, Int.toNat_natCast, e2]
    obtain ⟨q1, q2⟩ := hch _ (List.getElem_mem hial)
    have H := loom_close (s := { s with draws := drawLeft s.draws rdy.length }) v ⟨ok.nm8, ok.pl, ok.nm⟩ (H.re 11 [2, 0, 3, 4, 5, 6, 7, 8] rfl rfl)
    exact call (loom_communicate (c := o.cases[ia]) H hb hc q1 q2) fun _ _ x => x
  rw [if_neg (by omega)]
  refine l0 (H.front 10 rfl) rfl ?_
  rw [← io.dflt]
  have H := H.re 11 [1, 2, 3, 4, 5, 6, 7, 8, 9, 10] rfl rfl
  cases ov.dflt with
  | true =>
    have H := loom_close v ok (H.re 10 [0, 1, 2, 3, 4, 5, 6, 7] rfl rfl)
    refine callX entry_Bare (fun h3 x3 => ?_)
    refine call (loom_note (e := bareE 8 g) (H.ext x3) (by omega)) ?_
    rintro _ h4 ⟨rfl, H⟩
    obtain ⟨v2, ok2, H⟩ := loom_open H
    refine lc0 H (v := ptr v2.cr) rfl ?_
    refine call (crew_Go (H.front 2 rfl)) ?_
    rintro _ h5 ⟨rfl, H⟩
    exact ⟨rfl, loom_turn ok2 H⟩
  | false =>
    have hcv := csP_reads 8 H rfl
    obtain ⟨ca, cc, hcvv⟩ := hcv.len
    have H := loom_close v ok H
    clear hcv
    refine callX entry_Bare (fun h3 x3 => ?_)
    refine nw (H.ext x3) (fun b10 h4 x4 _ H => ?_)
    refine sA H (Cel.cells (bareE 6 g)) rfl rfl rfl rfl (fun h5 _ H => ?_)
    refine l0 (H.front 3 rfl) rfl ?_
    rw [hcvv]
    refine s0 H (int o.cases.length) rfl rfl rfl (fun h6 H => ?_)
    refine s0 H (int 0) rfl rfl rfl (fun h7 H => ?_)
    refine lA H rfl ?_
    refine call (loom_note (e := ⟨6, g, -1, o.cases.length, 0, -1, false, false⟩) (H.re 4 [1, 2, 3] rfl rfl) (by omega)) ?_
    rintro _ h8 ⟨rfl, H⟩
    refine l0 (H.front 2 rfl) rfl ?_
    obtain ⟨v2, ok2, H⟩ := loom_open H
    refine lc0 H (v := v2.pipes) rfl ?_
    refine call (fork_Park (cs := o.cases) (H.front 6 rfl) ok2.pl (fun h' H' => reads_of 3 H' rfl) (fun h' H' => csP_reads 7 H' rfl)) ?_
    rintro _ h9 ⟨⟨_, _, rfl⟩, H⟩
    refine lc0 (H.front 1 rfl) (v := ptr v2.cr) rfl ?_
    refine call (crew_Park (H.front 3 rfl)) ?_
    rintro _ h10 ⟨rfl, H⟩
    refine ⟨rfl, ?_⟩
    have H := H.re 10 [2, 3, 0, 4, 5, 6, 1, 7] rfl rfl
    exact loom_shut v2 ⟨ok2.nm8, by rw [ok2.pl]; exact hpk.symm, fun k hk => Nat.lt_of_lt_of_eq (ok2.nm k hk) hpk.symm⟩ H

end Go.Sl
end

section
namespace Go.Sl
open Go
attribute [local irreducible] HT

structure OpGood (o : Op) : Prop where
  kind : 1 ≤ o.kind ∧ o.kind ≤ 9
  a : o.kind = 2 ∨ o.kind = 3 ∨ o.kind = 4 ∨ o.kind = 5 → 0 ≤ o.a ∧ o.a < 8
  b : o.kind = 2 → 0 ≤ o.b ∧ o.b ≤ 4
  cs : ∀ c ∈ o.cases, 0 ≤ c.chan ∧ c.chan < 8
  cl : o.cases.length ≤ 4

/-- What happens ahead of the event. -/
def Lm.doesPre (s : Lm) (g : Int) (o : Op) : Lm × Ev :=
  if o.kind = 1 then ({ s with crew := (spawnOf s.crew o.a).1 }, ⟨1, g, -1, -1, o.a, (spawnOf s.crew o.a).2.1, false, false⟩)
  else if o.kind = 2 then ({ s with chans := s.chans ++ [⟨o.b.toNat, [], [], [], false⟩], nm := s.nm.set o.a.toNat (some s.chans.length) }, ⟨2, g, s.chans.length, -1, o.b, -1, false, false⟩)
  else if o.kind = 7 then (s, ⟨9, g, -1, -1, o.a, -1, false, false⟩)
  else if o.kind = 8 then (s, ⟨10, g, -1, -1, o.a, -1, false, false⟩)
  else (s.turn g 0 2 0, ⟨11, g, -1, -1, -1, -1, false, false⟩)

/-- 'does', as a function. -/
def Lm.does (s : Lm) (g : Int) (o : Op) : Lm × Bool :=
  if o.kind = 3 ∨ o.kind = 4 then
    if ready1 s.nm s.chans ⟨decide (o.kind = 3), o.a, o.b⟩ then s.communicate g ⟨decide (o.kind = 3), o.a, o.b⟩ (-1) else (s.park g ⟨decide (o.kind = 3), o.a, o.b⟩, true)
  else if o.kind = 5 then s.shut g o.a
  else if o.kind = 6 then s.choose g o
  else (((s.doesPre g o).1.note (s.doesPre g o).2).turn g 0 0 1, true)

theorem ptrs_make {nm : List (Option Nat)} {ps : List Nat} {i pb n : Nat} (hn : n = ps.length) (hk : ∀ k, some k ∈ nm → k < ps.length) (hi : i < nm.length) : (ptrsOf nm ps).set i (some pb) = ptrsOf (nm.set i (some n)) (ps ++ [pb]) := by
  subst hn
  unfold ptrsOf
  rw [List.map_set]
  have h1 : (some ps.length).bind (fun k => (ps ++ [pb])[k]?) = some pb := by simp
  rw [h1]
  congr 1
  refine List.map_congr_left fun o ho => ?_
  cases o with
  | none => rfl
  | some k => simp only [Option.bind_some]; rw [List.getElem?_append_left (hk k ho)]

theorem doesPre_trace (s : Lm) (g : Int) (o : Op) : (s.doesPre g o).1.trace = s.trace := by
  unfold Lm.doesPre; (repeat' split) <;> rfl

set_option maxHeartbeats 4000000 in
theorem loom_make {h : Heap} {x : Script} {lp b5 b7 : Nat} {s : Lm} {L : List HP} {g : Int} {i bn : Nat} {cv : Value} {d : Bool} {K : Heap → Prop} (hi : i < 8) (hb4 : bn ≤ 4) (hc : s.chans.length ≤ 1000000)
    (H : Sat h (pt b7 (cells (Cel.cells (bareE 0 g)) 34) :: pt b5 (cells [int 2, int i, int bn, cv, .bool d] 39) :: loomAt x lp s :: L))
    (hK : ∀ h', Sat h' (pt b7 (cells [int 2, int g, int s.chans.length, int (-1), int bn, int (-1), .bool false, .bool false] 34) :: loomAt x lp { s with chans := s.chans ++ [⟨bn, [], [], [], false⟩], nm := s.nm.set i (some s.chans.length) } :: L) → K h') :
    FADDR 2 (ptr b5) fun t75 =>
    RD1 h t75 fun t76 =>
    NILC (ptr lp) fun t78 =>
    FADDR 16 t78 fun t79 =>
    RD1 h t79 fun t80 =>
    LEN t80 fun t81 =>
    FADDR 0 (ptr b7) fun t82 =>
    WR h 1 t82 (int 2) fun h17 =>
    (RD1 h17 t79 fun v => v = t80) ∧
    (RD1 h17 t75 fun v => v = t76) ∧
    FADDR 4 (ptr b7) fun t83 =>
    WR h17 1 t83 t76 fun h18 =>
    (RD1 h18 t79 fun v => v = t80) ∧
    FADDR 2 (ptr b7) fun t84 =>
    WR h18 1 t84 t81 fun h19 =>
    NILC (ptr lp) fun t87 =>
    FADDR 7 t87 fun t88 =>
    RD1 h19 t88 fun t89 =>
    FADDR 1 (ptr b5) fun t90 =>
    RD1 h19 t90 fun t91 =>
    FADDR 2 (ptr b5) fun t92 =>
    RD1 h19 t92 fun t93 =>
    HT P 56 [t93] h19 fun t94 h20 =>
    (RD1 h20 t90 fun v => v = t91) ∧
    (RD1 h20 t88 fun v => v = t89) ∧
    EXT t94 0 fun t95 =>
    EXT t94 1 fun t96 =>
    IADDR 1 t89 t91 fun t97 =>
    WR h20 1 t97 t95 fun h21 =>
    FADDR 1 (ptr b5) fun t99 =>
    RD1 h21 t99 fun t100 =>
    NILC (ptr lp) fun t102 =>
    FADDR 16 t102 fun t103 =>
    RD1 h21 t103 fun t104 =>
    LEN t104 fun t105 =>
    NILC (ptr lp) fun t106 =>
    FADDR 8 t106 fun t107 =>
    IADDRA 8 1 t107 t100 fun t108 =>
    WR h21 1 t108 t105 fun h22 =>
    NILC (ptr lp) fun t111 =>
    FADDR 16 t111 fun t112 =>
    RD1 h22 t112 fun t113 =>
    NILC (ptr lp) fun t115 =>
    FADDR 7 t115 fun t116 =>
    RD1 h22 t116 fun t117 =>
    FADDR 1 (ptr b5) fun t118 =>
    RD1 h22 t118 fun t119 =>
    IADDR 1 t117 t119 fun t120 =>
    RD1 h22 t120 fun t121 =>
    ROW 101 [.pointer none] [((0, 1), t121)] 1 h22 fun t122 h23 =>
    (RD1 h23 t112 fun v => v = t113) ∧
    APP h23 101 1 8 [.pointer none] t113 t122 fun t123 h24 =>
    NILC (ptr lp) fun t124 =>
    FADDR 16 t124 fun t125 =>
    WR h24 1 t125 t123 fun h25 =>
    K h25 := by
  obtain ⟨v, ok, H2⟩ := loom_open (H.re 3 [2, 0, 1] rfl rfl)
  have H := H2.re 10 [8, 0, 1, 2, 3, 4, 5, 6, 7, 9] rfl rfl
  clear H2
  obtain ⟨t, m, progs, planV, drawsV, cu, cr, pipes, all, trace, ps⟩ := v
  have hpl : ps.length = s.chans.length := ok.pl
  have hnmk : ∀ k, some k ∈ s.nm → k < ps.length := fun k hk => by rw [hpl]; exact ok.nm k hk
  have hin : i < s.nm.length := by rw [ok.nm8]; exact hi
  have hx : (ptrsOf s.nm ps)[i]? = some ((s.nm[i]).bind fun k => ps[k]?) := ptrs_get (List.getElem?_eq_getElem hin)
  have hrp : reads h pipes (ptrsOf s.nm ps) := reads_of (T := 101) (v := pipes) 4 H rfl
  obtain ⟨pa, po, pc, hpv, hpi, _⟩ := hrp.get' hx
  subst hpv
  have hra : reads h all (ps.map some) := reads_of (T := 101) (v := all) 5 H rfl
  obtain ⟨aa, ac, hva⟩ := hra.len
  subst hva
  refine l0 (H.front 9 rfl) rfl ?_
  refine lc0 (H.front 1 rfl) (LV.g16 ok.nm8) ?_
  refine s0 H (int 2) rfl rfl rfl (fun h17 H => ?_)
  refine ⟨lc0 (H.front 1 rfl) (LV.g16 ok.nm8) rfl, l0 (H.front 9 rfl) rfl rfl, ?_⟩
  refine s0 H (int bn) rfl rfl rfl (fun h18 H => ?_)
  refine ⟨lc0 (H.front 1 rfl) (LV.g16 ok.nm8) rfl, ?_⟩
  have hlen : (ps.map some).length = s.chans.length := by simp [hpl]
  refine s0 H (int s.chans.length) (by rw [← hlen]) rfl rfl (fun h19 H => ?_)
  refine lc0 (H.front 1 rfl) (v := .slice (some ⟨pa, po, none⟩) (ptrsOf s.nm ps).length pc) rfl ?_
  refine l0 (H.front 9 rfl) rfl ?_
  refine l0 (H.front 9 rfl) rfl ?_
  refine call (pipe_New H hb4) ?_
  rintro _ h20 ⟨pb, rfl, x20, H⟩
  refine ⟨l0 (H.front 10 rfl) rfl rfl, lc0 (H.front 2 rfl) (v := .slice (some ⟨pa, po, none⟩) (ptrsOf s.nm ps).length pc) rfl rfl, ?_⟩
  refine getA rfl ?_
  refine getA rfl ?_
  refine idx i rfl hpi ?_
  refine ws (T := 101) (off := 0) (x' := some pb) (H.front 5 rfl) hx rfl rfl (by decide) rfl (fun h21 H => ?_)
  refine l0 (H.front 10 rfl) rfl ?_
  refine lc0 (H.front 3 rfl) (LV.g16 ok.nm8) ?_
  refine idx i rfl hi ?_
  refine s0 (H.front 3 rfl) (numV (some s.chans.length)) (by rw [← hlen]; rfl) rfl (by rw [LV.len ok.nm8]; simp [Nat.blt_eq]; omega) (fun h22 H => ?_)
  rw [show 0 + 8 + i * 1 = 8 + i by omega, LV.sn ok.nm8 i hi (some s.chans.length)] at H
  have hnm8 : ({ s with nm := s.nm.set i (some s.chans.length) } : Lm).nm.length = 8 := by simp [ok.nm8]
  refine lc0 H (LV.g16 hnm8) ?_
  refine lc0 H (v := .slice (some ⟨pa, po, none⟩) (ptrsOf s.nm ps).length pc) rfl ?_
  refine l0 (H.front 10 rfl) rfl ?_
  refine idx i rfl hpi ?_
  have hx2 : ((ptrsOf s.nm ps).set i (some pb))[i]? = some (some pb) := by rw [List.getElem?_set_self hpi]
  obtain ⟨b', o', c', e1, _, hr⟩ := (own_reads H m1).get' hx2
  injection e1 with e1 _ _
  injection e1 with e1
  injection e1 with e1 e2
  subst e1; subst e2
  refine rd1 (hr 0 _ rfl) ?_
  refine fil rfl ?_
  refine ⟨lc0 (SatP.swap (H.push _)) (LV.g16 hnm8) rfl, ?_⟩
  refine app1 (some pb) (H.front 6 rfl) rfl rfl rfl (by rw [hlen]; omega) (fun va h24 H => ?_)
  obtain ⟨ta, tc, rfl⟩ := (own_reads H m0).len
  refine s0 (H.front 1 rfl) (.slice ta (ps.map some ++ [some pb]).length tc) rfl rfl (by rw [LV.len hnm8]; rfl) (fun h25 H => ?_)
  rw [LV.s16 hnm8] at H
  refine hK _ ?_
  rw [ptrs_make hpl.symm hnmk hin] at H
  have em : ps.map some ++ [some pb] = (ps ++ [pb]).map some := by simp
  have H := pipes_snoc hpl (H.re 11 [3, 8, 0, 5, 6, 2, 1, 7, 9, 4] rfl rfl)
  have H : Sat h25 _ := Sat.re H 9 [1, 2, 3, 4, 5, 6, 0, 7, 8] rfl rfl
  rw [em] at H
  have H := loom_close (s := { s with chans := s.chans ++ [⟨bn, [], [], [], false⟩], nm := s.nm.set i (some s.chans.length) }) ⟨t, m, progs, planV, drawsV, cu, cr, .slice (some ⟨pa, po, none⟩) (ptrsOf s.nm ps).length pc, .slice ta ((ps ++ [pb]).map some).length tc, trace, ps ++ [pb]⟩ ⟨hnm8, by simp [hpl], fun k hk => by
    simp only [List.length_append, List.length_singleton]
    rcases List.mem_or_eq_of_mem_set hk with hk | hk
    · have := hnmk k hk; omega
    · injection hk with hk; omega⟩ H
  exact H.re 2 [1, 0] rfl rfl

end Go.Sl
end

section
namespace Go.Sl
open Go
attribute [local irreducible] HT

set_option maxHeartbeats 4000000 in
theorem loom_does {h : Heap} {x : Script} {lp : Nat} {s : Lm} {L : List HP} {g : Int} {ov : OpV} {o : Op} (io : OpIs ov o) (og : OpGood o) (H : Sat h (loomAt x lp s :: csP ov o :: L)) (hb : s.trace.length ≤ 10000000) (hc : s.chans.length ≤ 1000000) (hd : ∀ d ∈ s.draws, 0 ≤ d) :
    HT P 30 [ptr lp, int g, agg ov] h fun r h' => r = .bool (s.does g o).2 ∧ Sat h' (loomAt x lp (s.does g o).1 :: L) := by
  have io0 := io
  obtain ⟨kind, a, b, cs, d⟩ := o
  obtain ⟨k2, a2, b2, cv, d2⟩ := ov
  obtain ⟨e1, e2, e3, e4⟩ := io
  simp only at e1 e2 e3 e4
  subst e1; subst e2; subst e3; subst e4
  obtain ⟨g1, g2, g3, g4, g5⟩ := og
  simp only at g1 g2 g3 g4 g5
  refine u30 ?_
  refine box [int k2, int a2, int b2, cv.v, .bool d2] H rfl (fun b5 h1 x1 _ H => ?_)
  refine callX entry_Bare (fun h2 x2 => ?_)
  refine nw (H.ext x2) (fun b7 h3 x3 _ H => ?_)
  refine sA H (Cel.cells (bareE 0 g)) rfl rfl rfl rfl (fun h4 _ H => ?_)
  unfold Lm.does
  refine jn0 (fun h' => ¬ (k2 = 3 ∨ k2 = 4) ∧ ¬ k2 = 5 ∧ ¬ k2 = 6 ∧ Sat h' (pt b7 (cells (Cel.cells (s.doesPre g ⟨k2, a2, b2, cs, d2⟩).2) 34) :: loomAt x lp (s.doesPre g ⟨k2, a2, b2, cs, d2⟩).1 :: L)) ?_ ?_
  · intro K hK
    refine l1 H rfl ?_
    refine jn1 (fun t h' => t = .bool (decide (k2 = 3 ∨ k2 = 4)) ∧ h4 = h') ?_ ?_
    · intro K2 hK2
      refine cmp (fun c => ?_) (fun c => ?_)
      · exact hK2 _ _ ⟨by first | exact bT (by omega) | exact bF (by omega), rfl⟩
      · refine cmp (fun c' => ?_) (fun c' => ?_)
        · exact hK2 _ _ ⟨by first | exact bT (by omega) | exact bF (by omega), rfl⟩
        · exact hK2 _ _ ⟨by first | exact bT (by omega) | exact bF (by omega), rfl⟩
    rintro _ _ ⟨rfl, rfl⟩ _
    by_cases c34 : k2 = 3 ∨ k2 = 4
    · rw [decide_eq_true c34, if_pos c34]
      obtain ⟨ga0, ga8⟩ := g2 (by omega)
      refine l1 H rfl ?_
      refine cmpB ?_
      refine l1 H rfl ?_
      refine l1 H rfl ?_
      refine fil rfl ?_
      refine nw H (fun b8 h6 x6 _ H => ?_)
      refine sA H [.bool (decide (k2 = 3)), int a2, int b2] rfl rfl rfl rfl (fun h7 _ H => ?_)
      obtain ⟨v, ok, H2⟩ := loom_open (H.re 5 [3, 0, 2, 4] rfl rfl)
      refine lc0 H2 (v := v.pipes) rfl ?_
      refine l2 H rfl ?_
      obtain ⟨i, hai, hi, hnm⟩ := nameP_at ga0 (by rw [ok.nm8]; exact ga8)
      have hrd := reads_of 3 H2 rfl
      have hpt := ptrs_get (ps := v.ps) hnm
      obtain ⟨pb, po, pc, hpv, hpi, hr⟩ := hrd.get' hpt
      rw [hpv]
      refine idx i hai hpi ?_
      refine rd1 (hr 0 _ rfl) ?_
      refine l0 H rfl ?_
      have key := fork_ready1 (nm := s.nm) H2 m6 ok.pl ⟨decide (k2 = 3), a2, b2⟩
      rw [ptrs_at] at key
      refine callE key ?_
      have H1 := H.re 5 [0, 3] rfl rfl
      cases hr : ready1 s.nm s.chans ⟨decide (k2 = 3), a2, b2⟩ with
      | true =>
        refine lA H1 rfl ?_
        exact call (loom_communicate (c := ⟨decide (k2 = 3), a2, b2⟩) H1.drop hb hc ga0 ga8) fun _ _ x => x
      | false =>
        refine lA H1 rfl ?_
        refine call (loom_park (c := ⟨decide (k2 = 3), a2, b2⟩) H1.drop (by omega) ga0 ga8) ?_
        rintro _ h9 ⟨rfl, H⟩
        exact ⟨rfl, H⟩
    rw [decide_eq_false c34, if_neg c34]
    refine cmp (fun c5 => ?_) (fun c5 => ?_)
    · rw [if_pos c5]
      obtain ⟨ga0, ga8⟩ := g2 (by omega)
      refine l1 H rfl ?_
      exact call (loom_shut_ (H.re 4 [2] rfl rfl) hb hc ga0 ga8) fun _ _ x => x
    rw [if_neg c5]
    refine cmp (fun c6 => ?_) (fun c6 => ?_)
    · rw [if_pos c6]
      refine lA (H.front 1 rfl) rfl ?_
      exact call (loom_choose (o := ⟨k2, a2, b2, cs, d2⟩) io0 (H.re 4 [2, 3] rfl rfl) hb hc g4 g5 hd) fun _ _ x => x
    rw [if_neg c6]
    have hE := fun h' H' => hK h' ⟨c34, c5, c6, H'⟩
    clear hK
    refine cmp (fun c1 => ?_) (fun c1 => ?_)
    · simp only [Lm.doesPre, if_pos c1] at hE
      refine l1 H rfl ?_
      refine s0 H (int 1) rfl rfl rfl (fun h5 H => ?_)
      refine ⟨l1 H rfl rfl, ?_⟩
      refine s0 H (int a2) rfl rfl rfl (fun h6 H => ?_)
      obtain ⟨v, ok, H2⟩ := loom_open (H.re 4 [2, 0, 1] rfl rfl)
      refine lc0 H2 (v := ptr v.cr) rfl ?_
      refine l1 H rfl ?_
      refine call (crew_Spawn (H2.front 2 rfl)) ?_
      rintro _ h7 ⟨rfl, H⟩
      refine getA rfl ?_
      refine getA rfl ?_
      refine s0 (H.front 8 rfl) (int (spawnOf s.crew a2).2.1) rfl rfl rfl (fun h8 H => ?_)
      refine hE _ ?_
      have H := loom_close (s := { s with crew := (spawnOf s.crew a2).1 }) v ⟨ok.nm8, ok.pl, ok.nm⟩ (H.re 10 [2, 3, 1, 4, 5, 6, 7, 8, 0] rfl rfl)
      exact H.re 2 [1, 0] rfl rfl
    refine cmp (fun c2 => ?_) (fun c2 => ?_)
    · simp only [Lm.doesPre, if_neg c1, if_pos c2] at hE
      obtain ⟨ga0, ga8⟩ := g2 (by omega)
      obtain ⟨gb0, gb4⟩ := g3 c2
      obtain ⟨i, rfl⟩ := Int.eq_ofNat_of_zero_le ga0
      obtain ⟨bn, rfl⟩ := Int.eq_ofNat_of_zero_le gb0
      subst c2
      exact loom_make (by omega) (by omega) hc (H.re 4 [0, 1, 2] rfl rfl) hE
    refine cmp (fun c7 => ?_) (fun c7 => ?_)
    · simp only [Lm.doesPre, if_neg c1, if_neg c2, if_pos c7] at hE
      refine l1 H rfl ?_
      refine s0 H (int 9) rfl rfl rfl (fun h5 H => ?_)
      refine ⟨l1 H rfl rfl, ?_⟩
      refine s0 H (int a2) rfl rfl rfl (fun h6 H => ?_)
      exact hE _ (H.re 4 [0, 2] rfl rfl)
    refine cmp (fun c8 => ?_) (fun c8 => ?_)
    · simp only [Lm.doesPre, if_neg c1, if_neg c2, if_neg c7, if_pos c8] at hE
      refine l1 H rfl ?_
      refine s0 H (int 10) rfl rfl rfl (fun h5 H => ?_)
      refine ⟨l1 H rfl rfl, ?_⟩
      refine s0 H (int a2) rfl rfl rfl (fun h6 H => ?_)
      exact hE _ (H.re 4 [0, 2] rfl rfl)
    refine cmpT (by omega) ?_
    simp only [Lm.doesPre, if_neg c1, if_neg c2, if_neg c7, if_neg c8] at hE
    refine s0 H (int 11) rfl rfl rfl (fun h5 H => ?_)
    obtain ⟨v, ok, H2⟩ := loom_open (H.re 4 [2, 0] rfl rfl)
    refine lc0 H2 (v := ptr v.cr) rfl ?_
    refine call (crew_Exit (H2.front 2 rfl)) ?_
    rintro _ h7 ⟨rfl, H⟩
    have H := loom_turn ok H
    exact hE _ (H.re 2 [1, 0] rfl rfl)
  rintro h32 ⟨c34, c5, c6, H⟩ _
  rw [if_neg c34, if_neg c5, if_neg c6]
  have hb2 : (s.doesPre g ⟨k2, a2, b2, cs, d2⟩).1.trace.length ≤ 10000000 := by rw [doesPre_trace]; exact hb
  generalize (s.doesPre g ⟨k2, a2, b2, cs, d2⟩).1 = s2 at H hb2 ⊢
  generalize (s.doesPre g ⟨k2, a2, b2, cs, d2⟩).2 = e at H ⊢
  refine lA H rfl ?_
  refine call (loom_note (e := e) H.drop (by omega)) ?_
  rintro _ h33 ⟨rfl, H⟩
  obtain ⟨v, ok, H⟩ := loom_open H
  refine lc0 H (v := ptr v.cr) rfl ?_
  refine call (crew_Go (H.front 2 rfl)) ?_
  rintro _ h34 ⟨rfl, H⟩
  exact ⟨rfl, loom_turn ok H⟩

end Go.Sl
end

section
namespace Go.Sl
open Go
attribute [local irreducible] HT

theorem inTo_mem {l : List One} {st : Int} {k : Nat} {z : Int} (h : z ∈ inTo l st k) : ∃ (i : Nat) (o : One), z = i ∧ l[i]? = some o ∧ o.state = st := by
  unfold inTo at h
  obtain ⟨i, _, hi⟩ := List.mem_filterMap.1 h
  cases hc : l[i]? with
  | none => simp [hc] at hi
  | some c =>
    rw [hc] at hi
    simp only at hi
    split at hi
    · rename_i hs; exact ⟨i, c, by injection hi with hi; exact hi.symm, hc, hs⟩
    · cases hi

theorem verdict_able {s : Lm} (h : s.verdict = 0) : inOf s.crew 0 ≠ [] := by
  unfold Lm.verdict at h
  split at h
  · cases h
  · split at h
    · rename_i h1; exact absurd h h1
    · rename_i h1
      intro e
      apply h1
      unfold overOf
      rw [if_neg (by simp [e])]
      split <;> decide

theorem chosen_at {s : Lm} (h : s.verdict = 0) {n : Int} (hn : -1 ≤ n) : (n = -1 ∧ s.chosen n = -1) ∨ ∃ o, at? s.crew (s.chosen n) = some o ∧ o.state = 0 ∧ 0 ≤ s.chosen n := by
  unfold Lm.chosen
  by_cases h1 : n = -1
  · left; exact ⟨h1, if_pos h1⟩
  right
  rw [if_neg h1]
  have ha := verdict_able h
  have hl : 0 < (inOf s.crew 0).length := by
    cases hh : inOf s.crew 0 with
    | nil => exact absurd hh ha
    | cons x r => simp
  have q0 : 0 ≤ n.tmod (inOf s.crew 0).length := Int.tmod_nonneg _ (by omega)
  have q1 : n.tmod (inOf s.crew 0).length < (inOf s.crew 0).length := Int.tmod_lt_of_pos _ (by omega)
  obtain ⟨i, hi⟩ := Int.eq_ofNat_of_zero_le q0
  have hil : i < (inOf s.crew 0).length := by omega
  have e : (inOf s.crew 0).getD (n.tmod (inOf s.crew 0).length).toNat 0 = (inOf s.crew 0)[i] := by
    rw [hi, Int.toNat_natCast, List.getD_eq_getElem?_getD, List.getElem?_eq_getElem hil]; rfl
  rw [e]
  obtain ⟨j, o, hj, ho, hs⟩ := inTo_mem (List.getElem_mem hil)
  exact ⟨o, by rw [hj, at?_nat]; exact ho, hs, by omega⟩

structure ScriptGood (x : Script) : Prop where
  ops : ∀ p ∈ x.programs, ∀ o ∈ p, OpGood o
  len : ∀ p ∈ x.programs, p.length ≤ 1000000

structure Lm.inv (x : Script) (s : Lm) : Prop where
  crew : ∀ o ∈ s.crew, oneOk x o
  plan : ∀ n ∈ s.plan, -1 ≤ n
  draws : ∀ d ∈ s.draws, 0 ≤ d
  trace : s.trace.length ≤ 10000000
  chans : s.chans.length ≤ 1000000

theorem Lm.inv.head {x : Script} {s : Lm} (i : s.inv x) : -1 ≤ s.plan.headD 0 := by
  cases h : s.plan with
  | nil => simp
  | cons a r => exact i.plan a (by rw [h]; simp)

theorem at?_mem {α : Type} {l : List α} {g : Int} {o : α} (h : at? l g = some o) : o ∈ l := by
  unfold at? at h
  split at h
  · exact List.mem_of_getElem? h
  · cases h

theorem opOf_good {x : Script} (sg : ScriptGood x) (o : One) : OpGood (opOf x o) := by
  have hx : OpGood exitOp := ⟨⟨by decide, by decide⟩, fun h => by simp at h, fun h => by simp at h, fun c hc => by simp at hc, by simp⟩
  unfold opOf
  cases hp : x.programs[o.program.toNat]? with
  | none => exact hx
  | some p =>
    cases hq : p[o.place.toNat]? with
    | none => simp only [Option.bind_some, hq]; exact hx
    | some q =>
      simp only [Option.bind_some, hq]
      exact sg.ops p (List.mem_of_getElem? hp) q (List.mem_of_getElem? hq)

def Lm.nextOf (x : Script) (s : Lm) : Int × Op × Bool :=
  if s.verdict ≠ 0 then (0, zeroOp, false) else if s.chosen (s.plan.headD 0) < 0 then (-1, zeroOp, true) else (s.chosen (s.plan.headD 0), s.opAt x (s.chosen (s.plan.headD 0)), true)

theorem zeroP {h : Heap} {L : List HP} (H : Sat h L) : Sat h (csP ⟨0, 0, 0, ⟨none, 0, 0⟩, false⟩ zeroOp :: L) :=
  ⟨fun _ => none, ph h, fun _ => .inl rfl, fun _ _ h => by simp at h, Sub.refl _, readsP.nil _, H⟩

set_option maxHeartbeats 2000000 in
theorem loom_Next {h : Heap} {x : Script} {lp : Nat} {s : Lm} {L : List HP} (sg : ScriptGood x) (inv : s.inv x) (H : Sat h (loomAt x lp s :: L)) :
    HT P 26 [ptr lp] h fun r h' => ∃ ov : OpV, r = .tuple #[int (s.nextOf x).1, agg ov, .bool (s.nextOf x).2.2] ∧ OpIs ov (s.nextOf x).2.1 ∧ Sat h' (loomAt x lp s :: csP ov (s.nextOf x).2.1 :: L) := by
  refine u26 ?_
  refine nw H (fun b3 h1 x1 _ H => ?_)
  refine jn1 (fun t h' => t = .bool (decide (s.verdict ≠ 0)) ∧ Ext h1 h') ?_ ?_
  · intro K hK
    repeat (first | refine jnI ?_ | refine gdI ?_ | refine gqI ?_ | refine fun (_ : Env) => ?_)
    refine callX (loom_Verdict H m1) (fun h2 x2 => ?_)
    repeat (first | refine jnI ?_ | refine gdI ?_ | refine gqI ?_ | refine fun (_ : Env) => ?_)
    refine cmp (fun c => ?_) (fun c => ?_)
    · exact hK _ _ ⟨by rw [decide_eq_true c], x2⟩
    · exact hK _ _ ⟨by rw [decide_eq_false c], x2⟩
  rintro _ h2 ⟨rfl, x2⟩ _
  have H := H.ext x2
  unfold Lm.nextOf
  by_cases c0 : s.verdict ≠ 0
  · rw [decide_eq_true c0, if_pos c0]
    refine fil rfl ?_
    refine sA H (Cel.cells (⟨0, 0, 0, ⟨none, 0, 0⟩, false⟩ : OpV)) rfl rfl rfl rfl (fun h3 _ H => ?_)
    refine lA H rfl ?_
    exact ⟨⟨0, 0, 0, ⟨none, 0, 0⟩, false⟩, rfl, ⟨rfl, rfl, rfl, rfl⟩, SatP.swap (zeroP H.drop)⟩
  rw [decide_eq_false c0, if_neg c0]
  have hv : s.verdict = 0 := by omega
  obtain ⟨v, ok, H⟩ := loom_open (H.re 2 [1, 0] rfl rfl)
  refine lc0 H (v := ptr v.cu) rfl ?_
  refine call (Copy_cursor (H.front 1 rfl)) ?_
  rintro _ h3 ⟨c', pv, dv, rfl, x3, H, hp⟩
  refine call (next_raw H hp) ?_
  rintro _ h4 ⟨rfl, v', H, _⟩
  refine getA rfl ?_
  refine getA rfl ?_
  have H := loom_close v ok (H.re 10 [2, 1, 3, 4, 5, 6, 7, 8, 9] rfl rfl)
  refine callX (loom_chosen H m0 inv.head (verdict_able hv)) (fun h5 x5 => ?_)
  have H := H.ext x5
  have hch := chosen_at hv inv.head
  refine cmp (fun c => ?_) (fun c => ?_)
  · rw [if_pos c]
    refine fil rfl ?_
    refine sA (H.front 1 rfl) (Cel.cells (⟨0, 0, 0, ⟨none, 0, 0⟩, false⟩ : OpV)) rfl rfl rfl rfl (fun h3 _ H => ?_)
    refine lA H rfl ?_
    exact ⟨⟨0, 0, 0, ⟨none, 0, 0⟩, false⟩, rfl, ⟨rfl, rfl, rfl, rfl⟩, SatP.swap (zeroP H.drop)⟩
  · rw [if_neg c]
    rcases hch with ⟨_, e⟩ | ⟨o, ho, hs, h0⟩
    · rw [e] at c; exact absurd (by decide) c
    have eo : s.opAt x (s.chosen (s.plan.headD 0)) = opOf x o := by unfold Lm.opAt; rw [ho]
    have hog := opOf_good sg o
    rw [eo]
    refine call (loom_op H m0 ho (inv.crew o (at?_mem ho)) (fun p hp o ho => by have := (sg.ops p hp o ho).cl; omega) sg.len) ?_
    rintro _ h6 ⟨ov, rfl, io, x6, H⟩
    refine sA (H.front 2 rfl) (Cel.cells ov) rfl rfl rfl rfl (fun h7 _ H => ?_)
    refine lA H rfl ?_
    exact ⟨ov, rfl, io, H.re 3 [2, 1] rfl rfl⟩

/-- 'Step', as a function. -/
def Lm.step (x : Script) (s : Lm) : Lm :=
  if s.verdict ≠ 0 then s else
  if s.chosen (s.plan.headD 0) < 0 then ({ s with plan := s.plan.tail } : Lm).note (bareE 13 (-1)) else
  if (({ s with plan := s.plan.tail } : Lm).does (s.chosen (s.plan.headD 0)) (s.opAt x (s.chosen (s.plan.headD 0)))).2 then (({ s with plan := s.plan.tail } : Lm).does (s.chosen (s.plan.headD 0)) (s.opAt x (s.chosen (s.plan.headD 0)))).1
  else { (({ s with plan := s.plan.tail } : Lm).does (s.chosen (s.plan.headD 0)) (s.opAt x (s.chosen (s.plan.headD 0)))).1 with pan := true }

/-- The trace only grows. -/
def Grow (s t : Lm) : Prop := ∃ l, l ≠ [] ∧ t.trace = s.trace ++ l
theorem Grow.note (s : Lm) (e : Ev) : Grow s (s.note e) := ⟨[e], by simp, rfl⟩
theorem Grow.trans {a b c : Lm} (h : Grow a b) (k : Grow b c) : Grow a c := by
  obtain ⟨l, h1, h2⟩ := h; obtain ⟨m, k1, k2⟩ := k
  exact ⟨l ++ m, by simp [h1], by rw [k2, h2, List.append_assoc]⟩
theorem Grow.to {a b c : Lm} (h : Grow a b) (e : c.trace = b.trace) : Grow a c := by
  obtain ⟨l, h1, h2⟩ := h; exact ⟨l, h1, by rw [e, h2]⟩
theorem Grow.of {a b c : Lm} (h : Grow b c) (e : b.trace = a.trace) : Grow a c := by
  obtain ⟨l, h1, h2⟩ := h; exact ⟨l, h1, by rw [h2, e]⟩
theorem Grow.len {a b : Lm} (h : Grow a b) : a.trace.length < b.trace.length := by
  obtain ⟨l, h1, h2⟩ := h
  have : 0 < l.length := by cases l with | nil => exact absurd rfl h1 | cons _ _ => simp
  rw [h2, List.length_append]; omega
theorem Grow.wake (s : Lm) (e : Ev) : Grow s (s.wake e) := (Grow.note s _).to rfl
theorem Grow.communicate (s : Lm) (g : Int) (c : Cs) (place : Int) : Grow s (s.communicate g c place).1 := by
  unfold Lm.communicate
  split
  · exact (Grow.note _ _).of rfl
  · split
    · exact ((Grow.note ({ s with chans := (tryOf s.nm s.chans c).1 } : Lm) _).of rfl).trans ((Grow.wake _ _).of rfl)
    · exact ((Grow.note ({ s with chans := (tryOf s.nm s.chans c).1 } : Lm) _).of rfl).to rfl
theorem wakes_grow (g num : Int) : ∀ (l : List Wt) {a b : Lm}, Grow a b → Grow a (l.foldl (wake1 g num) b)
  | [], _, _, h => h
  | w :: r, a, b, h => by
    refine wakes_grow g num r ?_
    unfold wake1; split
    · exact h.trans (Grow.wake _ _)
    · exact h
theorem Grow.shut (s : Lm) (g name : Int) : Grow s (s.shut g name).1 := by
  unfold Lm.shut
  split
  · exact Grow.note _ _
  · split
    · exact Grow.note _ _
    · split
      · exact Grow.note _ _
      · split
        · refine Grow.trans (wakes_grow _ _ _ ?_) (Grow.note _ _)
          exact ((Grow.note _ _).of rfl).to rfl
        · refine wakes_grow _ _ _ ?_
          exact ((Grow.note _ _).of rfl).to rfl
theorem Grow.choose (s : Lm) (g : Int) (o : Op) : Grow s (s.choose g o).1 := by
  unfold Lm.choose
  split
  · exact (Grow.communicate _ _ _ _).of rfl
  · split
    · exact (Grow.note _ _).to rfl
    · exact (Grow.note _ _).to rfl
theorem Grow.does (s : Lm) (g : Int) (o : Op) : Grow s (s.does g o).1 := by
  unfold Lm.does
  split
  · split
    · exact Grow.communicate _ _ _ _
    · exact (Grow.note _ _).to rfl
  · split
    · exact Grow.shut _ _ _
    · split
      · exact Grow.choose _ _ _
      · exact ((Grow.note _ _).of (doesPre_trace s g o)).to rfl
theorem Grow.step {x : Script} {s : Lm} (h : s.verdict = 0) : Grow s (s.step x) := by
  unfold Lm.step
  rw [if_neg (by omega)]
  split
  · exact (Grow.note _ _).of rfl
  · split
    · exact (Grow.does ({ s with plan := s.plan.tail } : Lm) _ _).of (a := s) rfl
    · exact ((Grow.does ({ s with plan := s.plan.tail } : Lm) _ _).of (a := s) rfl).to rfl

end Go.Sl
end

section
namespace Go.Sl
open Go
attribute [local irreducible] HT

/-- What a step tells. -/
def Lm.news (x : Script) (s : Lm) : List Ev := if s.verdict ≠ 0 then [] else (s.step x).trace.drop s.trace.length

theorem news_clone {h : Heap} {x : Script} {lp : Nat} {s : Lm} {L : List HP} {n : Nat} {K : Value → Heap → Prop} (H : Sat h (loomAt x lp s :: L)) (hn : n ≤ s.trace.length) (hb : s.trace.length ≤ 100000000)
    (k : ∀ r h', Sat h' (own 34 r (s.trace.drop n) :: loomAt x lp s :: L) → K r h') :
    NILC (ptr lp) fun t39 =>
    FADDR 17 t39 fun t40 =>
    RD1 h t40 fun t41 =>
    SLCV 8 t41 (some (int n)) none none fun t43 =>
    HT P 31 [t43] h K := by
  obtain ⟨v, ok, H2⟩ := loom_open H
  refine lc0 H2 (LV.g17 ok.nm8) ?_
  have hr : reads h v.trace s.trace := own_reads H2 m5
  obtain ⟨ta, tc, hv⟩ := hr.len
  rw [hv] at hr ⊢
  refine slc_lo n rfl hn (fun a' q0 q1 => ?_)
  have hs := readsP.sub hr (l := n) (h := s.trace.length) (m := tc) hn (Nat.le_refl _) hr.cap.2 q0 q1
  rw [List.take_of_length_le (by simp)] at hs
  refine call (clone_ev H hs (by simp; omega)) ?_
  rintro r h1 ⟨_, H⟩
  exact k r h1 H

set_option maxHeartbeats 2000000 in
theorem loom_Step {h : Heap} {x : Script} {lp : Nat} {s : Lm} {L : List HP} (sg : ScriptGood x) (inv : s.inv x) (hb2 : (s.step x).trace.length ≤ 100000000) (H : Sat h (loomAt x lp s :: L)) :
    HT P 13 [ptr lp] h fun r h' => Sat h' (own 34 r (s.news x) :: loomAt x lp (s.step x) :: L) := by
  have hgrow := @Grow.step x s
  refine u13 ?_
  refine call (loom_Next sg inv H) ?_
  rintro _ h1 ⟨ov, rfl, io, H⟩
  refine getA rfl ?_
  refine getA rfl ?_
  refine getA rfl ?_
  refine nw H (fun b4 h2 x2 _ H => ?_)
  refine sA H (Cel.cells ov) rfl rfl rfl rfl (fun h3 _ H => ?_)
  unfold Lm.news
  unfold Lm.step at hgrow hb2 ⊢
  unfold Lm.nextOf at H io ⊢
  by_cases c0 : s.verdict ≠ 0
  · rw [if_pos c0, if_pos c0, if_pos c0]
    exact own_new (H.re 3 [1] rfl rfl) _
  rw [if_neg c0, if_neg c0]
  rw [if_neg c0] at hgrow hb2
  have hgrow := hgrow (by omega)
  rw [if_neg c0] at H io ⊢
  have hch := chosen_at (s := s) (by omega) inv.head
  obtain ⟨v, ok, H2⟩ := loom_open (H.re 3 [1, 0, 2] rfl rfl)
  by_cases cg : s.chosen (s.plan.headD 0) < 0
  · rw [if_pos cg] at hgrow io hb2 ⊢
    rw [if_pos cg]
    refine lc0 H2 (v := ptr v.cu) rfl ?_
    refine call (Next_cursor (H2.front 1 rfl)) ?_
    rintro _ h4 ⟨rfl, H⟩
    have H := loom_close (s := { s with plan := s.plan.tail }) v ⟨ok.nm8, ok.pl, ok.nm⟩ (H.re 10 [1, 0, 2, 3, 4, 5, 6, 7] rfl rfl)
    have hlen := hgrow.len
    have hb : ({ s with plan := s.plan.tail } : Lm).trace.length = s.trace.length := rfl
    generalize ({ s with plan := s.plan.tail } : Lm) = s1 at H hgrow hb hb2 hlen ⊢
    obtain ⟨w, okw, H3⟩ := loom_open H
    refine lc0 H3 (LV.g17 okw.nm8) ?_
    have hr : reads h4 w.trace s1.trace := own_reads H3 m5
    obtain ⟨ta, tc, hw⟩ := hr.len
    rw [hw]
    refine cmpT (by decide) ?_
    refine callX entry_Bare (fun h5 x5 => ?_)
    refine call (loom_note (e := bareE 13 (-1)) (H.ext x5) (by have := inv.trace; omega)) ?_
    rintro _ h6 ⟨rfl, H⟩
    refine news_clone H (n := s1.trace.length) (by omega) hb2 (fun r h7 H => ?_)
    rw [hb] at H
    exact H
  · rw [if_neg cg] at hgrow io hb2 ⊢
    rw [if_neg cg]
    rw [if_neg cg] at H H2
    rcases hch with ⟨_, e⟩ | ⟨o, ho, hs, h0⟩
    · rw [e] at cg; exact absurd (by decide) cg
    have eo : s.opAt x (s.chosen (s.plan.headD 0)) = opOf x o := by unfold Lm.opAt; rw [ho]
    have hog := opOf_good sg o
    rw [eo] at hgrow io hb2 H H2 ⊢
    generalize s.chosen (s.plan.headD 0) = g at hgrow io hb2 H H2 cg ⊢
    refine lc0 H2 (v := ptr v.cu) rfl ?_
    refine call (Next_cursor (H2.front 1 rfl)) ?_
    rintro _ h4 ⟨rfl, H⟩
    have H := loom_close (s := { s with plan := s.plan.tail }) v ⟨ok.nm8, ok.pl, ok.nm⟩ (H.re 10 [1, 0, 2, 3, 4, 5, 6, 7, 8, 9] rfl rfl)
    have hb : ({ s with plan := s.plan.tail } : Lm).trace.length = s.trace.length := rfl
    have hcc : ({ s with plan := s.plan.tail } : Lm).chans.length ≤ 1000000 := inv.chans
    have hdd : ∀ d ∈ ({ s with plan := s.plan.tail } : Lm).draws, 0 ≤ d := inv.draws
    have hgd := Grow.does ({ s with plan := s.plan.tail } : Lm) g (opOf x o)
    generalize ({ s with plan := s.plan.tail } : Lm) = s1 at H hgrow hb hb2 hcc hdd hgd ⊢
    obtain ⟨w, okw, H3⟩ := loom_open H
    refine lc0 H3 (LV.g17 okw.nm8) ?_
    have hr : reads h4 w.trace s1.trace := own_reads H3 m5
    obtain ⟨ta, tc, hw⟩ := hr.len
    rw [hw]
    refine cmpF (by omega) ?_
    refine jn0 (fun h' => Sat h' (loomAt x lp (if (s1.does g (opOf x o)).2 then (s1.does g (opOf x o)).1 else { (s1.does g (opOf x o)).1 with pan := true }) :: L)) ?_ ?_
    · intro K hK
      refine lA (H.front 1 rfl) rfl ?_
      refine call (loom_does io hog (H.re 3 [0, 2] rfl rfl) (by have := inv.trace; omega) hcc hdd) ?_
      rintro _ h5 ⟨rfl, H⟩
      cases hp : (s1.does g (opOf x o)).2 with
      | true =>
        rw [hp] at hK
        exact hK _ H
      | false =>
        rw [hp] at hK
        obtain ⟨w, okw, H⟩ := loom_open H
        refine s0 H (.bool true) rfl rfl (by rw [LV.len okw.nm8]; rfl) (fun h6 H => ?_)
        rw [LV.s18 okw.nm8] at H
        exact hK _ (loom_close (s := { (s1.does g (opOf x o)).1 with pan := true }) w ⟨okw.nm8, okw.pl, okw.nm⟩ H)
    rintro h8 H _
    have hlen := hgd.len
    have htr : (if (s1.does g (opOf x o)).2 then (s1.does g (opOf x o)).1 else { (s1.does g (opOf x o)).1 with pan := true }).trace = (s1.does g (opOf x o)).1.trace := by split <;> rfl
    refine news_clone H (n := s1.trace.length) (by rw [htr]; omega) hb2 (fun r h7 H => ?_)
    rw [hb] at H
    exact H

end Go.Sl
end

section
namespace Go.Sl
open Go
attribute [local irreducible] HT

theorem Sat.liftN {h h' : Heap} {L : List HP} (H : Sat h L) : ∀ {M : List HP}, Sat h' (M ++ [Sl.whole h]) → Sat h' (M ++ L) := by
  intro M H'
  have : ∀ (M : List HP) (t : PH), SatP (M ++ [Sl.whole h]) t → SatP (M ++ L) t := by
    intro M
    induction M with
    | nil => exact fun t ht => SatP.lift H ht
    | cons A M ih => exact fun t ht => SatP.cons ih ht
  exact this M _ H'

theorem flat_rep {α : Type} [Cel α] (d : α) (n : Nat) : (List.replicate n (Cel.cells d)).flatten = flat (List.replicate n d) := by simp [flat]

theorem mks_own {α : Type} [Cel α] {h : Heap} {L : List HP} {T esz bytes n : Nat} {z : List Value} {K : Value → Heap → Prop} (d : α) (H : Sat h L) (hz : Cel.cells d = z) (he : esz = Cel.n α) (hb : n * (bytes + 1) ≤ 2 ^ 46)
    (k : ∀ v h', Ext h h' → Sat h' (own T v (List.replicate n d) :: L) → K v h') : MKS h T esz bytes z (int n) (int n) K := by
  subst hz; subst he
  refine ⟨n, n, rfl, rfl, Nat.le_refl _, hb, Cel.len d, ?_⟩
  refine k _ _ (Ext.push _ _) ?_
  have := own_pt (α := α) (xs := List.replicate n d) (c := n) (H.push (.cells (List.replicate n (Cel.cells d)).flatten.toArray T (0, 0))) (by simp) (by rw [flat_rep]; simp [flat_length]) (fun j x hj => by
    rw [flat_rep]; simpa using hj)
  simpa using this

/-- The loom in which nothing happened. -/
def Lm.start (x : Script) : Lm := ⟨[⟨0, 0, 0⟩], List.replicate 8 none, [], x.plan, x.draws, [], false⟩

theorem check_ok {x : Script} (h : checkOf x = 0) : (1 ≤ x.t ∧ x.t ≤ 256 ∧ 1 ≤ x.m ∧ x.m ≤ 1048576) ∧ longOf x = false ∧ 0 < x.programs.length ∧ x.plan.any (outB (-1) 1000) = false ∧ x.draws.any (outB 0 1000) = false ∧ x.programs.any (fun p => p.any (opWrong x.programs.length)) = false := by
  unfold checkOf at h
  split at h
  · cases h
  rename_i h1
  split at h
  · cases h
  rename_i h2
  split at h
  · cases h
  rename_i h3
  split at h
  · cases h
  rename_i h4
  have h3' : (decide (x.programs.length = 0) || x.plan.any (outB (-1) 1000) || x.draws.any (outB 0 1000)) = false := by simpa using h3
  rw [Bool.or_eq_false_iff, Bool.or_eq_false_iff] at h3'
  obtain ⟨⟨q1, q2⟩, q3⟩ := h3'
  have q1 := of_decide_eq_false q1
  exact ⟨by omega, by simpa using h2, by omega, q2, q3, by simpa using h4⟩

def startCells (t m : Int) (progs planV drawsV : Value) (cu cr : Nat) (pipes : Value) (k : Nat) : List Value :=
  [int t, int m, progs, planV, drawsV, ptr cu, ptr cr, pipes] ++ ((List.replicate k (int (-1)) ++ List.replicate (8 - k) (int 0)) ++ [.slice none 0 0, .slice none 0 0, .bool false])

theorem start_set {t m : Int} {progs planV drawsV : Value} {cu cr : Nat} {pipes : Value} : ∀ {k : Nat}, k < 8 → (startCells t m progs planV drawsV cu cr pipes k).set (8 + k) (int (-1)) = startCells t m progs planV drawsV cu cr pipes (k + 1)
  | 0, _ => rfl
  | 1, _ => rfl
  | 2, _ => rfl
  | 3, _ => rfl
  | 4, _ => rfl
  | 5, _ => rfl
  | 6, _ => rfl
  | 7, _ => rfl
  | k + 8, h => by omega
theorem start_len {t m : Int} {progs planV drawsV : Value} {cu cr : Nat} {pipes : Value} {k : Nat} (h : k ≤ 8) : (startCells t m progs planV drawsV cu cr pipes k).length = 19 := by
  simp [startCells]; omega

set_option maxHeartbeats 4000000 in
theorem loom_New {h : Heap} {L : List HP} {sv : ScriptV} {x : Script} (hs : readsScript (ph h) sv x) (hn : x.programs.length ≤ 1000000) (hcs : ∀ p ∈ x.programs, ∀ o ∈ p, o.cases.length ≤ 1000000) (H : Sat h L) (hc : checkOf x = 0) :
    HT P 11 [agg sv] h fun r h' => ∃ lp, r = .tuple #[ptr lp, int 0] ∧ Ext h h' ∧ Sat h' (loomAt x lp (Lm.start x) :: L) := by
  obtain ⟨_, ck2, ck3, ck4, ck5, _⟩ := check_ok hc
  obtain ⟨b1, b2, b3, b4⟩ := longOf_false ck2
  suffices key : HT P 11 [agg sv] h fun r h' => ∃ lp, r = .tuple #[ptr lp, int 0] ∧ Sat h' [loomAt x lp (Lm.start x), whole h] from
    key.mono fun r h' ⟨lp, e, H'⟩ => ⟨lp, e, H.lift H'⟩
  have hs0 := hs
  obtain ⟨t, m, progs, plan, draws⟩ := sv
  refine u11 ?_
  refine box [int t, int m, progs.v, plan.v, draws.v] (Sat.whole h) rfl (fun b1 h1 x1 _ H => ?_)
  refine lA H rfl ?_
  refine callX (sheet_Check (sv := ⟨t, m, progs, plan, draws⟩) (hs0.ext x1) (by omega)) (fun h2 x2 => ?_)
  rw [hc]
  refine cmpF (by decide) ?_
  have H := H.ext x2
  have x2 := x1.trans x2
  refine l0 H rfl ?_
  refine l0 H rfl ?_
  refine call (pick_New H (readsP.ext (h := h) hs.plan x2) (readsP.ext (h := h) hs.draws x2) b2 b3 ck4 ck5) ?_
  rintro _ h3 ⟨cu, rfl, x3, H⟩
  have x3 := x2.trans x3
  refine getA rfl ?_
  refine getA rfl ?_
  have fin : ∀ {h' : Heap} {b : Nat} {pl dr : Value} {sv' : ScriptV} {cr : Nat} {pipes : Value} {K : Value → Heap → Prop}, sv'.plan.v = pl → sv'.draws.v = dr → Sat h' (pt b (cells (startCells sv'.t sv'.m sv'.programs.v pl dr cu cr pipes 0) 62) :: own 101 pipes (List.replicate 8 (none : Option Nat)) :: crewAt cr [] :: (fun s => readsProgs s sv'.programs.v x.programs) :: cursorAt cu x.plan x.draws :: [whole h]) →
      (∀ v h', (∃ lp, v = ptr lp ∧ ∃ t m progs planV drawsV cr pipes, Sat h' (pt lp (cells (startCells t m progs planV drawsV cu cr pipes 0) 62) :: own 101 pipes (List.replicate 8 (none : Option Nat)) :: crewAt cr [] :: (fun s => readsProgs s progs x.programs) :: cursorAt cu x.plan x.draws :: [whole h])) → K v h') → K (ptr b) h' := by
    intro h' b pl dr sv' cr pipes K _ _ H k
    exact k _ _ ⟨b, rfl, _, _, _, _, _, _, _, H⟩
  refine jn1 (fun v h' => ∃ lp, v = ptr lp ∧ ∃ t m progs planV drawsV cr pipes, Sat h' (pt lp (cells (startCells t m progs planV drawsV cu cr pipes 0) 62) :: own 101 pipes (List.replicate 8 (none : Option Nat)) :: crewAt cr [] :: (fun s => readsProgs s progs x.programs) :: cursorAt cu x.plan x.draws :: [whole h])) ?_ ?_
  · intro K hK
    have H1 := H.re 2 [1, 0] rfl rfl
    refine lA H1 rfl ?_
    have cp : ∀ {h'}, Ext h3 h' → HT P 15 [agg (⟨t, m, progs, plan, draws⟩ : ScriptV)] h' fun r h'' => ∃ pl dr : Value, ∃ sv' : ScriptV, sv'.plan.v = pl ∧ sv'.draws.v = dr ∧ sv'.t = t ∧ sv'.m = m ∧ r = agg sv' ∧ Sat h'' [own 3 pl x.plan, own 3 dr x.draws, (fun s => readsProgs s sv'.programs.v x.programs), whole h'] := fun x' =>
      sheet_Copy (sv := ⟨t, m, progs, plan, draws⟩) (hs0.ext (x3.trans x')) (by omega) (fun p hp => Nat.le_trans (b4 p hp) (by omega)) hcs (by omega) (by omega)
    refine ⟨?_, ?_⟩
    · refine call (cp (Ext.refl _)) ?_
      rintro _ h4 ⟨pl, dr, sv', rfl, rfl, _, _, rfl, H'⟩
      have H := H1.liftN (M := [_, _, _]) H'
      refine ⟨?_, ?_⟩
      · refine call (crew_New H) ?_
        rintro _ h5 ⟨cr, rfl, _, H⟩
        refine mks_own (n := 8) (none : Option Nat) H rfl rfl (by decide) (fun pv h6 _ H => ?_)
        obtain ⟨pva, pvc, rfl⟩ := (own_reads H m0).len
        refine ⟨lA (H.front 5 rfl) rfl rfl, ?_⟩
        refine fil rfl ?_
        refine box (startCells sv'.t sv'.m sv'.programs.v sv'.plan.v sv'.draws.v cu cr (.slice pva (List.replicate 8 (none : Option Nat)).length pvc) 0) H rfl (fun b h7 _ _ H => ?_)
        exact fin rfl rfl (H.re 7 [0, 1, 2, 5] rfl rfl) hK
      · refine mks_own (n := 8) (none : Option Nat) H rfl rfl (by decide) (fun pv h6 _ H => ?_)
        obtain ⟨pva, pvc, rfl⟩ := (own_reads H m0).len
        refine ⟨lA (H.front 4 rfl) rfl rfl, ?_⟩
        refine call (crew_New H) ?_
        rintro _ h5 ⟨cr, rfl, _, H⟩
        refine fil rfl ?_
        refine box (startCells sv'.t sv'.m sv'.programs.v sv'.plan.v sv'.draws.v cu cr (.slice pva (List.replicate 8 (none : Option Nat)).length pvc) 0) H rfl (fun b h7 _ _ H => ?_)
        exact fin rfl rfl (H.re 7 [0, 2, 1, 5] rfl rfl) hK
    · refine mks_own (n := 8) (none : Option Nat) H1 rfl rfl (by decide) (fun pv h6 x6 H => ?_)
      obtain ⟨pva, pvc, rfl⟩ := (own_reads H m0).len
      refine ⟨lA (H.front 1 rfl) rfl rfl, ?_⟩
      refine call (cp x6) ?_
      rintro _ h4 ⟨pl, dr, sv', rfl, rfl, _, _, rfl, H'⟩
      have H := H.liftN (M := [_, _, _]) H'
      refine call (crew_New H) ?_
      rintro _ h5 ⟨cr, rfl, _, H⟩
      refine fil rfl ?_
      refine box (startCells sv'.t sv'.m sv'.programs.v sv'.plan.v sv'.draws.v cu cr (.slice pva (List.replicate 8 (none : Option Nat)).length pvc) 0) H rfl (fun b h7 _ _ H => ?_)
      exact fin rfl rfl (H.re 7 [0, 5, 1, 4] rfl rfl) hK
  rintro _ h15 ⟨lp, rfl, t', m', pg, plv, drv, cr, pipes, H⟩ _
  refine lp1 Nat (fun k => int k) (fun k h' => k ≤ 8 ∧ Sat h' (pt lp (cells (startCells t' m' pg plv drv cu cr pipes k) 62) :: own 101 pipes (List.replicate 8 (none : Option Nat)) :: crewAt cr [] :: (fun s => readsProgs s pg x.programs) :: cursorAt cu x.plan x.draws :: [whole h])) (fun k => 8 - k) 0 rfl ⟨by omega, H⟩ ?_
  rintro k h16 ⟨hk, H⟩ _
  refine cmp (fun hlt => ?_) (fun hge => ?_)
  · have hlt' : k < 8 := by omega
    refine idx k rfl hlt' ?_
    refine s0 H (int (-1)) rfl rfl (by rw [start_len hk]; simp [Nat.blt_eq]; omega) (fun h17 H => ?_)
    rw [show 0 + 8 + k * 1 = 8 + k by omega, start_set hlt'] at H
    refine ari64 (by omega) ?_
    exact ⟨k + 1, by omega, rfl, hlt', H⟩
  · have : k = 8 := by omega
    subst this
    refine lc0 H (v := ptr cr) rfl ?_
    refine call (crew_Spawn (H.front 2 rfl)) ?_
    rintro _ h18 ⟨rfl, H⟩
    refine ⟨lp, rfl, ?_⟩
    have H := own_new (α := Option Nat) H 101
    have H := own_new (α := Ev) H 34
    have H : Sat h18 (pipesAt [] [] :: _) := ⟨fun _ => none, ph h18, fun _ => .inl rfl, fun _ _ h => by simp at h, Sub.refl _, trivial, H⟩
    refine loom_close (s := Lm.start x) ⟨t', m', pg, plv, drv, cu, cr, pipes, .slice none 0 0, .slice none 0 0, []⟩ ⟨rfl, rfl, fun k hk => by simp [Lm.start] at hk⟩ ?_
    exact H.re 8 [4, 7, 3, 5, 2, 1, 0, 6] rfl rfl

theorem loom_Trace {h : Heap} {x : Script} {lp : Nat} {s : Lm} {L : List HP} (H : Sat h (loomAt x lp s :: L)) (hb : s.trace.length ≤ 1000000000) :
    HT P 14 [ptr lp] h fun r h' => Ext h h' ∧ Sat h' (own 34 r s.trace :: loomAt x lp s :: L) := by
  refine u14 ?_
  obtain ⟨v, ok, H2⟩ := loom_open H
  refine lc0 H2 (LV.g17 ok.nm8) ?_
  exact call (clone_ev H (own_reads H2 m5) (by omega)) fun _ _ x => x

end Go.Sl
end

section
namespace Go.Sl
open Go
attribute [local irreducible] HT

structure PewsOk (cs : List PipeS) : Prop where
  ok : ∀ p ∈ cs, p.snd.length ≤ 1024 ∧ p.rcv.length ≤ 1024

structure B (x : Script) (s : Lm) (k : Nat) : Prop where
  crew : ∀ o ∈ s.crew, 0 ≤ o.program ∧ o.program < x.programs.length ∧ 0 ≤ o.place ∧ o.place ≤ k
  trace : s.trace.length ≤ k
  chans : s.chans.length ≤ k
  pews : PewsOk s.chans
  plan : ∀ n ∈ s.plan, -1 ≤ n
  draws : ∀ d ∈ s.draws, 0 ≤ d

theorem B.mono {x : Script} {s : Lm} {k l : Nat} (b : B x s k) (h : k ≤ l) : B x s l :=
  ⟨fun o ho => by obtain ⟨h1, h2, h3, h4⟩ := b.crew o ho; exact ⟨h1, h2, h3, by omega⟩, Nat.le_trans b.trace h, Nat.le_trans b.chans h, b.pews, b.plan, b.draws⟩
theorem B.note {x : Script} {s : Lm} {k : Nat} (b : B x s k) (e : Ev) : B x (s.note e) (k + 1) :=
  ⟨fun o ho => by obtain ⟨h1, h2, h3, h4⟩ := b.crew o ho; exact ⟨h1, h2, h3, by omega⟩, by have := b.trace; simp [Lm.note]; omega, Nat.le_trans b.chans (by omega), b.pews, b.plan, b.draws⟩
theorem B.turn {x : Script} {s : Lm} {k : Nat} (b : B x s k) (hk : k ≤ 1000000000) (g a c : Int) {d : Int} (hd : d = 0 ∨ d = 1) : B x (s.turn g a c d) (k + 1) := by
  refine ⟨fun o ho => ?_, Nat.le_trans b.trace (by omega), Nat.le_trans b.chans (by omega), b.pews, b.plan, b.draws⟩
  simp only [Lm.turn, Sl.turn] at ho
  have old : ∀ o ∈ s.crew, 0 ≤ o.program ∧ o.program < x.programs.length ∧ 0 ≤ o.place ∧ o.place ≤ ((k + 1 : Nat) : Int) := fun o ho => by
    obtain ⟨h1, h2, h3, h4⟩ := b.crew o ho; exact ⟨h1, h2, h3, by omega⟩
  split at ho
  · exact old o ho
  · rename_i y hy
    split at ho
    · rcases List.mem_or_eq_of_mem_set ho with ho | ho
      · exact old o ho
      · obtain ⟨h1, h2, h3, h4⟩ := b.crew y (at?_mem hy)
        subst ho
        refine ⟨h1, h2, ?_, ?_⟩ <;> simp only [] <;> rw [wrap_i64 (by omega) (by omega)] <;> omega
    · exact old o ho
theorem B.setChans {x : Script} {s : Lm} {k : Nat} (b : B x s k) {cs : List PipeS} (hl : cs.length = s.chans.length) (hp : PewsOk cs) : B x { s with chans := cs } k :=
  ⟨b.crew, b.trace, by show cs.length ≤ k; rw [hl]; exact b.chans, hp, b.plan, b.draws⟩

theorem PewsOk.set {cs : List PipeS} (h : PewsOk cs) {k : Nat} {p : PipeS} (hp : p.snd.length ≤ 1024 ∧ p.rcv.length ≤ 1024) : PewsOk (cs.set k p) :=
  ⟨fun q hq => by rcases List.mem_or_eq_of_mem_set hq with hq | hq
                  · exact h.ok q hq
                  · subst hq; exact hp⟩
theorem PewsOk.get {cs : List PipeS} (h : PewsOk cs) {k : Nat} {p : PipeS} (hp : cs[k]? = some p) : p.snd.length ≤ 1024 ∧ p.rcv.length ≤ 1024 := h.ok p (List.mem_of_getElem? hp)

theorem padd_le {l : List Wt} (h : l.length ≤ 1024) (w : Wt) : (padd l w).1.length ≤ 1024 := by
  unfold padd
  split
  · exact h
  · split
    · exact h
    · rename_i h1; simp; omega
theorem pdrop_le (l : List Wt) (g : Int) : (pdrop l g).length ≤ 1024 := by
  have : ∀ (m acc : List Wt), acc.length ≤ 1024 → (m.foldl (fun acc w => (padd acc w).1) acc).length ≤ 1024 := by
    intro m
    induction m with
    | nil => exact fun acc h => h
    | cons w r ih => exact fun acc h => ih _ (padd_le h w)
  exact this _ _ (by simp)
theorem send_le {p : PipeS} (h : p.snd.length ≤ 1024 ∧ p.rcv.length ≤ 1024) (v : Int) : (p.send v).1.snd.length ≤ 1024 ∧ (p.send v).1.rcv.length ≤ 1024 := by
  unfold PipeS.send
  split
  · exact h
  · split
    · exact h
    · split
      · rename_i w r hr; rw [hr] at h; simp at h ⊢; omega
      · exact h
theorem recv_le {p : PipeS} (h : p.snd.length ≤ 1024 ∧ p.rcv.length ≤ 1024) : p.recv.1.snd.length ≤ 1024 ∧ p.recv.1.rcv.length ≤ 1024 := by
  unfold PipeS.recv
  split
  · exact h
  · split
    · rename_i _ _ w r _ hr; rw [hr] at h; simp at h ⊢; omega
    · exact h
    · rename_i w r _ hr; rw [hr] at h; simp at h ⊢; omega
    · exact h
theorem wait_le {p : PipeS} (h : p.snd.length ≤ 1024 ∧ p.rcv.length ≤ 1024) (sd : Bool) (w : Wt) : (p.wait sd w).1.snd.length ≤ 1024 ∧ (p.wait sd w).1.rcv.length ≤ 1024 := by
  unfold PipeS.wait
  split
  · exact h
  · split
    · exact ⟨padd_le h.1 w, h.2⟩
    · exact ⟨h.1, padd_le h.2 w⟩
theorem close_le {p : PipeS} (h : p.snd.length ≤ 1024 ∧ p.rcv.length ≤ 1024) : p.close.1.snd.length ≤ 1024 ∧ p.close.1.rcv.length ≤ 1024 := by
  unfold PipeS.close
  split
  · exact h
  · exact ⟨by simp, by simp⟩

theorem tryOf_pews {nm : List (Option Nat)} {ss : List PipeS} {c : Cs} (h : PewsOk ss) : PewsOk (tryOf nm ss c).1 := by
  unfold tryOf
  split
  · exact h
  · split
    · exact h
    · rename_i p hp
      split
      · exact h.set (send_le (h.get hp) _)
      · exact h.set (recv_le (h.get hp))
theorem drop_pews {ss : List PipeS} (g : Int) : PewsOk (ss.map (·.drop g)) :=
  ⟨fun p hp => by obtain ⟨q, _, rfl⟩ := List.mem_map.1 hp; exact ⟨pdrop_le _ _, pdrop_le _ _⟩⟩
theorem park1_pews {nm : List (Option Nat)} {g : Int} {ss : List PipeS} {i : Nat} {c : Cs} (h : PewsOk ss) : PewsOk (park1 nm g ss i c) := by
  unfold park1
  split
  · exact h
  · split
    · exact h
    · rename_i p hp; exact h.set (wait_le (h.get hp) _ _)
theorem parkTo_pews {nm : List (Option Nat)} {g : Int} {cs : List Cs} {ss : List PipeS} (h : PewsOk ss) : ∀ k, PewsOk (parkTo nm g cs ss k)
  | 0 => h
  | k + 1 => by
    simp only [parkTo]
    split
    · exact park1_pews (parkTo_pews h k)
    · exact parkTo_pews h k
theorem parkOf_pews {nm : List (Option Nat)} {g : Int} {cs : List Cs} {ss : List PipeS} (h : PewsOk ss) : PewsOk (parkOf nm g cs ss) := by
  unfold parkOf
  split
  · exact h
  · split
    · exact h
    · exact parkTo_pews h _

theorem B.wake {x : Script} {s : Lm} {k : Nat} (b : B x s k) (hk : k ≤ 100000000) (e : Ev) : B x (s.wake e) (k + 2) := by
  unfold Lm.wake
  exact ((b.note { e with kind := 7 }).setChans (cs := s.chans.map (·.drop e.g)) (by simp [Lm.note]) (drop_pews _)).turn (by omega) _ _ _ (.inr rfl)

theorem B.communicate {x : Script} {s : Lm} {k : Nat} (b : B x s k) (hk : k ≤ 10000000) (g : Int) (c : Cs) (place : Int) : B x (s.communicate g c place).1 (k + 4) := by
  have b1 : B x { s with chans := (tryOf s.nm s.chans c).1 } k := b.setChans (tryOf_len _ _ _) (tryOf_pews b.pews)
  unfold Lm.communicate
  split
  · exact (b1.note _).mono (by omega)
  · split
    · exact ((b1.note _).turn (by omega) _ _ _ (.inr rfl)).wake (by omega) _
    · exact ((b1.note _).turn (by omega) _ _ _ (.inr rfl)).mono (by omega)

theorem B.park {x : Script} {s : Lm} {k : Nat} (b : B x s k) (hk : k ≤ 10000000) (g : Int) (c : Cs) : B x (s.park g c) (k + 4) := by
  unfold Lm.park
  have key : ∀ cs : List PipeS, cs.length = s.chans.length → PewsOk cs → B x (({ (s.note ⟨6, g, s.num c.chan, -1, c.value, -1, c.send, false⟩) with chans := cs } : Lm).turn g 0 1 0) (k + 4) := fun cs h1 h2 =>
    (((b.note _).setChans (cs := cs) h1 h2).turn (by omega) _ _ _ (.inl rfl)).mono (by omega)
  refine key _ ?_ ?_
  · split
    · rfl
    · split <;> simp
  · split
    · exact b.pews
    · split
      · exact b.pews
      · rename_i p hp; exact b.pews.set (wait_le (b.pews.get hp) _ _)

theorem B.wakes {x : Script} (g num : Int) : ∀ (l : List Wt) {s : Lm} {k : Nat}, B x s k → k + 2 * l.length ≤ 10000000 → B x (l.foldl (wake1 g num) s) (k + 2 * l.length)
  | [], s, k, b, _ => b.mono (by omega)
  | w :: r, s, k, b, h => by
    simp only [List.length_cons] at h ⊢
    have b1 : B x (wake1 g num s w) (k + 2) := by
      unfold wake1; split
      · exact b.wake (by omega) _
      · exact b.mono (by omega)
    exact (B.wakes g num r b1 (by omega)).mono (by omega)

theorem B.shut {x : Script} {s : Lm} {k : Nat} (b : B x s k) (hk : k ≤ 1000000) (g name : Int) : B x (s.shut g name).1 (k + 2100) := by
  unfold Lm.shut
  split
  · exact (b.note _).mono (by omega)
  · rename_i q _
    split
    · exact (b.note _).mono (by omega)
    · rename_i p hp
      have hpl := b.pews.get hp
      split
      · exact (b.note _).mono (by omega)
      · have b1 : B x (p.rcv.foldl (wake1 g (s.num name)) ((({ s with chans := s.chans.set q p.close.1 } : Lm).note { bareE 5 g with chan := s.num name }).turn g 0 0 1)) (k + 2 + 2 * p.rcv.length) :=
          B.wakes _ _ _ (((b.setChans (cs := s.chans.set q p.close.1) (by simp) (b.pews.set (close_le hpl))).note _).turn (by omega) _ _ _ (.inr rfl)) (by omega)
        split
        · exact (b1.note _).mono (by omega)
        · exact b1.mono (by omega)

theorem B.choose {x : Script} {s : Lm} {k : Nat} (b : B x s k) (hk : k ≤ 1000000) (g : Int) (o : Op) : B x (s.choose g o).1 (k + 4) := by
  have hdl : ∀ n, ∀ d ∈ drawLeft s.draws n, 0 ≤ d := fun n d hd => by
    unfold drawLeft at hd
    split at hd
    · exact b.draws d hd
    · exact b.draws d (List.mem_of_mem_tail hd)
  unfold Lm.choose
  split
  · exact B.communicate (s := { s with draws := drawLeft s.draws (readyOf s.nm s.chans o.cases).length }) ⟨b.crew, b.trace, b.chans, b.pews, b.plan, hdl _⟩ (by omega) _ _ _
  · split
    · exact ((b.note _).turn (by omega) _ _ _ (.inr rfl)).mono (by omega)
    · exact (((b.note _).setChans (cs := parkOf s.nm g o.cases s.chans) (parkOf_len _ _ _ _) (parkOf_pews b.pews)).turn (by omega) _ _ _ (.inl rfl)).mono (by omega)

theorem B.doesPre {x : Script} {s : Lm} {k : Nat} (b : B x s k) (hk : k ≤ 1000000) (g : Int) {o : Op} (ho : o.kind = 1 → o.a < x.programs.length) : B x (s.doesPre g o).1 (k + 1) := by
  unfold Lm.doesPre
  split
  · rename_i h1
    refine ⟨fun y hy => ?_, Nat.le_trans b.trace (by omega), Nat.le_trans b.chans (by omega), b.pews, b.plan, b.draws⟩
    simp only [spawnOf] at hy
    have old : ∀ o ∈ s.crew, 0 ≤ o.program ∧ o.program < x.programs.length ∧ 0 ≤ o.place ∧ o.place ≤ ((k + 1 : Nat) : Int) := fun o ho => by
      obtain ⟨h1, h2, h3, h4⟩ := b.crew o ho; exact ⟨h1, h2, h3, by omega⟩
    split at hy
    · exact old y hy
    · split at hy
      · exact old y hy
      · rcases List.mem_append.1 hy with hy | hy
        · exact old y hy
        · simp at hy; subst hy; have := ho h1; exact ⟨by simp; omega, this, by simp, by simp; omega⟩
  · split
    · refine ⟨fun o ho => by obtain ⟨h1, h2, h3, h4⟩ := b.crew o ho; exact ⟨h1, h2, h3, by omega⟩, Nat.le_trans b.trace (by omega), by have := b.chans; simp; omega, ⟨fun p hp => ?_⟩, b.plan, b.draws⟩
      rcases List.mem_append.1 hp with hp | hp
      · exact b.pews.ok p hp
      · simp at hp; subst hp; exact ⟨by simp, by simp⟩
    · split
      · exact b.mono (by omega)
      · split
        · exact b.mono (by omega)
        · exact b.turn (by omega) _ _ _ (.inl rfl)

theorem B.does {x : Script} {s : Lm} {k : Nat} (b : B x s k) (hk : k ≤ 1000000) (g : Int) {o : Op} (ho : o.kind = 1 → o.a < x.programs.length) : B x (s.does g o).1 (k + 2100) := by
  unfold Lm.does
  split
  · split
    · exact (b.communicate (by omega) _ _ _).mono (by omega)
    · exact (b.park (by omega) _ _).mono (by omega)
  · split
    · exact b.shut hk _ _
    · split
      · exact (b.choose hk _ _).mono (by omega)
      · exact (((b.doesPre hk g ho).note _).turn (by omega) _ _ _ (.inr rfl)).mono (by omega)

/-- Spawned programs are there. -/
structure ScriptFine (x : Script) : Prop where
  good : ScriptGood x
  spawn : ∀ p ∈ x.programs, ∀ o ∈ p, o.kind = 1 → o.a < x.programs.length
  some : 0 < x.programs.length

theorem opOf_spawn {x : Script} (sf : ScriptFine x) (o : One) : (opOf x o).kind = 1 → (opOf x o).a < x.programs.length := by
  unfold opOf
  cases hp : x.programs[o.program.toNat]? with
  | none => intro h; cases h
  | some p =>
    cases hq : p[o.place.toNat]? with
    | none => simp only [Option.bind_some, hq]; intro h; cases h
    | some q =>
      simp only [Option.bind_some, hq]
      exact sf.spawn p (List.mem_of_getElem? hp) q (List.mem_of_getElem? hq)

theorem B.step {x : Script} {s : Lm} {k : Nat} (sf : ScriptFine x) (b : B x s k) (hk : k ≤ 1000000) : B x (s.step x) (k + 2100) := by
  have b0 : B x { s with plan := s.plan.tail } k := ⟨b.crew, b.trace, b.chans, b.pews, fun n hn => b.plan n (List.mem_of_mem_tail hn), b.draws⟩
  have ho : (s.opAt x (s.chosen (s.plan.headD 0))).kind = 1 → (s.opAt x (s.chosen (s.plan.headD 0))).a < x.programs.length := by
    unfold Lm.opAt
    split
    · exact opOf_spawn sf _
    · intro h; cases h
  unfold Lm.step
  split
  · exact b.mono (by omega)
  · split
    · exact (b0.note _).mono (by omega)
    · split
      · exact b0.does hk _ ho
      · have := b0.does hk (s.chosen (s.plan.headD 0)) ho
        exact ⟨this.crew, this.trace, this.chans, this.pews, this.plan, this.draws⟩

theorem B.inv {x : Script} {s : Lm} {k : Nat} (b : B x s k) (hk : k ≤ 1000000) : s.inv x :=
  ⟨fun o ho => by obtain ⟨h1, h2, h3, _⟩ := b.crew o ho; exact ⟨h1, h2, h3⟩, b.plan, b.draws, Nat.le_trans b.trace (by omega), Nat.le_trans b.chans hk⟩

theorem B.start {x : Script} (sf : ScriptFine x) (hp : ∀ n ∈ x.plan, -1 ≤ n) (hd : ∀ d ∈ x.draws, 0 ≤ d) : B x (Lm.start x) 0 :=
  ⟨fun o ho => by simp [Lm.start] at ho; subst ho; have := sf.some; exact ⟨by simp, by simp; omega, by simp, by simp⟩, by simp [Lm.start], by simp [Lm.start], ⟨fun p hp => by simp [Lm.start] at hp⟩, hp, hd⟩

end Go.Sl
end

section
namespace Go.Sl
open Go
attribute [local irreducible] HT

theorem wakes_plan (g num : Int) : ∀ (l : List Wt) (s : Lm), (l.foldl (wake1 g num) s).plan = s.plan
  | [], _ => rfl
  | w :: r, s => by
    rw [List.foldl_cons, wakes_plan g num r]
    unfold wake1; split <;> rfl
theorem communicate_plan (s : Lm) (g : Int) (c : Cs) (place : Int) : (s.communicate g c place).1.plan = s.plan := by
  unfold Lm.communicate
  split
  · rfl
  · split <;> rfl
theorem shut_plan (s : Lm) (g name : Int) : (s.shut g name).1.plan = s.plan := by
  unfold Lm.shut
  split
  · rfl
  · split
    · rfl
    · split
      · rfl
      · split
        · exact wakes_plan _ _ _ _
        · exact wakes_plan _ _ _ _
theorem choose_plan (s : Lm) (g : Int) (o : Op) : (s.choose g o).1.plan = s.plan := by
  unfold Lm.choose
  split
  · exact communicate_plan _ _ _ _
  · split <;> rfl
theorem does_plan (s : Lm) (g : Int) (o : Op) : (s.does g o).1.plan = s.plan := by
  unfold Lm.does
  split
  · split
    · exact communicate_plan _ _ _ _
    · rfl
  · split
    · exact shut_plan _ _ _
    · split
      · exact choose_plan _ _ _
      · show (s.doesPre g o).1.plan = s.plan
        unfold Lm.doesPre
        (repeat' split) <;> rfl
theorem step_plan {x : Script} {s : Lm} (h : s.verdict = 0) : (s.step x).plan = s.plan.tail := by
  unfold Lm.step
  rw [if_neg (by omega)]
  split
  · rfl
  · split
    · exact does_plan _ _ _
    · exact does_plan ({ s with plan := s.plan.tail } : Lm) _ _
theorem step_stop {x : Script} {s : Lm} (h : s.verdict ≠ 0) : s.step x = s := by unfold Lm.step; rw [if_pos h]

def iter (x : Script) : Nat → Lm → Lm
  | 0, s => s
  | k + 1, s => (iter x k s).step x

theorem iter_stop {x : Script} {s : Lm} {k : Nat} (h : (iter x k s).verdict ≠ 0) : ∀ l, k ≤ l → iter x l s = iter x k s := by
  intro l hl
  obtain ⟨d, rfl⟩ := Nat.exists_eq_add_of_le hl
  induction d with
  | zero => rfl
  | succ d ih =>
    have : iter x (k + (d + 1)) s = (iter x (k + d) s).step x := rfl
    rw [this, ih (by omega), step_stop h]

theorem verdict_plan {s : Lm} (h : s.verdict = 0) : s.plan ≠ [] := by
  intro e
  unfold Lm.verdict at h
  split at h
  · cases h
  · split at h
    · rename_i h1; exact h1 h
    · rw [e] at h; simp at h

theorem iter_plan {x : Script} {s : Lm} : ∀ {k : Nat}, (∀ j, j < k → (iter x j s).verdict = 0) → (iter x k s).plan.length + k = s.plan.length
  | 0, _ => rfl
  | k + 1, h => by
    have ih := iter_plan (x := x) (s := s) (k := k) fun j hj => h j (by omega)
    have hv := h k (by omega)
    have hp := verdict_plan hv
    show ((iter x k s).step x).plan.length + (k + 1) = _
    rw [step_plan hv, List.length_tail]
    have : 0 < (iter x k s).plan.length := by cases hh : (iter x k s).plan with | nil => exact absurd hh hp | cons _ _ => simp
    omega

theorem iter_ends {x : Script} (s : Lm) : (iter x s.plan.length s).verdict ≠ 0 := by
  intro h
  have hall : ∀ j, j < s.plan.length → (iter x j s).verdict = 0 := fun j hj => by
    by_cases hv : (iter x j s).verdict = 0
    · exact hv
    · rw [iter_stop hv s.plan.length (by omega)] at h; exact absurd h hv
  have := iter_plan hall
  exact verdict_plan h (List.eq_nil_of_length_eq_zero (by omega))

/-- The loom behind all steps. -/
def Lm.last (x : Script) : Lm := iter x x.plan.length (Lm.start x)

theorem B.iter {x : Script} (sf : ScriptFine x) (hp : ∀ n ∈ x.plan, -1 ≤ n) (hd : ∀ d ∈ x.draws, 0 ≤ d) : ∀ k, k ≤ 400 → B x (iter x k (Lm.start x)) (k * 2100)
  | 0, _ => (B.start sf hp hd).mono (by omega)
  | k + 1, h => (B.step sf (B.iter sf hp hd k (by omega)) (by omega)).mono (by omega)

theorem below_iff {n m : Int} : belowB n m = true ↔ 0 ≤ n ∧ n < m := by simp [belowB]
theorem fits_iff {n m : Int} : fitsB n m = true → 0 ≤ n ∧ (m > 1 → n < m) ∧ (¬ m > 1 → n < 1) := by
  unfold fitsB
  rw [below_iff]
  rintro ⟨h1, h2⟩
  split at h2
  · exact ⟨h1, fun _ => h2, fun h => absurd (by assumption) h⟩
  · exact ⟨h1, fun h => absurd h (by assumption), fun _ => h2⟩

theorem deed_good {o : Op} {n : Nat} (h : deedCheck o n = 0) : OpGood o ∧ (o.kind = 1 → o.a < n) := by
  unfold deedCheck at h
  split at h
  · cases h
  rename_i h1
  split at h
  · cases h
  rename_i h2
  split at h
  · cases h
  rename_i h3
  split at h
  · cases h
  rename_i h4
  have h3 : opBad o n = false := by simpa using h3
  have h4 : o.cases.any caseBad = false := by simpa using h4
  unfold opBad at h3
  rw [Bool.or_eq_false_iff, Bool.or_eq_false_iff, Bool.not_eq_false', Bool.not_eq_false'] at h3
  obtain ⟨⟨ha, hb⟩, _⟩ := h3
  obtain ⟨a0, a1, a2⟩ := fits_iff ha
  obtain ⟨b0, b1, b2⟩ := fits_iff hb
  rw [List.any_eq_false] at h4
  refine ⟨⟨⟨by omega, by omega⟩, fun hk => ?_, fun hk => ?_, fun c hc => ?_, by omega⟩, fun hk => ?_⟩
  · have hl : (limitsOf o.kind n).1 = 8 := by rcases hk with hk | hk | hk | hk <;> simp [limitsOf, hk]
    rw [hl] at a1
    exact ⟨a0, a1 (by omega)⟩
  · refine ⟨b0, ?_⟩
    have := b1 (by simp [limitsOf, hk])
    simp [limitsOf, hk] at this; omega
  · have := h4 c hc
    simp [caseBad] at this
    have := below_iff.1 this.1.1
    omega
  · by_cases hn : (n : Int) > 1
    · have := a1 (by simpa [limitsOf, hk] using hn)
      simpa [limitsOf, hk] using this
    · have := a2 (by simpa [limitsOf, hk] using hn)
      omega

theorem check_fine {x : Script} (h : checkOf x = 0) : ScriptFine x ∧ (∀ n ∈ x.plan, -1 ≤ n ∧ n ≤ 1000) ∧ (∀ d ∈ x.draws, 0 ≤ d ∧ d ≤ 1000) ∧ x.plan.length ≤ 200 ∧ x.draws.length ≤ 64 ∧ x.programs.length ≤ 8 := by
  obtain ⟨_, c2, c3, c4, c5, c6⟩ := check_ok h
  obtain ⟨l1, l2, l3, l4⟩ := longOf_false c2
  rw [List.any_eq_false] at c4 c5 c6
  have hop : ∀ p ∈ x.programs, ∀ o ∈ p, deedCheck o x.programs.length = 0 := fun p hp o ho => by
    have := c6 p hp
    simp only [Bool.not_eq_true] at this
    rw [List.any_eq_false] at this
    have := this o ho
    simpa [opWrong] using this
  refine ⟨⟨⟨fun p hp o ho => (deed_good (hop p hp o ho)).1, fun p hp => Nat.le_trans (l4 p hp) (by omega)⟩, fun p hp o ho => (deed_good (hop p hp o ho)).2, c3⟩, fun n hn => ?_, fun n hn => ?_, l2, l3, l1⟩
  · have := c4 n hn; simp [outB] at this; omega
  · have := c5 n hn; simp [outB] at this; omega

theorem loom_Run {h : Heap} {L : List HP} {sv : ScriptV} {x : Script} (hs : readsScript (ph h) sv x) (hn : x.programs.length ≤ 1000000) (hcs : ∀ p ∈ x.programs, ∀ o ∈ p, o.cases.length ≤ 1000000) (H : Sat h L) (hc : checkOf x = 0) :
    HT P 7 [agg sv] h fun r h' => ∃ tv, r = .tuple #[tv, int (Lm.last x).verdict] ∧ Ext h h' ∧ Sat h' (own 34 tv (Lm.last x).trace :: L) := by
  suffices key : HT P 7 [agg sv] h fun r h' => ∃ tv, r = .tuple #[tv, int (Lm.last x).verdict] ∧ Sat h' [own 34 tv (Lm.last x).trace, whole h] from
    key.mono fun r h' ⟨tv, e, H'⟩ => ⟨tv, e, H.lift H'⟩
  obtain ⟨sf, hp, hd, hpl, _, _⟩ := check_fine hc
  have hB := B.iter sf (fun n hn => (hp n hn).1) (fun d hd' => (hd d hd').1)
  obtain ⟨t, m, progs, plan, draws⟩ := sv
  refine u7 ?_
  refine box [int t, int m, progs.v, plan.v, draws.v] (Sat.whole h) rfl (fun b1 h1 x1 _ H => ?_)
  refine lA H rfl ?_
  refine call (loom_New (sv := ⟨t, m, progs, plan, draws⟩) (hs.ext x1) hn hcs H.drop hc) ?_
  rintro _ h2 ⟨lp, rfl, x2, H⟩
  refine getA rfl ?_
  refine getA rfl ?_
  refine cmpF (by decide) ?_
  have hst : (Lm.start x).plan = x.plan := rfl
  refine lp0 Nat (fun k h' => Sat h' [loomAt x lp (iter x k (Lm.start x)), whole h] ∧ ∀ j, j < k → (iter x j (Lm.start x)).verdict = 0) (fun k => x.plan.length - k) 0 ⟨H, fun j hj => by omega⟩ ?_
  rintro k h3 ⟨H, hv⟩ _
  have hkl : k ≤ x.plan.length := by have := iter_plan hv; rw [hst] at this; omega
  refine callX (loom_Verdict H m0) (fun h4 x4 => ?_)
  have H := H.ext x4
  refine cmp (fun c => ?_) (fun c => ?_)
  · have b1 := hB k (by omega)
    have b2 := hB (k + 1) (by omega)
    have hall : ∀ j, j < k + 1 → (iter x j (Lm.start x)).verdict = 0 := fun j hj => by
      by_cases hjk : j < k
      · exact hv j hjk
      · have : j = k := by omega
        subst this; exact c
    have hk1 : k + 1 ≤ x.plan.length := by have := iter_plan hall; rw [hst] at this; omega
    refine call (loom_Step sf.good (b1.inv (by omega)) (Nat.le_trans b2.trace (by omega)) H) ?_
    rintro r h5 H
    exact ⟨k + 1, by omega, H.re 2 [1] rfl rfl, hall⟩
  · have hlast : iter x k (Lm.start x) = Lm.last x := (iter_stop c x.plan.length hkl).symm
    have b1 := hB k (by omega)
    rw [hlast] at H b1
    refine call (loom_Trace H (Nat.le_trans b1.trace (by omega))) ?_
    rintro r h5 ⟨x5, H⟩
    refine callX (loom_Verdict H m1) (fun h6 x6 => ?_)
    exact ⟨r, rfl, (H.ext x6).re 2 [0] rfl rfl⟩

theorem loom_Run_bad {h : Heap} {sv : ScriptV} {x : Script} (hs : readsScript (ph h) sv x) (hn : x.programs.length ≤ 1000000) (hc : checkOf x ≠ 0) :
    HT P 7 [agg sv] h fun r h' => r = .tuple #[.slice none 0 0, int 0] ∧ Ext h h' := by
  obtain ⟨t, m, progs, plan, draws⟩ := sv
  refine u7 ?_
  refine box [int t, int m, progs.v, plan.v, draws.v] (Sat.whole h) rfl (fun b1 h1 x1 _ H => ?_)
  refine lA H rfl ?_
  have key : HT P 11 [agg (⟨t, m, progs, plan, draws⟩ : ScriptV)] h1 fun r h' => r = .tuple #[nilp, int (checkOf x)] ∧ Ext h1 h' := by
    refine u11 ?_
    refine box [int t, int m, progs.v, plan.v, draws.v] (Sat.whole h1) rfl (fun b2 h2 x2 _ H => ?_)
    refine lA H rfl ?_
    refine callX (sheet_Check (sv := ⟨t, m, progs, plan, draws⟩) (hs.ext (x1.trans x2)) (by omega)) (fun h3 x3 => ?_)
    refine cmpT hc ?_
    exact ⟨rfl, x2.trans x3⟩
  refine callX key (fun h2 x2 => ?_)
  refine getA rfl ?_
  refine getA rfl ?_
  refine cmpT hc ?_
  exact ⟨rfl, x1.trans x2⟩

end Go.Sl
end
