/- Parts of the proof, laid together: S6 S7 S8a S8 S9. No statement of the seat is proved here. -/
import Derived.Test.YtmimnelcopgcpaaGreatCA
import Derived.OrdersHeld
set_option linter.unusedVariables false
set_option linter.unusedSimpArgs false
section
namespace Go.Sl
open Go

theorem one_eq (v : Value) : one v = v.oneCell' := by cases v <;> rfl

theorem Same.refl (w : World) : Same w w := ⟨rfl, rfl, rfl⟩
theorem Same.trans {a b c : World} (x : Same a b) (y : Same b c) : Same a c := ⟨y.os.trans x.os, y.tape.trans x.tape, y.output.trans x.output⟩

/-- The world with another heap. -/
def withHeap (w : World) (h : Heap) : World := { w with heap := h }

theorem setRow_eq (w : World) {g : Nat} {cs : Array Value} {c : Array Value} {t : TypeId} {fr : Nat × Nat} (hg : w.heap[g]? = some (.cells c t fr)) :
    w.setRow g cs = withHeap w (w.heap.setIfInBounds g (.cells cs t fr)) := by
  unfold World.setRow withHeap
  congr 1
  obtain ⟨hlt, he⟩ := Array.getElem?_eq_some_iff.1 hg
  apply Array.ext_getElem?
  intro i
  rw [Array.getElem?_modify, Array.getElem?_setIfInBounds]
  by_cases hi : g = i
  · subst hi; simp [hlt, he]
  · simp [hi]

theorem store_run {P : Program} {w : World} {b o : Nat} {c : Array Value} {T : TypeId} {vs : List Value} (hg : w.heap[b]? = some (.cells c T (0, 0))) (hl : o + vs.length ≤ c.size) (h1 : vs.all one = true) :
    (storeCells ⟨b, o, none⟩ vs).run P w = .ok () (withHeap w (w.heap.setIfInBounds b (.cells (putRange c o vs) T (0, 0)))) := by
  have := run_storeCells_at P b o T vs 0 c w hg (by simpa using hl) (fun v hv => by rw [← one_eq]; exact List.all_eq_true.1 h1 v hv)
  rw [this, setRow_eq w hg]
  rfl

theorem storeVar_run {P : Program} {t : Nat} {i : TI} (ht : TIok P t i) {w : World} {b o : Nat} {c : Array Value} {T : TypeId} {v : Value} (hg : w.heap[b]? = some (.cells c T (0, 0)))
    (hs : v.cells.size = i.size) (hl : o + i.size ≤ c.size) (h1 : v.cells.toList.all one = true) :
    (storeVar t ⟨b, o, none⟩ v).run P w = .ok () (withHeap w (w.heap.setIfInBounds b (.cells (putRange c o v.cells.toList) T (0, 0)))) := by
  simp only [storeVar, Sem.run_bind, ht.size, Result.andThen_ok, hs, ne_eq, not_true_eq_false, if_false]
  exact store_run hg (by simpa [hs] using hl) h1

theorem load_run {P : Program} {w : World} {a : Option Addr} {vs : List Value} {n esz : Nat} (hn : vs.length = n * esz) (h : vs = [] ∨ ∃ b o, a = some ⟨b, o, none⟩ ∧ rangeAt w.heap b o vs) (m c : Nat) :
    (Builtin.firstCells esz n (.slice a m c)).run P w = .ok vs.toArray w := by
  rcases h with rfl | ⟨b, o, rfl, h⟩
  · cases a with
    | none => simp [Builtin.firstCells]
    | some p =>
      have : n * esz = 0 := by simpa using hn.symm
      simp [Builtin.firstCells, this, loadCells, loadCellsFrom]
  · have hl := run_loadCells_list (P := P) w ⟨b, o, none⟩ vs (fun j v hj => by rw [addr_add, cellAt_world]; exact h j v hj)
    rw [hn] at hl
    simp [Builtin.firstCells, hl]

theorem growBy_le (nl : Nat) : ∀ (r c : Nat), Builtin.growBy nl r c ≤ max c (nl + (nl + 768) / 4)
  | 0, c => by simp [Builtin.growBy]; omega
  | r + 1, c => by
    simp only [Builtin.growBy]
    split
    · omega
    · have := growBy_le nl r (c + (c + 768) / 4)
      omega

theorem nextslicecap_le {nl oc : Nat} (h : oc < nl) : Builtin.nextslicecap nl oc ≤ 2 * nl := by
  unfold Builtin.nextslicecap
  split
  · omega
  · split
    · omega
    · have := growBy_le nl 4 oc
      omega

theorem range_zero : ∀ (m : Nat) (z : List Value), (List.range (m * z.length)).map (fun i => z.toArray[i % z.toArray.size]!) = (List.replicate m z).flatten
  | 0, z => by simp
  | m + 1, z => by
    rw [List.replicate_succ', List.flatten_append, ← range_zero m z, Nat.succ_mul, List.range_add, List.map_append]
    congr 1
    simp only [List.map_map, List.flatten_cons, List.flatten_nil, List.append_nil]
    apply List.ext_getElem?
    intro j
    by_cases hj : j < z.length
    · have hm : (m * z.length + j) % z.length = j := by rw [Nat.add_comm, Nat.add_mul_mod_self_right]; exact Nat.mod_eq_of_lt hj
      simp [hj, hm]
    · have hj' : z.length ≤ j := by omega
      simp [hj']

theorem zero_row (m : Nat) (z : Array Value) (k : Nat) (hk : z.size = k) : ((Array.range (m * k)).map (fun i => z[i % z.size]!)) = (List.replicate m z.toList).flatten.toArray := by
  have := range_zero m z.toList
  subst hk
  rw [← this]
  apply Array.ext'
  simp [Array.toList_range]

theorem app_run {P : Program} {T : Tab} (hT : Tabok P T) {t u e : Nat} {j : TI} (hu : P.underlying t = some (.slice e)) (hx : ∃ e', P.underlying u = some (.slice e')) (hl : lk T e = some j)
    {h : Heap} {x y : Value} {K : Value → Heap → Prop} (hr : APP h e j.size j.bytes j.zero x y K) {w : World} (hw : w.heap = h) (ty : TypeId) :
    ∃ v w', (Builtin.append_ #[t, u] ty #[x, y]).run P w = .ok v w' ∧ Same w w' ∧ K v w'.heap := by
  have hj := tab hT hl
  obtain ⟨f, hf, hsz, hby, hz⟩ := hj.inf
  obtain ⟨e', hx⟩ := hx
  obtain ⟨a, ya, n, c, m, yc, news, rfl, rfl, hn, h1, hy, hr⟩ := hr.ex
  subst hw
  have hnew := fun w' (hw' : w'.heap = w.heap) => load_run (P := P) (w := w') (a := ya) hn (by rw [hw']; exact hy) m yc
  have hti : ∀ w', (typeInfo e).run P w' = .ok f w' := fun w' => by simp [typeInfo, hf]
  have hso : ∀ w', (sizeOf e).run P w' = .ok j.size w' := hj.size
  have hzv : ∀ w', (zeroValue e).run P w' = .ok (mkv j.d j.zero) w' := hj.zeroV
  rcases hr with ⟨hc, hr⟩ | ⟨hc, hzl, hb, olds, ho, hol, hK⟩
  · rcases hr with ⟨rfl, hK⟩ | ⟨b, o, cs, U, rfl, hg, hlen, hK⟩
    · refine ⟨_, w, ?_, Same.refl w, hK⟩
      cases a <;> simp [Builtin.append_, run_underlying hu, run_underlying hx, hso, Builtin.lenOf, hc, hnew w rfl, storeCells]
    · have hst := store_run (P := P) (w := w) (b := b) (o := o + n * j.size) (vs := news) hg (by omega) h1
      refine ⟨_, withHeap w (w.heap.setIfInBounds b (.cells (putRange cs (o + n * j.size) news) U (0, 0))), ?_, ⟨rfl, rfl, rfl⟩, hK⟩
      simp [Builtin.append_, run_underlying hu, run_underlying hx, hso, Builtin.lenOf, hc, hnew w rfl, addr_add, hst]
  · have hold := fun w' (hw' : w'.heap = w.heap) => load_run (P := P) (w := w') (a := a) ho (by rw [hw']; exact hol) n c
    have hle := nextslicecap_le hc
    have hbig : ¬ Builtin.nextslicecap (n + m) c * f.bytes > 2 ^ 48 := by
      rw [hby]
      have h2 : Builtin.nextslicecap (n + m) c * j.bytes ≤ 2 * (n + m) * j.bytes := Nat.mul_le_mul_right _ hle
      have h3 : 2 * (n + m) * j.bytes ≤ 2 * ((n + m) * (j.bytes + 1)) := by rw [Nat.mul_assoc]; exact Nat.mul_le_mul_left _ (Nat.mul_le_mul_left _ (by omega))
      omega
    have hsmall : ¬ (9223372036854775807 < (n : Int) + (m : Int) ∧ f.bytes = 0) := by
      have h4 : n + m ≤ (n + m) * (j.bytes + 1) := Nat.le_mul_of_pos_right _ (by omega)
      omega
    have hmz : (mkv j.d j.zero).cells.size = j.size := by have := congrArg List.length hj.zc; simpa [hzl] using this
    let q := Question.appendCap (n + m) c e
    have hcap : n + m ≤ q.cut (w.tape w.drawn q) := by simp only [q, Question.cut]; omega
    have hsp := hK (q.cut (w.tape w.drawn q)) (Builtin.zeroCells (mkv j.d j.zero).cells (q.cut (w.tape w.drawn q) - (n + m))).toList hcap (by simp [Builtin.zeroCells, hmz])
    generalize hZ : Builtin.zeroCells (mkv j.d j.zero).cells (q.cut (w.tape w.drawn q) - (n + m)) = Z at hsp
    have hZa : (olds ++ news ++ Z.toList).toArray = olds.toArray ++ (news.toArray ++ Z) := by simp
    rw [hZa] at hsp
    refine ⟨.slice (some ⟨w.heap.size, 0, none⟩) (n + m) (q.cut (w.tape w.drawn q)), w.drew.alloc (.cells (olds.toArray ++ (news.toArray ++ Z)) e (0, 0)), ?_, ⟨rfl, rfl, rfl⟩, hsp⟩
    rw [← hZ]
    have hc' : ¬ n + m ≤ c := by omega
    have hfo : (Question.appendCap (n + m) c e).forced = false := rfl
    simp [Builtin.append_, run_underlying hu, run_underlying hx, hso, Builtin.lenOf, hc', hti, hbig, hsmall, hfo, hold w.drew rfl, hnew w.drew rfl, hzv, newRow, q]

theorem getMap {P : Program} {w : World} {r : Nat} {es : Array MapEntry} {clock : Nat} (h : w.heap[r]? = some (.map es clock)) : (getObj r).run P w = .ok (.map es clock) w := by simp [getObj, Sem.run, h]
theorem setMap {P : Program} {w : World} {r : Nat} {es : Array MapEntry} {clock : Nat} (o : Obj) (h : w.heap[r]? = some (.map es clock)) : (setObj r o).run P w = .ok () (withHeap w (w.heap.setIfInBounds r o)) := by
  simp [setObj, Sem.run, h, withHeap]
theorem newRun {P : Program} (w : World) (o : Obj) : (newObj o).run P w = .ok w.heap.size (w.alloc o) := rfl

theorem mks_run {P : Program} {T : Tab} (hT : Tabok P T) {t e : Nat} {j : TI} (hu : P.underlying t = some (.slice e)) (hl : lk T e = some j)
    {h : Heap} {x y : Value} {K : Value → Heap → Prop} (hr : MKS h e j.size j.bytes j.zero x y K) {w : World} (hw : w.heap = h) :
    ∃ v w', (Instr.makeSlice t x y).run P w = .ok v w' ∧ Same w w' ∧ K v w'.heap := by
  have hj := tab hT hl
  obtain ⟨f, hf, hsz, hby, hz⟩ := hj.inf
  obtain ⟨n, m, rfl, rfl, hnm, hb, hzl, hK⟩ := hr.ex
  subst hw
  have hti : ∀ w', (typeInfo e).run P w' = .ok f w' := fun w' => by simp [typeInfo, hf]
  have hmb : m ≤ m * (f.bytes + 1) := Nat.le_mul_of_pos_right _ (by omega)
  rw [← hby] at hb
  have hm63 : m < 2 ^ 46 + 1 := by omega
  have hwm : IntKind.i64.wrap (m : Int) = m := by simp [IntKind.wrap, IntKind.bits, IntKind.signed]; omega
  have hwn : IntKind.i64.wrap (n : Int) = n := by simp [IntKind.wrap, IntKind.bits, IntKind.signed]; omega
  have hbm : ¬ ((f.bytes : Int) * (m : Int) > 2 ^ 48) := by
    have : f.bytes * m ≤ m * (f.bytes + 1) := by rw [Nat.mul_comm]; exact Nat.mul_le_mul_left _ (by omega)
    have h2 : (f.bytes : Int) * (m : Int) = ((f.bytes * m : Nat) : Int) := by simp
    rw [h2]; omega
  have hmz : (mkv j.d j.zero).cells.size = j.size := by have := congrArg List.length hj.zc; simpa [hzl] using this
  refine ⟨.slice (some ⟨w.heap.size, 0, none⟩) n m, w.alloc (.cells (List.replicate m j.zero).flatten.toArray e (0, 0)), ?_, ⟨rfl, rfl, rfl⟩, hK⟩
  have hrow := zero_row m (mkv j.d j.zero).cells j.size hmz
  rw [hj.zc] at hrow
  have hz1 : m * j.size = 0 → (List.replicate m j.zero).flatten.toArray = #[] := fun h0 => by rw [← hrow, h0]; simp
  simp only [Instr.makeSlice, Sem.run_bind, run_underlying hu, Result.andThen_ok, asInt, asIntOf, Sem.run_pure, hti, hwm, hwn]
  rw [if_neg (by simp; omega)]
  simp only [Sem.run_bind, run_askRoom, Result.andThen_ok, Int.toNat_natCast, hj.size]
  by_cases h0 : m * j.size = 0
  · rw [hz1 h0]
    have hr0 : (Array.range (m * j.size)).map (fun i => (#[] : Array Value)[i % (#[] : Array Value).size]!) = #[] := by rw [h0]; simp
    rw [if_pos h0]
    simp only [Sem.run_bind, Sem.run_pure, Result.andThen_ok, hr0, newRow, newRun]
  · rw [if_neg h0]
    simp only [Sem.run_bind, hj.zeroV, Result.andThen_ok, Sem.run_pure, hrow, newRow, newRun]

theorem row_run {P : Program} {T : Tab} (hT : Tabok P T) {t e len : Nat} {j : TI} (hu : P.underlying t = some (.slice e)) (hl : lk T e = some j) (hzl : j.zero.length = j.size) (hsm : len * j.size ≤ 2 ^ 20)
    {ρ : Env} {ps : Array (Nat × Operand)} {K : List Value → Prop} (hr : FIL (rowZero len j.zero) (evp ρ (ps.toList.map fun p => ((p.1 * j.size, j.size), p.2))) K) (w : World) :
    ∃ l, K l ∧ (Instr.buildSlice t len (ps.map fun p => (p.1, ev ρ p.2))).run P w = .ok (.slice (some ⟨w.heap.size, 0, none⟩) len len) (w.alloc (.cells l.toArray e (0, 0))) := by
  have hj := tab hT hl
  obtain ⟨l, hf, hK⟩ := hr.ex
  refine ⟨l, hK, ?_⟩
  have hfill := fill_run (fun i => some (i * j.size, j.size)) ((ps.map fun p => (p.1, ev ρ p.2)).toList) _ _ _ (by
        rw [evp_map]; simp [List.map_map, Function.comp_def]) hf
  have hmz : (mkv j.d j.zero).cells.size = j.size := by have := congrArg List.length hj.zc; simpa [hzl] using this
  have hrow := zero_row len (mkv j.d j.zero).cells j.size hmz
  rw [hj.zc] at hrow
  have hz1 : len * j.size = 0 → (rowZero len j.zero).toArray = #[] := fun h0 => by unfold rowZero; rw [← hrow, h0]; simp
  have h24 : ¬ len * j.size > 2 ^ 24 := by omega
  simp only [Instr.buildSlice, Sem.run_bind, run_underlying hu, Result.andThen_ok, hj.size]
  rw [if_neg h24]
  by_cases h0 : len * j.size = 0
  · rw [hz1 h0] at hfill
    have hr0 : (Array.range (len * j.size)).map (fun i => (#[] : Array Value)[i % (#[] : Array Value).size]!) = #[] := by rw [h0]; simp
    rw [if_pos h0]
    simp only [Sem.run_bind, Sem.run_pure, Result.andThen_ok, hr0, hfill, newRow, newRun]
  · rw [if_neg h0]
    unfold rowZero at hfill
    simp only [Sem.run_bind, hj.zeroV, Sem.run_pure, Result.andThen_ok, hrow, hfill, newRow, newRun]

theorem cpy_run {P : Program} {T : Tab} (hT : Tabok P T) {t u e : Nat} {j : TI} (hu : P.underlying t = some (.slice e)) (hl : lk T e = some j)
    {h : Heap} {x y : Value} {K : Value → Heap → Prop} (hr : CPY h j.size x y K) {w : World} (hw : w.heap = h) (ty : TypeId) :
    ∃ v w', (Builtin.copy_ #[t, u] ty #[x, y]).run P w = .ok v w' ∧ Same w w' ∧ K v w'.heap := by
  have hj := tab hT hl
  obtain ⟨a, ya, n, c, m, yc, news, rfl, rfl, hn, h1, hy, hr⟩ := hr.ex
  subst hw
  have hnew := load_run (P := P) (w := w) (a := ya) hn hy m yc
  have hso : ∀ w', (sizeOf e).run P w' = .ok j.size w' := hj.size
  rcases hr with ⟨rfl, hK⟩ | ⟨b, o, cs, U, rfl, hg, hlen, hK⟩
  · refine ⟨_, w, ?_, Same.refl w, hK⟩
    cases a <;> simp [Builtin.copy_, run_underlying hu, hso, Builtin.lenOf, hnew, goInt, storeCells]
  · have hst := store_run (P := P) (w := w) (b := b) (o := o) (vs := news) hg (by omega) h1
    refine ⟨_, withHeap w (w.heap.setIfInBounds b (.cells (putRange cs o news) U (0, 0))), ?_, ⟨rfl, rfl, rfl⟩, hK⟩
    simp [Builtin.copy_, run_underlying hu, hso, Builtin.lenOf, hnew, goInt, hst]

theorem clr_run {P : Program} {T : Tab} (hT : Tabok P T) {t e : Nat} {j : TI} (hu : P.underlying t = some (.slice e)) (hl : lk T e = some j)
    {h : Heap} {x : Value} {K : Value → Heap → Prop} (hr : CLR h j.size j.zero x K) {w : World} (hw : w.heap = h) (ty : TypeId) :
    ∃ v w', (Builtin.clear_ #[t] ty #[x]).run P w = .ok v w' ∧ Same w w' ∧ K v w'.heap := by
  have hj := tab hT hl
  obtain ⟨a, n, c, rfl, hzl, hr⟩ := hr.ex
  subst hw
  rcases hr with ⟨rfl, hK⟩ | ⟨b, o, cs, U, rfl, hg, hlen, h1, hK⟩
  · refine ⟨_, w, ?_, Same.refl w, hK⟩
    cases a <;> simp [Builtin.clear_, run_underlying hu]
  · by_cases hn : n = 0
    · subst hn
      refine ⟨.tuple #[], w, ?_, Same.refl w, ?_⟩
      · simp [Builtin.clear_, run_underlying hu]
      · have e : putRange cs o (List.replicate 0 j.zero).flatten = cs := by simp [putRange]
        rw [e] at hK
        have e2 : w.heap.setIfInBounds b (.cells cs U (0, 0)) = w.heap := by
          apply Array.ext_getElem?
          intro i
          rw [Array.getElem?_setIfInBounds]
          split
          · rename_i hi; subst hi; split <;> simp_all
          · rfl
        rw [e2] at hK; exact hK
    · have hmz : (mkv j.d j.zero).cells.size = j.size := by have := congrArg List.length hj.zc; simpa [hzl] using this
      have hrow := zero_row n (mkv j.d j.zero).cells j.size hmz
      rw [hj.zc] at hrow
      have hlf : (List.replicate n j.zero).flatten.length = n * j.size := by simp [hzl]
      have hst := store_run (P := P) (w := w) (b := b) (o := o) (vs := (List.replicate n j.zero).flatten) hg (by omega) h1
      refine ⟨_, withHeap w (w.heap.setIfInBounds b (.cells (putRange cs o (List.replicate n j.zero).flatten) U (0, 0))), ?_, ⟨rfl, rfl, rfl⟩, hK⟩
      have hz : Builtin.zeroCells (mkv j.d j.zero).cells n = (List.replicate n j.zero).flatten.toArray := by unfold Builtin.zeroCells; rw [hmz] at hrow ⊢; exact hrow
      obtain ⟨m, rfl⟩ := Nat.exists_eq_succ_of_ne_zero hn
      rw [show m.succ = m + 1 from rfl] at hz hst ⊢; simp [Builtin.clear_, run_underlying hu, hj.zeroV, hz, hst]

theorem findNow_mset {k0 kk : IntKind} (n : Int) (v : Value) : ∀ (es : List MapEntry) (i : Nat) (es' : List MapEntry), keyed kk es → mset es n v = some es' →
    ∃ j u, Instr.findNow (.int k0) (.int kk n) es i = some (some (i + j, u)) ∧ (∃ e, es[j]? = some e ∧ e.key = .int kk n) ∧ es' = es.modify j fun e => { e with val := v }
  | [], _, _, _, h => by cases h
  | e :: es, i, es', hk, h => by
    obtain ⟨m, hm⟩ := hk e (by simp)
    simp only [mset, hm] at h
    by_cases hnm : n = m
    · subst hnm
      simp at h
      exact ⟨0, e.val, by simp [Instr.findNow, Instr.sameNow, hm], ⟨e, by simp, hm⟩, by simp [← h, hm]⟩
    · have hb : (n == m) = false := by simpa using hnm
      simp only [hnm, if_false] at h
      cases hr : mset es n v with
      | none => simp [hr] at h
      | some l =>
        simp [hr] at h
        obtain ⟨j, u, h1, ⟨e2, h2, h3⟩, h4⟩ := findNow_mset (k0 := k0) n v es (i + 1) l (fun x hx => hk x (by simp [hx])) hr
        refine ⟨j + 1, u, ?_, ⟨e2, by simpa using h2, h3⟩, by simp [← h, h4]⟩
        simp only [Instr.findNow, Instr.sameNow, hm, if_true, hb]
        rw [h1]
        congr 3
        omega

theorem mup_run {P : Program} {t kt et : Nat} {k0 : IntKind} (hu : P.underlying t = some (.map kt et)) (hk : P.underlying kt = some (.int k0))
    {h : Heap} {m k x : Value} {K : Heap → Prop} (hr : MUP h m k x K) {w : World} (hw : w.heap = h) :
    ∃ w', (Instr.mapUpdate t m k x).run P w = .ok () w' ∧ Same w w' ∧ K w'.heap := by
  obtain ⟨kk, n, r, es, clock, rfl, rfl, hg, hke, hr2⟩ := hr.ex
  subst hw
  have hgo := getMap (P := P) hg
  have hc : ∀ w, (Instr.checkKey false 10000 kt (.int kk n)).run P w = .ok () w := fun w => checkKey_int hk _ 9999 _ w
  rcases hr2 with ⟨es', hs, hK⟩ | ⟨hs, hK⟩
  · obtain ⟨j, u, h1, ⟨e, h2, h3⟩, rfl⟩ := findNow_mset (k0 := k0) n x es.toList 0 es' hke hs
    refine ⟨withHeap w (w.heap.setIfInBounds r (.map (es.toList.modify j fun e => { e with val := x }).toArray clock)), ?_, ⟨rfl, rfl, rfl⟩, hK⟩
    have hst := setMap (P := P) (.map (es.modify j fun e => { e with key := .int kk n, val := x }) clock) hg
    have hes : (es.toList.modify j fun e => { e with val := x }).toArray = es.modify j fun e => { e with key := .int kk n, val := x } := by
      apply Array.ext'
      rw [Array.toList_modify]
      apply List.ext_getElem?
      intro i
      simp only [List.getElem?_modify]
      by_cases hij : j = i
      · subst hij; simp [h2, h3]
      · simp [hij]
    have he2 : es[j]? = some e := by simpa using h2
    have hsb : Instr.sameBits 10000 (.int kk n) (.int kk n) = true := by simp [Instr.sameBits]
    simp [Instr.mapUpdate, run_underlying hu, hgo, hc, Instr.findKey, run_underlying hk, h1, he2, h3, Instr.keyThatStays, hsb, hst, hes]
  · obtain ⟨q, h1, h2⟩ := findNow_mget (k0 := k0) n es.toList 0 hke
    rw [hs] at h2
    cases q with
    | some p => cases h2
    | none =>
      have hst := setMap (P := P) (.map (es.push { key := .int kk n, val := x, born := clock }) (clock + 1)) hg
      refine ⟨withHeap w (w.heap.setIfInBounds r (.map (es.push { key := .int kk n, val := x, born := clock }) (clock + 1))), ?_, ⟨rfl, rfl, rfl⟩, hK⟩
      simp [Instr.mapUpdate, run_underlying hu, hgo, hc, Instr.findKey, run_underlying hk, h1, hst]

end Go.Sl
end

section
namespace Go.Sl
open Go

/-- What is asked behind an operation. -/
def Nx (w : World) (K : Value → Heap → Prop) (next : Act → World → Prop) (a : Act) (dst : Option Nat) : Prop :=
  ∀ v w', Same w w' → K v w'.heap → next (a.put dst v) w'

theorem wp_rd {P : Program} {s : SOp} (h : s.ef = false) {ρ : Env} {hp : Heap} {K : Value → Heap → Prop} : s.wp P ρ hp K = s.rd P ρ hp (fun v => K v hp) := by
  cases s <;> first | rfl | cases h

theorem up_value {P : Program} {o : Oper} {a : Act} {w w' : World} {next : Act → World → Prop} {Q : Exit → Act → World → Prop} {v : Value}
    (he : (execOp a.eval o).run P w = .ok (.value v) w') (h : next (a.put o.dst v) w') : o.wp P a w next Q := by
  unfold Oper.wp; rw [he]; exact h
theorem up_skip {P : Program} {o : Oper} {a : Act} {w w' : World} {next : Act → World → Prop} {Q : Exit → Act → World → Prop}
    (he : (execOp a.eval o).run P w = .ok .skip w') (h : next (a.put o.dst undef) w') : o.wp P a w next Q := by
  unfold Oper.wp; rw [he]; exact h

theorem callFunc_run {P : Program} {f : Nat} (he : Enters P f) (args : Array Value) (w : World) : (callFunc f args).run P w = .ok (.enter f args) w := by
  obtain ⟨fn, c, hf, hb, hn⟩ := he.ex
  simp [callFunc, hf, hb, hn]

theorem up_call {P : Program} {o : Oper} {a : Act} {w : World} {next : Act → World → Prop} {Q : Exit → Act → World → Prop} {f : Nat} {args : List Value} {K : Value → Heap → Prop}
    (h : HT P f args w.heap K) (hx : (execOp a.eval o).run P w = (callFunc f args.toArray).run P w) (hn : Nx w K next a o.dst) : o.wp P a w next Q := by
  unfold Oper.wp
  rw [hx, callFunc_run h.1]
  refine (h.2 w rfl).mono ?_
  rintro e w' ⟨v, rfl, hs, hK⟩
  exact hn v w' hs hK

theorem exec_callv {P : Program} {a : Act} {o : Oper} {c : Call} {f : Operand} {g : Nat} {first cap : Array Value} (ho : o.op = .call c) (hc : c.callee = .value f) (hf : a.eval f = .func (.func g) first cap) (w : World) :
    (execOp a.eval o).run P w = (callFunc g (first ++ c.args.map a.eval ++ cap)).run P w := by
  simp [execOp, ho, resolve, hc, hf, Deferred.ofValue, invoke]

set_option maxHeartbeats 1000000 in
theorem wp_sound {P : Program} {T : Tab} (hT : Tabok P T) {o : Oper} {s : SOp} (hc : compOp T o.op = some s) {ρ : Env} {h : Heap} {K : Value → Heap → Prop} (hr : s.wp P ρ h K)
    {a : Act} (ha : a.eval = ev ρ) {w : World} (hw : w.heap = h) {next : Act → World → Prop} (hn : Nx w K next a o.dst) {Q : Exit → Act → World → Prop} : o.wp P a w next Q := by
  have hrd : s.rd P ρ h (fun v => K v h) → o.wp P a w next Q := fun hr => by
    obtain ⟨v, hK, hv⟩ := rd_sound hT hc hr
    subst hw
    exact up_value (by rw [ha]; exact hv w (Ext.refl _)) (hn v w (Same.refl w) hK)
  obtain ⟨dst, op, type, pos, after, grd⟩ := o
  dsimp only at hc hn
  cases op with
  | alloc t =>
    simp only [compOp] at hc
    cases hl : lk T t with
    | none => simp [hl] at hc
    | some i =>
      have hi := tab hT hl
      simp only [hl, Option.map_some, Option.some.injEq] at hc; subst hc
      subst hw
      have hz := hi.zc
      refine up_value (v := .pointer (some ⟨w.heap.size, 0, none⟩)) (w' := w.alloc (.cells i.zero.toArray t (0, 0))) ?_ (hn _ _ ⟨rfl, rfl, rfl⟩ hr)
      have : (mkv i.d i.zero).cells = i.zero.toArray := by have := congrArg List.toArray hz; simpa using this
      simp [execOp, Instr.alloc, hi.zeroV, newVar, newRow, this]
  | box t x =>
    simp only [compOp, Option.some.injEq] at hc; subst hc
    subst hw
    refine up_value (v := .pointer (some ⟨w.heap.size, 0, none⟩)) (w' := w.alloc (.cells (ev ρ x).cells t (0, 0))) ?_ (hn _ _ ⟨rfl, rfl, rfl⟩ hr)
    simp [execOp, Instr.box, newVar, newRow, ha]
  | buildSlice t n ps =>
    simp only [compOp] at hc
    split at hc
    · rename_i e hd
      obtain ⟨i, hl, hid⟩ := dof_some hd
      split at hc
      · rename_i j hlj
        split at hc
        · rename_i hzz
          simp only [Option.some.injEq] at hc; subst hc
          subst hw
          simp only [SOp.wp] at hr
          obtain ⟨l, hK, hrun⟩ := row_run hT ((tab hT hl).slice hid) hlj hzz.1 hzz.2 hr w
          refine up_value (o := ⟨dst, .buildSlice t n ps, type, pos, after, grd⟩) (v := .slice (some ⟨w.heap.size, 0, none⟩) n n) (w' := w.alloc (.cells l.toArray e (0, 0))) ?_ (hn _ _ ⟨rfl, rfl, rfl⟩ hK)
          simp only [execOp, ha]
          have : (ps.map fun x => match x with | (i, x) => (i, ev ρ x)) = ps.map fun p => (p.1, ev ρ p.2) := rfl
          rw [this]
          simp only [Sem.run_bind, hrun, Result.andThen_ok, Sem.run_pure]
        · cases hc
      · cases hc
    · cases hc
  | store t ad x =>
    simp only [compOp] at hc
    cases hl : lk T t with
    | none => simp [hl] at hc
    | some i =>
      simp only [hl, Option.map_some, Option.some.injEq] at hc; subst hc
      subst hw
      simp only [SOp.wp] at hr
      obtain ⟨b, o, c, U, hp, hg, hs, hle, h1, hK⟩ := hr.ex
      have hst := storeVar_run (tab hT hl) hg hs hle h1
      refine up_skip (o := ⟨dst, .store t ad x, type, pos, after, grd⟩) (w' := withHeap w (w.heap.setIfInBounds b (.cells (putRange c o (ev ρ x).cells.toList) U (0, 0)))) ?_ (hn undef (withHeap w _) ⟨rfl, rfl, rfl⟩ hK)
      simp only [execOp, ha, Instr.storeAt, hp, Instr.sureAddr, Sem.run_bind, Sem.run_pure, Result.andThen_ok, hst]
  | makeMap t r =>
    cases r with
    | some _ => simp [compOp] at hc
    | none =>
      simp only [compOp, Option.some.injEq] at hc; subst hc
      subst hw
      refine up_value (v := .map (some w.heap.size)) (w' := w.alloc (.map #[] 0)) ?_ (hn _ _ ⟨rfl, rfl, rfl⟩ hr)
      simp [execOp, Instr.makeMap]
  | makeSlice t l c =>
    simp only [compOp] at hc
    split at hc
    · rename_i e hd
      obtain ⟨i, hl, hid⟩ := dof_some hd
      split at hc
      · rename_i j hlj
        simp only [Option.some.injEq] at hc; subst hc
        obtain ⟨v, w', hrun, hs, hK⟩ := mks_run hT ((tab hT hl).slice hid) hlj hr hw
        exact up_value (by simp only [execOp, ha, Sem.run_bind, hrun, Result.andThen_ok, Sem.run_pure]) (hn _ _ hs hK)
      · cases hc
    · cases hc
  | mapUpdate t m k x =>
    simp only [compOp] at hc
    split at hc
    · rename_i kt et hd
      obtain ⟨i, hl, hid⟩ := dof_some hd
      split at hc
      · rename_i k0 hdk
        obtain ⟨i', hl', hid'⟩ := dof_some hdk
        simp only [Option.some.injEq] at hc; subst hc
        obtain ⟨w', hrun, hs, hK⟩ := mup_run ((tab hT hl).map hid) ((tab hT hl').int hid') hr hw
        exact up_skip (by simp only [execOp, ha, Sem.run_bind, hrun, Result.andThen_ok, Sem.run_pure]) (hn _ _ hs hK)
      · cases hc
    · cases hc
  | call c =>
    simp only [compOp] at hc
    split at hc
    · rename_i f hcal
      simp only [Option.some.injEq] at hc; subst hc
      subst hw
      simp only [SOp.wp] at hr
      refine up_call (o := ⟨dst, .call c, type, pos, after, grd⟩) hr ?_ hn
      rw [exec_callv (g := f) (first := #[]) (cap := #[]) rfl hcal rfl, evl_arr, ha]
      simp
    · rename_i f hnf hcal
      simp only [Option.some.injEq] at hc; subst hc
      subst hw
      simp only [SOp.wp, CALLV, fnArgs] at hr
      split at hr
      · rename_i g first cap hv
        refine up_call (o := ⟨dst, .call c, type, pos, after, grd⟩) hr ?_ hn
        rw [exec_callv (g := g) (first := first) (cap := cap) rfl hcal (by rw [ha]; exact hv), ha]
        have : (first.toList ++ evl ρ c.args.toList ++ cap.toList).toArray = first ++ c.args.map (ev ρ) ++ cap := by
          rw [← evl_arr]; simp
        rw [this]
      · exact hr.elim
    · rename_i b hcal
      unfold compBuiltin at hc
      split at hc
      · exact hrd (by revert hr; split at hc <;> simp only [Option.some.injEq, reduceCtorEq] at hc <;> subst hc <;> exact id)
      · exact hrd (by revert hr; split at hc <;> simp only [Option.some.injEq, reduceCtorEq] at hc <;> subst hc <;> exact id)
      · rename_i x y t u hargs htys
        split at hc
        · rename_i e e' hd hd'
          obtain ⟨i, hl, hid⟩ := dof_some hd
          obtain ⟨i', hl', hid'⟩ := dof_some hd'
          split at hc
          · rename_i j hlj
            simp only [Option.some.injEq] at hc; subst hc
            obtain ⟨v, w', hrun, hs, hK⟩ := app_run hT ((tab hT hl).slice hid) ⟨_, (tab hT hl').slice hid'⟩ hlj hr hw type
            have h1 : c.args = #[x, y] := by rw [← Array.toArray_toList (xs := c.args), hargs]
            have h2 : c.argTypes = #[t, u] := by rw [← Array.toArray_toList (xs := c.argTypes), htys]
            exact up_value (by simp only [execOp, resolve, hcal, ha, Sem.run_bind, Sem.run_pure, Result.andThen_ok, invoke, builtin, h1, h2, List.map_toArray, List.map_cons, List.map_nil, hrun]) (hn _ _ hs hK)
          · cases hc
        · cases hc
      · rename_i x y t u hargs htys
        split at hc
        · rename_i e e' hd hd'
          obtain ⟨i, hl, hid⟩ := dof_some hd
          split at hc
          · rename_i j hlj
            simp only [Option.some.injEq] at hc; subst hc
            obtain ⟨v, w', hrun, hs, hK⟩ := cpy_run (u := u) hT ((tab hT hl).slice hid) hlj hr hw type
            have h1 : c.args = #[x, y] := by rw [← Array.toArray_toList (xs := c.args), hargs]
            have h2 : c.argTypes = #[t, u] := by rw [← Array.toArray_toList (xs := c.argTypes), htys]
            exact up_value (by simp only [execOp, resolve, hcal, ha, Sem.run_bind, Sem.run_pure, Result.andThen_ok, invoke, builtin, h1, h2, List.map_toArray, List.map_cons, List.map_nil, hrun]) (hn _ _ hs hK)
          · cases hc
        · cases hc
      · rename_i x t hargs htys
        split at hc
        · rename_i e hd
          obtain ⟨i, hl, hid⟩ := dof_some hd
          split at hc
          · rename_i j hlj
            simp only [Option.some.injEq] at hc; subst hc
            obtain ⟨v, w', hrun, hs, hK⟩ := clr_run hT ((tab hT hl).slice hid) hlj hr hw type
            have h1 : c.args = #[x] := by rw [← Array.toArray_toList (xs := c.args), hargs]
            have h2 : c.argTypes = #[t] := by rw [← Array.toArray_toList (xs := c.argTypes), htys]
            exact up_value (by simp only [execOp, resolve, hcal, ha, Sem.run_bind, Sem.run_pure, Result.andThen_ok, invoke, builtin, h1, h2, List.map_toArray, List.map_cons, List.map_nil, hrun]) (hn _ _ hs hK)
          · cases hc
        · cases hc
      · simp only [Option.some.injEq] at hc; subst hc; exact hrd hr
      · simp only [Option.some.injEq] at hc; subst hc; exact hrd hr
      · cases hc
    · cases hc
  | _ =>
    have hef : s.ef = false := by
      simp only [compOp] at hc
      (repeat' split at hc)
      all_goals first
        | (simp at hc; done)
        | (simp only [Option.some.injEq] at hc; subst hc; rfl)
        | (obtain ⟨_, _, rfl⟩ := Option.map_eq_some_iff.1 hc; rfl)
        | (obtain ⟨j, _, rfl⟩ := Option.map_eq_some_iff.1 hc; cases aggd j.d <;> rfl)
        | (simp only [cond_eq_ite] at hc; split at hc; · cases hc
           · obtain ⟨_, _, rfl⟩ := Option.map_eq_some_iff.1 hc; rfl)
    exact hrd (by rw [← wp_rd hef]; exact hr)

end Go.Sl
end

section
namespace Go.Sl
open Go


/-- i is ahead of j. -/
inductive Anc (ops : Array Oper) : Nat → Nat → Prop
  | one {j e : Nat} (h : e ∈ afterL ops j) : Anc ops j e
  | step {j e i : Nat} (h : e ∈ afterL ops j) (t : Anc ops e i) : Anc ops j i

structure Dn (ops : Array Oper) (listed : Array Bool) : Prop where
  size : listed.size = ops.size
  down : ∀ j, listed.getD j false = true → ∀ e ∈ afterL ops j, listed.getD e false = true

theorem anc_listed {ops : Array Oper} {listed : Array Bool} (d : Dn ops listed) {j i : Nat} (h : Anc ops j i) : (∀ e ∈ afterL ops j, listed.getD e false = true) → listed.getD i false = true := by
  induction h with
  | one h => exact fun hp => hp _ h
  | step h _ ih => exact fun hp => ih (d.down _ (hp _ h))

theorem ready_after {ops : Array Oper} {listed : Array Bool} {j : Nat} (h : j ∈ Region.ready .any ops listed) : listed.getD j true = false ∧ j < ops.size ∧ ∀ e ∈ afterL ops j, listed.getD e false = true := by
  obtain ⟨h1, oj, h2, h3⟩ := mem_ready.1 h
  refine ⟨h1, (Array.getElem?_eq_some_iff.1 h2).1, fun e he => ?_⟩
  unfold afterL at he
  rw [h2] at he
  simp only [List.mem_map, List.mem_filter] at he
  obtain ⟨x, ⟨hx, hb⟩, rfl⟩ := he
  exact h3 x (by simpa using hx) hb

theorem Dn.set {ops : Array Oper} {listed : Array Bool} (d : Dn ops listed) {i : Nat} (hi : i ∈ Region.ready .any ops listed) : Dn ops (listed.setIfInBounds i true) := by
  refine ⟨by simp [d.size], fun j hj e he => ?_⟩
  by_cases hji : i = j
  · subst hji; exact getD_set_true ((ready_after hi).2.2 e he)
  · rw [getD_set_ne false hji] at hj
    exact getD_set_true (d.down j hj e he)

section
variable {P : Program} {ops : Array Oper} {Q : Exit → Act → World → Prop} {rdB : Nat → Bool} {un : Nat → Nat → Bool}

def keepW (u : Nat → Bool) : List (Nat × (Heap → Prop)) → Heap → Prop
  | [], _ => True
  | (i, p) :: r, h => (u i = true → p h) ∧ keepW u r h

def wpAnyE (P : Program) (ops : Array Oper) (Q : Exit → Act → World → Prop) (rdB : Nat → Bool) (un : Nat → Nat → Bool) : Nat → List (Nat × (Heap → Prop)) → Array Bool → Act → World → Prop
  | 0, _, listed, a, w => Region.ready .any ops listed = [] ∧ Q .normal a w
  | fuel + 1, kl, listed, a, w =>
    (Region.ready .any ops listed = [] → Q .normal a w) ∧
    ∀ i ∈ Region.ready .any ops listed, wpOp P ops Q i (fun a' w' => (rdB i = true → w'.heap = w.heap) ∧ (rdB i = false → keepW (un i) kl w'.heap) ∧ wpAnyE P ops Q rdB un fuel kl (listed.setIfInBounds i true) a' w') a w

theorem wpAny_of_E : ∀ (fuel : Nat) (kl : List (Nat × (Heap → Prop))) (listed : Array Bool) (a : Act) (w : World), wpAnyE P ops Q rdB un fuel kl listed a w → wpAny P .any ops Q fuel listed a w
  | 0, _, _, _, _, h => h
  | fuel + 1, kl, _, _, _, h => ⟨h.1, fun i hi => wpOp_mono (fun a' w' h' => wpAny_of_E fuel kl _ a' w' h'.2.2) (h.2 i hi)⟩

theorem wpAnyE_kl {kl kl' : List (Nat × (Heap → Prop))} (hk : ∀ u h, keepW u kl h → keepW u kl' h) : ∀ (fuel : Nat) (listed : Array Bool) (a : Act) (w : World), wpAnyE P ops Q rdB un fuel kl listed a w → wpAnyE P ops Q rdB un fuel kl' listed a w
  | 0, _, _, _, h => h
  | fuel + 1, _, _, _, h => ⟨h.1, fun i hi => wpOp_mono (fun a' w' h' => ⟨h'.1, fun hr => hk _ _ (h'.2.1 hr), wpAnyE_kl hk fuel _ a' w' h'.2.2⟩) (h.2 i hi)⟩

theorem wpAnyE_first {p : Heap → Prop} {i : Nat} {oi : Oper} {v : Value} (hi : ops[i]? = some oi) (hsel : ∀ (j : Nat) (o : Oper) cs b, ops[j]? = some o → o.op ≠ .select cs b)
    (hQ : ∀ c a w, Q (.panic c) (a.put oi.dst v) w → Q (.panic c) a w) (hri : rdB i = true)
    (hap : ∀ j oj, ops[j]? = some oj → j ≠ i → Anc ops j i ∨ Anc ops i j ∨ oi.apart ops oj = true)
    (hun : ∀ j, j < ops.size → j ≠ i → rdB j = false → Anc ops j i ∨ Anc ops i j ∨ un j i = true ∨ ∀ h, p h) :
    ∀ (fuel : Nat) (kl : List (Nat × (Heap → Prop))) (listed : Array Bool) (a : Act) (w : World), Dn ops listed →
      i ∈ Region.ready .any ops listed → YieldsIf P ops (fun w' => p w'.heap) oi v a → p w.heap →
      wpAnyE P ops Q rdB un fuel ((i, p) :: kl) (listed.setIfInBounds i true) (a.put oi.dst v) w → wpAnyE P ops Q rdB un (fuel + 1) kl listed a w := by
  intro fuel
  induction fuel with
  | zero =>
    intro kl listed a w d hr hy hp H
    refine ⟨fun h => (by rw [h] at hr; cases hr), fun j hj => ?_⟩
    by_cases hji : j = i
    · subst hji; exact hy.wpOp hi hp ⟨fun _ => rfl, fun h => (by rw [hri] at h; cases h), wpAnyE_kl (kl := (_, p) :: kl) (kl' := kl) (fun _ _ h => h.2) _ _ _ _ H⟩
    · have := ready_mono hj hji
      rw [H.1] at this
      cases this
  | succ fuel ih =>
    intro kl listed a w d hr hy hp H
    refine ⟨fun h => (by rw [h] at hr; cases hr), fun j hj => ?_⟩
    by_cases hji : j = i
    · subst hji; exact hy.wpOp hi hp ⟨fun _ => rfl, fun h => (by rw [hri] at h; cases h), wpAnyE_kl (kl := (_, p) :: kl) (kl' := kl) (fun _ _ h => h.2) _ _ _ _ H⟩
    · have h1 := H.2 j (ready_mono hj hji)
      obtain ⟨hjun, oj, hoj, hall⟩ := mem_ready.1 hj
      have hiun := (mem_ready.1 hr).1
      have hilt := (ready_after hr).2.1
      have not_true : ∀ {k : Nat}, k < ops.size → listed.getD k true = false → listed.getD k false = true → False := fun {k} hk h1 h2 => by
        have : k < listed.size := by rw [d.size]; exact hk
        simp [this] at h1 h2; rw [h1] at h2; cases h2
      have nji : ¬ Anc ops j i := fun h => not_true hilt hiun (anc_listed d h (ready_after hj).2.2)
      have nij : ¬ Anc ops i j := fun h => not_true (ready_after hj).2.1 hjun (anc_listed d h (ready_after hr).2.2)
      have hapart : oi.apart ops oj = true := ((hap j oj hoj hji).resolve_left nji).resolve_left nij
      have h2 := wpOp_putIf hoj hapart (fun cs b => hsel i oi cs b hi) (fun cs b => hsel j oj cs b hoj) hQ hy h1
      refine wpOp_mono (fun a' w' h3 => ?_) h2
      have hp' : p w'.heap := by
        cases hrj : rdB j with
        | true => rw [h3.2.1 hrj]; exact hp
        | false => exact (((hun j (ready_after hj).2.1 hji hrj).resolve_left nji).resolve_left nij).elim (fun hu => (h3.2.2.1 hrj).1 hu) (fun h => h _)
      refine ⟨h3.2.1, fun hrj => (h3.2.2.1 hrj).2, ih kl (listed.setIfInBounds j true) a' w' (d.set hj) (ready_mono hr (Ne.symm hji)) h3.1 hp' ?_⟩
      rw [Array.setIfInBounds_comm _ _ hji]
      exact h3.2.2.2

theorem KPS_keep (u : List Nat) {X : Prop} : ∀ (kl : List (Nat × (Heap → Prop))) (h : Heap), KPS u kl h X → keepW (fun i => memB i u) kl h ∧ X
  | [], _, x => ⟨trivial, x⟩
  | (i, p) :: r, h, x => by
    simp only [KPS] at x
    cases hm : memB i u with
    | true => rw [hm] at x; have := KPS_keep u r h x.2; exact ⟨⟨fun _ => x.1, this.1⟩, this.2⟩
    | false => rw [hm] at x; have := KPS_keep u r h x; exact ⟨⟨fun h => by simp [hm] at h, this.1⟩, this.2⟩

end

/-! ### 'anyW' is enough -/

def cntU (dn : List Nat) : Nat → Nat
  | 0 => 0
  | n + 1 => cntU dn n + (bif memB n dn then 0 else 1)

theorem cntU_skip {dn : List Nat} {i : Nat} : ∀ {n : Nat}, n ≤ i → cntU (i :: dn) n = cntU dn n
  | 0, _ => rfl
  | n + 1, h => by
    have h2 := cntU_skip (dn := dn) (i := i) (n := n) (by omega)
    simp only [cntU, h2, memB, nbeq]
    have : ¬ n = i := by omega
    simp [this]

theorem cntU_add {dn : List Nat} {i : Nat} (hi : memB i dn = false) : ∀ {n : Nat}, i < n → cntU (i :: dn) n + 1 = cntU dn n
  | 0, h => by omega
  | n + 1, h => by
    simp only [cntU]
    by_cases hn : n = i
    · subst hn
      rw [cntU_skip (Nat.le_refl _)]
      simp [memB, hi]
    · have := cntU_add hi (n := n) (by omega)
      have hm : memB n (i :: dn) = memB n dn := by simp [memB, nbeq, hn]
      rw [hm]; omega

theorem cntU_zero {dn : List Nat} : ∀ {n : Nat}, cntU dn n = 0 → ∀ j, j < n → memB j dn = true
  | 0, _, _, h => by omega
  | n + 1, h, j, hj => by
    simp only [cntU] at h
    cases hm : memB n dn with
    | false => simp [hm] at h
    | true =>
      by_cases hjn : j = n
      · subst hjn; exact hm
      · exact cntU_zero (n := n) (by omega) j (by omega)

theorem allB_spec (dn : List Nat) : ∀ (l : List Nat), allB l dn = true ↔ ∀ e ∈ l, memB e dn = true
  | [] => by simp [allB]
  | x :: r => by
    simp only [allB, List.mem_cons, forall_eq_or_imp, ← allB_spec dn r]
    cases memB x dn <;> simp

theorem rdyFrom_spec (dn : List Nat) : ∀ (L : List (List Nat)) (k i : Nat), i ∈ rdyFrom k L dn ↔ ∃ a j, i = k + j ∧ L[j]? = some a ∧ memB i dn = false ∧ allB a dn = true
  | [], k, i => by simp [rdyFrom]
  | x :: r, k, i => by
    have ih := rdyFrom_spec dn r (k + 1) i
    have step : (∃ a j, i = k + j ∧ (x :: r)[j]? = some a ∧ memB i dn = false ∧ allB a dn = true) ↔ ((i = k ∧ memB i dn = false ∧ allB x dn = true) ∨ i ∈ rdyFrom (k + 1) r dn) := by
      rw [ih]
      constructor
      · rintro ⟨a, j, rfl, h1, h2, h3⟩
        cases j with
        | zero => simp at h1; subst h1; exact .inl ⟨rfl, h2, h3⟩
        | succ j => exact .inr ⟨a, j, by omega, by simpa using h1, h2, h3⟩
      · rintro (⟨rfl, h2, h3⟩ | ⟨a, j, rfl, h1, h2, h3⟩)
        · exact ⟨x, 0, rfl, rfl, h2, h3⟩
        · exact ⟨a, j + 1, by omega, by simpa using h1, h2, h3⟩
    rw [step]
    simp only [rdyFrom]
    cases hm : memB k dn with
    | true =>
      simp only [cond_true]
      constructor
      · exact .inr
      · rintro (⟨rfl, h, _⟩ | h)
        · rw [hm] at h; cases h
        · exact h
    | false =>
      simp only [cond_false]
      cases ha : allB x dn with
      | true =>
        simp only [cond_true, List.mem_cons]
        constructor
        · rintro (rfl | h)
          · exact .inl ⟨rfl, hm, by simp⟩
          · exact .inr h
        · rintro (⟨rfl, _⟩ | h)
          · exact .inl rfl
          · exact .inr h
      | false =>
        simp only [cond_false]
        constructor
        · exact .inr
        · rintro (⟨_, _, h⟩ | h)
          · cases h
          · exact h

theorem nth_eq {α : Type} : ∀ (l : List α) (i : Nat), nth l i = l[i]?
  | [], _ => by simp [nth]
  | _ :: _, 0 => by simp [nth]
  | _ :: r, i + 1 => by simp [nth, nth_eq r i]

theorem allW_mem {F : Nat → Prop} : ∀ {l : List Nat}, allW l F → ∀ i ∈ l, F i
  | [], _, _, h => by cases h
  | [j], h, i, hi => by simp at hi; subst hi; exact h
  | j :: k :: r, h, i, hi => by
    rcases List.mem_cons.1 hi with rfl | hi
    · exact h.1
    · exact allW_mem (l := k :: r) h.2 i hi

theorem pickRd_spec {l : List (Option Nat × Option (Nat × Bool) × SOp)} : ∀ {rs : List Nat} {i : Nat}, pickRd l rs = some i → i ∈ rs ∧ ∃ d g o, nth l i = some (d, g, o) ∧ o.ef = false
  | [], _, h => by cases h
  | j :: r, i, h => by
    simp only [pickRd] at h
    split at h
    · rename_i d g o hj
      cases he : o.ef with
      | true =>
        rw [he] at h
        obtain ⟨h1, h2⟩ := pickRd_spec (rs := r) h
        exact ⟨by simp [h1], h2⟩
      | false =>
        rw [he] at h
        simp only [cond_false, Option.some.injEq] at h; subst h
        exact ⟨by simp, d, g, o, hj, he⟩
    · obtain ⟨h1, h2⟩ := pickRd_spec (rs := r) h
      exact ⟨by simp [h1], h2⟩

theorem ops_nth {n : Nat} {T : Tab} {all : Array Oper} : ∀ {l : List Oper} {sc : SC}, compOps n T all l = some sc → ∀ {i : Nat} {o : Oper}, l[i]? = some o →
    ∃ g so, nth sc.ops i = some (o.dst, g, so) ∧ compOp T o.op = some so ∧ compGuard all o.guard = some g ∧ dstOk n o.dst = true ∧ (∀ t, memB t sc.ws = false → memB t o.dst.toList = false)
  | [], _, _, _, _, h => by simp at h
  | x :: r, sc, hc, i, o, h => by
    simp only [compOps] at hc
    split at hc
    · rename_i so g k hso hg hk
      cases hd : dstOk n x.dst with
      | false => simp [hd] at hc
      | true =>
        simp only [hd, cond_true, Option.some.injEq] at hc; subst hc
        cases i with
        | zero =>
          simp at h; subst h
          exact ⟨g, so, rfl, hso, hg, hd, fun t ht => by
            simp only [SC.ws] at ht
            cases hm : memB t x.dst.toList with
            | false => rfl
            | true =>
              have : ∀ (a b : List Nat), memB t a = true → memB t (a ++ b) = true := fun a b => by
                induction a with
                | nil => intro h; cases h
                | cons s r ih => intro h; simp only [List.cons_append, memB, nbeq] at h ⊢; by_cases hts : t = s <;> simp_all
              rw [this _ _ hm] at ht; cases ht⟩
        | succ i =>
          obtain ⟨g', so', h1, h2, h3, h4, h5⟩ := ops_nth hk (i := i) (o := o) (by simpa using h)
          refine ⟨g', so', h1, h2, h3, h4, fun t ht => h5 t ?_⟩
          simp only [SC.ws] at ht
          cases hm : memB t k.ws with
          | false => rfl
          | true =>
            have : ∀ (a b : List Nat), memB t b = true → memB t (a ++ b) = true := fun a b h => by
              induction a with
              | nil => exact h
              | cons s r ih => simp only [List.cons_append, memB, ih]; cases Nat.beq t s <;> rfl
            rw [this _ _ hm] at ht; cases ht
    · cases hc

theorem addNew_mem : ∀ (a b : List Nat) (x : Nat), memB x (addNew a b) = true → memB x a = true ∨ memB x b = true
  | [], _, _, h => .inr h
  | y :: r, b, x, h => by
    simp only [addNew] at h
    cases hm : memB y b with
    | true =>
      rw [hm] at h
      rcases addNew_mem r b x h with h | h
      · left; simp [memB, h]
      · exact .inr h
    | false =>
      rw [hm] at h
      rcases addNew_mem r (y :: b) x h with h | h
      · left; simp [memB, h]
      · simp only [memB] at h ⊢
        cases hxy : Nat.beq x y with
        | true => left; simp
        | false => rw [hxy] at h; exact .inr h

theorem memB_mem : ∀ {l : List Nat} {x : Nat}, memB x l = true → x ∈ l
  | [], _, h => by cases h
  | y :: r, x, h => by
    simp only [memB, nbeq] at h
    by_cases hxy : x = y
    · simp [hxy]
    · simp only [hxy, decide_false, cond_false] at h
      exact List.mem_cons_of_mem _ (memB_mem h)

theorem mem_memB : ∀ {l : List Nat} {x : Nat}, x ∈ l → memB x l = true
  | [], _, h => by cases h
  | y :: r, x, h => by
    simp only [memB, nbeq]
    by_cases e : x = y
    · simp [e]
    · simp [e]; exact mem_memB ((List.mem_cons.1 h).resolve_left e)

theorem clo_len (ops : Array Oper) : ∀ k, (clo ops k).length = k
  | 0 => rfl
  | k + 1 => by simp [clo, clo_len ops k]

theorem clo_anc (ops : Array Oper) : ∀ (k j i : Nat), memB i ((nth (clo ops k) j).getD []) = true → Anc ops j i
  | 0, j, i, h => by simp [clo, nth, memB] at h
  | k + 1, j, i, h => by
    have ih := clo_anc ops k
    simp only [clo, nth_eq] at h
    by_cases hj : j < k
    · rw [List.getElem?_append_left (by rw [clo_len]; exact hj)] at h
      exact ih j i (by rw [nth_eq]; exact h)
    · by_cases hjk : j = k
      · subst hjk
        rw [List.getElem?_append_right (by rw [clo_len]; exact Nat.le_refl _), clo_len] at h
        simp only [Nat.sub_self, List.getElem?_cons_zero, Option.getD_some] at h
        rcases addNew_mem _ _ _ h with h | h
        · have := memB_mem h
          simp only [List.mem_flatMap] at this
          obtain ⟨e, he, hi⟩ := this
          exact .step he (ih e i (by rw [nth_eq]; exact (by
            have hmem : ∀ {l : List Nat}, i ∈ l → memB i l = true := fun {l} hl => by
              induction l with
              | nil => cases hl
              | cons y r ihl =>
                simp only [memB, nbeq]
                by_cases hxy : i = y
                · simp [hxy]
                · simp only [hxy, decide_false, cond_false]
                  exact ihl ((List.mem_cons.1 hl).resolve_left hxy)
            exact hmem hi)))
        · rcases addNew_mem _ _ _ h with h | h
          · exact .one (memB_mem h)
          · cases h
      · rw [List.getElem?_eq_none (by simp [clo_len]; omega)] at h
        cases h

theorem Rn_panic {R : Exit → Act → World → Prop} (c : List PanicEntry) (a a' : Act) (w w' : World) (h : Exit.panic c = Exit.normal ∧ R .normal a w) : Exit.panic c = Exit.normal ∧ R .normal a' w' := by cases h.1

theorem put_other {ρ : Env} {d : Option Nat} {v : Value} {t : Nat} (h : memB t d.toList = false) : ρ.put d v t = ρ t := by
  cases d with
  | none => rfl
  | some d =>
    rw [Env.put_some]
    simp only [Option.toList_some, memB, nbeq] at h
    by_cases ht : t = d
    · simp [ht] at h
    · simp [ht]

theorem rd_det {P : Program} {o : SOp} (hh : o.hr = true) {ρ : Env} {h : Heap} {K : Value → Prop} (x : o.rd P ρ h K) : ∃ v, K v ∧ o.rd P ρ h fun v' => v' = v := by
  cases o <;> first | cases hh | skip
  case ld a => obtain ⟨b, o, v, hp, hv, hK⟩ := x.ex; exact ⟨v, hK, ⟨b, o, v, hp, hv, rfl⟩⟩
  case ldn n a => obtain ⟨b, o, vs, hp, hn, hv, hK⟩ := x.ex; exact ⟨_, hK, ⟨b, o, vs, hp, hn, hv, rfl⟩⟩
  case look z ok m k =>
    obtain ⟨kk, n, hk, hm⟩ := LOK.ex x
    rcases hm with ⟨hm, hK⟩ | ⟨r, es, cl, hm, hr, hky, hm2⟩
    · exact ⟨_, hK, ⟨kk, n, hk, .inl ⟨hm, rfl⟩⟩⟩
    · rcases hm2 with ⟨v, hv, hK⟩ | ⟨hv, hK⟩
      · exact ⟨_, hK, ⟨kk, n, hk, .inr ⟨r, es, cl, hm, hr, hky, .inl ⟨v, hv, rfl⟩⟩⟩⟩
      · exact ⟨_, hK, ⟨kk, n, hk, .inr ⟨r, es, cl, hm, hr, hky, .inr ⟨hv, rfl⟩⟩⟩⟩
  case lenM a =>
    simp only [SOp.rd, LENMV] at x ⊢
    split at x
    · exact ⟨_, x, rfl⟩
    · obtain ⟨es, cl, he, hK⟩ := x.ex; exact ⟨_, hK, ⟨es, cl, he, rfl⟩⟩
    · exact x.elim

theorem gq_det {ρ : Env} {g : Option (Nat × Bool)} {A : (Value → Prop) → Prop} (hd : ∀ K, A K → ∃ v, K v ∧ A fun v' => v' = v) {K : Value → Prop} (x : gq ρ g A K) : ∃ v, K v ∧ gq ρ g A fun v' => v' = v := by
  cases g with
  | none => exact hd K x
  | some p =>
    obtain ⟨t, want⟩ := p
    have y := GQ.ex x
    unfold guardV at y
    split at y
    · rename_i b hb
      cases hc : (bif want then b else !b) with
      | true =>
        rw [hc] at y
        obtain ⟨v, hK, hA⟩ := hd K y
        exact ⟨v, hK, ⟨by unfold guardV; rw [hb]; simp only [hc]; exact hA⟩⟩
      | false =>
        rw [hc] at y
        exact ⟨undef, y, ⟨by unfold guardV; rw [hb]; simp only [hc]; trivial⟩⟩
    · rename_i hb
      refine ⟨undef, y, ⟨?_⟩⟩
      unfold guardV
      split
      · rename_i x he; exact absurd he (hb x)
      · rfl

theorem pickRd_none {l : List (Option Nat × Option (Nat × Bool) × SOp)} : ∀ {rs : List Nat}, pickRd l rs = none → ∀ i ∈ rs, isRd l i = false
  | [], _, i, hi => by cases hi
  | j :: r, h, i, hi => by
    simp only [pickRd] at h
    rcases List.mem_cons.1 hi with rfl | hi
    · unfold isRd
      cases hn : nth l i with
      | none => rfl
      | some q =>
        obtain ⟨d, g, o⟩ := q
        rw [hn] at h
        cases hef : o.ef with
        | true => simp [hef]
        | false => simp [hef] at h
    · cases hn : nth l j with
      | none => rw [hn] at h; exact pickRd_none h i hi
      | some q =>
        obtain ⟨d, g, o⟩ := q
        rw [hn] at h
        cases hef : o.ef with
        | true => simp [hef] at h; exact pickRd_none h i hi
        | false => simp [hef] at h

theorem any_sound {P : Program} {T : Tab} (hT : Tabok P T) {n : Nat} {ops : Array Oper} {sc : SC} (hc : compOps n T ops ops.toList = some sc) (hok : okAny ops sc = true) {Q : Post} {R : Exit → Act → World → Prop} {w0 : World} {ρ0 : Env}
    (ok : ∀ ρ' a' w', Sim n ρ' a' → (∀ t, memB t sc.ws = false → ρ' t = ρ0 t) → Same w0 w' → Q .normal ρ' w'.heap → R .normal a' w') :
    ∀ (F f : Nat) (dn : List Nat) (kl : List (Nat × (Heap → Prop))) (listed : Array Bool) (ρ : Env) (a : Act) (w : World), cntU dn ops.size = F → anyW P Q (afters ops) (needs ops sc) sc.ops f dn kl ρ w.heap → Sim n ρ a → Dn ops listed →
      (∀ j, j < ops.size → listed.getD j false = memB j dn) → (∀ j, memB j dn = true → j < ops.size) → (∀ t, memB t sc.ws = false → ρ t = ρ0 t) → Same w0 w →
      wpAnyE P ops (fun e a w => e = .normal ∧ R .normal a w) (isRd sc.ops) (fun j i => memB i ((nth (needs ops sc) j).getD [])) F kl listed a w := by
  have hok' := hok
  simp only [okAny, okAnyC, Bool.and_eq_true, List.all_eq_true, List.mem_range] at hok'
  obtain ⟨hsel, hrd⟩ := hok'
  have hsel' := Region.noSelect_spec hsel
  intro F
  induction F with
  | zero =>
    intro f dn kl listed ρ a w hF h s d hdn hlt0 fr sm
    have hall := cntU_zero hF
    have hready : Region.ready .any ops listed = [] := by
      cases hr : Region.ready .any ops listed with
      | nil => rfl
      | cons i r =>
        have hi : i ∈ Region.ready .any ops listed := by rw [hr]; simp
        obtain ⟨h1, h2, _⟩ := ready_after hi
        have := hdn i h2
        rw [hall i h2] at this
        have hlt : i < listed.size := by rw [d.size]; exact h2
        simp [hlt] at h1 this; rw [h1] at this; cases this
    cases f with
    | zero => exact h.elim
    | succ f =>
      have hrs : rdyFrom 0 (afters ops) dn = [] := by
        cases hr : rdyFrom 0 (afters ops) dn with
        | nil => rfl
        | cons i r =>
          have hi : i ∈ rdyFrom 0 (afters ops) dn := by rw [hr]; simp
          obtain ⟨x, j, rfl, hx, hm, _⟩ := (rdyFrom_spec dn _ 0 i).1 hi
          have hlt : j < ops.size := by
            have := (List.getElem?_eq_some_iff.1 hx).1
            simpa [afters] using this
          rw [Nat.zero_add] at hm
          rw [hall j hlt] at hm; cases hm
      simp only [anyW, hrs] at h
      exact ⟨hready, rfl, ok ρ a w s fr sm h⟩
  | succ F ih =>
    intro f dn kl listed ρ a w hF h s d hdn hlt0 fr sm
    cases f with
    | zero => exact h.elim
    | succ f =>
      have hmem : ∀ i, i ∈ Region.ready .any ops listed ↔ i ∈ rdyFrom 0 (afters ops) dn := by
        intro i
        rw [rdyFrom_spec]
        constructor
        · intro hi
          obtain ⟨h1, h2, h3⟩ := ready_after hi
          refine ⟨afterL ops i, i, by omega, by simp [afters, h2], ?_, (allB_spec dn _).2 fun e he => ?_⟩
          · have := hdn i h2
            have hlt : i < listed.size := by rw [d.size]; exact h2
            rw [← this]; simp [hlt] at h1 ⊢; exact h1
          · have he2 := h3 e he
            have hlt : e < listed.size := by
              rcases Nat.lt_or_ge e listed.size with h' | h'
              · exact h'
              · simp [Array.getElem?_eq_none h'] at he2
            rw [← hdn e (by rw [← d.size]; exact hlt)]; exact he2
        · rintro ⟨x, j, rfl, hx, hm, hall⟩
          rw [Nat.zero_add] at hm ⊢
          have hlt : j < ops.size := by
            have := (List.getElem?_eq_some_iff.1 hx).1
            simpa [afters] using this
          have hxe : x = afterL ops j := by
            simp [afters, hlt] at hx; exact hx.symm
          subst hxe
          rw [mem_ready]
          refine ⟨?_, ops[j], by simp [hlt], fun e he hb => ?_⟩
          · have := hdn j hlt
            rw [hm] at this
            have hls : j < listed.size := by rw [d.size]; exact hlt
            simp [hls] at this ⊢; exact this
          · have hin : e.on ∈ afterL ops j := by
              unfold afterL
              simp only [hlt, getElem?_pos, List.mem_map, List.mem_filter]
              exact ⟨e, ⟨by simpa using he, hb⟩, rfl⟩
            have hme := (allB_spec dn _).1 hall e.on hin
            rw [hdn e.on (hlt0 _ hme)]; exact hme
      simp only [anyW] at h
      -- what one operation does to the books
      have books : ∀ i, i ∈ Region.ready .any ops listed → cntU (i :: dn) ops.size = F ∧ (∀ j, j < ops.size → (listed.setIfInBounds i true).getD j false = memB j (i :: dn)) ∧ (∀ j, memB j (i :: dn) = true → j < ops.size) := by
        intro i hi
        obtain ⟨h1, h2, _⟩ := ready_after hi
        have hls : i < listed.size := by rw [d.size]; exact h2
        have hm : memB i dn = false := by
          rw [← hdn i h2]; simp [hls] at h1 ⊢; exact h1
        refine ⟨by have := cntU_add hm h2; omega, fun j hj => ?_, fun j hj => ?_⟩
        · simp only [memB, nbeq]
          by_cases hji : j = i
          · subst hji; simp [hls]
          · rw [getD_set_ne false (Ne.symm hji)]
            simp [hji, hdn j hj]
        · simp only [memB, nbeq] at hj
          by_cases hji : j = i
          · subst hji; exact h2
          · simp [hji] at hj; exact hlt0 j hj
      have opAt : ∀ i, i ∈ Region.ready .any ops listed → ∃ o g so, ops[i]? = some o ∧ nth sc.ops i = some (o.dst, g, so) ∧ compOp T o.op = some so ∧ compGuard ops o.guard = some g ∧ dstOk n o.dst = true ∧ (∀ t, memB t sc.ws = false → memB t o.dst.toList = false) := by
        intro i hi
        obtain ⟨_, h2, _⟩ := ready_after hi
        have ho : ops.toList[i]? = some ops[i] := by simp [h2]
        obtain ⟨g, so, h3⟩ := ops_nth hc ho
        exact ⟨ops[i], g, so, by simp [h2], h3⟩
      split at h
      · rename_i hrs
        have hready : Region.ready .any ops listed = [] := by
          cases hr : Region.ready .any ops listed with
          | nil => rfl
          | cons i r =>
            have := (hmem i).1 (by rw [hr]; simp)
            rw [hrs] at this; cases this
        exact ⟨fun _ => ⟨rfl, ok ρ a w s fr sm h⟩, fun i hi => by rw [hready] at hi; cases hi⟩
      · rename_i r0 rest hrs
        split at h
        · rename_i i hpick
          obtain ⟨hin, d', g', o', hnth, hef⟩ := pickRd_spec hpick
          have hi : i ∈ Region.ready .any ops listed := (hmem i).2 (by rw [hrs]; exact hin)
          obtain ⟨o, g, so, ho, h3, hso, hg, hd, hws⟩ := opAt i hi
          rw [h3] at hnth
          simp only [Option.some.injEq, Prod.mk.injEq] at hnth
          obtain ⟨rfl, rfl, rfl⟩ := hnth
          simp only [h3] at h
          obtain ⟨b1, b2, b3⟩ := books i hi
          have hisR : isRd sc.ops i = true := by simp [isRd, h3, hef]
          have hi2 := (ready_after hi).2.1
          have hall := hrd i hi2
          simp only [hisR, Bool.not_true, Bool.false_or] at hall
          have next : ∀ v kl', anyW P Q (afters ops) (needs ops sc) sc.ops f (i :: dn) kl' (ρ.put o.dst v) w.heap → wpAnyE P ops (fun e a w => e = .normal ∧ R .normal a w) (isRd sc.ops) (fun j i => memB i ((nth (needs ops sc) j).getD [])) F kl' (listed.setIfInBounds i true) (a.put o.dst v) w := fun v kl' hv =>
            ih f (i :: dn) kl' _ _ _ w b1 hv (s.put hd v) (d.set hi) b2 b3 (fun t ht => by rw [put_other (hws t ht), fr t ht]) sm
          have hy : ∃ v, ∃ p : Heap → Prop, YieldsIf P ops (fun w' => p w'.heap) o v a ∧ p w.heap ∧ (so.hr = true ∨ ∀ h, p h) ∧ wpAnyE P ops (fun e a w => e = .normal ∧ R .normal a w) (isRd sc.ops) (fun j i => memB i ((nth (needs ops sc) j).getD [])) F ((i, p) :: kl) (listed.setIfInBounds i true) (a.put o.dst v) w := by
            cases hhr : so.hr with
            | true =>
              simp only [hhr, cond_true] at h
              obtain ⟨v, hK, hp⟩ := gq_det (A := fun K => so.rd P ρ w.heap K) (fun K x => rd_det hhr x) h
              refine ⟨v, _, ?_, hp, .inl rfl, next v _ hK⟩
              have hgd := wanted_guard s hg (gq_guard hp)
              by_cases hw : Region.wanted o (yielded ops a.tmps) = true
              · refine .inl ⟨hw, fun w' hw' => ?_⟩
                have hgd' := wanted_guard s hg (gq_guard hw')
                rw [if_pos hw] at hgd'
                obtain ⟨v', rfl, hv⟩ := rd_sound hT hso hgd'
                rw [s.eval]; exact hv w' (Ext.refl _)
              · rw [if_neg hw] at hgd
                exact .inr ⟨by simpa using hw, hgd.symm⟩
            | false =>
              simp only [hhr, cond_false] at h
              have hgd := wanted_guard s hg (gq_guard h)
              by_cases hw : Region.wanted o (yielded ops a.tmps) = true
              · rw [if_pos hw] at hgd
                rw [SOp.rd_any P so hhr ρ w.heap #[]] at hgd
                obtain ⟨v, hK, hv⟩ := rd_sound hT hso hgd
                exact ⟨v, fun _ => True, .inl ⟨hw, fun w' _ => by rw [s.eval]; exact hv w' ⟨by simp, fun b hb => by simp at hb⟩⟩, trivial, .inr fun _ => trivial, wpAnyE_kl (kl := kl) (kl' := (i, fun _ => True) :: kl) (fun _ _ h => ⟨fun _ => trivial, h⟩) _ _ _ _ (next v kl hK)⟩
              · rw [if_neg hw] at hgd
                exact ⟨undef, fun _ => True, .inr ⟨by simpa using hw, rfl⟩, trivial, .inr fun _ => trivial, wpAnyE_kl (kl := kl) (kl' := (i, fun _ => True) :: kl) (fun _ _ h => ⟨fun _ => trivial, h⟩) _ _ _ _ (next undef kl hgd)⟩
          obtain ⟨v, p, hy, hpw, hpr, hv⟩ := hy
          refine wpAnyE_first ho hsel' (fun c a w => Rn_panic c _ _ w w) hisR (fun j oj hoj hji => ?_) (fun j hj2 hji hrj => ?_) F kl listed a w d hi hy hpw hv
          · have hj2 := (Array.getElem?_eq_some_iff.1 hoj).1
            have := List.all_eq_true.1 hall j (List.mem_range.2 hj2)
            simp only [Bool.or_eq_true, nbeq, decide_eq_true_eq, ho, hoj] at this
            rcases this with ((h1 | h1) | h1) | h1
            · exact absurd h1.symm hji
            · exact .inl (clo_anc ops _ _ _ h1)
            · exact .inr (.inl (clo_anc ops _ _ _ h1))
            · exact .inr (.inr h1)
          · by_cases hcl : memB i ((nth (clo ops ops.size) j).getD []) = true
            · exact .inl (clo_anc ops _ _ _ hcl)
            by_cases hcl2 : memB j ((nth (clo ops ops.size) i).getD []) = true
            · exact .inr (.inl (clo_anc ops _ _ _ hcl2))
            right; right
            rcases hpr with hhr | hall
            · left
              have hn : nth (needs ops sc) j = some ((List.range ops.size).filter fun i => !Nat.beq i j && isHr sc.ops i && !memB i ((nth (clo ops ops.size) j).getD []) && !memB j ((nth (clo ops ops.size) i).getD [])) := by
                rw [nth_eq]
                simp only [needs, needsC, List.getElem?_map, List.getElem?_range hj2, Option.map_some]
              simp only [hn, Option.getD_some]
              refine mem_memB (List.mem_filter.2 ⟨List.mem_range.2 hi2, ?_⟩)
              simp only [Bool.and_eq_true, Bool.not_eq_true', nbeq, decide_eq_false_iff_not]
              exact ⟨⟨⟨Ne.symm hji, by simp [isHr, h3, hef, hhr]⟩, by simpa using hcl⟩, by simpa using hcl2⟩
            · exact .inr hall
        · rename_i hpick
          have hnr := pickRd_none hpick
          refine ⟨fun h0 => ?_, fun i hi => ?_⟩
          · have : r0 ∈ Region.ready .any ops listed := (hmem r0).2 (by rw [hrs]; simp)
            rw [h0] at this; cases this
          · have hF := allW_mem h i (by rw [← hrs]; exact (hmem i).1 hi)
            obtain ⟨o, g, so, ho, h3, hso, hg, hd, hws⟩ := opAt i hi
            obtain ⟨b1, b2, b3⟩ := books i hi
            simp only [h3] at hF
            have hgd := wanted_guard s hg (gd_guard hF)
            unfold wpOp
            simp only [ho]
            split
            · rename_i hw
              rw [if_pos hw] at hgd
              refine .inl (wp_sound hT hso hgd s.eval rfl (fun v w' hs hv => ?_))
              obtain ⟨k1, k2⟩ := KPS_keep _ _ _ hv
              exact ⟨fun hr => (by rw [hnr i (by rw [← hrs]; exact (hmem i).1 hi)] at hr; cases hr), fun _ => k1, ih f (i :: dn) kl _ _ _ w' b1 k2 (s.put hd v) (d.set hi) b2 b3 (fun t ht => by rw [put_other (hws t ht), fr t ht]) (sm.trans hs)⟩
            · rename_i hw
              rw [if_neg hw] at hgd
              obtain ⟨k1, k2⟩ := KPS_keep _ _ _ hgd
              exact ⟨fun _ => trivial, fun _ => k1, ih f (i :: dn) kl _ _ _ w b1 k2 (s.put hd undef) (d.set hi) b2 b3 (fun t ht => by rw [put_other (hws t ht), fr t ht]) sm⟩

end Go.Sl
end

section
namespace Go.Sl
open Go

def Ex.toExit : Ex → Exit
  | .normal => .normal
  | .exit id => .exit id
  | .goto l => .goto l
  | .ret => .ret

abbrev Target := Exit → Act → World → Prop

def Okk (n : Nat) (ws : List Nat) (ρ : Env) (Q : Post) (w : World) (R : Target) : Prop :=
  ∀ x ρ' a' w', Sim n ρ' a' → (∀ t, memB t ws = false → ρ' t = ρ t) → Same w w' → Q x ρ' w'.heap → R x.toExit a' w'

theorem memB_append (t : Nat) (a b : List Nat) : memB t (a ++ b) = (memB t a || memB t b) := by
  induction a with
  | nil => rfl
  | cons s r ih => simp only [List.cons_append, memB, nbeq, ih]; by_cases h : t = s <;> simp [h]

theorem Okk.shift {n : Nat} {ws ws' : List Nat} {ρ ρ1 : Env} {Q : Post} {w w1 : World} {R : Target} (h : Okk n ws ρ Q w R) (hs : Same w w1) (hw : ∀ t, memB t ws = false → memB t ws' = false ∧ ρ1 t = ρ t) : Okk n ws' ρ1 Q w1 R :=
  fun x ρ' a' w' s f sm q => h x ρ' a' w' s (fun t ht => (f t (hw t ht).1).trans (hw t ht).2) (hs.trans sm) q

theorem ops_sound {P : Program} {T : Tab} (hT : Tabok P T) {n : Nat} {all : Array Oper} : ∀ (l : List Oper) (sc : SC), compOps n T all l = some sc → ∀ (Q : Post) (ρ : Env) (a : Act) (w : World) (R : Target),
    sc.wp P Q ρ w.heap → Sim n ρ a → Okk n sc.ws ρ Q w R → wpList P all R l a w
  | [], sc, hc, Q, ρ, a, w, R, h, s, ok => by
    simp only [compOps, Option.some.injEq] at hc; subst hc
    exact ok .normal ρ a w s (fun _ _ => rfl) (Same.refl w) h
  | o :: r, sc, hc, Q, ρ, a, w, R, h, s, ok => by
    simp only [compOps] at hc
    split at hc
    · rename_i so g k hso hg hk
      cases hd : dstOk n o.dst with
      | false => simp [hd] at hc
      | true =>
        simp only [hd, cond_true, Option.some.injEq] at hc; subst hc
        have hgd := wanted_guard s hg (gd_guard h)
        have next : ∀ v (w' : World), Same w w' → k.wp P Q (ρ.put o.dst v) w'.heap → wpList P all R r (a.put o.dst v) w' := fun v w' hs hq =>
          ops_sound hT r k hk Q _ _ w' R hq (s.put hd v) (ok.shift hs fun t ht => by
            simp only [SC.ws, memB_append, Bool.or_eq_false_iff] at ht
            exact ⟨ht.2, put_other ht.1⟩)
        simp only [wpList]
        split
        · rename_i hw
          rw [if_pos hw] at hgd
          exact .inl (wp_sound hT hso hgd s.eval rfl (fun v w' hs hK => next v w' hs hK))
        · rename_i hw
          rw [if_neg hw] at hgd
          exact next undef w (Same.refl w) hgd
    · cases hc

/-- The class of worlds of a region whose order is open. -/
def Cls (calls : Bool) (w w' : World) : Prop := Same w w' ∧ Ext w.heap w'.heap ∧ (calls = false → w'.heap = w.heap)

theorem quiet_sound {P : Program} {T : Tab} (hT : Tabok P T) {n : Nat} {all : Array Oper} {calls : Bool} {w : World} : ∀ (l : List Oper) (sc : SC), compOps n T all l = some sc → isQuiet sc = true → (hasCalls sc = true → calls = true) →
    ∀ (Q : Env → Prop) (ρ : Env) (a : Act) (R : Act → Prop), sc.qwp P w.heap Q ρ → Sim n ρ a →
    (∀ ρ' a', Sim n ρ' a' → (∀ t, memB t sc.ws = false → ρ' t = ρ t) → Q ρ' → R a') → wpQuiet P all (Cls calls w) R l a
  | [], sc, hc, _, _, Q, ρ, a, R, h, s, ok => by
    simp only [compOps, Option.some.injEq] at hc; subst hc
    exact ok ρ a s (fun _ _ => rfl) h
  | o :: r, sc, hc, hq, hcl, Q, ρ, a, R, h, s, ok => by
    simp only [compOps] at hc
    split at hc
    · rename_i so g k hso hg hk
      cases hd : dstOk n o.dst with
      | false => simp [hd] at hc
      | true =>
        simp only [hd, cond_true, Option.some.injEq] at hc; subst hc
        have hgd := wanted_guard s hg (gq_guard h)
        simp only [isQuiet, Bool.and_eq_true] at hq
        have next : ∀ v, k.qwp P w.heap Q (ρ.put o.dst v) → wpQuiet P all (Cls calls w) R r (a.put o.dst v) := fun v hq' =>
          quiet_sound hT r k hk hq.2 (fun hc' => hcl (by simp [hasCalls, hc'])) Q _ _ R hq' (s.put hd v) (fun ρ' a' s' f q => ok ρ' a' s' (fun t ht => by
            simp only [SC.ws, memB_append, Bool.or_eq_false_iff] at ht
            rw [f t ht.2, put_other ht.1]) q)
        have rd : so.rd P ρ w.heap (fun v => k.qwp P w.heap Q (ρ.put o.dst v)) → o.quiet P a (Cls calls w) (wpQuiet P all (Cls calls w) R r) := fun hr => by
          obtain ⟨v, hK, hv⟩ := rd_sound hT hso hr
          refine ⟨v, fun w' hw' => ?_, next v hK⟩
          unfold Oper.quietAt
          rw [s.eval, hv w' hw'.2.1]
          exact ⟨rfl, rfl⟩
        have cl : ∀ (f : Nat) (args : List Value), calls = true → QCL P w.heap f args (fun v => k.qwp P w.heap Q (ρ.put o.dst v)) →
            (∀ w', (execOp a.eval o).run P w' = (callFunc f args.toArray).run P w') → o.quiet P a (Cls calls w) (wpQuiet P all (Cls calls w) R r) := fun f args hcc hr hx => by
          obtain ⟨v, hv, hK⟩ := hr.ex
          refine ⟨v, fun w' hw' => ?_, next v hK⟩
          have hht := hv w'.heap hw'.2.1
          unfold Oper.quietAt
          rw [hx, callFunc_run hht.1]
          refine ⟨rfl, (hht.2 w' rfl).mono ?_⟩
          rintro e w'' ⟨u, rfl, hs, rfl, he⟩
          exact ⟨rfl, hw'.1.trans hs, hw'.2.1.trans he, fun h0 => absurd hcc (by simp [h0])⟩
        simp only [wpQuiet]
        split
        · rename_i hw
          rw [if_pos hw] at hgd
          cases so with
          | call f args =>
            have hcc : calls = true := hcl (by simp [hasCalls])
            refine cl f _ hcc hgd ?_
            obtain ⟨dst, op, ty, pos, aft, grd⟩ := o
            have hop : ∃ c : Call, op = .call c ∧ c.callee = .value (.func f) ∧ c.args.toList = args := by
              cases op <;> simp only [compOp] at hso
              case call c =>
                split at hso
                · rename_i f' hcal
                  simp only [Option.some.injEq, SOp.call.injEq] at hso
                  obtain ⟨rfl, rfl⟩ := hso
                  exact ⟨c, rfl, hcal, rfl⟩
                · simp at hso
                · rename_i b _
                  unfold compBuiltin at hso
                  (repeat' split at hso) <;> simp at hso
                · cases hso
              all_goals first
                | (obtain ⟨j, _, hso⟩ := Option.map_eq_some_iff.1 hso; first | (simp at hso; done) | (cases hj : aggd j.d <;> simp [hj] at hso; done))
                | ((repeat' split at hso) <;> first
                  | (simp at hso; done)
                  | (obtain ⟨j, _, hso⟩ := Option.map_eq_some_iff.1 hso; simp at hso; done)
                  | (simp only [cond_eq_ite] at hso; split at hso <;> simp at hso; done))
            obtain ⟨c, rfl, hcal, rfl⟩ := hop
            intro w'
            rw [exec_callv (g := f) (first := #[]) (cap := #[]) rfl hcal rfl, evl_arr, s.eval]
            simp
          | callv f args =>
            have hcc : calls = true := hcl (by simp [hasCalls])
            obtain ⟨dst, op, ty, pos, aft, grd⟩ := o
            have hop : ∃ c : Call, op = .call c ∧ c.callee = .value f ∧ c.args.toList = args := by
              cases op <;> simp only [compOp] at hso
              case call c =>
                split at hso
                · simp at hso
                · rename_i f' _ hcal
                  simp only [Option.some.injEq, SOp.callv.injEq] at hso
                  obtain ⟨rfl, rfl⟩ := hso
                  exact ⟨c, rfl, hcal, rfl⟩
                · rename_i b _
                  unfold compBuiltin at hso
                  (repeat' split at hso) <;> simp at hso
                · cases hso
              all_goals first
                | (obtain ⟨j, _, hso⟩ := Option.map_eq_some_iff.1 hso; first | (simp at hso; done) | (cases hj : aggd j.d <;> simp [hj] at hso; done))
                | ((repeat' split at hso) <;> first
                  | (simp at hso; done)
                  | (obtain ⟨j, _, hso⟩ := Option.map_eq_some_iff.1 hso; simp at hso; done)
                  | (simp only [cond_eq_ite] at hso; split at hso <;> simp at hso; done))
            obtain ⟨c, rfl, hcal, rfl⟩ := hop
            simp only [SOp.qp, QCV, fnArgs] at hgd
            split at hgd
            · rename_i g' first cap hv
              refine cl g' _ hcc hgd ?_
              intro w'
              rw [exec_callv (g := g') (first := first) (cap := cap) rfl hcal (by rw [s.eval]; exact hv), s.eval]
              have : (first.toList ++ evl ρ c.args.toList ++ cap.toList).toArray = first ++ c.args.map (ev ρ) ++ cap := by
                rw [← evl_arr]; simp
              rw [this]
            · exact hgd.elim
          | _ => first | exact rd hgd | (simp [SOp.ef] at hq)
        · rename_i hw
          rw [if_neg hw] at hgd
          exact next undef hgd
    · cases hc

theorem app_imp : ∀ (s : List Nat) {A B : CurT s.length}, ImpT s.length A B → ∀ {ρ : Env} {h : Heap}, appT s A ρ h → appT s B ρ h
  | [], _, _, i, _, h, x => i h x
  | t :: r, _, _, i, ρ, _, x => app_imp r (i (ρ t)) x

theorem app_lt : ∀ (s : List Nat) {I : Nat → CurT s.length} {n : Nat} {ρ : Env} {h : Heap}, appT s (LtT s.length I n) ρ h → ∃ m, m < n ∧ appT s (I m) ρ h
  | [], _, _, _, _, x => x
  | t :: r, I, n, ρ, h, x => app_lt r (I := fun m => (show Value → CurT r.length from I m) (ρ t)) x

theorem put_same (ρ : Env) (t : Nat) : ρ.put (some t) (ρ t) = ρ := by
  funext x
  rw [Env.put_some]
  by_cases h : x = t <;> simp [h]

/-- A value of the slots themselves. -/
theorem app_lam : ∀ (s : List Nat) {e : Env → Env} {F : (Env → Env) → Heap → Prop} {ρ : Env} {h : Heap}, appT s (lamT s e F) ρ h → ∃ e' : Env → Env, (∀ y, e y = ρ → e' y = ρ) ∧ F e' h
  | [], e, F, ρ, h, x => ⟨e, fun _ h => h, x⟩
  | t :: r, e, F, ρ, h, x => by
    obtain ⟨e', h1, h2⟩ := app_lam r (e := fun y => (e y).put (some t) (ρ t)) (F := F) (ρ := ρ) (h := h) x
    exact ⟨e', fun y hy => h1 y (by rw [hy]; exact put_same ρ t), h2⟩

theorem havoc_self {ρ' ρ : Env} {ws : List Nat} (hf : ∀ t, memB t ws = false → ρ' t = ρ t) : havoc ws ρ' ρ = ρ' := by
  funext t
  simp only [havoc]
  cases h : memB t ws with
  | true => rfl
  | false => exact (hf t h).symm

theorem sound {P : Program} (hm : P.follows .mixedOrders = true) {T : Tab} (hT : Tabok P T) {n : Nat} {H : List (Nat × List Nat)} : ∀ (fuel p : Nat) (c : Code) (sc : SC), comp n T H fuel p c = some sc → ∀ (Q : Post) (ρ : Env) (a : Act) (w : World) (R : Target),
    sc.wp P Q ρ w.heap → Sim n ρ a → Okk n sc.ws ρ Q w R → c.wp P R a w
  | 0, _, _, _, hc, _, _, _, _, _, _, _, _ => by cases hc
  | fuel + 1, p, c, sc, hc, Q, ρ, a, w, R, h, s, ok => by
    have ih := sound hm hT (n := n) (H := H) fuel
    unfold comp at hc
    split at hc
    · simp only [Option.some.injEq] at hc; subst hc
      exact wp_skip (ok .normal ρ a w s (fun _ _ => rfl) (Same.refl w) h)
    · simp only [Option.some.injEq] at hc; subst hc
      exact wp_label (ok .normal ρ a w s (fun _ _ => rfl) (Same.refl w) h)
    · simp only [Option.some.injEq] at hc; subst hc
      exact wp_ret (ok .ret ρ a w s (fun _ _ => rfl) (Same.refl w) h)
    · rename_i id
      simp only [Option.some.injEq] at hc; subst hc
      exact wp_exit (ok (.exit id) ρ a w s (fun _ _ => rfl) (Same.refl w) h)
    · rename_i l
      simp only [Option.some.injEq] at hc; subst hc
      exact wp_goto (ok (.goto l) ρ a w s (fun _ _ => rfl) (Same.refl w) h)
    · rename_i x y
      split at hc
      · rename_i sx sy hx hy
        simp only [Option.some.injEq] at hc; subst hc
        have f' : ∀ ρ' : Env, (∀ t, memB t sx.ws = false → ρ' t = ρ t) → ∀ t, memB t (sx.ws ++ sy.ws) = false → memB t sy.ws = false ∧ ρ' t = ρ t := fun ρ' f t ht => by
          simp only [memB_append, Bool.or_eq_false_iff] at ht
          exact ⟨ht.2, f t ht.1⟩
        have fin : ∀ (J : Env → Heap → Prop), (∀ ρ' h', (∀ t, memB t sx.ws = false → ρ' t = ρ t) → J ρ' h' → sy.wp P Q ρ' h') → sx.wp P (Post.round J Q) ρ w.heap → (Code.seq x y).wp P R a w := by
          intro J hJ h
          refine wp_seq (ih _ x sx hx _ ρ a w _ h s ?_)
          intro e ρ' a' w' s' f sm q
          cases e with
          | normal => exact ih _ y sy hy Q ρ' a' w' R (hJ ρ' _ f q) s' (ok.shift sm (f' ρ' f))
          | exit id => exact ok (.exit id) ρ' a' w' s' (fun t ht => (f' ρ' f t ht).2) sm q
          | goto l => exact ok (.goto l) ρ' a' w' s' (fun t ht => (f' ρ' f t ht).2) sm q
          | ret => exact ok .ret ρ' a' w' s' (fun t ht => (f' ρ' f t ht).2) sm q
        cases hj : hk H p with
        | none =>
          rw [hj] at h
          exact fin _ (fun _ _ _ q => q) h
        | some sl =>
          rw [hj] at h
          refine fin _ (fun ρ' h' f q => ?_) (JN.ex h)
          obtain ⟨e', he, q'⟩ := app_lam sl q
          have := q' ρ'
          rw [he _ (havoc_self f)] at this
          exact this
      · cases hc
    · rename_i co x y
      split at hc
      · rename_i sx sy hx hy
        simp only [Option.some.injEq] at hc; subst hc
        simp only [SC.wp, COND] at h
        split at h
        · rename_i hb
          refine wp_cond_true (by rw [s.eval]; exact hb) (ih _ x sx hx Q ρ a w R h s (ok.shift (Same.refl w) fun t ht => ?_))
          simp only [SC.ws, memB_append, Bool.or_eq_false_iff] at ht
          exact ⟨ht.1, rfl⟩
        · rename_i hb
          refine wp_cond_false (by rw [s.eval]; exact hb) (ih _ y sy hy Q ρ a w R h s (ok.shift (Same.refl w) fun t ht => ?_))
          simp only [SC.ws, memB_append, Bool.or_eq_false_iff] at ht
          exact ⟨ht.2, rfl⟩
        · exact h.elim
      · cases hc
    · rename_i id b
      obtain ⟨sb, hb, rfl⟩ := Option.map_eq_some_iff.1 hc
      refine wp_block (ih _ b sb hb _ ρ a w _ h s ?_)
      intro e ρ' a' w' s' f sm q
      cases e with
      | normal => exact ok .normal ρ' a' w' s' f sm q
      | exit j =>
        simp only [Post.inBlock, nbeq] at q
        show Exit.inBlock id R (.exit j) a' w'
        by_cases hj : j = id
        · subst hj
          simp only [decide_true, cond_true] at q
          simp only [Exit.inBlock, if_true]
          exact ok .normal ρ' a' w' s' f sm q
        · simp only [hj, decide_false, cond_false] at q
          simp only [Exit.inBlock, hj, if_false]
          exact ok (.exit j) ρ' a' w' s' f sm q
      | goto l => exact ok (.goto l) ρ' a' w' s' f sm q
      | ret => exact ok .ret ρ' a' w' s' f sm q
    · rename_i b
      obtain ⟨sb, hb, rfl⟩ := Option.map_eq_some_iff.1 hc
      generalize (hk H p).getD [] = sl at h ok
      obtain ⟨I, ⟨n0, h0⟩, hround⟩ := LP.ex h
      refine wp_loop_ghost (fun k a' w' => ∃ ρ', Sim n ρ' a' ∧ (∀ t, memB t sb.ws = false → ρ' t = ρ t) ∧ appT sl (I k) ρ' w'.heap ∧ Same w w') n0
        ⟨ρ, s, fun _ _ => rfl, h0, Same.refl w⟩ ?_
      rintro k a' w' ⟨ρ', s', f, inv, sm⟩
      obtain ⟨e', he, hr⟩ := app_lam sl (app_imp sl (hround k) inv)
      have hr := hr ρ'
      rw [he _ (havoc_self f)] at hr
      refine ih _ b sb hb _ ρ' a' w' _ hr s' ?_
      intro e ρ2 a2 w2 s2 f2 sm2 q
      have f3 : ∀ t, memB t sb.ws = false → ρ2 t = ρ t := fun t ht => (f2 t ht).trans (f t ht)
      cases e with
      | normal =>
        obtain ⟨m, hlt, inv'⟩ := app_lt sl q
        exact ⟨m, hlt, ρ2, s2, f3, inv', sm.trans sm2⟩
      | exit j => exact ok (.exit j) ρ2 a2 w2 s2 f3 (sm.trans sm2) q
      | goto l => exact ok (.goto l) ρ2 a2 w2 s2 f3 (sm.trans sm2) q
      | ret => exact ok .ret ρ2 a2 w2 s2 f3 (sm.trans sm2) q
    · rename_i id ops draw
      split at hc
      · rename_i so hso
        cases draw with
        | false =>
          simp only [cond_false, Option.some.injEq] at hc; subst hc
          exact wp_region_list (ops_sound hT _ _ hso Q ρ a w R h s ok)
        | true =>
          simp only [cond_true] at hc
          cases hq : (isQuiet so && Region.lexB .any ops && !(hasCalls so && okAny ops so)) with
          | false =>
            simp only [hq, cond_false] at hc
            cases hok : okAny ops so with
            | false => simp [hok] at hc
            | true =>
              simp only [hok, cond_true, Option.some.injEq] at hc; subst hc
              have hd0 : Dn ops (Array.replicate ops.size false) := ⟨by simp, fun j hj => by simp [Array.getD_eq_getD_getElem?, Array.getElem?_replicate] at hj; split at hj <;> simp at hj⟩
              have := any_sound (w0 := w) (ρ0 := ρ) hT hso hok (Q := Q) (R := R) (fun ρ' a' w' s' f sm q => ok .normal ρ' a' w' s' f sm q) (cntU [] ops.size) ((afters ops).length + 1) [] [] (Array.replicate ops.size false) ρ a { w with drawn := w.drawn + 1 } rfl h s hd0
                (fun j _ => by simp [memB, Array.getD_eq_getD_getElem?, Array.getElem?_replicate]; split <;> rfl) (fun j hj => by simp [memB] at hj) (fun _ _ => rfl) ⟨rfl, rfl, rfl⟩
              have hcnt : cntU [] ops.size = ops.size := by
                generalize ops.size = m
                induction m with
                | zero => rfl
                | succ m ih => simp [cntU, memB, ih]
              rw [hcnt] at this
              exact Code.wp_mono (fun e a' w' h' => by rw [h'.1]; exact h'.2) (wp_region_any hm (wpAny_of_E _ _ _ _ _ this))
          | true =>
            simp only [hq, cond_true, Option.some.injEq] at hc; subst hc
            simp only [Bool.and_eq_true] at hq
            refine wp_region_quiet (C := Cls (hasCalls so) w) hm hq.1.2 ⟨⟨rfl, rfl, rfl⟩, Ext.refl _, fun _ => rfl⟩ ?_
            refine quiet_sound hT ops.toList so hso hq.1.1 (fun x => x) _ ρ a _ h s ?_
            intro ρ' a' s' f q w' hw'
            have q' : Q .normal ρ' w'.heap := by
              cases hcl : hasCalls so with
              | true => rw [hcl] at q; exact q w'.heap hw'.2.1
              | false => rw [hcl] at q; rw [hw'.2.2 hcl]; exact q
            exact ok .normal ρ' a' w' s' f hw'.1 q'
      · cases hc
    · rename_i b
      split at hc
      · rename_i l hl
        split at hc
        · rename_i rest hrest
          split at hc
          · rename_i sx sy hx hy
            simp only [Option.some.injEq] at hc; subst hc
            have f' : ∀ t, memB t (sx.ws ++ sy.ws) = false → memB t sx.ws = false ∧ memB t sy.ws = false := fun t ht => by
              simpa only [memB_append, Bool.or_eq_false_iff] using ht
            refine wp_scope_jumps l (fun a' w' => ∃ ρ', Sim n ρ' a' ∧ (∀ t, memB t (sx.ws ++ sy.ws) = false → ρ' t = ρ t) ∧ Same w w' ∧ sy.wp P (Post.jump l (fun _ _ => False) Q) ρ' w'.heap) (fun _ _ => 0) hrest
              (ih _ b sx hx _ ρ a w _ h s ?_) ?_
            · intro e ρ' a' w' s' f sm q
              cases e with
              | goto l' =>
                simp only [Post.jump, nbeq] at q
                by_cases hl' : l' = l
                · simp only [hl', decide_true, cond_true] at q
                  exact ⟨hl', ρ', s', fun t ht => f t (f' t ht).1, sm, q⟩
                · simp [hl'] at q
              | normal => exact ok .normal ρ' a' w' s' (fun t ht => f t (f' t ht).1) sm q
              | exit j => exact ok (.exit j) ρ' a' w' s' (fun t ht => f t (f' t ht).1) sm q
              | ret => exact ok .ret ρ' a' w' s' (fun t ht => f t (f' t ht).1) sm q
            · rintro a' w' ⟨ρ', s', f, sm, q⟩
              refine ih _ rest sy hy _ ρ' a' w' _ q s' ?_
              intro e ρ2 a2 w2 s2 f2 sm2 q2
              have f3 : ∀ t, memB t (sx.ws ++ sy.ws) = false → ρ2 t = ρ t := fun t ht => (f2 t (f' t ht).2).trans (f t ht)
              cases e with
              | goto l' =>
                simp only [Post.jump, nbeq] at q2
                by_cases hl' : l' = l <;> simp [hl'] at q2
              | normal => exact ok .normal ρ2 a2 w2 s2 f3 (sm.trans sm2) q2
              | exit j => exact ok (.exit j) ρ2 a2 w2 s2 f3 (sm.trans sm2) q2
              | ret => exact ok .ret ρ2 a2 w2 s2 f3 (sm.trans sm2) q2
          · cases hc
        · cases hc
      · cases hc
    · cases hc

end Go.Sl
end

section
namespace Go.Sl
open Go

inductive SRes where
  | tmp (t : Nat)
  | cell (a : Nat) (agg : Bool) (n : Nat)

def compRes (T : Tab) : List ResultVar → Option (List SRes)
  | [] => some []
  | .tmp t :: r => (compRes T r).map (.tmp t :: ·)
  | .cell a t :: r => match lk T t, compRes T r with
    | some i, some l => some (.cell a (aggd i.d) i.size :: l)
    | _, _ => none

def resW (h : Heap) (ρ : Env) : List SRes → (List Value → Prop) → Prop
  | [], K => K []
  | .tmp t :: r, K => resW h ρ r fun l => K (ρ t :: l)
  | .cell a agg n :: r, K => bif agg then RDN h n (ρ a) fun v => resW h ρ r fun l => K (v :: l) else RD1 h (ρ a) fun v => resW h ρ r fun l => K (v :: l)

def pack : List Value → Value
  | [v] => v
  | l => .tuple l.toArray

def argE : List Value → Env
  | [], _ => undef
  | v :: _, 0 => v
  | _ :: r, t + 1 => argE r t

def retP (rs : List SRes) (R : Value → Heap → Prop) : Post
  | .ret, ρ, h | .normal, ρ, h => resW h ρ rs fun l => R (pack l) h
  | _, _, _ => False

theorem argE_get : ∀ (l : List Value) (t : Nat), argE l t = (l[t]?).getD undef
  | [], t => by simp [argE]
  | v :: r, 0 => by simp [argE]
  | v :: r, t + 1 => by simp [argE, argE_get r t]

def resF (a : Act) : ResultVar → Sem Value
  | .tmp t => pure (a.tmps.getD t undef)
  | .cell x t => do loadVar t (← asAddr (a.tmps.getD x undef))

theorem res_run {P : Program} {T : Tab} (hT : Tabok P T) {n : Nat} {ρ : Env} {a : Act} (s : Sim n ρ a) {w : World} : ∀ (l : List ResultVar) (rs : List SRes), compRes T l = some rs → ∀ (K : List Value → Prop), resW w.heap ρ rs K →
    ∃ vs, K vs ∧ (l.mapM (resF a)).run P w = .ok vs w
  | [], rs, hc, K, h => by
    simp only [compRes, Option.some.injEq] at hc; subst hc
    exact ⟨[], h, by simp⟩
  | .tmp t :: r, rs, hc, K, h => by
    obtain ⟨l, hl, rfl⟩ := Option.map_eq_some_iff.1 hc
    obtain ⟨vs, hK, hv⟩ := res_run hT s r l hl _ h
    refine ⟨_, hK, ?_⟩
    rw [List.mapM_cons]
    simp only [Sem.run_bind, Result.andThen_ok, hv, resF, Sem.run_pure, s.val]
  | .cell x t :: r, rs, hc, K, h => by
    simp only [compRes] at hc
    split at hc
    · rename_i i l hi hl
      simp only [Option.some.injEq] at hc; subst hc
      have ht := tab hT hi
      cases ha : aggd i.d with
      | true =>
        simp only [resW, ha, cond_true] at h
        obtain ⟨b, o, us, hp, hn, hv, hk⟩ := h.ex
        obtain ⟨vs, hK, hvs⟩ := res_run hT s r l hl _ hk
        refine ⟨_, hK, ?_⟩
        rw [List.mapM_cons]
        have h1 : (resF a (.cell x t)).run P w = .ok (.agg us.toArray) w := by
          simp only [resF, Sem.run_bind, s.val, hp, asAddr, Sem.run_pure, Result.andThen_ok, loadVar_agg ht ha hn hv]
        simp only [Sem.run_bind, h1, Sem.run_pure, Result.andThen_ok, hvs]
      | false =>
        simp only [resW, ha, cond_false] at h
        obtain ⟨b, o, v, hp, hv, hk⟩ := h.ex
        obtain ⟨vs, hK, hvs⟩ := res_run hT s r l hl _ hk
        refine ⟨_, hK, ?_⟩
        rw [List.mapM_cons]
        have h1 : (resF a (.cell x t)).run P w = .ok v w := by
          simp only [resF, Sem.run_bind, s.val, hp, asAddr, Sem.run_pure, Result.andThen_ok, loadVar_one ht ha hv]
        simp only [Sem.run_bind, h1, Sem.run_pure, Result.andThen_ok, hvs]
    · cases hc

theorem results_run {P : Program} {T : Tab} (hT : Tabok P T) {n : Nat} {ρ : Env} {a : Act} (s : Sim n ρ a) {w : World} {fn : Func} {rs : List SRes} (hc : compRes T fn.results.toList = some rs) {R : Value → Heap → Prop}
    (h : resW w.heap ρ rs fun l => R (pack l) w.heap) : ∃ v, (results fn a.tmps).run P w = .ok v w ∧ R v w.heap := by
  obtain ⟨vs, hK, hv⟩ := res_run (a := a) hT s _ _ hc _ h
  refine ⟨_, ?_, hK⟩
  have hl : fn.results = fn.results.toList.toArray := by simp
  have hm : (fn.results.mapM (resF a)).run P w = .ok vs.toArray w := by
    rw [hl, List.mapM_toArray]
    simp only [Sem.run_map, hv, Result.andThen_ok]
  show (do let us ← fn.results.mapM (resF a); pure (if h : us.size = 1 then us[0] else .tuple us) : Sem Value).run P w = _
  simp only [Sem.run_bind, hm, Result.andThen_ok, Sem.run_pure]
  match vs with
  | [] => rfl
  | [v] => rfl
  | v :: u :: r => simp [pack]

/-- A function's contract out of the printed form of what its run asks. -/
theorem HT.print {P : Program} (hm : P.follows .mixedOrders = true) {T : Tab} (hT : Tabok P T) {f n : Nat} {H : List (Nat × List Nat)} {rs : List SRes} {fn : Func} (h1 : P.funcs[f]? = some fn) (h3' : (fn.name == "runtime.NumGoroutine") = false) (h4 : fn.ntmps = n)
    (h25 : (fn.body.bind (comp n T H 200 1)).isSome = true) (h6 : compRes T fn.results.toList = some rs) {args : List Value} (hl0 : Nat.ble args.length n = true) {h : Heap} {R : Value → Heap → Prop} {X : Prop}
    (hx : X = SC.wp P ((fn.body.bind (comp n T H 200 1)).getD .skip) (retP rs R) (argE args) h) (k : X) : HT P f args h R := by
  have hl : args.length ≤ n := Nat.le_of_ble_eq_true hl0
  obtain ⟨sc, hsc⟩ := Option.isSome_iff_exists.1 h25
  obtain ⟨c, h2, h5⟩ := Option.bind_eq_some_iff.1 hsc
  have h3 : fn.name ≠ "runtime.NumGoroutine" := by simpa using h3'
  have hw : SC.wp P sc (retP rs R) (argE args) h := by
    rw [hx, hsc] at k
    exact k
  refine ⟨⟨fn, c, h1, h2, h3⟩, ?_⟩
  intro w hh
  subst hh
  refine calls_of_wp h1 h2 ?_
  refine sound hm hT 200 1 c sc h5 (retP rs R) (argE args) _ w _ hw ⟨by simp [h4]; omega, fun t => ?_, rfl⟩ ?_
  · rw [argE_get]
    simp only [Array.getD_eq_getD_getElem?, Array.getElem?_append, List.size_toArray, List.getElem?_toArray]
    by_cases ht : t < args.length
    · simp [ht]
    · simp only [ht, if_false]
      have : args[t]? = none := by simp; omega
      rw [this]
      cases hx : (Array.replicate (fn.ntmps - args.length) undef)[t - args.length]? with
      | none => rfl
      | some v =>
        have := Array.mem_of_getElem? hx
        simp at this
        simp [this.2]
  · intro x ρ' a' w' s' _ sm q
    cases x with
    | normal =>
      obtain ⟨v, hv, hR⟩ := results_run hT s' h6 q
      exact ⟨s'.df, v, hv, v, rfl, sm, hR⟩
    | ret =>
      obtain ⟨v, hv, hR⟩ := results_run hT s' h6 q
      exact ⟨s'.df, v, hv, v, rfl, sm, hR⟩
    | exit j => exact q.elim
    | goto l => exact q.elim

theorem HT.mono {P : Program} {f : Nat} {args : List Value} {h : Heap} {R R' : Value → Heap → Prop} (x : HT P f args h R) (hr : ∀ v h', R v h' → R' v h') : HT P f args h R' :=
  ⟨x.1, fun w hw => (x.2 w hw).mono fun _ _ ⟨v, he, hs, hR⟩ => ⟨v, he, hs, hr _ _ hR⟩⟩

end Go.Sl
end
