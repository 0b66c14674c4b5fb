/- Parts of the proof, laid together: S1 S2 S3 S4 S5. No statement of the seat is proved here. -/
import Derived.Calls
import Derived.Orders
import Derived.ScopeJumps
import Derived.Below
import Derived.Deep.LoopGhost
import Derived.Deep.Quiet
import Derived.Laws.CopyRow
import Derived.Laws.Append
import Derived.KernelRfl
set_option linter.unusedVariables false
set_option linter.unusedSimpArgs false
section
namespace Go.Sl

abbrev Heap := Array Obj
abbrev Env := Nat → Value

def Env.put (ρ : Env) (d : Option Nat) (v : Value) : Env :=
  match d with
  | none => ρ
  | some d => fun t => bif Nat.beq t d then v else ρ t

def ev (ρ : Env) : Operand → Value
  | .tmp t => ρ t
  | .const v => v
  | .global g => .pointer (some ⟨g, 0, none⟩)
  | .func f => .func (.func f) #[] #[]

def evl (ρ : Env) : List Operand → List Value
  | [] => []
  | x :: xs => ev ρ x :: evl ρ xs

/-! ### types -/

inductive TD where
  | word | int (k : IntKind) | bool | str | ptr (e : Nat) | slice (e : Nat) | arr (n e : Nat) | map (k e : Nat) | struct (fs : List (Nat × Nat)) | iface
  deriving DecidableEq

def tdOf : TypeDesc → TD
  | .int k => .int k
  | .bool => .bool
  | .string => .str
  | .pointer e => .ptr e
  | .slice e => .slice e
  | .array n e => .arr n e
  | .map k e => .map k e
  | .struct fs => .struct (fs.toList.map fun f => (f.offset, f.type))
  | .interface _ => .iface
  | _ => .word

structure TI where
  d : TD
  size : Nat
  bytes : Nat
  zero : List Value

def aggd : TD → Bool
  | .arr .. | .struct _ => true
  | _ => false

def mkv (d : TD) (z : List Value) : Value := bif aggd d then .agg z.toArray else z.headD (.tuple #[])

structure TIok (P : Program) (t : Nat) (i : TI) : Prop where
  desc : (P.underlying t).map tdOf = some i.d
  info : (P.info? t).map (fun f => (f.size, f.bytes, f.zero)) = some (i.size, i.bytes, some (mkv i.d i.zero))
  zc : (mkv i.d i.zero).cells.toList = i.zero

abbrev Tab := List (Nat × TI)
def lk : Tab → Nat → Option TI
  | [], _ => none
  | (k, i) :: r, t => bif Nat.beq k t then some i else lk r t

def Tabok (P : Program) (T : Tab) : Prop := ∀ p ∈ T, TIok P p.1 p.2

/-! ### operations -/

inductive SOp where
  | mv (x : Operand)
  | pick (c a b : Operand)
  | box (T : Nat) (x : Operand)
  | new (T : Nat) (z : List Value)
  | build (z : List Value) (ps : List ((Nat × Nat) × Operand))
  | row (T : Nat) (z : List Value) (ps : List ((Nat × Nat) × Operand)) (len : Nat)
  | ld (a : Operand)
  | ldn (n : Nat) (a : Operand)
  | st (n : Nat) (a x : Operand)
  | nilc (x : Operand)
  | bin (op : BinOp) (x y : Operand)
  | eqb (neg : Bool) (x y : Operand)
  | eqp (neg : Bool) (x y : Operand)
  | eqn (neg : Bool) (x y : Operand)
  | eqs (neg : Bool) (T : Nat) (x y : Operand)
  | not (x : Operand)
  | neg (x : Operand)
  | conv (k : IntKind) (x : Operand)
  | mkfn (fn : Fn) (first cap : List Operand)
  | mkmap
  | mkslice (T esz bytes : Nat) (z : List Value) (l c : Operand)
  | slc (esz : Nat) (x : Operand) (lo hi mx : Option Operand)
  | slcS (x : Operand) (lo hi : Option Operand)
  | slcA (n esz : Nat) (x : Operand) (lo hi : Option Operand)
  | faddr (off : Nat) (x : Operand)
  | fld (agg : Bool) (off size : Nat) (x : Operand)
  | iaddr (esz : Nat) (x i : Operand)
  | iaddrA (n esz : Nat) (x i : Operand)
  | idxA (n esz : Nat) (agg : Bool) (x i : Operand)
  | idxS (x i : Operand)
  | look (z : Value) (ok : Bool) (m k : Operand)
  | mupd (m k x : Operand)
  | mentry (z : Value) (m k : Operand)
  | mstore (m s x : Operand)
  | ext (x : Operand) (i : Nat)
  | call (f : Nat) (args : List Operand)
  | callv (f : Operand) (args : List Operand)
  | app (T esz bytes : Nat) (z : List Value) (x y : Operand)
  | len (x : Operand)
  | lenS (x : Operand)
  | lenM (x : Operand)
  | lenA (n : Nat)
  | cap (x : Operand)
  | copy (esz : Nat) (x y : Operand)
  | clr (esz : Nat) (z : List Value) (x : Operand)
  | del (m k : Operand)
  | mx2 (x y : Operand)
  | mn2 (x y : Operand)

inductive SC where
  | skip
  | ret
  | exit (id : Nat)
  | goto (l : Nat)
  | op (d : Option Nat) (g : Option (Nat × Bool)) (o : SOp) (k : SC)
  | seq (j : Option (List Nat)) (a b : SC)
  | cond (c : Operand) (a b : SC)
  | block (id : Nat) (b : SC)
  | loop (s : List Nat) (b : SC)
  | quiet (calls : Bool) (b : SC)
  | jump (l : Nat) (c rest : SC)
  | any (af : List (List Nat)) (us : List (List Nat)) (b : SC)

/-! ### what operations ask -/

def cellAt (h : Heap) (b o : Nat) : Option Value :=
  match h[b]? with
  | some (.cells c _ _) => c[o]?
  | _ => none

def rangeAt (h : Heap) (b o : Nat) (vs : List Value) : Prop := ∀ (i : Nat) (v : Value), vs[i]? = some v → cellAt h b (o + i) = some v

def Ext (h h' : Heap) : Prop := h.size ≤ h'.size ∧ ∀ (b : Nat), b < h.size → h'[b]? = h[b]?

structure RD1 (h : Heap) (p : Value) (K : Value → Prop) : Prop where
  ex : ∃ b o v, p = .pointer (some ⟨b, o, none⟩) ∧ cellAt h b o = some v ∧ K v

structure RDN (h : Heap) (n : Nat) (p : Value) (K : Value → Prop) : Prop where
  ex : ∃ b o, ∃ vs : List Value, p = .pointer (some ⟨b, o, none⟩) ∧ vs.length = n ∧ rangeAt h b o vs ∧ K (.agg vs.toArray)

/-- A write of the cells of a value. -/
def putRange (c : Array Value) (o : Nat) (vs : List Value) : Array Value := (c.toList.take o ++ vs ++ c.toList.drop (o + vs.length)).toArray

def one (v : Value) : Bool := match v with | .agg _ | .tuple _ => false | _ => true

structure WR (h : Heap) (n : Nat) (p x : Value) (K : Heap → Prop) : Prop where
  ex : ∃ b o c T, p = .pointer (some ⟨b, o, none⟩) ∧ h[b]? = some (.cells c T (0, 0)) ∧ x.cells.size = n ∧ o + n ≤ c.size ∧ x.cells.toList.all one = true ∧
    K (h.setIfInBounds b (.cells (putRange c o x.cells.toList) T (0, 0)))

structure CMP (p : Prop) (K : Value → Prop) : Prop where
  yes : p → K (.bool true)
  no : ¬ p → K (.bool false)

structure ARI (k : IntKind) (n : Int) (K : Value → Prop) : Prop where
  ex : ∃ r, k.wrap n = r ∧ K (.int k r)

structure DIV (k : IntKind) (y n : Int) (K : Value → Prop) : Prop where
  ex : y ≠ 0 ∧ ∃ r, n = r ∧ K (.int k r)

structure BIT (k : IntKind) (n : Int) (K : Value → Prop) : Prop where
  ex : ∃ r, n = r ∧ K (.int k r)

structure SHF (k : IntKind) (y n : Int) (K : Value → Prop) : Prop where
  ex : 0 ≤ y ∧ ∃ r, n = r ∧ K (.int k r)

structure IDX (j : Int) (n : Nat) (K : Nat → Prop) : Prop where
  ex : ∃ i : Nat, j = (i : Int) ∧ i < n ∧ K i

structure GET (c : Array Value) (i : Nat) (K : Value → Prop) : Prop where
  ex : ∃ v, c[i]? = some v ∧ K v

structure GETS (s : ByteArray) (j : Int) (K : Value → Prop) : Prop where
  ex : ∃ (i : Nat) (b : UInt8), j = (i : Int) ∧ s[i]? = some b ∧ K (.int .u8 b.toNat)

def bnd (v : Option Value) (d : Nat) (i : Nat) (most : Nat) : Prop :=
  match v with
  | none => i = d
  | some (.int _ j) => j = (i : Int) ∧ i ≤ most
  | _ => False

structure SLC (a : Option Addr) (n c esz : Nat) (lo hi mx : Option Value) (K : Value → Prop) : Prop where
  ex : ∃ l h m : Nat, bnd mx c m c ∧ bnd hi n h m ∧ bnd lo 0 l h ∧
    ∀ a' : Option Addr, (m = l → a' = a) → (m ≠ l → a' = a.map (·.add (l * esz))) → K (.slice a' (h - l) (m - l))

structure SLS (s : ByteArray) (lo hi : Option Value) (K : Value → Prop) : Prop where
  ex : ∃ l h : Nat, bnd hi s.size h s.size ∧ bnd lo 0 l h ∧ K (.string (s.extract l h))

def same (j k : IntKind) : Bool := Nat.beq j.ctorIdx k.ctorIdx

/-- The bitwise operations' own sums. -/
def bits (op : BinOp) (k : IntKind) (x y : Int) : Int :=
  let a := BitVec.ofInt k.bits x
  let b := BitVec.ofInt k.bits y
  match op with
  | .and => k.wrap (a &&& b).toNat
  | .or => k.wrap (a ||| b).toNat
  | .xor => k.wrap (a ^^^ b).toNat
  | _ => k.wrap (a &&& ~~~b).toNat

def binW (op : BinOp) (x y : Value) (K : Value → Prop) : Prop :=
  match x, y with
  | .int k a, .int k' b =>
    match op with
    | .shl => SHF k b (k.wrap (a * 2 ^ (min b.toNat k.bits))) K
    | .shr => SHF k b (a.fdiv (2 ^ (min b.toNat k.bits))) K
    | .add => bif same k k' then ARI k (a + b) K else False
    | .sub => bif same k k' then ARI k (a - b) K else False
    | .mul => bif same k k' then ARI k (a * b) K else False
    | .quo => bif same k k' then DIV k b (k.wrap (a.tdiv b)) K else False
    | .rem => bif same k k' then DIV k b (a.tmod b) K else False
    | .and | .or | .xor | .andNot => bif same k k' then BIT k (bits op k a b) K else False
    | .eql => bif same k k' then CMP (a = b) K else False
    | .neq => bif same k k' then CMP (a ≠ b) K else False
    | .lss => bif same k k' then CMP (a < b) K else False
    | .leq => bif same k k' then CMP (a ≤ b) K else False
    | .gtr => bif same k k' then CMP (a > b) K else False
    | .geq => bif same k k' then CMP (a ≥ b) K else False
  | .string a, .string b =>
    match op with
    | .eql => CMP (a.toList = b.toList) K
    | .neq => CMP (a.toList ≠ b.toList) K
    | _ => False
  | _, _ => False

/-- Equality of flat structs. -/
structure SEQ (P : Program) (neg : Bool) (T : Nat) (x y : Value) (K : Value → Prop) : Prop where
  ex : ∃ xs ys : List Value, x = .agg xs.toArray ∧ y = .agg ys.toArray ∧ xs.length = ys.length ∧
    (∃ b : Bool, (b = true ↔ xs = ys) ∧ ∀ w, (Op.equal T x y).run P w = .ok b w) ∧ (∀ w op ox oy, (eqGuard op T ox oy x y).run P w = .ok () w) ∧
    (xs = ys → K (.bool (!neg))) ∧ (xs ≠ ys → K (.bool neg))

def fillW (cells : List Value) : List ((Nat × Nat) × Value) → Option (List Value)
  | [] => some cells
  | ((off, size), v) :: rest =>
    if v.cells.size = size ∧ off + size ≤ cells.length then fillW (cells.take off ++ v.cells.toList ++ cells.drop (off + size)) rest else none

structure FIL (z : List Value) (ps : List ((Nat × Nat) × Value)) (K : List Value → Prop) : Prop where
  ex : ∃ l, fillW z ps = some l ∧ K l

def evp (ρ : Env) : List ((Nat × Nat) × Operand) → List ((Nat × Nat) × Value)
  | [] => []
  | (p, x) :: r => (p, ev ρ x) :: evp ρ r

/-! ### maps with integer keys -/

def keyed (kk : IntKind) (es : List MapEntry) : Prop := ∀ e ∈ es, ∃ n, e.key = .int kk n

def mget : List MapEntry → Int → Option Value
  | [], _ => none
  | e :: r, n => match e.key with
    | .int _ m => if n = m then some e.val else mget r n
    | _ => none

structure LOK (h : Heap) (m k z : Value) (K : Value → Bool → Prop) : Prop where
  ex : ∃ (kk : IntKind) (n : Int), k = .int kk n ∧
    ((m = .map none ∧ K z false) ∨
     ∃ r es clock, m = .map (some r) ∧ h[r]? = some (.map es clock) ∧ keyed kk es.toList ∧
      ((∃ v, mget es.toList n = some v ∧ K v true) ∨ (mget es.toList n = none ∧ K z false)))

/-! ### calls -/

structure Same (w w' : World) : Prop where
  os : w'.os = w.os
  tape : w'.tape = w.tape
  output : w'.output = w.output

structure Enters (P : Program) (f : Nat) : Prop where
  ex : ∃ fn c, P.funcs[f]? = some fn ∧ fn.body = some c ∧ fn.name ≠ "runtime.NumGoroutine"

def HT (P : Program) (f : Nat) (args : List Value) (h : Heap) (R : Value → Heap → Prop) : Prop :=
  Enters P f ∧ ∀ w : World, w.heap = h → Calls P f args.toArray w fun e w' => ∃ v, e = .returned v ∧ Same w w' ∧ R v w'.heap

structure APP (h : Heap) (T esz bytes : Nat) (z : List Value) (x y : Value) (K : Value → Heap → Prop) : Prop where
  ex : ∃ (a ya : Option Addr) (n c m yc : Nat) (news : List Value), x = .slice a n c ∧ y = .slice ya m yc ∧ news.length = m * esz ∧ news.all one = true ∧
    (news = [] ∨ ∃ b o, ya = some ⟨b, o, none⟩ ∧ rangeAt h b o news) ∧
    ((n + m ≤ c ∧ ((news = [] ∧ K (.slice a (n + m) c) h) ∨
        ∃ b o cs U, a = some ⟨b, o, none⟩ ∧ h[b]? = some (.cells cs U (0, 0)) ∧ o + n * esz + news.length ≤ cs.size ∧
          K (.slice a (n + m) c) (h.setIfInBounds b (.cells (putRange cs (o + n * esz) news) U (0, 0))))) ∨
     (c < n + m ∧ z.length = esz ∧ (n + m) * (bytes + 1) ≤ 2 ^ 46 ∧ ∃ olds : List Value, olds.length = n * esz ∧ (olds = [] ∨ ∃ b o, a = some ⟨b, o, none⟩ ∧ rangeAt h b o olds) ∧
       ∀ c' spare, n + m ≤ c' → spare.length = (c' - (n + m)) * esz →
         K (.slice (some ⟨h.size, 0, none⟩) (n + m) c') (h.push (.cells (olds ++ news ++ spare).toArray T (0, 0)))))

structure MKS (h : Heap) (T esz bytes : Nat) (z : List Value) (l c : Value) (K : Value → Heap → Prop) : Prop where
  ex : ∃ n m : Nat, l = .int .i64 n ∧ c = .int .i64 m ∧ n ≤ m ∧ m * (bytes + 1) ≤ 2 ^ 46 ∧ z.length = esz ∧
    K (.slice (some ⟨h.size, 0, none⟩) n m) (h.push (.cells (List.replicate m z).flatten.toArray T (0, 0)))

structure CLR (h : Heap) (esz : Nat) (z : List Value) (x : Value) (K : Value → Heap → Prop) : Prop where
  ex : ∃ (a : Option Addr) (n c : Nat), x = .slice a n c ∧ z.length = esz ∧
    ((n = 0 ∧ K (.tuple #[]) h) ∨
      ∃ b o cs U, a = some ⟨b, o, none⟩ ∧ h[b]? = some (.cells cs U (0, 0)) ∧ o + n * esz ≤ cs.size ∧ (List.replicate n z).flatten.all one = true ∧
        K (.tuple #[]) (h.setIfInBounds b (.cells (putRange cs o (List.replicate n z).flatten) U (0, 0))))

structure CPY (h : Heap) (esz : Nat) (x y : Value) (K : Value → Heap → Prop) : Prop where
  ex : ∃ (a ya : Option Addr) (n c m yc : Nat) (news : List Value), x = .slice a n c ∧ y = .slice ya m yc ∧ news.length = Nat.min m n * esz ∧ news.all one = true ∧
    (news = [] ∨ ∃ b o, ya = some ⟨b, o, none⟩ ∧ rangeAt h b o news) ∧
    ((news = [] ∧ K (.int .i64 (Nat.min m n)) h) ∨
      ∃ b o cs U, a = some ⟨b, o, none⟩ ∧ h[b]? = some (.cells cs U (0, 0)) ∧ o + news.length ≤ cs.size ∧
        K (.int .i64 (Nat.min m n)) (h.setIfInBounds b (.cells (putRange cs o news) U (0, 0))))

/-- The entries behind a store. -/
def mset : List MapEntry → Int → Value → Option (List MapEntry)
  | [], _, _ => none
  | e :: r, n, v => match e.key with
    | .int _ m => if n = m then some ({ e with val := v } :: r) else (mset r n v).map (e :: ·)
    | _ => none

structure MUP (h : Heap) (m k x : Value) (K : Heap → Prop) : Prop where
  ex : ∃ (kk : IntKind) (n : Int) (r : Nat) (es : Array MapEntry) (clock : Nat), k = .int kk n ∧ m = .map (some r) ∧ h[r]? = some (.map es clock) ∧ keyed kk es.toList ∧
    ((∃ es', mset es.toList n x = some es' ∧ K (h.setIfInBounds r (.map es'.toArray clock))) ∨
     (mget es.toList n = none ∧ K (h.setIfInBounds r (.map (es.push { key := .int kk n, val := x, born := clock }) (clock + 1)))))

structure LENM (h : Heap) (r : Nat) (K : Value → Prop) : Prop where
  ex : ∃ es clock, h[r]? = some (.map es clock) ∧ K (.int .i64 es.size)

/-! ### the operations' preconditions -/

def PICK (c a b : Value) (K : Value → Prop) : Prop :=
  match c with
  | .bool true => K a
  | .bool false => K b
  | _ => False
def NILC (x : Value) (K : Value → Prop) : Prop :=
  match x with
  | .pointer (some a) => K (.pointer (some a))
  | _ => False
def EQB (ng : Bool) (x y : Value) (K : Value → Prop) : Prop :=
  match x, y with
  | .bool a, .bool b => K (.bool (bif ng then !(a == b) else a == b))
  | _, _ => False
def EQP (ng : Bool) (x y : Value) (K : Value → Prop) : Prop :=
  match x, y with
  | .pointer none, .pointer b => K (.bool (bif ng then !b.isNone else b.isNone))
  | .pointer (some _), .pointer none => K (.bool ng)
  | _, _ => False
def EQN (ng : Bool) (x y : Value) (K : Value → Prop) : Prop :=
  match x, y with
  | .slice none _ _, .slice b _ _ => K (.bool (bif ng then !b.isNone else b.isNone))
  | .slice (some _) _ _, .slice none _ _ => K (.bool ng)
  | _, _ => False
def NOT (x : Value) (K : Value → Prop) : Prop :=
  match x with
  | .bool b => K (.bool (!b))
  | _ => False
def NEG (x : Value) (K : Value → Prop) : Prop :=
  match x with
  | .int k n => ARI k (0 - n) K
  | _ => False
def CONV (k : IntKind) (x : Value) (K : Value → Prop) : Prop :=
  match x with
  | .int _ n => ARI k n K
  | _ => False
def SLCV (esz : Nat) (x : Value) (lo hi mx : Option Value) (K : Value → Prop) : Prop :=
  match x with
  | .slice a n c => SLC a n c esz lo hi mx K
  | _ => False
def SLSV (x : Value) (lo hi : Option Value) (K : Value → Prop) : Prop :=
  match x with
  | .string s => SLS s lo hi K
  | _ => False
def SLAV (n esz : Nat) (x : Value) (lo hi : Option Value) (K : Value → Prop) : Prop :=
  match x with
  | .pointer (some a) => SLC (some a) n n esz lo hi none K
  | _ => False
def FADDR (off : Nat) (x : Value) (K : Value → Prop) : Prop :=
  match x with
  | .pointer (some ⟨b, o, none⟩) => K (.pointer (some ⟨b, o + off, none⟩))
  | _ => False
def FLD (agg : Bool) (off size : Nat) (x : Value) (K : Value → Prop) : Prop :=
  match x with
  | .agg cs => bif agg then K (.agg (cs.extract off (off + size))) else GET cs off K
  | _ => False
def IADDR (esz : Nat) (x i : Value) (K : Value → Prop) : Prop :=
  match x, i with
  | .slice (some ⟨b, o, none⟩) n _, .int _ j => IDX j n fun i => K (.pointer (some ⟨b, o + i * esz, none⟩))
  | _, _ => False
def IADDRA (n esz : Nat) (x i : Value) (K : Value → Prop) : Prop :=
  match x, i with
  | .pointer (some ⟨b, o, none⟩), .int _ j => IDX j n fun i => K (.pointer (some ⟨b, o + i * esz, none⟩))
  | _, _ => False
def IDXA (n esz : Nat) (agg : Bool) (x i : Value) (K : Value → Prop) : Prop :=
  match x, i with
  | .agg cs, .int _ j => IDX j n fun i => bif agg then K (.agg (cs.extract (i * esz) (i * esz + esz))) else GET cs (i * esz) K
  | _, _ => False
def IDXS (x i : Value) (K : Value → Prop) : Prop :=
  match x, i with
  | .string s, .int _ j => GETS s j K
  | _, _ => False
def LOOK (h : Heap) (z : Value) (ok : Bool) (m k : Value) (K : Value → Prop) : Prop := LOK h m k z fun v b => K (bif ok then .tuple #[v, .bool b] else v)
def EXT (x : Value) (i : Nat) (K : Value → Prop) : Prop :=
  match x with
  | .tuple vs => GET vs i K
  | _ => False
def LEN (x : Value) (K : Value → Prop) : Prop :=
  match x with
  | .slice _ n _ => K (.int .i64 n)
  | _ => False
def LENS (x : Value) (K : Value → Prop) : Prop :=
  match x with
  | .string s => K (.int .i64 s.size)
  | _ => False
def LENMV (h : Heap) (x : Value) (K : Value → Prop) : Prop :=
  match x with
  | .map none => K (.int .i64 0)
  | .map (some r) => LENM h r K
  | _ => False
def CAP (x : Value) (K : Value → Prop) : Prop :=
  match x with
  | .slice _ _ n => K (.int .i64 n)
  | _ => False
def MX2 (x y : Value) (K : Value → Prop) : Prop :=
  match x, y with
  | .int k a, .int _ b => K (.int k (if b > a then b else a))
  | _, _ => False
def MN2 (x y : Value) (K : Value → Prop) : Prop :=
  match x, y with
  | .int k a, .int _ b => K (.int k (if b < a then b else a))
  | _, _ => False
def BUILD (z : List Value) (ps : List ((Nat × Nat) × Value)) (K : Value → Prop) : Prop := FIL z ps fun l => K (.agg l.toArray)

/-- Operations that leave the heap alone. -/
def SOp.rd (P : Program) (o : SOp) (ρ : Env) (h : Heap) (K : Value → Prop) : Prop :=
  match o with
  | .mv x => K (ev ρ x)
  | .pick c a b => PICK (ev ρ c) (ev ρ a) (ev ρ b) K
  | .build z ps => BUILD z (evp ρ ps) K
  | .ld a => RD1 h (ev ρ a) K
  | .ldn n a => RDN h n (ev ρ a) K
  | .nilc x => NILC (ev ρ x) K
  | .bin op x y => binW op (ev ρ x) (ev ρ y) K
  | .eqb ng x y => EQB ng (ev ρ x) (ev ρ y) K
  | .eqp ng x y => EQP ng (ev ρ x) (ev ρ y) K
  | .eqn ng x y => EQN ng (ev ρ x) (ev ρ y) K
  | .eqs ng T x y => SEQ P ng T (ev ρ x) (ev ρ y) K
  | .not x => NOT (ev ρ x) K
  | .neg x => NEG (ev ρ x) K
  | .conv k x => CONV k (ev ρ x) K
  | .mkfn fn fs cs => K (.func fn (evl ρ fs).toArray (evl ρ cs).toArray)
  | .slc esz x lo hi mx => SLCV esz (ev ρ x) (lo.map (ev ρ)) (hi.map (ev ρ)) (mx.map (ev ρ)) K
  | .slcS x lo hi => SLSV (ev ρ x) (lo.map (ev ρ)) (hi.map (ev ρ)) K
  | .slcA n esz x lo hi => SLAV n esz (ev ρ x) (lo.map (ev ρ)) (hi.map (ev ρ)) K
  | .faddr off x => FADDR off (ev ρ x) K
  | .fld agg off size x => FLD agg off size (ev ρ x) K
  | .iaddr esz x i => IADDR esz (ev ρ x) (ev ρ i) K
  | .iaddrA n esz x i => IADDRA n esz (ev ρ x) (ev ρ i) K
  | .idxA n esz agg x i => IDXA n esz agg (ev ρ x) (ev ρ i) K
  | .idxS x i => IDXS (ev ρ x) (ev ρ i) K
  | .look z ok m k => LOOK h z ok (ev ρ m) (ev ρ k) K
  | .ext x i => EXT (ev ρ x) i K
  | .len x => LEN (ev ρ x) K
  | .lenS x => LENS (ev ρ x) K
  | .lenM x => LENMV h (ev ρ x) K
  | .lenA n => K (.int .i64 n)
  | .cap x => CAP (ev ρ x) K
  | .mx2 x y => MX2 (ev ρ x) (ev ρ y) K
  | .mn2 x y => MN2 (ev ρ x) (ev ρ y) K
  | _ => False

def SOp.ef : SOp → Bool
  | .box .. | .new .. | .row .. | .st .. | .mkmap | .mkslice .. | .mupd .. | .mentry .. | .mstore .. | .call .. | .callv .. | .app .. | .copy .. | .clr .. | .del .. => true
  | _ => false

/-- Operations that look at the heap. -/
def SOp.hr : SOp → Bool
  | .ld _ | .ldn .. | .look .. | .lenM _ => true
  | _ => false

theorem SOp.rd_any (P : Program) (o : SOp) (hh : o.hr = false) (ρ : Env) (h h' : Heap) (K : Value → Prop) : o.rd P ρ h K = o.rd P ρ h' K := by
  cases o <;> first | rfl | cases hh

def fnArgs (v : Value) (args : List Value) (K : Nat → List Value → Prop) : Prop :=
  match v with
  | .func (.func f) first cap => K f (first.toList ++ args ++ cap.toList)
  | _ => False

def BOX (T : Nat) (x : Value) (h : Heap) (K : Value → Heap → Prop) : Prop := K (.pointer (some ⟨h.size, 0, none⟩)) (h.push (.cells x.cells T (0, 0)))
def NEW (T : Nat) (z : List Value) (h : Heap) (K : Value → Heap → Prop) : Prop := K (.pointer (some ⟨h.size, 0, none⟩)) (h.push (.cells z.toArray T (0, 0)))
def ROW (T : Nat) (z : List Value) (ps : List ((Nat × Nat) × Value)) (n : Nat) (h : Heap) (K : Value → Heap → Prop) : Prop := FIL z ps fun l => K (.slice (some ⟨h.size, 0, none⟩) n n) (h.push (.cells l.toArray T (0, 0)))
def MKM (h : Heap) (K : Value → Heap → Prop) : Prop := K (.map (some h.size)) (h.push (.map #[] 0))
def CALLV (P : Program) (f : Value) (args : List Value) (h : Heap) (K : Value → Heap → Prop) : Prop := fnArgs f args fun f l => HT P f l h K

def SOp.wp (P : Program) (o : SOp) (ρ : Env) (h : Heap) (K : Value → Heap → Prop) : Prop :=
  match o with
  | .box T x => BOX T (ev ρ x) h K
  | .new T z => NEW T z h K
  | .row T z ps n => ROW T z (evp ρ ps) n h K
  | .st n a x => WR h n (ev ρ a) (ev ρ x) fun h' => K undef h'
  | .mkmap => MKM h K
  | .mkslice T esz bytes z l c => MKS h T esz bytes z (ev ρ l) (ev ρ c) K
  | .mupd m k x => MUP h (ev ρ m) (ev ρ k) (ev ρ x) fun h' => K undef h'
  | .call f args => HT P f (evl ρ args) h K
  | .callv f args => CALLV P (ev ρ f) (evl ρ args) h K
  | .app T esz bytes z x y => APP h T esz bytes z (ev ρ x) (ev ρ y) K
  | .copy esz x y => CPY h esz (ev ρ x) (ev ρ y) K
  | .clr esz z x => CLR h esz z (ev ρ x) K
  | .mentry .. | .mstore .. | .del .. => False
  | o => o.rd P ρ h fun v => K v h

/-- In a region whose order is open, of reads and quiet calls. -/
structure QCL (P : Program) (h : Heap) (f : Nat) (args : List Value) (K : Value → Prop) : Prop where
  ex : ∃ v, (∀ h', Ext h h' → HT P f args h' fun v' h'' => v' = v ∧ Ext h' h'') ∧ K v

def QCV (P : Program) (h : Heap) (f : Value) (args : List Value) (K : Value → Prop) : Prop := fnArgs f args fun f l => QCL P h f l K

def SOp.qp (P : Program) (o : SOp) (ρ : Env) (h : Heap) (K : Value → Prop) : Prop :=
  match o with
  | .call f args => QCL P h f (evl ρ args) K
  | .callv f args => QCV P h (ev ρ f) (evl ρ args) K
  | o => o.rd P ρ h K

/-! ### code -/

inductive Ex where
  | normal | exit (id : Nat) | goto (l : Nat) | ret

def guard (ρ : Env) (g : Option (Nat × Bool)) (a b : Prop) : Prop :=
  match g with
  | none => a
  | some (t, want) => match ρ t with
    | .bool x => bif (bif want then x else !x) then a else b
    | _ => b

def guardV (t : Value) (want : Bool) (a b : Prop) : Prop :=
  match t with
  | .bool x => bif (bif want then x else !x) then a else b
  | _ => b

/-- What is behind a guard stands once. -/
structure GD (t : Value) (want : Bool) (h : Heap) (A : (Value → Heap → Prop) → Prop) (K : Value → Heap → Prop) : Prop where
  ex : guardV t want (A K) (K undef h)
structure GQ (t : Value) (want : Bool) (A : (Value → Prop) → Prop) (K : Value → Prop) : Prop where
  ex : guardV t want (A K) (K undef)

def gd (ρ : Env) (g : Option (Nat × Bool)) (h : Heap) (A : (Value → Heap → Prop) → Prop) (K : Value → Heap → Prop) : Prop :=
  match g with
  | none => A K
  | some (t, want) => GD (ρ t) want h A K
def gq (ρ : Env) (g : Option (Nat × Bool)) (A : (Value → Prop) → Prop) (K : Value → Prop) : Prop :=
  match g with
  | none => A K
  | some (t, want) => GQ (ρ t) want A K

theorem gd_guard {ρ : Env} {g : Option (Nat × Bool)} {h : Heap} {A : (Value → Heap → Prop) → Prop} {K : Value → Heap → Prop} (x : gd ρ g h A K) : guard ρ g (A K) (K undef h) := by
  cases g with
  | none => exact x
  | some p => exact x.ex
theorem gq_guard {ρ : Env} {g : Option (Nat × Bool)} {A : (Value → Prop) → Prop} {K : Value → Prop} (x : gq ρ g A K) : guard ρ g (A K) (K undef) := by
  cases g with
  | none => exact x
  | some p => exact x.ex

def memB (t : Nat) : List Nat → Bool
  | [] => false
  | s :: r => bif Nat.beq t s then true else memB t r

def havoc (ws : List Nat) (junk ρ : Env) : Env := fun t => bif memB t ws then junk t else ρ t
def puts : List (Nat × Value) → Env → Env
  | [], ρ => ρ
  | (s, v) :: r, ρ => fun t => bif Nat.beq t s then v else puts r ρ t
def agrees (ρ : Env) : List (Nat × Value) → Prop
  | [] => True
  | (t, v) :: r => ρ t = v ∧ agrees ρ r

abbrev Post := Ex → Env → Heap → Prop

def Post.round (J : Env → Heap → Prop) (Q : Post) : Post
  | .normal, ρ, h => J ρ h
  | e, ρ, h => Q e ρ h

/-! ### joins and loops: the values of some slots as variables -/

def CurT : Nat → Type
  | 0 => Heap → Prop
  | k + 1 => Value → CurT k

def appT : (s : List Nat) → CurT s.length → Env → Heap → Prop
  | [], K, _, h => K h
  | t :: r, K, ρ, h => appT r (K (ρ t)) ρ h

def lamT : (s : List Nat) → (Env → Env) → ((Env → Env) → Heap → Prop) → CurT s.length
  | [], e, F => fun h => F e h
  | t :: r, e, F => fun v => lamT r (fun ρ => (e ρ).put (some t) v) F

def ImpT : (k : Nat) → CurT k → CurT k → Prop
  | 0, A, B => ∀ h : Heap, (show Heap → Prop from A) h → (show Heap → Prop from B) h
  | k + 1, A, B => ∀ v : Value, ImpT k (A v) (B v)

def LtT : (k : Nat) → (Nat → CurT k) → Nat → CurT k
  | 0, I, n => fun h => ∃ m, m < n ∧ (show Heap → Prop from I m) h
  | k + 1, I, n => fun v => LtT k (fun m => (show Value → CurT k from I m) v) n

structure JN (k : Nat) (body : CurT k → Prop) (rest : CurT k) : Prop where
  ex : body rest

structure LP (k : Nat) (start : CurT k → Prop) (body : CurT k → CurT k) : Prop where
  ex : ∃ I : Nat → CurT k, (∃ n, start (I n)) ∧ ∀ n, ImpT k (I n) (body (LtT k I n))

def SC.ws : SC → List Nat
  | .op d _ _ k => d.toList ++ k.ws
  | .seq _ a b | .cond _ a b | .jump _ a b => a.ws ++ b.ws
  | .block _ b | .loop _ b | .quiet _ b | .any _ _ b => b.ws
  | _ => []

def SC.qwp (P : Program) (h : Heap) (Q : Env → Prop) : SC → Env → Prop
  | .skip, ρ => Q ρ
  | .op d g o k, ρ => gq ρ g (fun K => o.qp P ρ h K) fun v => SC.qwp P h Q k (ρ.put d v)
  | _, _ => False

def Post.then (B : Post → Env → Heap → Prop) (Q : Post) : Post
  | .normal, ρ, h => B Q ρ h
  | e, ρ, h => Q e ρ h

def Post.inBlock (id : Nat) (Q : Post) : Post
  | .exit j, ρ, h => bif Nat.beq j id then Q .normal ρ h else Q (.exit j) ρ h
  | e, ρ, h => Q e ρ h

def Post.jump (l : Nat) (J : Env → Heap → Prop) (Q : Post) : Post
  | .goto l', ρ, h => bif Nat.beq l' l then J ρ h else False
  | e, ρ, h => Q e ρ h

/-! ### at the level of 'SC' -/

def SC.ops : SC → List (Option Nat × Option (Nat × Bool) × SOp)
  | .op d g o k => (d, g, o) :: k.ops
  | _ => []

def allB : List Nat → List Nat → Bool
  | [], _ => true
  | x :: r, dn => bif memB x dn then allB r dn else false

def rdyFrom : Nat → List (List Nat) → List Nat → List Nat
  | _, [], _ => []
  | k, a :: r, dn => bif memB k dn then rdyFrom (k + 1) r dn else bif allB a dn then k :: rdyFrom (k + 1) r dn else rdyFrom (k + 1) r dn

def nth {α : Type} : List α → Nat → Option α
  | [], _ => none
  | x :: _, 0 => some x
  | _ :: r, i + 1 => nth r i

def pickRd (l : List (Option Nat × Option (Nat × Bool) × SOp)) : List Nat → Option Nat
  | [] => none
  | i :: r => match nth l i with
    | some (_, _, o) => bif o.ef then pickRd l r else some i
    | none => pickRd l r

def allW : List Nat → (Nat → Prop) → Prop
  | [], _ => True
  | [i], F => F i
  | i :: r, F => F i ∧ allW r F

/-- What was read, and may be read again behind an effect, is still what it was. -/
def KPS (u : List Nat) : List (Nat × (Heap → Prop)) → Heap → Prop → Prop
  | [], _, X => X
  | (i, p) :: r, h, X => bif memB i u then p h ∧ KPS u r h X else KPS u r h X

def anyW (P : Program) (Q : Post) (af : List (List Nat)) (us : List (List Nat)) (l : List (Option Nat × Option (Nat × Bool) × SOp)) : Nat → List Nat → List (Nat × (Heap → Prop)) → Env → Heap → Prop
  | 0, _, _, _, _ => False
  | f + 1, dn, kl, ρ, h => match rdyFrom 0 af dn with
    | [] => Q .normal ρ h
    | rs@(_ :: _) => match pickRd l rs with
      | some i => match nth l i with
        | some (d, g, o) => gq ρ g (fun K => o.rd P ρ h K) fun v => anyW P Q af us l f (i :: dn) (bif o.hr then (i, fun h' => gq ρ g (fun K => o.rd P ρ h' K) fun v' => v' = v) :: kl else kl) (ρ.put d v) h
        | none => False
      | none => allW rs fun i => match nth l i with
        | some (d, g, o) => gd ρ g h (fun K => o.wp P ρ h K) fun v h' => KPS ((nth us i).getD []) kl h' (anyW P Q af us l f (i :: dn) kl (ρ.put d v) h')
        | none => False

def COND (c : Value) (A B : Prop) : Prop :=
  match c with
  | .bool true => A
  | .bool false => B
  | _ => False

def SC.wp (P : Program) : SC → Post → Env → Heap → Prop
  | .skip, Q, ρ, h => Q .normal ρ h
  | .ret, Q, ρ, h => Q .ret ρ h
  | .exit id, Q, ρ, h => Q (.exit id) ρ h
  | .goto l, Q, ρ, h => Q (.goto l) ρ h
  | .op d g o k, Q, ρ, h => gd ρ g h (fun K => o.wp P ρ h K) fun v h' => SC.wp P k Q (ρ.put d v) h'
  | .seq none a b, Q, ρ, h => SC.wp P a (Post.then (SC.wp P b) Q) ρ h
  | .seq (some s) a b, Q, ρ, h => JN s.length (fun K => SC.wp P a (Post.round (appT s K) Q) ρ h) (lamT s (fun x => x) fun e h' => ∀ junk, SC.wp P b Q (e (havoc a.ws junk ρ)) h')
  | .cond c a b, Q, ρ, h => COND (ev ρ c) (SC.wp P a Q ρ h) (SC.wp P b Q ρ h)
  | .block id b, Q, ρ, h => SC.wp P b (Post.inBlock id Q) ρ h
  | .loop s b, Q, ρ, h => LP s.length (fun I => appT s I ρ h) fun again => lamT s (fun x => x) fun e h' => ∀ junk, SC.wp P b (Post.round (appT s again) Q) (e (havoc b.ws junk ρ)) h'
  | .quiet calls b, Q, ρ, h => SC.qwp P h (fun ρ' => bif calls then ∀ h', Ext h h' → Q .normal ρ' h' else Q .normal ρ' h) b ρ
  | .jump l c rest, Q, ρ, h => SC.wp P c (Post.jump l (fun ρ' h' => SC.wp P rest (Post.jump l (fun _ _ => False) Q) ρ' h') Q) ρ h
  | .any af us b, Q, ρ, h => anyW P Q af us b.ops (af.length + 1) [] [] ρ h

end Go.Sl
end

section
namespace Go.Sl

def sizeOfT (T : Tab) (t : Nat) : Option Nat := (lk T t).map (·.size)

def dof (T : Tab) (t : Nat) : Option TD := (lk T t).map (·.d)

def mapO {α β : Type} (f : α → Option β) : List α → Option (List β)
  | [] => some []
  | x :: r => match f x, mapO f r with
    | some y, some l => some (y :: l)
    | _, _ => none

def placesS (T : Tab) (fs : List (Nat × Nat)) : Option (List (Nat × Nat)) := mapO (fun f => (sizeOfT T f.2).map fun s => (f.1, s)) fs
def partsS (pl : List (Nat × Nat)) (p : Nat × Operand) : Option ((Nat × Nat) × Operand) := (pl[p.1]?).map fun q => (q, p.2)

def rowZero (n : Nat) (z : List Value) : List Value := (List.replicate n z).flatten

def compBuiltin (T : Tab) (b : Builtin) (args : List Operand) (tys : List Nat) : Option SOp :=
  match b, args, tys with
  | .len, [x], [t] => match dof T t with
    | some (.slice _) => some (.len x)
    | some .str => some (.lenS x)
    | some (.map _ _) => some (.lenM x)
    | some (.arr n _) => some (.lenA n)
    | _ => none
  | .cap, [x], [t] => match dof T t with
    | some (.slice _) => some (.cap x)
    | _ => none
  | .append, [x, y], [t, u] => match dof T t, dof T u with
    | some (.slice e), some (.slice _) => match lk T e with
      | some i => some (.app e i.size i.bytes i.zero x y)
      | none => none
    | _, _ => none
  | .copy, [x, y], [t, u] => match dof T t, dof T u with
    | some (.slice e), some (.slice _) => match lk T e with
      | some i => some (.copy i.size x y)
      | none => none
    | _, _ => none
  | .clear, [x], [t] => match dof T t with
    | some (.slice e) => match lk T e with
      | some i => some (.clr i.size i.zero x)
      | none => none
    | _ => none
  | .max, [x, y], _ => some (.mx2 x y)
  | .min, [x, y], _ => some (.mn2 x y)
  | _, _, _ => none

def compOp (T : Tab) (o : Op) : Option SOp :=
  match o with
  | .move x | .assign x => some (.mv x)
  | .pick c a b => some (.pick c a b)
  | .alloc t => (lk T t).map fun i => .new t i.zero
  | .box t x => some (.box t x)
  | .build t ps => match lk T t with
    | some i => match i.d with
      | .struct fs => match placesS T fs with
        | some pl => (mapO (partsS pl) ps.toList).map fun l => .build i.zero l
        | none => none
      | .arr _ e => (sizeOfT T e).map fun s => .build i.zero (ps.toList.map fun p => ((p.1 * s, s), p.2))
      | _ => none
    | none => none
  | .buildSlice t len ps => match dof T t with
    | some (.slice e) => match lk T e with
      | some i => if i.zero.length = i.size ∧ len * i.size ≤ 2 ^ 20 then some (.row e (rowZero len i.zero) (ps.toList.map fun p => ((p.1 * i.size, i.size), p.2)) len) else none
      | none => none
    | _ => none
  | .load t a => (lk T t).map fun i => bif aggd i.d then .ldn i.size a else .ld a
  | .store t a x => (lk T t).map fun i => .st i.size a x
  | .nilCheck x => some (.nilc x)
  | .binOp op t x y _ => match dof T t with
    | some (.int _) | some .str => some (.bin op x y)
    | some .bool => match op with | .eql => some (.eqb false x y) | .neq => some (.eqb true x y) | _ => none
    | some (.ptr _) => match op with | .eql => some (.eqp false x y) | .neq => some (.eqp true x y) | _ => none
    | some (.slice _) => match op with | .eql => some (.eqn false x y) | .neq => some (.eqn true x y) | _ => none
    | some (.struct _) => match op with | .eql => some (.eqs false t x y) | .neq => some (.eqs true t x y) | _ => none
    | _ => none
  | .unOp op _ x => match op with | .not => some (.not x) | .neg => some (.neg x) | _ => none
  | .convert src dst x => match dof T src, dof T dst with
    | some _, some (.int k) => some (.conv k x)
    | _, _ => none
  | .makeFunc fn first cap => some (.mkfn fn first.toList cap.toList)
  | .makeMap _ r => match r with | none => some .mkmap | some _ => none
  | .makeSlice t l c => match dof T t with
    | some (.slice e) => match lk T e with
      | some i => some (.mkslice e i.size i.bytes i.zero l c)
      | none => none
    | _ => none
  | .slice t x lo hi mx => match dof T t with
    | some (.slice e) => bif mx.isSome && hi.isNone then none else (sizeOfT T e).map fun s => .slc s x lo hi mx
    | some .str => match mx with | none => some (.slcS x lo hi) | some _ => none
    | some (.arr n e) => match mx with | none => (sizeOfT T e).map fun s => .slcA n s x lo hi | some _ => none
    | _ => none
  | .fieldAddr s x f => match dof T s with
    | some (.struct fs) => match fs[f]? with
      | some (off, ty) => match sizeOfT T ty with
        | some (_ + 1) => some (.faddr off x)
        | _ => none
      | none => none
    | _ => none
  | .field s x f => match dof T s with
    | some (.struct fs) => match fs[f]? with
      | some (off, ty) => (lk T ty).map fun i => .fld (aggd i.d) off i.size x
      | none => none
    | _ => none
  | .indexAddr t x i => match dof T t with
    | some (.slice e) => (sizeOfT T e).map fun s => .iaddr s x i
    | some (.arr n e) => (sizeOfT T e).map fun s => .iaddrA n s x i
    | _ => none
  | .index t x i => match dof T t with
    | some (.arr n e) => (lk T e).map fun j => .idxA n j.size (aggd j.d) x i
    | some .str => some (.idxS x i)
    | _ => none
  | .lookup t m k ok => match dof T t with
    | some (.map kt et) => match dof T kt, lk T et with
      | some (.int _), some i => some (.look (mkv i.d i.zero) ok m k)
      | _, _ => none
    | _ => none
  | .mapUpdate t m k x => match dof T t with
    | some (.map kt _) => match dof T kt with
      | some (.int _) => some (.mupd m k x)
      | _ => none
    | _ => none
  | .extract x i => some (.ext x i)
  | .call c => match c.callee with
    | .value (.func f) => some (.call f c.args.toList)
    | .value f => some (.callv f c.args.toList)
    | .builtin b => compBuiltin T b c.args.toList c.argTypes.toList
    | .invoke .. => none
  | _ => none

def dstOk (n : Nat) (d : Option Nat) : Bool := match d with | none => true | some d => Nat.blt d n

def compGuard (ops : Array Oper) (g : Option (Nat × Bool)) : Option (Option (Nat × Bool)) :=
  match g with
  | none => some none
  | some (j, want) => match (ops[j]?).bind (·.dst) with
    | some d => some (some (d, want))
    | none => none

def compOps (n : Nat) (T : Tab) (all : Array Oper) : List Oper → Option SC
  | [] => some .skip
  | o :: r => match compOp T o.op, compGuard all o.guard, compOps n T all r with
    | some s, some g, some k => bif dstOk n o.dst then some (.op o.dst g s k) else none
    | _, _, _ => none

def isQuiet : SC → Bool
  | .skip => true
  | .op _ _ o k => (match o with | .call .. | .callv .. => true | o => !o.ef) && isQuiet k
  | _ => false

def hasCalls : SC → Bool
  | .op _ _ o k => (match o with | .call .. | .callv .. => true | _ => false) || hasCalls k
  | _ => false

def labelOf : Code → Option Nat
  | .seq a b => match labelOf a with | some l => some l | none => labelOf b
  | .label l => some l
  | _ => none

def afterL (ops : Array Oper) (i : Nat) : List Nat := match ops[i]? with | some o => (o.after.toList.filter (Region.binds .any)).map (·.on) | none => []

def addNew : List Nat → List Nat → List Nat
  | [], l => l
  | x :: r, l => bif memB x l then addNew r l else addNew r (x :: l)

/-- Of each operation those ahead of it. -/
def clo (ops : Array Oper) : Nat → List (List Nat)
  | 0 => []
  | k + 1 => (fun c => c ++ [addNew ((afterL ops k).flatMap fun e => (nth c e).getD []) (addNew (afterL ops k) [])]) (clo ops k)

def afters (ops : Array Oper) : List (List Nat) := (List.range ops.size).map (afterL ops)

def isRd (l : List (Option Nat × Option (Nat × Bool) × SOp)) (i : Nat) : Bool := match nth l i with | some (_, _, o) => !o.ef | none => false

def isHr (l : List (Option Nat × Option (Nat × Bool) × SOp)) (i : Nat) : Bool := match nth l i with | some (_, _, o) => !o.ef && o.hr | none => false

def needsC (c : List (List Nat)) (n : Nat) (l : List (Option Nat × Option (Nat × Bool) × SOp)) : List (List Nat) :=
  (List.range n).map fun j => (List.range n).filter fun i => !Nat.beq i j && isHr l i && !memB i ((nth c j).getD []) && !memB j ((nth c i).getD [])

def needs (ops : Array Oper) (s : SC) : List (List Nat) := needsC (clo ops ops.size) ops.size s.ops

def okAnyC (c : List (List Nat)) (ops : Array Oper) (l : List (Option Nat × Option (Nat × Bool) × SOp)) : Bool :=
  Region.noSelect ops && (List.range ops.size).all fun i => !isRd l i || (List.range ops.size).all fun j => Nat.beq i j || memB i ((nth c j).getD []) || memB j ((nth c i).getD []) ||
    match ops[i]?, ops[j]? with | some x, some y => x.apart ops y | _, _ => false

def okAny (ops : Array Oper) (s : SC) : Bool := okAnyC (clo ops ops.size) ops s.ops

def hk : List (Nat × List Nat) → Nat → Option (List Nat)
  | [], _ => none
  | (p, l) :: r, q => bif Nat.beq q p then some l else hk r q

/-- The code behind a label is a part of the code: translated with the same rules, by a bound on the depth. 'H' tells at which places values are named. -/
def comp (n : Nat) (T : Tab) (H : List (Nat × List Nat)) : Nat → Nat → Code → Option SC
  | 0, _, _ => none
  | fuel + 1, p, c => match c with
    | .skip => some .skip
    | .label _ => some .skip
    | .ret => some .ret
    | .exit id => some (.exit id)
    | .goto l => some (.goto l)
    | .seq a b => match comp n T H fuel (2 * p) a, comp n T H fuel (2 * p + 1) b with
      | some x, some y => some (.seq (hk H p) x y)
      | _, _ => none
    | .cond c a b => match comp n T H fuel (2 * p) a, comp n T H fuel (2 * p + 1) b with
      | some x, some y => some (.cond c x y)
      | _, _ => none
    | .block id b => (comp n T H fuel (2 * p) b).map (.block id)
    | .loop b => (comp n T H fuel (2 * p) b).map (.loop ((hk H p).getD []))
    | .region _ ops draw => match compOps n T ops ops.toList with
      | some s => bif draw then (bif isQuiet s && Region.lexB .any ops && !(hasCalls s && okAny ops s) then some (.quiet (hasCalls s) s) else (bif okAny ops s then some (.any (afters ops) (needs ops s) s) else none)) else some s
      | none => none
    | .scope b => match labelOf b with
      | some l => match findLabel b l with
        | some rest => match comp n T H fuel (2 * p) b, comp n T H fuel (2 * p + 1) rest with
          | some x, some y => some (.jump l x y)
          | _, _ => none
        | none => none
      | none => none
    | _ => none

end Go.Sl
end

section
namespace Go.Sl
open Go

/-! ### frames -/

structure Sim (n : Nat) (ρ : Env) (a : Act) : Prop where
  size : a.tmps.size = n
  val : ∀ t, a.tmps.getD t undef = ρ t
  df : a.defers = []

theorem nbeq (a b : Nat) : Nat.beq a b = decide (a = b) := by
  by_cases h : a = b
  · subst h; simp
  · have : Nat.beq a b = false := by
      cases hb : Nat.beq a b with
      | false => rfl
      | true => exact absurd (Nat.eq_of_beq_eq_true hb) h
    simp [this, h]

theorem Env.put_some (ρ : Env) (d : Nat) (v : Value) (t : Nat) : ρ.put (some d) v t = if t = d then v else ρ t := by
  simp only [Env.put, nbeq]
  by_cases h : t = d <;> simp [h]

theorem Sim.eval {n : Nat} {ρ : Env} {a : Act} (s : Sim n ρ a) : a.eval = ev ρ := by
  funext x
  cases x <;> simp [Act.eval, ev, s.val]

theorem Sim.put {n : Nat} {ρ : Env} {a : Act} (s : Sim n ρ a) {d : Option Nat} (hd : dstOk n d = true) (v : Value) : Sim n (ρ.put d v) (a.put d v) := by
  cases d with
  | none => exact s
  | some d =>
    have hd' : d < n := by simpa [dstOk, Nat.blt_eq] using hd
    refine ⟨by simp [Act.put, s.size], fun t => ?_, s.df⟩
    rw [Env.put_some]
    simp only [Act.put]
    by_cases h : t = d
    · subst h; simp [s.size, hd']
    · have h' : d ≠ t := fun e => h e.symm
      have := s.val t
      simp only [Array.getD_eq_getD_getElem?, Array.getElem?_setIfInBounds_ne h', h, if_false] at this ⊢
      exact this

theorem evl_map (ρ : Env) (l : List Operand) : evl ρ l = l.map (ev ρ) := by
  induction l with
  | nil => rfl
  | cons x r ih => simp [evl, ih]

theorem wanted_guard {n : Nat} {ρ : Env} {a : Act} (s : Sim n ρ a) {ops : Array Oper} {o : Oper} {g : Option (Nat × Bool)} (hg : compGuard ops o.guard = some g) {A B : Prop}
    (h : guard ρ g A B) : if Region.wanted o (yielded ops a.tmps) = true then A else B := by
  unfold compGuard at hg
  unfold Region.wanted
  cases hgo : o.guard with
  | none => simp only [hgo, Option.some.injEq] at hg; subst hg; simpa [guard] using h
  | some jw =>
    obtain ⟨j, want⟩ := jw
    simp only [hgo] at hg
    cases hd : (ops[j]?).bind (·.dst) with
    | none => rw [hd] at hg; cases hg
    | some d =>
      rw [hd] at hg
      simp only [Option.some.injEq] at hg
      subst hg
      simp only [guard] at h
      have hv := s.val d
      rw [Array.getD_eq_getD_getElem?] at hv
      simp only [yielded, hd, Option.bind_some]
      cases ht : a.tmps[d]? with
      | none =>
        rw [ht] at hv
        rw [← hv] at h
        simpa [undef] using h
      | some v =>
        rw [ht] at hv
        rw [← hv] at h
        cases v with
        | bool b => cases b <;> cases want <;> simpa using h
        | _ => simpa using h

/-! ### types -/

theorem tab {P : Program} {T : Tab} (hT : Tabok P T) {t : Nat} {i : TI} (h : lk T t = some i) : TIok P t i := by
  induction T with
  | nil => cases h
  | cons p r ih =>
    obtain ⟨k, j⟩ := p
    simp only [lk, nbeq] at h
    by_cases hk : k = t
    · simp [hk] at h
      subst h; subst hk
      exact hT (k, j) (by simp)
    · simp [hk] at h
      exact ih (fun p hp => hT p (by simp [hp])) h

section
variable {P : Program} {t : Nat} {i : TI} (h : TIok P t i)
include h

theorem TIok.und : ∃ d, P.underlying t = some d ∧ tdOf d = i.d := by
  have := h.desc
  cases hu : P.underlying t with
  | none => simp [hu] at this
  | some d => exact ⟨d, rfl, by simpa [hu] using this⟩

theorem TIok.inf : ∃ f, P.info? t = some f ∧ f.size = i.size ∧ f.bytes = i.bytes ∧ f.zero = some (mkv i.d i.zero) := by
  have := h.info
  cases hu : P.info? t with
  | none => simp [hu] at this
  | some f => exact ⟨f, rfl, by simpa [hu] using this⟩

theorem TIok.size (w : World) : (sizeOf t).run P w = .ok i.size w := by
  obtain ⟨f, hf, hs, _⟩ := h.inf
  simp [sizeOf, typeInfo, hf, hs]

theorem TIok.zeroV (w : World) : (zeroValue t).run P w = .ok (mkv i.d i.zero) w := by
  obtain ⟨f, hf, _, _, hz⟩ := h.inf
  simp [zeroValue, typeInfo, hf, hz]

theorem TIok.agg (w : World) : (isAgg t).run P w = .ok (aggd i.d) w := by
  obtain ⟨d, hd, he⟩ := h.und
  rw [← he]
  cases d <;> simp [isAgg, run_underlying hd, tdOf, aggd]

theorem TIok.slice {e : Nat} (hd : i.d = .slice e) : P.underlying t = some (.slice e) := by
  obtain ⟨d, hu, he⟩ := h.und
  rw [hd] at he
  cases d <;> simp [tdOf] at he
  subst he; exact hu

theorem TIok.arr {n e : Nat} (hd : i.d = .arr n e) : P.underlying t = some (.array n e) := by
  obtain ⟨d, hu, he⟩ := h.und
  rw [hd] at he
  cases d <;> simp [tdOf] at he
  obtain ⟨rfl, rfl⟩ := he; exact hu

theorem TIok.map {k e : Nat} (hd : i.d = .map k e) : P.underlying t = some (.map k e) := by
  obtain ⟨d, hu, he⟩ := h.und
  rw [hd] at he
  cases d <;> simp [tdOf] at he
  obtain ⟨rfl, rfl⟩ := he; exact hu

theorem TIok.str (hd : i.d = .str) : P.underlying t = some .string := by
  obtain ⟨d, hu, he⟩ := h.und
  rw [hd] at he
  cases d <;> simp [tdOf] at he
  exact hu

theorem TIok.int {k : IntKind} (hd : i.d = .int k) : P.underlying t = some (.int k) := by
  obtain ⟨d, hu, he⟩ := h.und
  rw [hd] at he
  cases d <;> simp [tdOf] at he
  subst he; exact hu

theorem TIok.bool (hd : i.d = .bool) : P.underlying t = some .bool := by
  obtain ⟨d, hu, he⟩ := h.und
  rw [hd] at he
  cases d <;> simp [tdOf] at he
  exact hu

theorem TIok.ptr {e : Nat} (hd : i.d = .ptr e) : P.underlying t = some (.pointer e) := by
  obtain ⟨d, hu, he⟩ := h.und
  rw [hd] at he
  cases d <;> simp [tdOf] at he
  subst he; exact hu

theorem TIok.struct {fs : List (Nat × Nat)} (hd : i.d = .struct fs) : ∃ gs, P.underlying t = some (.struct gs) ∧ fs = gs.toList.map fun f => (f.offset, f.type) := by
  obtain ⟨d, hu, he⟩ := h.und
  rw [hd] at he
  cases d <;> simp [tdOf] at he
  exact ⟨_, hu, he.symm⟩
end

theorem dof_some {T : Tab} {t : Nat} {d : TD} (h : dof T t = some d) : ∃ i, lk T t = some i ∧ i.d = d := by
  unfold dof at h
  cases hl : lk T t with
  | none => simp [hl] at h
  | some i => exact ⟨i, rfl, by simpa [hl] using h⟩

/-! ### heaps -/

theorem Ext.refl (h : Heap) : Ext h h := ⟨Nat.le_refl _, fun _ _ => rfl⟩
theorem Ext.trans {a b c : Heap} (x : Ext a b) (y : Ext b c) : Ext a c :=
  ⟨Nat.le_trans x.1 y.1, fun i hi => (y.2 i (Nat.lt_of_lt_of_le hi x.1)).trans (x.2 i hi)⟩
theorem Ext.push (h : Heap) (o : Obj) : Ext h (h.push o) := ⟨by simp, fun b hb => by simp [Array.getElem?_push, Nat.ne_of_lt hb]⟩

theorem Ext.get {h h' : Heap} (x : Ext h h') {b : Nat} {o : Obj} (hb : h[b]? = some o) : h'[b]? = some o := by
  rw [x.2 b (Array.getElem?_eq_some_iff.1 hb).1]; exact hb

theorem cellAt_world (w : World) (b o : Nat) : w.cell? ⟨b, o, none⟩ = cellAt w.heap b o := by
  unfold World.cell? cellAt
  cases w.heap[b]? with
  | none => rfl
  | some x => cases x <;> simp

theorem Ext.cell {h h' : Heap} (x : Ext h h') {b o : Nat} {v : Value} (hc : cellAt h b o = some v) : cellAt h' b o = some v := by
  unfold cellAt at *
  cases hb : h[b]? with
  | none => simp [hb] at hc
  | some y => rw [x.get hb]; rw [hb] at hc; exact hc

theorem addr_add (b o n : Nat) : (⟨b, o, none⟩ : Addr).add n = ⟨b, o + n, none⟩ := by unfold Addr.add; split <;> simp_all

theorem same_eq {j k : IntKind} (h : same j k = true) : j = k := by
  cases j <;> cases k <;> first | rfl | (simp [same, IntKind.ctorIdx] at h)

/-! ### the operations that leave the heap alone -/

abbrev Y (P : Program) (ρ : Env) (o : Oper) (h : Heap) (K : Value → Prop) : Prop :=
  ∃ v, K v ∧ ∀ w : World, Ext h w.heap → (execOp (ev ρ) o).run P w = .ok (.value v) w

theorem binW_sound {P : Program} {op : BinOp} {t : Nat} {x y : Value} {K : Value → Prop} (hk : binW op x y K) {ox oy : Operand}
    : ∃ v, K v ∧ ∀ w : World, (do eqGuard op t ox oy x y; binOp op t x y : Sem Value).run P w = .ok v w := by
  unfold binW at hk
  split at hk
  · rename_i k a k' b
    have hg : ∀ w, (eqGuard op t ox oy (.int k a) (.int k' b)).run P w = .ok () w := fun w => by
      unfold eqGuard; cases op <;> simp
    cases op <;> simp only [] at hk
    case shl =>
      obtain ⟨h0, r, rfl, hK⟩ := hk.ex
      exact ⟨_, hK, fun w => by simp [hg, binOp, Op.shift, Int.not_lt.2 h0]⟩
    case shr =>
      obtain ⟨h0, r, rfl, hK⟩ := hk.ex
      exact ⟨_, hK, fun w => by simp [hg, binOp, Op.shift, Int.not_lt.2 h0]⟩
    all_goals
      cases hs : same k k' with
      | false => rw [hs] at hk; exact hk.elim
      | true =>
        rw [hs] at hk
        have hkk := same_eq hs
        subst hkk
        simp only [cond_true] at hk
        first
        | (obtain ⟨r, rfl, hK⟩ := hk.ex
           exact ⟨_, hK, fun w => by simp [hg, binOp, Op.intArith, Op.intBits, bits]⟩)
        | (obtain ⟨h0, r, rfl, hK⟩ := hk.ex
           exact ⟨_, hK, fun w => by simp [hg, binOp, Op.intDiv, h0]⟩)
        | (by_cases hp : a = b
           · subst hp
             first
             | exact ⟨_, hk.yes rfl, fun w => by simp [hg, binOp, Op.intCmp]⟩
             | exact ⟨_, hk.no (by simp), fun w => by simp [hg, binOp, Op.intCmp]⟩
           · first
             | exact ⟨_, hk.no hp, fun w => by simp [hg, binOp, Op.intCmp, hp]⟩
             | exact ⟨_, hk.yes hp, fun w => by simp [hg, binOp, Op.intCmp, hp]⟩)
        | (by_cases hp : a < b
           · exact ⟨_, hk.yes hp, fun w => by simp [hg, binOp, Op.intCmp, hp]⟩
           · exact ⟨_, hk.no hp, fun w => by simp [hg, binOp, Op.intCmp, hp]⟩)
        | (by_cases hp : a ≤ b
           · exact ⟨_, hk.yes hp, fun w => by simp [hg, binOp, Op.intCmp, hp]⟩
           · exact ⟨_, hk.no hp, fun w => by simp [hg, binOp, Op.intCmp, hp]⟩)
        | (by_cases hp : a > b
           · exact ⟨_, hk.yes hp, fun w => by simp [hg, binOp, Op.intCmp, hp]⟩
           · exact ⟨_, hk.no hp, fun w => by simp [hg, binOp, Op.intCmp, hp]⟩)
        | (by_cases hp : a ≥ b
           · exact ⟨_, hk.yes hp, fun w => by simp [hg, binOp, Op.intCmp, hp]⟩
           · exact ⟨_, hk.no hp, fun w => by simp [hg, binOp, Op.intCmp, hp]⟩)
  · rename_i a b
    have hg : ∀ w, (eqGuard op t ox oy (.string a) (.string b)).run P w = .ok () w := fun w => by
      unfold eqGuard; cases op <;> simp
    cases op <;> simp only [] at hk
    case eql =>
      by_cases hp : a.toList = b.toList
      · exact ⟨_, hk.yes hp, fun w => by simp [hg, binOp, Op.stringOp, hp]⟩
      · exact ⟨_, hk.no hp, fun w => by simp [hg, binOp, Op.stringOp, hp]⟩
    case neq =>
      by_cases hp : a.toList = b.toList
      · exact ⟨_, hk.no (by simpa using hp), fun w => by simp [hg, binOp, Op.stringOp, hp]⟩
      · exact ⟨_, hk.yes hp, fun w => by simp [hg, binOp, Op.stringOp, hp]⟩
    all_goals exact hk.elim
  · exact hk.elim

end Go.Sl
end

section
namespace Go.Sl
open Go

theorem yv {P : Program} {ρ : Env} {o : Oper} {h : Heap} {K : Value → Prop} {s : Sem Value} {v : Value} (hK : K v)
    (he : execOp (ev ρ) o = (do pure (.value (← s)) : Sem Next)) (hs : ∀ w : World, Ext h w.heap → s.run P w = .ok v w) : Y P ρ o h K :=
  ⟨v, hK, fun w hw => by rw [he]; simp [hs w hw]⟩

theorem loadVar_one {P : Program} {t : Nat} {i : TI} (ht : TIok P t i) (ha : aggd i.d = false) {w : World} {b o : Nat} {v : Value} (hc : cellAt w.heap b o = some v) :
    (loadVar t ⟨b, o, none⟩).run P w = .ok v w := by
  have hcell := cellAt_world w b o
  rw [hc] at hcell
  simp [loadVar, ht.agg, ha, hcell]

theorem loadVar_agg {P : Program} {t : Nat} {i : TI} (ht : TIok P t i) (ha : aggd i.d = true) {w : World} {b o : Nat} {vs : List Value} (hn : vs.length = i.size)
    (hc : rangeAt w.heap b o vs) : (loadVar t ⟨b, o, none⟩).run P w = .ok (.agg vs.toArray) w := by
  have hl := run_loadCells_list (P := P) w ⟨b, o, none⟩ vs (fun j v hj => by rw [addr_add, cellAt_world]; exact hc j v hj)
  simp [loadVar, ht.agg, ha, ht.size, ← hn, hl]

theorem bound_run {P : Program} {v : Value} {i most : Nat} {c : BoundsCode} (h : bnd (some v) 0 i most) (w : World) : (Instr.sliceBound v most c).run P w = .ok i w := by
  unfold bnd at h
  cases v <;> simp at h
  obtain ⟨rfl, hm⟩ := h
  simp [Instr.sliceBound, asIntOf, hm]

theorem bnd_some {v : Value} {d i m : Nat} (h : bnd (some v) d i m) : bnd (some v) 0 i m := by
  unfold bnd at *; cases v <;> exact h

theorem bounds_run {P : Program} {lo hi mx : Option Value} {n c l h m : Nat} {b : Bool} (hm : bnd mx c m c) (hh : bnd hi n h m) (hl : bnd lo 0 l h) (hx : mx ≠ none → hi ≠ none) (w : World) :
    (Instr.sliceBounds b n c lo hi mx).run P w = .ok (l, h, m) w := by
  unfold Instr.sliceBounds
  cases mx with
  | none =>
    have hm' : m = c := hm
    subst hm'
    cases hi with
    | none =>
      have hh' : h = n := hh
      subst hh'
      cases lo with
      | none => have hl' : l = 0 := hl; subst hl'; simp
      | some v => simp [bound_run hl]
    | some u =>
      cases lo with
      | none => have hl' : l = 0 := hl; subst hl'; simp [bound_run (bnd_some hh)]
      | some v => simp [bound_run hl, bound_run (bnd_some hh)]
  | some x =>
    cases hi with
    | none => exact absurd rfl (hx (by simp))
    | some u =>
      cases lo with
      | none => have hl' : l = 0 := hl; subst hl'; simp [bound_run (bnd_some hh), bound_run (bnd_some hm)]
      | some v => simp [bound_run hl, bound_run (bnd_some hh), bound_run (bnd_some hm)]

theorem findNow_mget {k0 kk : IntKind} (n : Int) : ∀ (es : List MapEntry) (i : Nat), keyed kk es →
    ∃ r, Instr.findNow (.int k0) (.int kk n) es i = some r ∧ (r.map (·.2)) = mget es n
  | [], _, _ => ⟨none, rfl, rfl⟩
  | e :: es, i, hk => by
    obtain ⟨m, hm⟩ := hk e (by simp)
    obtain ⟨r, h1, h2⟩ := findNow_mget (k0 := k0) n es (i + 1) (fun x hx => hk x (by simp [hx]))
    by_cases hnm : n = m
    · subst hnm
      exact ⟨some (i, e.val), by simp [Instr.findNow, Instr.sameNow, hm], by simp [mget, hm]⟩
    · have hb : (n == m) = false := by simpa using hnm
      exact ⟨r, by simp [Instr.findNow, Instr.sameNow, hm, hb, h1], by simp [mget, hm, hnm, h2]⟩

theorem checkKey_int {P : Program} {kt : Nat} {kk : IntKind} (hk : P.underlying kt = some (.int kk)) (e : Bool) (n : Nat) (k : Value) (w : World) :
    (Instr.checkKey e (n + 1) kt k).run P w = .ok () w := by
  simp [Instr.checkKey, run_underlying hk]

theorem lookup_run {P : Program} {t kt et : Nat} {k0 : IntKind} {i : TI} (hu : P.underlying t = some (.map kt et)) (hk : P.underlying kt = some (.int k0)) (he : TIok P et i)
    {h : Heap} {m k : Value} {K : Value → Bool → Prop} (hl : LOK h m k (mkv i.d i.zero) K) :
    ∃ v b, K v b ∧ ∀ (w : World) (ok : Bool), Ext h w.heap → (Instr.lookup t m k ok).run P w = .ok (bif ok then .tuple #[v, .bool b] else v) w := by
  obtain ⟨kk, n, hkn, hl2⟩ := hl.ex
  subst hkn
  rcases hl2 with ⟨hm, hK⟩ | ⟨r, es, clock, hm, hr, hke, hl3⟩
  · subst hm
    refine ⟨_, _, hK, fun w ok _ => ?_⟩
    have hc : (Instr.checkKey true 10000 kt (.int kk n)).run P w = .ok () w := checkKey_int hk true 9999 _ w
    cases ok <;> simp [Instr.lookup, run_underlying hu, hc, Instr.findKey, run_underlying hk, Instr.findNow, he.zeroV]
  · subst hm
    obtain ⟨q, h1, h2⟩ := findNow_mget (k0 := k0) n es.toList 0 hke
    have hc : ∀ w, (Instr.checkKey es.isEmpty 10000 kt (.int kk n)).run P w = .ok () w := fun w => checkKey_int hk _ 9999 _ w
    have hg : ∀ w : World, Ext h w.heap → (getObj r).run P w = .ok (.map es clock) w := fun w hw => by
      have := hw.get hr
      simp [getObj, Sem.run, this]
    rcases hl3 with ⟨v, hv, hK⟩ | ⟨hv, hK⟩
    · rw [hv] at h2
      cases q with
      | none => cases h2
      | some p =>
        obtain ⟨j, u⟩ := p
        simp at h2
        subst h2
        refine ⟨_, _, hK, fun w ok hw => ?_⟩
        cases ok <;> simp [Instr.lookup, run_underlying hu, hg w hw, hc, Instr.findKey, run_underlying hk, h1]
    · rw [hv] at h2
      cases q with
      | some p => cases h2
      | none =>
        refine ⟨_, _, hK, fun w ok hw => ?_⟩
        cases ok <;> simp [Instr.lookup, run_underlying hu, hg w hw, hc, Instr.findKey, run_underlying hk, h1, he.zeroV]

theorem foldl_set (off : Nat) : ∀ (vs : List Value) (k : Nat) (cells : List Value), off + k + vs.length ≤ cells.length →
    (vs.zipIdx k).foldl (fun (cs : Array Value) (p : Value × Nat) => cs.setIfInBounds (off + p.2) p.1) cells.toArray = (cells.take (off + k) ++ vs ++ cells.drop (off + k + vs.length)).toArray
  | [], k, cells, _ => by simp
  | v :: vs, k, cells, h => by
    simp only [List.zipIdx_cons, List.foldl_cons, List.length_cons] at h ⊢
    have ih := foldl_set off vs (k + 1) (cells.set (off + k) v) (by simp; omega)
    have e1 : cells.toArray.setIfInBounds (off + k) v = (cells.set (off + k) v).toArray := by simp
    rw [e1, ih]
    congr 1
    have e := list_seg_step cells (off + k) v vs (by omega)
    simpa [Nat.add_assoc] using e

theorem fill_run (place : Nat → Option (Nat × Nat)) : ∀ (ps : List (Nat × Value)) (qs : List ((Nat × Nat) × Value)) (cells : List Value) (l : List Value),
    (ps.map fun p => (place p.1, p.2)) = qs.map (fun q => (some q.1, q.2)) → fillW cells qs = some l → Instr.fill place cells.toArray ps = some l.toArray
  | [], [], cells, l, _, h => by simp [fillW] at h; subst h; rfl
  | [], _ :: _, _, _, he, _ => by simp at he
  | _ :: _, [], _, _, he, _ => by simp at he
  | (i, v) :: ps, ((off, size), u) :: qs, cells, l, he, h => by
    simp only [List.map_cons, List.cons.injEq, Prod.mk.injEq] at he
    obtain ⟨⟨hp, rfl⟩, he⟩ := he
    simp only [fillW] at h
    split at h
    · rename_i hc
      obtain ⟨h1, h2⟩ := hc
      have ih := fill_run place ps qs _ l he h
      simp only [Instr.fill, hp]
      rw [if_neg (by simp [h1]; omega)]
      rw [← ih]
      congr 1
      have e := foldl_set off v.cells.toList 0 cells (by simp [h1]; omega)
      simp only [Nat.add_zero, Array.length_toList, h1] at e
      rw [← e, ← Array.foldl_toList]
      congr 1
      simp
    · cases h

theorem mapO_spec {α β : Type} {f : α → Option β} : ∀ {l : List α} {m : List β}, mapO f l = some m → l.map f = m.map some
  | [], m, h => by simp [mapO] at h; subst h; rfl
  | x :: r, m, h => by
    simp only [mapO] at h
    cases hx : f x with
    | none => simp [hx] at h
    | some y =>
      cases hr : mapO f r with
      | none => simp [hx, hr] at h
      | some l =>
        simp only [hx, hr, Option.some.injEq] at h
        subst h
        simp [hx, mapO_spec hr]

theorem sizeOfT_run {P : Program} {T : Tab} (hT : Tabok P T) {t n : Nat} (h : sizeOfT T t = some n) (w : World) : (sizeOf t).run P w = .ok n w := by
  unfold sizeOfT at h
  cases hl : lk T t with
  | none => simp [hl] at h
  | some i =>
    simp only [hl, Option.map_some, Option.some.injEq] at h
    subst h
    exact (tab hT hl).size w

theorem places_run {P : Program} {T : Tab} (hT : Tabok P T) : ∀ (gs : List Field) (pl : List (Nat × Nat)) (w : World), placesS T (gs.map fun f => (f.offset, f.type)) = some pl →
    (gs.mapM (m := Sem) fun f => do pure (f.offset, ← sizeOf f.type)).run P w = .ok pl w
  | [], pl, w, h => by simp [placesS, mapO] at h; subst h; simp
  | f :: gs, pl, w, h => by
    simp only [placesS, List.map_cons, mapO] at h
    cases hs : sizeOfT T f.type with
    | none => simp [hs] at h
    | some n =>
      cases hr : mapO (fun f : Nat × Nat => (sizeOfT T f.2).map fun s => (f.1, s)) (gs.map fun f => (f.offset, f.type)) with
      | none => simp [hs, hr] at h
      | some l =>
        simp only [hs, hr, Option.map_some, Option.some.injEq] at h
        subst h
        have ih := places_run hT gs l w hr
        rw [List.mapM_cons]
        simp only [Sem.run_bind, sizeOfT_run hT hs, Result.andThen_ok, Sem.run_pure, ih]

theorem evp_map (ρ : Env) (l : List ((Nat × Nat) × Operand)) : evp ρ l = l.map fun p => (p.1, ev ρ p.2) := by
  induction l with
  | nil => rfl
  | cons x r ih => obtain ⟨p, y⟩ := x; simp [evp, ih]

theorem mkv_cells {i : TI} (h : aggd i.d = true) : (mkv i.d i.zero).cells = i.zero.toArray := by simp [mkv, h, Value.cells]

theorem build_run {P : Program} {T : Tab} (hT : Tabok P T) {t : Nat} {i : TI} (ht : lk T t = some i) {ρ : Env} {ps : Array (Nat × Operand)} {s : SOp}
    (hc : compOp T (.build t ps) = some s) {h : Heap} {K : Value → Prop} (hr : s.rd P ρ h K) :
    ∃ v, K v ∧ ∀ w : World, (Instr.build t (ps.map fun p => (p.1, ev ρ p.2))).run P w = .ok v w := by
  have hi := tab hT ht
  simp only [compOp, ht] at hc
  cases hd : i.d with
  | struct fs =>
    have ha : aggd i.d = true := by rw [hd]; rfl
    simp only [hd] at hc
    cases hpl : placesS T fs with
    | none => simp [hpl] at hc
    | some pl =>
      simp only [hpl] at hc
      cases hq : mapO (partsS pl) ps.toList with
      | none => simp [hq] at hc
      | some l =>
        simp only [hq, Option.map_some, Option.some.injEq] at hc
        subst hc
        obtain ⟨cs, hf, hK⟩ := hr.ex
        refine ⟨_, hK, fun w => ?_⟩
        obtain ⟨gs, hu, hfs⟩ := hi.struct hd
        subst hfs
        have hp := places_run hT gs.toList pl w hpl
        have hm : (gs.mapM (m := Sem) fun f => do pure (f.offset, ← sizeOf f.type)).run P w = .ok pl.toArray w := by
          have : gs = gs.toList.toArray := by simp
          rw [this, List.mapM_toArray]
          simp only [Sem.run_map, hp, Result.andThen_ok]
        have hspec := mapO_spec hq
        have hfill := fill_run (pl.toArray[·]?) ((ps.map fun p => (p.1, ev ρ p.2)).toList) (evp ρ l) i.zero cs (by
          rw [evp_map]
          simp only [Array.toList_map, List.map_map]
          have : l.map ((fun q : (Nat × Nat) × Value => (some q.1, q.2)) ∘ fun p => (p.1, ev ρ p.2)) = (l.map some).map (fun o => (o.map (·.1), (o.map fun p => ev ρ p.2).getD undef)) := by
            simp [List.map_map, Function.comp_def]
          rw [this, ← hspec, List.map_map]
          apply List.map_congr_left
          intro p hp
          have hx : partsS pl p ≠ none := by
            have hin : partsS pl p ∈ ps.toList.map (partsS pl) := List.mem_map_of_mem hp
            rw [hspec] at hin
            obtain ⟨y, _, hy⟩ := List.mem_map.1 hin
            rw [← hy]; simp
          simp only [Function.comp_def, partsS, List.getElem?_toArray] at hx ⊢
          cases hpp : pl[p.1]? with
          | none => simp [hpp] at hx
          | some q => simp) hf
        simp only [Instr.build, Sem.run_bind, hi.zeroV, Result.andThen_ok, run_underlying hu, hm, mkv_cells ha, hfill]
        rfl
  | arr n e =>
    have ha : aggd i.d = true := by rw [hd]; rfl
    simp only [hd] at hc
    cases hs : sizeOfT T e with
    | none => simp [hs] at hc
    | some sz =>
      simp only [hs, Option.map_some, Option.some.injEq] at hc
      subst hc
      obtain ⟨cs, hf, hK⟩ := hr.ex
      refine ⟨_, hK, fun w => ?_⟩
      have hfill := fill_run (fun i => some (i * sz, sz)) ((ps.map fun p => (p.1, ev ρ p.2)).toList) (evp ρ (ps.toList.map fun p => ((p.1 * sz, sz), p.2))) i.zero cs (by
        rw [evp_map]; simp [List.map_map, Function.comp_def]) hf
      simp only [Instr.build, Sem.run_bind, hi.zeroV, Result.andThen_ok, run_underlying (hi.arr hd), sizeOfT_run hT hs, mkv_cells ha, hfill]
      rfl
  | _ => simp [hd] at hc

end Go.Sl
end

section
namespace Go.Sl
open Go

theorem slc_run {P : Program} {e n c esz : Nat} {a : Option Addr} {lo hi mx : Option Value} {K : Value → Prop} {isS : Bool} (hr : SLC a n c esz lo hi mx K) (hs : ∀ w : World, (sizeOf e).run P w = .ok esz w) (hx : mx ≠ none → hi ≠ none) :
    ∃ v, K v ∧ ∀ w : World, (do
      let (l, h, m) ← Instr.sliceBounds isS n c lo hi mx
      let size ← sizeOf e
      pure (Value.slice (if m = l then a else a.map (·.add (l * size))) (h - l) (m - l)) : Sem Value).run P w = .ok v w := by
  obtain ⟨l, h, m, hm, hh, hl, hK⟩ := hr.ex
  refine ⟨_, hK (if m = l then a else a.map (·.add (l * esz))) (fun e => by simp [e]) (fun e => by simp [e]), fun w => ?_⟩
  simp only [Sem.run_bind, bounds_run hm hh hl hx, Result.andThen_ok, hs, Sem.run_pure]

theorem part_run {P : Program} {t : Nat} {i : TI} (ht : TIok P t i) {cs : Array Value} {off : Nat} {K : Value → Prop}
    (h : bif aggd i.d then K (.agg (cs.extract off (off + i.size))) else GET cs off K) : ∃ v, K v ∧ ∀ w : World, (part t cs off).run P w = .ok v w := by
  cases ha : aggd i.d with
  | true =>
    rw [ha] at h
    exact ⟨_, h, fun w => by simp [part, ht.agg, ha, ht.size]⟩
  | false =>
    rw [ha] at h
    obtain ⟨v, hv, hK⟩ := GET.ex h
    exact ⟨_, hK, fun w => by simp [part, ht.agg, ha, hv]⟩

theorem rd_builtin {P : Program} {T : Tab} (hT : Tabok P T) {b : Builtin} {args : List Operand} {tys : List Nat} {s : SOp} (hc : compBuiltin T b args tys = some s) {ρ : Env} {h : Heap} {K : Value → Prop}
    (hr : s.rd P ρ h K) (ty : TypeId) (cs : Array Bool) : ∃ v, K v ∧ ∀ w : World, Ext h w.heap → (builtin b tys.toArray ty cs (args.toArray.map (ev ρ))).run P w = .ok (.value v) w := by
  unfold compBuiltin at hc
  split at hc
  · rename_i x t
    cases hd : dof T t with
    | none => simp [hd] at hc
    | some d =>
      obtain ⟨i, hl, hid⟩ := dof_some hd
      have hi := tab hT hl
      simp only [hd] at hc
      cases d with
      | slice e =>
        simp only [Option.some.injEq] at hc; subst hc
        simp only [SOp.rd, PICK, NILC, EQB, EQP, EQN, NOT, NEG, CONV, SLCV, SLSV, SLAV, FADDR, FLD, IADDR, IADDRA, IDXA, IDXS, LOOK, EXT, LEN, LENS, LENMV, CAP, MX2, MN2, BUILD] at hr
        split at hr
        · rename_i a n c hx
          exact ⟨_, hr, fun w _ => by simp [builtin, Builtin.len_, hx, run_underlying (hi.slice hid), goInt]⟩
        · exact hr.elim
      | str =>
        simp only [Option.some.injEq] at hc; subst hc
        simp only [SOp.rd, PICK, NILC, EQB, EQP, EQN, NOT, NEG, CONV, SLCV, SLSV, SLAV, FADDR, FLD, IADDR, IADDRA, IDXA, IDXS, LOOK, EXT, LEN, LENS, LENMV, CAP, MX2, MN2, BUILD] at hr
        split at hr
        · rename_i a hx
          exact ⟨_, hr, fun w _ => by simp [builtin, Builtin.len_, hx, run_underlying (hi.str hid), goInt]⟩
        · exact hr.elim
      | map k e =>
        simp only [Option.some.injEq] at hc; subst hc
        simp only [SOp.rd, PICK, NILC, EQB, EQP, EQN, NOT, NEG, CONV, SLCV, SLSV, SLAV, FADDR, FLD, IADDR, IADDRA, IDXA, IDXS, LOOK, EXT, LEN, LENS, LENMV, CAP, MX2, MN2, BUILD] at hr
        split at hr
        · rename_i hx
          exact ⟨_, hr, fun w _ => by simp [builtin, Builtin.len_, hx, run_underlying (hi.map hid), goInt]⟩
        · rename_i r hx
          obtain ⟨es, clock, hg, hK⟩ := hr.ex
          refine ⟨_, hK, fun w hw => ?_⟩
          have hg' : (getObj r).run P w = .ok (.map es clock) w := by
            have := hw.get hg
            simp [getObj, Sem.run, this]
          simp [builtin, Builtin.len_, hx, run_underlying (hi.map hid), goInt, hg']
        · exact hr.elim
      | arr n e =>
        simp only [Option.some.injEq] at hc; subst hc
        exact ⟨_, hr, fun w _ => by simp [builtin, Builtin.len_, run_underlying (hi.arr hid), goInt]⟩
      | _ => simp at hc
  · rename_i x t
    cases hd : dof T t with
    | none => simp [hd] at hc
    | some d =>
      obtain ⟨i, hl, hid⟩ := dof_some hd
      have hi := tab hT hl
      simp only [hd] at hc
      cases d with
      | slice e =>
        simp only [Option.some.injEq] at hc; subst hc
        simp only [SOp.rd, PICK, NILC, EQB, EQP, EQN, NOT, NEG, CONV, SLCV, SLSV, SLAV, FADDR, FLD, IADDR, IADDRA, IDXA, IDXS, LOOK, EXT, LEN, LENS, LENMV, CAP, MX2, MN2, BUILD] at hr
        split at hr
        · rename_i a n c hx
          exact ⟨_, hr, fun w _ => by simp [builtin, Builtin.cap_, hx, run_underlying (hi.slice hid), goInt]⟩
        · exact hr.elim
      | _ => simp at hc
  · exfalso
    split at hc
    · split at hc
      · simp only [Option.some.injEq] at hc; subst hc; exact hr
      · cases hc
    · cases hc
  · exfalso
    split at hc
    · split at hc
      · simp only [Option.some.injEq] at hc; subst hc; exact hr
      · cases hc
    · cases hc
  · exfalso
    split at hc
    · split at hc
      · simp only [Option.some.injEq] at hc; subst hc; exact hr
      · cases hc
    · cases hc
  · rename_i x y
    simp only [Option.some.injEq] at hc; subst hc
    simp only [SOp.rd, PICK, NILC, EQB, EQP, EQN, NOT, NEG, CONV, SLCV, SLSV, SLAV, FADDR, FLD, IADDR, IADDRA, IDXA, IDXS, LOOK, EXT, LEN, LENS, LENMV, CAP, MX2, MN2, BUILD] at hr
    split at hr
    · rename_i k a k' b hx hy
      exact ⟨_, hr, fun w _ => by simp [builtin, Builtin.max_, Builtin.max2, hx, hy]⟩
    · exact hr.elim
  · rename_i x y
    simp only [Option.some.injEq] at hc; subst hc
    simp only [SOp.rd, PICK, NILC, EQB, EQP, EQN, NOT, NEG, CONV, SLCV, SLSV, SLAV, FADDR, FLD, IADDR, IADDRA, IDXA, IDXS, LOOK, EXT, LEN, LENS, LENMV, CAP, MX2, MN2, BUILD] at hr
    split at hr
    · rename_i k a k' b hx hy
      exact ⟨_, hr, fun w _ => by simp [builtin, Builtin.min_, Builtin.min2, hx, hy]⟩
    · exact hr.elim
  · cases hc

theorem evl_arr (ρ : Env) (a : Array Operand) : (evl ρ a.toList).toArray = a.map (ev ρ) := by
  rw [evl_map, ← Array.toList_map]

theorem equalIn_run {P : Program} {t : Nat} {x y : Value} {r : Bool} {w : World} (h : (Op.equalIn (9999 + 1) t x y).run P w = .ok r w) : (Op.equal t x y).run P w = .ok r w := h

/-- Equalities that go by the type: bools, pointers against nil, slices against nil. -/
def eqNow (d : TypeDesc) (x y : Value) : Option Bool :=
  match d, x, y with
  | .bool, .bool a, .bool b => some (a == b)
  | .pointer _, .pointer none, .pointer b => some b.isNone
  | .pointer _, .pointer (some _), .pointer none => some false
  | .slice _, .slice none _ _, .slice b _ _ => some b.isNone
  | .slice _, .slice (some _) _ _, .slice none _ _ => some false
  | _, _, _ => none

theorem eqNow_run {P : Program} {t : Nat} {d : TypeDesc} (hu : P.underlying t = some d) {x y : Value} {r : Bool} (h : eqNow d x y = some r) (w : World) (op : BinOp) (ox oy : Operand) :
    (Op.equal t x y).run P w = .ok r w ∧ (eqGuard op t ox oy x y).run P w = .ok () w ∧ binOp .eql t x y = (do pure (.bool (← Op.equal t x y)) : Sem Value) ∧ binOp .neq t x y = (do pure (.bool (!(← Op.equal t x y))) : Sem Value) := by
  unfold eqNow at h
  split at h <;> simp only [Option.some.injEq, reduceCtorEq] at h <;> subst h
  all_goals
    refine ⟨equalIn_run ?_, ?_, rfl, rfl⟩
    · rw [Op.equalIn]; simp [run_underlying hu]
    · unfold eqGuard; cases op <;> simp

theorem eq_y {P : Program} {ρ : Env} {t ty : Nat} {neg : Bool} {x y : Operand} {dst : Option Nat} {type : Nat} {pos : String} {after : Array Edge} {grd : Option (Nat × Bool)} {h : Heap} {K : Value → Prop} {d : TypeDesc} {u v : Value} {r : Bool}
    (hx : ev ρ x = u) (hy : ev ρ y = v) (hu : P.underlying t = some d) (hn : eqNow d u v = some r) (hK : K (.bool (bif neg then !r else r))) :
    Y P ρ ⟨dst, .binOp (bif neg then .neq else .eql) t x y ty, type, pos, after, grd⟩ h K := by
  refine yv hK rfl (fun w _ => ?_)
  rw [hx, hy]
  cases neg with
  | true =>
    obtain ⟨h1, h2, _, h4⟩ := eqNow_run hu hn w .neq x y
    simp only [cond_true, Sem.run_bind, h2, Result.andThen_ok, h4, h1, Sem.run_pure]
  | false =>
    obtain ⟨h1, h2, h3, _⟩ := eqNow_run hu hn w .eql x y
    simp only [cond_false, Sem.run_bind, h2, Result.andThen_ok, h3, h1, Sem.run_pure]

set_option maxHeartbeats 1000000 in
theorem rd_bin {P : Program} {T : Tab} (hT : Tabok P T) {op : BinOp} {t ty : Nat} {x y : Operand} {dst : Option Nat} {type : Nat} {pos : String} {after : Array Edge} {grd : Option (Nat × Bool)} {s : SOp}
    (hc : compOp T (.binOp op t x y ty) = some s) {ρ : Env} {h : Heap} {K : Value → Prop} (hr : s.rd P ρ h K) : Y P ρ ⟨dst, .binOp op t x y ty, type, pos, after, grd⟩ h K := by
  simp only [compOp] at hc
  split at hc
  · simp only [Option.some.injEq] at hc; subst hc
    obtain ⟨v, hK, hv⟩ := binW_sound (P := P) (t := t) (ox := x) (oy := y) hr
    exact yv hK rfl (fun w _ => hv w)
  · simp only [Option.some.injEq] at hc; subst hc
    obtain ⟨v, hK, hv⟩ := binW_sound (P := P) (t := t) (ox := x) (oy := y) hr
    exact yv hK rfl (fun w _ => hv w)
  · rename_i hd
    obtain ⟨i, hl, hid⟩ := dof_some hd
    have hi := (tab hT hl).bool hid
    split at hc
    · simp only [Option.some.injEq] at hc; subst hc
      simp only [SOp.rd, PICK, NILC, EQB, EQP, EQN, NOT, NEG, CONV, SLCV, SLSV, SLAV, FADDR, FLD, IADDR, IADDRA, IDXA, IDXS, LOOK, EXT, LEN, LENS, LENMV, CAP, MX2, MN2, BUILD] at hr
      split at hr
      · rename_i a b hx hy; exact eq_y (neg := false) hx hy hi rfl hr
      · exact hr.elim
    · simp only [Option.some.injEq] at hc; subst hc
      simp only [SOp.rd, PICK, NILC, EQB, EQP, EQN, NOT, NEG, CONV, SLCV, SLSV, SLAV, FADDR, FLD, IADDR, IADDRA, IDXA, IDXS, LOOK, EXT, LEN, LENS, LENMV, CAP, MX2, MN2, BUILD] at hr
      split at hr
      · rename_i a b hx hy; exact eq_y (neg := true) hx hy hi rfl hr
      · exact hr.elim
    · cases hc
  · rename_i hd
    obtain ⟨i, hl, hid⟩ := dof_some hd
    have hi := (tab hT hl).ptr hid
    split at hc
    · simp only [Option.some.injEq] at hc; subst hc
      simp only [SOp.rd, PICK, NILC, EQB, EQP, EQN, NOT, NEG, CONV, SLCV, SLSV, SLAV, FADDR, FLD, IADDR, IADDRA, IDXA, IDXS, LOOK, EXT, LEN, LENS, LENMV, CAP, MX2, MN2, BUILD] at hr
      split at hr
      · rename_i b hx hy; exact eq_y (neg := false) hx hy hi rfl hr
      · rename_i hx hy; exact eq_y (neg := false) hx hy hi rfl hr
      · exact hr.elim
    · simp only [Option.some.injEq] at hc; subst hc
      simp only [SOp.rd, PICK, NILC, EQB, EQP, EQN, NOT, NEG, CONV, SLCV, SLSV, SLAV, FADDR, FLD, IADDR, IADDRA, IDXA, IDXS, LOOK, EXT, LEN, LENS, LENMV, CAP, MX2, MN2, BUILD] at hr
      split at hr
      · rename_i b hx hy; exact eq_y (neg := true) hx hy hi rfl hr
      · rename_i hx hy; exact eq_y (neg := true) hx hy hi rfl hr
      · exact hr.elim
    · cases hc
  · rename_i hd
    obtain ⟨i, hl, hid⟩ := dof_some hd
    have hi := (tab hT hl).slice hid
    split at hc
    · simp only [Option.some.injEq] at hc; subst hc
      simp only [SOp.rd, PICK, NILC, EQB, EQP, EQN, NOT, NEG, CONV, SLCV, SLSV, SLAV, FADDR, FLD, IADDR, IADDRA, IDXA, IDXS, LOOK, EXT, LEN, LENS, LENMV, CAP, MX2, MN2, BUILD] at hr
      split at hr
      · rename_i hx hy; exact eq_y (neg := false) hx hy hi rfl hr
      · rename_i hx hy; exact eq_y (neg := false) hx hy hi rfl hr
      · exact hr.elim
    · simp only [Option.some.injEq] at hc; subst hc
      simp only [SOp.rd, PICK, NILC, EQB, EQP, EQN, NOT, NEG, CONV, SLCV, SLSV, SLAV, FADDR, FLD, IADDR, IADDRA, IDXA, IDXS, LOOK, EXT, LEN, LENS, LENMV, CAP, MX2, MN2, BUILD] at hr
      split at hr
      · rename_i hx hy; exact eq_y (neg := true) hx hy hi rfl hr
      · rename_i hx hy; exact eq_y (neg := true) hx hy hi rfl hr
      · exact hr.elim
    · cases hc
  · split at hc
    · simp only [Option.some.injEq] at hc; subst hc
      obtain ⟨xs, ys, hx, hy, hn, ⟨b, hb, he⟩, hg, h1, h2⟩ := hr.ex
      have hrun : ∀ w : World, ((do eqGuard .eql t x y (ev ρ x) (ev ρ y); binOp .eql t (ev ρ x) (ev ρ y)) : Sem Value).run P w = .ok (.bool b) w := fun w => by
        have he' := he w
        rw [hx, hy] at he' ⊢
        rw [hx, hy] at hg
        simp only [Sem.run_bind, hg, Result.andThen_ok, binOp, he', Sem.run_pure]
      by_cases hxy : xs = ys
      · have : b = true := hb.2 hxy
        subst this
        exact yv (h1 hxy) rfl (fun w _ => hrun w)
      · have : b = false := by cases b with | false => rfl | true => exact absurd (hb.1 rfl) hxy
        subst this
        exact yv (h2 hxy) rfl (fun w _ => hrun w)
    · simp only [Option.some.injEq] at hc; subst hc
      obtain ⟨xs, ys, hx, hy, hn, ⟨b, hb, he⟩, hg, h1, h2⟩ := hr.ex
      have hrun : ∀ w : World, ((do eqGuard .neq t x y (ev ρ x) (ev ρ y); binOp .neq t (ev ρ x) (ev ρ y)) : Sem Value).run P w = .ok (.bool (!b)) w := fun w => by
        have he' := he w
        rw [hx, hy] at he' ⊢
        rw [hx, hy] at hg
        simp only [Sem.run_bind, hg, Result.andThen_ok, binOp, he', Sem.run_pure]
      by_cases hxy : xs = ys
      · have : b = true := hb.2 hxy
        subst this
        exact yv (h1 hxy) rfl (fun w _ => hrun w)
      · have : b = false := by cases b with | false => rfl | true => exact absurd (hb.1 rfl) hxy
        subst this
        exact yv (h2 hxy) rfl (fun w _ => hrun w)
    · cases hc
  · cases hc

theorem fld {fs : List (Nat × Nat)} {gs : Array Field} (hg : fs = gs.toList.map fun f => (f.offset, f.type)) {f off ty : Nat} (h : fs[f]? = some (off, ty)) : ∃ g, gs[f]? = some g ∧ g.offset = off ∧ g.type = ty := by
  subst hg
  simp only [List.getElem?_map, Array.getElem?_toList] at h
  cases hf : gs[f]? with
  | none => simp [hf] at h
  | some g => simp [hf] at h; exact ⟨g, rfl, h.1, h.2⟩

set_option maxHeartbeats 1000000 in
/-- **The operations that leave the heap alone.** -/
theorem rd_sound {P : Program} {T : Tab} (hT : Tabok P T) {o : Oper} {s : SOp} (hc : compOp T o.op = some s) {ρ : Env} {h : Heap} {K : Value → Prop} (hr : s.rd P ρ h K) : Y P ρ o h K := by
  obtain ⟨dst, op, type, pos, after, grd⟩ := o
  dsimp only at hc
  cases op with
  | move x => simp only [compOp, Option.some.injEq] at hc; subst hc; exact ⟨_, hr, fun w _ => by simp [execOp]⟩
  | assign x => simp only [compOp, Option.some.injEq] at hc; subst hc; exact ⟨_, hr, fun w _ => by simp [execOp]⟩
  | pick c a b =>
    simp only [compOp, Option.some.injEq] at hc; subst hc
    simp only [SOp.rd, PICK, NILC, EQB, EQP, EQN, NOT, NEG, CONV, SLCV, SLSV, SLAV, FADDR, FLD, IADDR, IADDRA, IDXA, IDXS, LOOK, EXT, LEN, LENS, LENMV, CAP, MX2, MN2, BUILD] at hr
    split at hr
    · rename_i hx; exact ⟨_, hr, fun w _ => by simp [execOp, hx, asBool]⟩
    · rename_i hx; exact ⟨_, hr, fun w _ => by simp [execOp, hx, asBool]⟩
    · exact hr.elim
  | alloc t => simp only [compOp] at hc; cases hl : lk T t <;> simp [hl] at hc; subst hc; exact hr.elim
  | box t x => simp only [compOp, Option.some.injEq] at hc; subst hc; exact hr.elim
  | build t ps =>
    have hc' := hc
    simp only [compOp] at hc
    cases hl : lk T t with
    | none => simp [hl] at hc
    | some i =>
      obtain ⟨v, hK, hv⟩ := build_run hT hl hc' hr
      exact yv (s := Instr.build t (ps.map fun p => (p.1, ev ρ p.2))) hK rfl (fun w _ => hv w)
  | buildSlice t n ps =>
    simp only [compOp] at hc
    split at hc
    · split at hc
      · split at hc
        · simp only [Option.some.injEq] at hc; subst hc; exact hr.elim
        · cases hc
      · cases hc
    · cases hc
  | load t a =>
    simp only [compOp] at hc
    cases hl : lk T t with
    | none => simp [hl] at hc
    | some i =>
      have hi := tab hT hl
      simp only [hl, Option.map_some, Option.some.injEq] at hc
      cases ha : aggd i.d with
      | true =>
        rw [ha] at hc; simp only [cond_true] at hc; subst hc
        obtain ⟨b, o, vs, hp, hn, hv, hK⟩ := hr.ex
        exact yv (s := Instr.loadAt t (ev ρ a)) hK rfl (fun w hw => by
          simp only [Instr.loadAt, hp, Instr.sureAddr, Sem.run_bind, Sem.run_pure, Result.andThen_ok]
          exact loadVar_agg hi ha hn (fun j v hj => hw.cell (hv j v hj)))
      | false =>
        rw [ha] at hc; simp only [cond_false] at hc; subst hc
        obtain ⟨b, o, v, hp, hv, hK⟩ := hr.ex
        exact yv (s := Instr.loadAt t (ev ρ a)) hK rfl (fun w hw => by
          simp only [Instr.loadAt, hp, Instr.sureAddr, Sem.run_bind, Sem.run_pure, Result.andThen_ok]
          exact loadVar_one hi ha (hw.cell hv))
  | store t a x => simp only [compOp] at hc; cases hl : lk T t <;> simp [hl] at hc; subst hc; exact hr.elim
  | nilCheck x =>
    simp only [compOp, Option.some.injEq] at hc; subst hc
    simp only [SOp.rd, PICK, NILC, EQB, EQP, EQN, NOT, NEG, CONV, SLCV, SLSV, SLAV, FADDR, FLD, IADDR, IADDRA, IDXA, IDXS, LOOK, EXT, LEN, LENS, LENMV, CAP, MX2, MN2, BUILD] at hr
    split at hr
    · rename_i a hx; exact ⟨_, hr, fun w _ => by simp [execOp, hx]⟩
    · exact hr.elim
  | binOp op t x y ty => exact rd_bin hT hc hr
  | unOp op t x =>
    simp only [compOp] at hc
    split at hc
    · simp only [Option.some.injEq] at hc; subst hc
      simp only [SOp.rd, PICK, NILC, EQB, EQP, EQN, NOT, NEG, CONV, SLCV, SLSV, SLAV, FADDR, FLD, IADDR, IADDRA, IDXA, IDXS, LOOK, EXT, LEN, LENS, LENMV, CAP, MX2, MN2, BUILD] at hr
      split at hr
      · rename_i b hx; exact ⟨_, hr, fun w _ => by simp [execOp, hx, Op.unary]⟩
      · exact hr.elim
    · simp only [Option.some.injEq] at hc; subst hc
      simp only [SOp.rd, PICK, NILC, EQB, EQP, EQN, NOT, NEG, CONV, SLCV, SLSV, SLAV, FADDR, FLD, IADDR, IADDRA, IDXA, IDXS, LOOK, EXT, LEN, LENS, LENMV, CAP, MX2, MN2, BUILD] at hr
      split at hr
      · rename_i k n hx
        obtain ⟨r, rfl, hK⟩ := hr.ex
        exact ⟨_, hK, fun w _ => by simp [execOp, hx, Op.unary, Op.intArith]⟩
      · exact hr.elim
    · cases hc
  | convert src dst' x =>
    simp only [compOp] at hc
    split at hc
    · rename_i d0 k hd0 hd
      obtain ⟨i0, hl0, _⟩ := dof_some hd0
      obtain ⟨e0, hu0, _⟩ := (tab hT hl0).und
      obtain ⟨i, hl, hid⟩ := dof_some hd
      have hi := (tab hT hl).int hid
      simp only [Option.some.injEq] at hc; subst hc
      simp only [SOp.rd, PICK, NILC, EQB, EQP, EQN, NOT, NEG, CONV, SLCV, SLSV, SLAV, FADDR, FLD, IADDR, IADDRA, IDXA, IDXS, LOOK, EXT, LEN, LENS, LENMV, CAP, MX2, MN2, BUILD] at hr
      split at hr
      · rename_i j n hx
        obtain ⟨r, rfl, hK⟩ := hr.ex
        refine yv (s := convert src dst' (ev ρ x)) hK rfl (fun w _ => ?_)
        simp [convert, run_underlying hu0, run_underlying hi, hx, Conv.intToInt]
      · exact hr.elim
    · cases hc
  | sliceToArrayPointer d x => simp [compOp] at hc
  | makeInterface t x => simp [compOp] at hc
  | makeFunc fn first cap =>
    simp only [compOp, Option.some.injEq] at hc; subst hc
    simp only [SOp.rd, PICK, NILC, EQB, EQP, EQN, NOT, NEG, CONV, SLCV, SLSV, SLAV, FADDR, FLD, IADDR, IADDRA, IDXA, IDXS, LOOK, EXT, LEN, LENS, LENMV, CAP, MX2, MN2, BUILD] at hr
    exact ⟨_, hr, fun w _ => by simp [execOp, Instr.makeFunc, evl_arr]⟩
  | makeMap t r => cases r <;> simp [compOp] at hc; subst hc; exact hr.elim
  | makeChan t x => simp [compOp] at hc
  | makeSlice t l c =>
    simp only [compOp] at hc
    split at hc
    · split at hc
      · simp only [Option.some.injEq] at hc; subst hc; exact hr.elim
      · cases hc
    · cases hc
  | slice t x lo hi mx =>
    simp only [compOp] at hc
    split at hc
    · rename_i e hd
      obtain ⟨i, hl, hid⟩ := dof_some hd
      have hu := (tab hT hl).slice hid
      cases hb : (mx.isSome && hi.isNone) with
      | true => simp [hb] at hc
      | false =>
        simp only [hb, cond_false] at hc
        cases hs : sizeOfT T e with
        | none => simp [hs] at hc
        | some sz =>
          simp only [hs, Option.map_some, Option.some.injEq] at hc; subst hc
          simp only [SOp.rd, PICK, NILC, EQB, EQP, EQN, NOT, NEG, CONV, SLCV, SLSV, SLAV, FADDR, FLD, IADDR, IADDRA, IDXA, IDXS, LOOK, EXT, LEN, LENS, LENMV, CAP, MX2, MN2, BUILD] at hr
          split at hr
          · rename_i a n c hx
            obtain ⟨v, hK, hv⟩ := slc_run (P := P) (e := e) (isS := true) hr (fun w => sizeOfT_run hT hs w) (by cases mx <;> cases hi <;> simp at hb ⊢)
            refine yv (s := Instr.sliceAt t (ev ρ x) (lo.map (ev ρ)) (hi.map (ev ρ)) (mx.map (ev ρ))) hK rfl (fun w _ => ?_)
            have := hv w
            simp only [Instr.sliceAt, Sem.run_bind, run_underlying hu, Result.andThen_ok, hx, Instr.slice] at this ⊢
            exact this
          · exact hr.elim
    · rename_i hd
      obtain ⟨i, hl, hid⟩ := dof_some hd
      have hu := (tab hT hl).str hid
      split at hc
      · simp only [Option.some.injEq] at hc; subst hc
        simp only [SOp.rd, PICK, NILC, EQB, EQP, EQN, NOT, NEG, CONV, SLCV, SLSV, SLAV, FADDR, FLD, IADDR, IADDRA, IDXA, IDXS, LOOK, EXT, LEN, LENS, LENMV, CAP, MX2, MN2, BUILD] at hr
        split at hr
        · rename_i s hx
          obtain ⟨l, h', hh, hlo, hK⟩ := hr.ex
          have hb := fun w => bounds_run (P := P) (b := false) (mx := none) (c := s.size) (m := s.size) rfl hh hlo (by simp) w
          refine yv (s := Instr.sliceAt t (ev ρ x) (lo.map (ev ρ)) (hi.map (ev ρ)) none) hK rfl (fun w _ => ?_)
          simp only [Instr.sliceAt, Sem.run_bind, run_underlying hu, Result.andThen_ok, hx, Instr.slice]
          simp [hb]
        · exact hr.elim
      · cases hc
    · rename_i n e hd
      obtain ⟨i, hl, hid⟩ := dof_some hd
      have hu := (tab hT hl).arr hid
      split at hc
      · cases hs : sizeOfT T e with
        | none => simp [hs] at hc
        | some sz =>
          simp only [hs, Option.map_some, Option.some.injEq] at hc; subst hc
          simp only [SOp.rd, PICK, NILC, EQB, EQP, EQN, NOT, NEG, CONV, SLCV, SLSV, SLAV, FADDR, FLD, IADDR, IADDRA, IDXA, IDXS, LOOK, EXT, LEN, LENS, LENMV, CAP, MX2, MN2, BUILD] at hr
          split at hr
          · rename_i a hx
            obtain ⟨l, h', m, hm, hh, hlo, hK⟩ := hr.ex
            have hb := fun w => bounds_run (P := P) (b := false) hm hh hlo (by simp) w
            refine yv (s := Instr.sliceAt t (ev ρ x) (lo.map (ev ρ)) (hi.map (ev ρ)) none) (hK (some (if m = l then a else a.add (l * sz))) (fun e => by simp [e]) (fun e => by simp [e])) rfl (fun w _ => ?_)
            simp only [Instr.sliceAt, Sem.run_bind, run_underlying hu, Result.andThen_ok, hx, Instr.sureAddr, Sem.run_pure, hb, sizeOfT_run hT hs]
          · exact hr.elim
      · cases hc
    · cases hc
  | fieldAddr st x f =>
    simp only [compOp] at hc
    split at hc
    · rename_i fs hd
      obtain ⟨i, hl, hid⟩ := dof_some hd
      obtain ⟨gs, hu, hfs⟩ := (tab hT hl).struct hid
      split at hc
      · rename_i off ty hf
        obtain ⟨g, hg, rfl, rfl⟩ := fld hfs hf
        split at hc
        · rename_i n hs
          simp only [Option.some.injEq] at hc; subst hc
          simp only [SOp.rd, PICK, NILC, EQB, EQP, EQN, NOT, NEG, CONV, SLCV, SLSV, SLAV, FADDR, FLD, IADDR, IADDRA, IDXA, IDXS, LOOK, EXT, LEN, LENS, LENMV, CAP, MX2, MN2, BUILD] at hr
          split at hr
          · rename_i b o hx
            refine yv (s := Instr.fieldAt st (ev ρ x) f) hr rfl (fun w _ => ?_)
            simp [Instr.fieldAt, run_underlying hu, hg, hx, Instr.sureAddr, fieldPlace, sizeOfT_run hT hs, addr_add]
          · exact hr.elim
        · cases hc
      · cases hc
    · cases hc
  | field st x f =>
    simp only [compOp] at hc
    split at hc
    · rename_i fs hd
      obtain ⟨i, hl, hid⟩ := dof_some hd
      obtain ⟨gs, hu, hfs⟩ := (tab hT hl).struct hid
      split at hc
      · rename_i off ty hf
        obtain ⟨g, hg, rfl, rfl⟩ := fld hfs hf
        cases hlt : lk T g.type with
        | none => simp [hlt] at hc
        | some j =>
          simp only [hlt, Option.map_some, Option.some.injEq] at hc; subst hc
          simp only [SOp.rd, PICK, NILC, EQB, EQP, EQN, NOT, NEG, CONV, SLCV, SLSV, SLAV, FADDR, FLD, IADDR, IADDRA, IDXA, IDXS, LOOK, EXT, LEN, LENS, LENMV, CAP, MX2, MN2, BUILD] at hr
          split at hr
          · rename_i cs hx
            obtain ⟨v, hK, hv⟩ := part_run (tab hT hlt) hr
            refine yv (s := Instr.field st (ev ρ x) f) hK rfl (fun w _ => ?_)
            simp [Instr.field, run_underlying hu, hg, hx, asAgg, hv]
          · exact hr.elim
      · cases hc
    · cases hc
  | indexAddr t x ix =>
    simp only [compOp] at hc
    split at hc
    · rename_i e hd
      obtain ⟨i, hl, hid⟩ := dof_some hd
      have hu := (tab hT hl).slice hid
      cases hs : sizeOfT T e with
      | none => simp [hs] at hc
      | some sz =>
        simp only [hs, Option.map_some, Option.some.injEq] at hc; subst hc
        simp only [SOp.rd, PICK, NILC, EQB, EQP, EQN, NOT, NEG, CONV, SLCV, SLSV, SLAV, FADDR, FLD, IADDR, IADDRA, IDXA, IDXS, LOOK, EXT, LEN, LENS, LENMV, CAP, MX2, MN2, BUILD] at hr
        split at hr
        · rename_i b o n c k j hx hy
          obtain ⟨m, rfl, hm, hK⟩ := hr.ex
          refine yv (s := Instr.indexAt t (ev ρ x) (ev ρ ix)) hK rfl (fun w _ => ?_)
          simp [Instr.indexAt, run_underlying hu, hx, hy, asIntOf, hm, sizeOfT_run hT hs, addr_add]
        · exact hr.elim
    · rename_i n e hd
      obtain ⟨i, hl, hid⟩ := dof_some hd
      have hu := (tab hT hl).arr hid
      cases hs : sizeOfT T e with
      | none => simp [hs] at hc
      | some sz =>
        simp only [hs, Option.map_some, Option.some.injEq] at hc; subst hc
        simp only [SOp.rd, PICK, NILC, EQB, EQP, EQN, NOT, NEG, CONV, SLCV, SLSV, SLAV, FADDR, FLD, IADDR, IADDRA, IDXA, IDXS, LOOK, EXT, LEN, LENS, LENMV, CAP, MX2, MN2, BUILD] at hr
        split at hr
        · rename_i b o k j hx hy
          obtain ⟨m, rfl, hm, hK⟩ := hr.ex
          refine yv (s := Instr.indexAt t (ev ρ x) (ev ρ ix)) hK rfl (fun w _ => ?_)
          simp [Instr.indexAt, run_underlying hu, hx, hy, asIntOf, hm, sizeOfT_run hT hs, addr_add, Instr.sureAddr]
        · exact hr.elim
    · cases hc
  | index t x ix =>
    simp only [compOp] at hc
    split at hc
    · rename_i n e hd
      obtain ⟨i, hl, hid⟩ := dof_some hd
      have hu := (tab hT hl).arr hid
      cases hlt : lk T e with
      | none => simp [hlt] at hc
      | some j =>
        simp only [hlt, Option.map_some, Option.some.injEq] at hc; subst hc
        simp only [SOp.rd, PICK, NILC, EQB, EQP, EQN, NOT, NEG, CONV, SLCV, SLSV, SLAV, FADDR, FLD, IADDR, IADDRA, IDXA, IDXS, LOOK, EXT, LEN, LENS, LENMV, CAP, MX2, MN2, BUILD] at hr
        split at hr
        · rename_i cs k jj hx hy
          obtain ⟨m, rfl, hm, hK⟩ := hr.ex
          obtain ⟨v, hKv, hv⟩ := part_run (tab hT hlt) hK
          refine yv (s := Instr.index t (ev ρ x) (ev ρ ix)) hKv rfl (fun w _ => ?_)
          simp [Instr.index, run_underlying hu, hx, hy, asIntOf, hm, (tab hT hlt).size, hv]
        · exact hr.elim
    · rename_i hd
      obtain ⟨i, hl, hid⟩ := dof_some hd
      have hu := (tab hT hl).str hid
      simp only [Option.some.injEq] at hc; subst hc
      simp only [SOp.rd, PICK, NILC, EQB, EQP, EQN, NOT, NEG, CONV, SLCV, SLSV, SLAV, FADDR, FLD, IADDR, IADDRA, IDXA, IDXS, LOOK, EXT, LEN, LENS, LENMV, CAP, MX2, MN2, BUILD] at hr
      split at hr
      · rename_i s k j hx hy
        obtain ⟨m, b, rfl, hm, hK⟩ := hr.ex
        refine yv (s := Instr.index t (ev ρ x) (ev ρ ix)) hK rfl (fun w _ => ?_)
        simp [Instr.index, run_underlying hu, hx, hy, asIntOf, hm]
      · exact hr.elim
    · cases hc
  | lookup t m k ok =>
    simp only [compOp] at hc
    split at hc
    · rename_i kt et hd
      obtain ⟨i, hl, hid⟩ := dof_some hd
      have hu := (tab hT hl).map hid
      split at hc
      · rename_i kk j hdk hle
        obtain ⟨i', hl', hid'⟩ := dof_some hdk
        have hk := (tab hT hl').int hid'
        simp only [Option.some.injEq] at hc; subst hc
        simp only [SOp.rd, PICK, NILC, EQB, EQP, EQN, NOT, NEG, CONV, SLCV, SLSV, SLAV, FADDR, FLD, IADDR, IADDRA, IDXA, IDXS, LOOK, EXT, LEN, LENS, LENMV, CAP, MX2, MN2, BUILD] at hr
        obtain ⟨v, b, hK, hv⟩ := lookup_run hu hk (tab hT hle) hr
        exact yv (s := Instr.lookup t (ev ρ m) (ev ρ k) ok) hK rfl (fun w hw => hv w ok hw)
      · cases hc
    · cases hc
  | mapUpdate t m k x =>
    simp only [compOp] at hc
    split at hc
    · split at hc
      · simp only [Option.some.injEq] at hc; subst hc; exact hr.elim
      · cases hc
    · cases hc
  | extract x i =>
    simp only [compOp, Option.some.injEq] at hc; subst hc
    simp only [SOp.rd, PICK, NILC, EQB, EQP, EQN, NOT, NEG, CONV, SLCV, SLSV, SLAV, FADDR, FLD, IADDR, IADDRA, IDXA, IDXS, LOOK, EXT, LEN, LENS, LENMV, CAP, MX2, MN2, BUILD] at hr
    split at hr
    · rename_i vs hx
      obtain ⟨v, hv, hK⟩ := hr.ex
      exact yv (s := Instr.extract (ev ρ x) i) hK rfl (fun w _ => by simp [Instr.extract, hx, hv])
    · exact hr.elim
  | call c =>
    simp only [compOp] at hc
    split at hc
    · simp only [Option.some.injEq] at hc; subst hc; exact hr.elim
    · simp only [Option.some.injEq] at hc; subst hc; exact hr.elim
    · rename_i b hcal
      obtain ⟨v, hK, hv⟩ := rd_builtin hT hc hr type (c.args.map fun | .const _ => true | _ => false)
      refine ⟨v, hK, fun w hw => ?_⟩
      have := hv w hw
      simp only [Array.toArray_toList] at this
      simp only [execOp, resolve, hcal, Sem.run_bind, Sem.run_pure, Result.andThen_ok, invoke]
      exact this
    · cases hc
  | _ => simp [compOp] at hc

end Go.Sl
end
