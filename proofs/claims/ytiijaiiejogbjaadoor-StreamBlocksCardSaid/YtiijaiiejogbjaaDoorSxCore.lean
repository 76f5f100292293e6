/- The symbolic state of a call: values, memory that is known, and what a world is that fits it. -/
import Derived.Tactics
import Derived.Below
import Derived.Deep.Quiet
import Derived.StillTail
import Derived.Laws.NewBlocks
namespace Go.SX

/-- An offset in a block: a number, or a part of an element. -/
inductive Off where
  | lit (n : Nat)
  | el (base i sz j : Nat)
def Off.val : Off → Nat
  | .lit n => n
  | .el b i s j => b + i * s + j

structure Pt where
  key : Nat
  blk : Nat
  off : Off
def Pt.addr (p : Pt) : Addr := ⟨p.blk, p.off.val, none⟩
def Pt.value (p : Pt) : Value := .pointer (some p.addr)

/-- What one cell holds. -/
inductive SC where
  | int (k : IntKind) (n : Int)
  | bool (b : Bool)
  | str (s : List UInt8)
  | ptr (p : Pt)
  | nilp
  | sl (key blk base o sz len cap : Nat)
  | nilsl
  | fn (f : Fn) (first caps : List Pt)
  | nilfn
  | mp (key blk : Nat)
  | nilmp
  | ch (key blk : Nat)
  | raw (v : Value) (h : v.oneCell' = true)

def SC.val : SC → Value
  | .int k n => .int k n
  | .bool b => .bool b
  | .str s => .string ⟨⟨s⟩⟩
  | .ptr p => p.value
  | .nilp => .pointer none
  | .sl _ b base o sz l c => .slice (some ⟨b, base + o * sz, none⟩) l c
  | .nilsl => .slice none 0 0
  | .fn f a b => .func f (a.map Pt.value).toArray (b.map Pt.value).toArray
  | .nilfn => .nilFunc
  | .mp _ b => .map (some b)
  | .nilmp => .map none
  | .ch _ b => .chan (some b)
  | .raw v _ => v

theorem SC.oneCell (c : SC) : c.val.oneCell' = true := by
  cases c <;> first | rfl | (simp only [SC.val]; assumption)

/-- A value that is no tuple. -/
inductive BV where
  | one (c : SC)
  | agg (l : List SC)
  | seq (k : IntKind) (l : List Int)
def BV.val : BV → Value
  | .one c => c.val
  | .agg l => .agg (l.map SC.val).toArray
  | .seq k l => .agg (l.map (Value.int k)).toArray
def BV.cells : BV → List Value
  | .one c => [c.val]
  | .agg l => l.map SC.val
  | .seq k l => l.map (Value.int k)

theorem BV.val_cells (x : BV) : x.val.cells.toList = x.cells := by
  cases x with
  | one c =>
    cases c with
    | raw v h => cases v <;> first | rfl | (simp [Value.oneCell'] at h)
    | _ => rfl
  | agg l => simp [BV.val, BV.cells, Value.cells]
  | seq k l => simp [BV.val, BV.cells, Value.cells]

inductive TV where
  | b (x : BV)
  | tup (l : List BV)
def TV.val : TV → Value
  | .b x => x.val
  | .tup l => .tuple (l.map BV.val).toArray

/-- What a row of cells holds. -/
inductive CT where
  | cells (l : List SC)
  | ints (k : IntKind) (l : List Int)
  | rows (sz : Nat) (l : List (List SC))
def CT.vals : CT → List Value
  | .cells l => l.map SC.val
  | .ints k l => l.map (Value.int k)
  | .rows _ l => l.flatMap fun r => r.map SC.val

def CT.wf : CT → Prop
  | .rows sz l => ∀ r ∈ l, r.length = sz
  | _ => True

/-- What is known of a block: all its cells; some of its cells, which are only read; another thing. -/
inductive HB where
  | full (T : TypeId) (c : CT)
  | seg (base : Nat) (c : CT)
  | obj (o : Obj)
def HB.isRw : HB → Bool
  | .seg .. => false
  | _ => true

def HB.Is : HB → World → Nat → Prop
  | .full T c, w, b => ∃ lo hi, w.heap[b]? = some (.cells c.vals.toArray T (lo, hi)) ∧ (hi ≤ lo ∨ c.vals.length ≤ lo) ∧ c.wf
  | .seg base c, w, b => b < w.heap.size ∧ (∀ j v, c.vals[j]? = some v → w.cell? ⟨b, base + j, none⟩ = some v) ∧ c.wf
  | .obj o, w, b => w.heap[b]? = some o ∧ (∀ c T f, o ≠ .cells c T f)

theorem HB.Is.lt {hb : HB} {w : World} {b : Nat} (h : hb.Is w b) : b < w.heap.size := by
  cases hb with
  | full T c => obtain ⟨lo, hi, h, _⟩ := h; exact (Array.getElem?_eq_some_iff.1 h).1
  | seg base c => exact h.1
  | obj o => exact (Array.getElem?_eq_some_iff.1 h.1).1

theorem HB.Is.of_block {hb : HB} {w w' : World} {b : Nat} (h : hb.Is w b) (hs : w.heap.size ≤ w'.heap.size) (e : w'.heap[b]? = w.heap[b]?) : hb.Is w' b := by
  cases hb with
  | full T c => obtain ⟨lo, hi, h1, h2⟩ := h; exact ⟨lo, hi, e.trans h1, h2⟩
  | seg base c =>
    refine ⟨Nat.lt_of_lt_of_le h.1 hs, fun j v hv => ?_, h.2.2⟩
    rw [← h.2.1 j v hv]
    exact World.cell?_of_block (w := w) (w' := w') (a := ⟨b, base + j, none⟩) e
  | obj o => exact ⟨e.trans h.1, h.2⟩

abbrev Heap := List (Nat × Nat × HB)
def hget : Heap → Nat → Option (Nat × HB)
  | [], _ => none
  | (k, b, hb) :: r, t => match Nat.beq k t with | true => some (b, hb) | false => hget r t

abbrev Tm := List (Nat × TV)
def tget : Tm → Nat → Option TV
  | [], _ => none
  | (k, v) :: r, t => match Nat.beq k t with | true => some v | false => tget r t

structure Ctx where
  P : Program
  N : Nat
  w0 : World
  F : Nat → Prop

structure Frm (C : Ctx) (w : World) : Prop where
  os : w.os = C.w0.os
  tape : w.tape = C.w0.tape
  output : w.output = C.w0.output
  size : C.w0.heap.size ≤ w.heap.size
  block : ∀ b, b < C.w0.heap.size → ¬ C.F b → w.heap[b]? = C.w0.heap[b]?

structure Rep (C : Ctx) (H : Heap) (w : World) : Prop where
  is : ∀ k b hb, hget H k = some (b, hb) → hb.Is w b
  apart : ∀ k k' b b' hb hb', hget H k = some (b, hb) → hget H k' = some (b', hb') → k ≠ k' → hb.isRw = true → b ≠ b'
  own : ∀ k b hb, hget H k = some (b, hb) → hb.isRw = true → C.w0.heap.size ≤ b ∨ C.F b
  frm : Frm C w

theorem hget_cons (k b : Nat) (hb : HB) (H : Heap) (t : Nat) : hget ((k, b, hb) :: H) t = if k = t then some (b, hb) else hget H t := by
  simp only [hget]
  by_cases h : k = t
  · subst h; simp
  · have : Nat.beq k t = false := by
      cases hh : Nat.beq k t with
      | false => rfl
      | true => exact absurd (Nat.eq_of_beq_eq_true hh) h
    simp [this, h]

theorem tget_cons (k : Nat) (v : TV) (T : Tm) (t : Nat) : tget ((k, v) :: T) t = if k = t then some v else tget T t := by
  simp only [tget]
  by_cases h : k = t
  · subst h; simp
  · have : Nat.beq k t = false := by
      cases hh : Nat.beq k t with
      | false => rfl
      | true => exact absurd (Nat.eq_of_beq_eq_true hh) h
    simp [this, h]

/-- A change that no known block feels, and none of the frame. -/
theorem Rep.move {C : Ctx} {H : Heap} {w w' : World} (h : Rep C H w) (hos : w'.os = w.os) (ht : w'.tape = w.tape) (ho : w'.output = w.output)
    (hs : w.heap.size ≤ w'.heap.size) (hb : ∀ b, b < w.heap.size → w'.heap[b]? = w.heap[b]?) : Rep C H w' :=
  ⟨fun k b x hk => (h.is k b x hk).of_block hs (hb b (h.is k b x hk).lt), h.apart, h.own,
   ⟨hos.trans h.frm.os, ht.trans h.frm.tape, ho.trans h.frm.output, Nat.le_trans h.frm.size hs,
    fun b hlt hF => (hb b (Nat.lt_of_lt_of_le hlt h.frm.size)).trans (h.frm.block b hlt hF)⟩⟩

theorem Rep.drew {C : Ctx} {H : Heap} {w : World} (h : Rep C H w) (n : Nat) : Rep C H { w with drawn := n } :=
  h.move rfl rfl rfl (Nat.le_refl _) (fun _ _ => rfl)

/-- A new block. -/
theorem Rep.alloc {C : Ctx} {H : Heap} {w w' : World} (h : Rep C H w) (k : Nat) (hb : HB) (hw : hb.Is w' w.heap.size) (hos : w'.os = w.os) (ht : w'.tape = w.tape)
    (ho : w'.output = w.output) (hs : w.heap.size ≤ w'.heap.size) (hold : ∀ b, b < w.heap.size → w'.heap[b]? = w.heap[b]?) :
    Rep C ((k, w.heap.size, hb) :: H) w' := by
  have h' := h.move hos ht ho hs hold
  refine ⟨fun t b x ht => ?_, fun t t' b b' x x' ht ht' hne hrw => ?_, fun t b x ht hrw => ?_, h'.frm⟩
  · rw [hget_cons] at ht
    split at ht
    · cases ht; exact hw
    · exact h'.is t b x ht
  · rw [hget_cons] at ht ht'
    split at ht <;> split at ht'
    · omega
    · cases ht; have := (h.is _ _ _ ht').lt; omega
    · cases ht'; have := (h.is _ _ _ ht).lt; omega
    · exact h.apart t t' b b' x x' ht ht' hne hrw
  · rw [hget_cons] at ht
    split at ht
    · cases ht; exact .inl h.frm.size
    · exact h.own t b x ht hrw

/-- A known block that may be written is another one now. -/
theorem Rep.write {C : Ctx} {H : Heap} {w w' : World} {k b : Nat} {hb hb' : HB} (h : Rep C H w) (hk : hget H k = some (b, hb)) (hr : hb.isRw = true)
    (hw : hb'.Is w' b) (hos : w'.os = w.os) (ht : w'.tape = w.tape)
    (ho : w'.output = w.output) (hs : w.heap.size ≤ w'.heap.size) (hold : ∀ c, c < w.heap.size → c ≠ b → w'.heap[c]? = w.heap[c]?) :
    Rep C ((k, b, hb') :: H) w' := by
  refine ⟨fun t c x ht => ?_, fun t t' c c' x x' ht ht' hne hrw => ?_, fun t c x ht hrw => ?_, ?_⟩
  · rw [hget_cons] at ht
    split at ht
    · cases ht; exact hw
    · rename_i hne
      have h1 := h.is t c x ht
      exact h1.of_block hs (hold c h1.lt (h.apart k t b c hb x hk ht hne hr).symm)
  · rw [hget_cons] at ht ht'
    split at ht <;> split at ht'
    · omega
    · cases ht; rename_i e _; subst e; exact h.apart k t' b c' hb x' hk ht' hne hr
    · cases ht'; rename_i _ e; subst e; exact (h.apart k t b c hb x hk ht hne.symm hr).symm
    · exact h.apart t t' c c' x x' ht ht' hne hrw
  · rw [hget_cons] at ht
    split at ht
    · cases ht; exact h.own k b hb hk hr
    · exact h.own t c x ht hrw
  · refine ⟨hos.trans h.frm.os, ht.trans h.frm.tape, ho.trans h.frm.output, Nat.le_trans h.frm.size hs, fun c hlt hF => ?_⟩
    rw [← h.frm.block c hlt hF]
    refine hold c (Nat.lt_of_lt_of_le hlt h.frm.size) fun e => ?_
    subst e
    rcases h.own k c hb hk hr with h1 | h1
    · omega
    · exact hF h1

/-! ### The frame -/
structure Fits (C : Ctx) (T : Tm) (a : Act) : Prop where
  tmps : ∀ t v, tget T t = some v → a.tmps.getD t undef = v.val
  size : a.tmps.size = C.N
  defers : a.defers = []

theorem Fits.put {C : Ctx} {T : Tm} {a : Act} (h : Fits C T a) {d : Nat} (hd : Nat.blt d C.N = true) (v : TV) : Fits C ((d, v) :: T) (a.put (some d) v.val) := by
  have hd' : d < a.tmps.size := by rw [h.size]; rwa [Nat.blt_eq] at hd
  refine ⟨fun t u ht => ?_, by simp [Act.put, h.size], h.defers⟩
  rw [tget_cons] at ht
  simp only [Act.put]
  split at ht
  · rename_i e; subst e; cases ht; simp [hd']
  · rename_i e; rw [← h.tmps t u ht]; simp [e]


/-- A constant, a place, a function. -/
def cst : Value → Option TV
  | .int k n => some (.b (.one (.int k n)))
  | .bool b => some (.b (.one (.bool b)))
  | .string s => some (.b (.one (.str s.data.toList)))
  | .pointer Option.none => some (.b (.one .nilp))
  | .slice Option.none 0 0 => some (.b (.one .nilsl))
  | .nilFunc => some (.b (.one .nilfn))
  | .map Option.none => some (.b (.one .nilmp))
  | .nilIface => some (.b (.one (.raw .nilIface rfl)))
  | _ => Option.none

theorem cst_ok {v : Value} {x : TV} (h : cst v = some x) : v = x.val := by
  unfold cst at h
  split at h <;> first | (cases h; rfl) | cases h

def ev (T : Tm) : Operand → Option TV
  | .tmp t => tget T t
  | .const v => cst v
  | .global g => some (.b (.one (.ptr ⟨500 + g, g, .lit 0⟩)))
  | .func f => some (.b (.one (.fn (.func f) [] [])))

theorem ev_ok {C : Ctx} {T : Tm} {a : Act} (h : Fits C T a) {x : Operand} {v : TV} (e : ev T x = some v) : a.eval x = v.val := by
  cases x with
  | tmp t => exact h.tmps t v e
  | const u => exact cst_ok e
  | global g => cases e; rfl
  | func f => cases e; rfl

/-- An operand that is one cell. -/
def ev1 (T : Tm) (x : Operand) : Option SC :=
  match ev T x with
  | some (.b (.one c)) => some c
  | _ => Option.none
theorem ev1_ok {C : Ctx} {T : Tm} {a : Act} (h : Fits C T a) {x : Operand} {c : SC} (e : ev1 T x = some c) : a.eval x = c.val := by
  unfold ev1 at e
  split at e
  · rename_i h'; cases e; exact ev_ok h h'
  · cases e
def evb (T : Tm) (x : Operand) : Option BV :=
  match ev T x with
  | some (.b v) => some v
  | _ => Option.none
theorem evb_ok {C : Ctx} {T : Tm} {a : Act} (h : Fits C T a) {x : Operand} {c : BV} (e : evb T x = some c) : a.eval x = c.val := by
  unfold evb at e
  split at e
  · rename_i h'; cases e; exact ev_ok h h'
  · cases e

/-! ### What stands at the head of a goal -/
structure Chk (p K : Prop) : Prop where
  ok : p
  go : K
structure Name {α : Type} (e : α) (K : α → Prop) : Prop where
  go : ∀ z, z = e → K z
structure Some_ {α : Type} (p : α → Prop) (K : α → Prop) : Prop where
  go : ∀ z, p z → K z
structure Br (b : Bool) (A B : Prop) : Prop where
  t : b = true → A
  f : b = false → B

theorem Name.out {α : Type} {e : α} {K : α → Prop} (h : Name e K) : K e := h.go e rfl
end Go.SX
