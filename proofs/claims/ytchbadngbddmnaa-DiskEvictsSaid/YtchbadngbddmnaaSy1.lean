/- A walk engine: what a call computes, symbolically (part 1). -/
import Derived.Tactics
import Derived.Below
import Derived.Deep.Quiet
import Derived.StillTail
import Derived.Laws.NewBlocks
import Derived.WalkKit
import Derived.Laws.Rows
import Derived.Laws.BytesArg
import Derived.Laws.Slices
import Derived.Laws.Strings
import Derived.Laws.BytesString
import Derived.Lib.ConvBytes
import Derived.Laws.Build
/- The symbolic state of a call: typed values, memory that is known, and what a world is that fits it. -/
namespace Go.SY

/-! ### Lists by plain recursion (they compute in the kernel and in whnf) -/
def lget {α : Type} : List α → Nat → Option α
  | [], _ => none
  | x :: l, n => match n with | 0 => some x | n + 1 => lget l n
theorem lget_eq {α : Type} (l : List α) (n : Nat) : lget l n = l[n]? := by
  induction l generalizing n with
  | nil => simp [lget]
  | cons x l ih => cases n <;> simp [lget, ih]
def lset {α : Type} : List α → Nat → α → List α
  | [], _, _ => []
  | x :: l, n, y => match n with | 0 => y :: l | n + 1 => x :: lset l n y
theorem lset_eq {α : Type} (l : List α) (n : Nat) (y : α) : lset l n y = l.set n y := by
  induction l generalizing n with
  | nil => simp [lset]
  | cons x l ih => cases n <;> simp [lset, ih]
def llen {α : Type} : List α → Nat
  | [] => 0
  | _ :: l => llen l + 1
theorem llen_eq {α : Type} (l : List α) : llen l = l.length := by
  induction l with
  | nil => rfl
  | cons x l ih => simp [llen, ih]

/-- An offset in a block: a number, or a part of an element. -/
inductive Off where
  | lit (n : Nat)
  | el (base i sz j : Nat)
def Off.val : Off → Nat
  | .lit n => n
  | .el b i s j => b + i * s + j

structure Pt where
  key : Nat
  blk : Nat
  off : Off
def Pt.addr (p : Pt) : Addr := ⟨p.blk, p.off.val, none⟩
def Pt.value (p : Pt) : Value := .pointer (some p.addr)

/-- A slice: nil, or a part of a block. -/
inductive SV where
  | nil
  | at (b o len cap : Nat)
def SV.val : SV → Value
  | .nil => .slice none 0 0
  | .at b o len cap => .slice (some ⟨b, o, none⟩) len cap
abbrev SV.blk : SV → Nat
  | .nil => 0
  | .at b _ _ _ => b
abbrev SV.off : SV → Nat
  | .nil => 0
  | .at _ o _ _ => o
/-- A part of a slice. -/
def SV.sub (x : SV) (sz lo hi : Nat) : SV :=
  match x with
  | .nil => .nil
  | .at b o _ cap => .at b (if cap = lo then o else o + lo * sz) (hi - lo) (cap - lo)

/-- What one cell holds. -/
inductive SC where
  | int (k : IntKind) (n : Int)
  | w8 (x : UInt8)
  | w32 (x : BitVec 32)
  | w64 (x : BitVec 64)
  | bool (b : Bool)
  | str (s : List UInt8)
  | ptr (p : Pt)
  | nilp
  | lst (key : Nat) (x : SV)
  | part (key : Nat) (x : SV) (sz lo hi : Nat)
  | sl (key blk base o sz len cap : Nat)
  | nilsl
  | fn (f : Fn) (first caps : List Pt)
  | nilfn
  | mp (key blk : Nat)
  | nilmp
  | ch (key blk : Nat)
  | nilch
  | raw (v : Value) (h : v.oneCell' = true)

def SC.val : SC → Value
  | .int k n => .int k n
  | .w8 x => .int .u8 x.toNat
  | .w32 x => .int .u32 x.toNat
  | .w64 x => .int .u64 x.toNat
  | .bool b => .bool b
  | .str s => .string ⟨⟨s⟩⟩
  | .ptr p => p.value
  | .nilp => .pointer none
  | .lst _ x => x.val
  | .part _ x sz lo hi => (x.sub sz lo hi).val
  | .sl _ b base o sz l c => .slice (some ⟨b, base + o * sz, none⟩) l c
  | .nilsl => .slice none 0 0
  | .fn f a b => .func f (a.map Pt.value).toArray (b.map Pt.value).toArray
  | .nilfn => .nilFunc
  | .mp _ b => .map (some b)
  | .nilmp => .map none
  | .ch _ b => .chan (some b)
  | .nilch => .chan none
  | .raw v _ => v

theorem SC.oneCell (c : SC) : c.val.oneCell' = true := by
  cases c with
  | raw v h => exact h
  | lst k x => cases x <;> rfl
  | part k x sz lo hi => cases x <;> rfl
  | _ => rfl

/-! ### Scalars as Lean's own -/
inductive Sk where
  | u8 | u32 | u64 | bool | str
  | int (k : IntKind)
  deriving DecidableEq
abbrev Sk.α : Sk → Type
  | .u8 => UInt8
  | .u32 => BitVec 32
  | .u64 => BitVec 64
  | .bool => Bool
  | .str => List UInt8
  | .int _ => Int
abbrev Sk.enc : (s : Sk) → s.α → SC
  | .u8, x => .w8 x
  | .u32, x => .w32 x
  | .u64, x => .w64 x
  | .bool, x => .bool x
  | .str, x => .str x
  | .int k, x => .int k x
abbrev Sk.dflt : (s : Sk) → s.α
  | .u8 => (0 : UInt8)
  | .u32 => (0 : BitVec 32)
  | .u64 => (0 : BitVec 64)
  | .bool => false
  | .str => ([] : List UInt8)
  | .int _ => (0 : Int)
def Sk.dec : (s : Sk) → SC → Option s.α
  | .u8, .w8 x => some x
  | .u32, .w32 x => some x
  | .u64, .w64 x => some x
  | .bool, .bool x => some x
  | .str, .str x => some x
  | .int k, .int k' x => match decide (k = k') with | true => some x | false => none
  | _, _ => none
theorem Sk.dec_ok {s : Sk} {c : SC} {x : s.α} (h : s.dec c = some x) : s.enc x = c := by
  cases s <;> cases c <;> simp only [Sk.dec] at h <;> first
    | (cases h; rfl)
    | (split at h
       · rename_i hk; have := of_decide_eq_true hk; subst this; cases h; rfl
       · cases h)
    | cases h

/-- A part of a row of cells: one cell, or an array of scalars. -/
inductive Sg where
  | c (x : SC)
  | arr (s : Sk) (n : Nat) (L : List s.α)
def Sg.len : Sg → Nat
  | .c _ => 1
  | .arr _ n _ => n
def Sg.cs : Sg → List SC
  | .c x => [x]
  | .arr s _ L => L.map s.enc
def Sg.wf : Sg → Prop
  | .c _ => True
  | .arr _ n L => L.length = n
def scs : List Sg → List SC
  | [] => []
  | g :: l => g.cs ++ scs l
def slen : List Sg → Nat
  | [] => 0
  | g :: l => g.len + slen l
def swf : List Sg → Prop
  | [] => True
  | g :: l => g.wf ∧ swf l
def svals (l : List Sg) : List Value := (scs l).map SC.val
theorem Sg.cs_len {g : Sg} (h : g.wf) : g.cs.length = g.len := by
  cases g with
  | c x => rfl
  | arr s n L => simpa [Sg.cs, Sg.len, Sg.wf] using h
theorem scs_len : ∀ {l : List Sg}, swf l → (scs l).length = slen l
  | [], _ => rfl
  | g :: l, h => by simp [scs, slen, Sg.cs_len h.1, scs_len h.2]
theorem svals_len {l : List Sg} (h : swf l) : (svals l).length = slen l := by simp [svals, scs_len h]
theorem scs_append (a b : List Sg) : scs (a ++ b) = scs a ++ scs b := by
  induction a with
  | nil => rfl
  | cons g a ih => simp [scs, ih]
theorem slen_append (a b : List Sg) : slen (a ++ b) = slen a + slen b := by
  induction a with
  | nil => simp [slen]
  | cons g a ih => simp [slen, ih]; omega
theorem swf_append {a b : List Sg} : swf (a ++ b) ↔ swf a ∧ swf b := by
  induction a with
  | nil => simp [swf]
  | cons g a ih => simp [swf, ih, and_assoc]

/-- The same values. -/
def SgEq (a b : List Sg) : Prop := svals a = svals b ∧ (swf b → swf a)
theorem SgEq.of {a b : List Sg} (h : a = b) : SgEq a b := by subst h; exact ⟨rfl, id⟩
/-- What an element of a slice is, as cells. -/
structure EncS where
  α : Type
  sz : Nat
  enc : α → List Sg
  dflt : α
  dec : List Sg → Option α
  len : ∀ x, slen (enc x) = sz
  decOk : ∀ l x, dec l = some x → SgEq (enc x) l
inductive Enc where
  | sc (s : Sk)
  | st (e : EncS)
abbrev Enc.α : Enc → Type
  | .sc s => s.α
  | .st e => e.α
abbrev Enc.sz : Enc → Nat
  | .sc _ => 1
  | .st e => e.sz
def Enc.enc : (E : Enc) → E.α → List Sg
  | .sc s, x => [.c (s.enc x)]
  | .st e, x => e.enc x
abbrev Enc.dflt : (E : Enc) → E.α
  | .sc s => s.dflt
  | .st e => e.dflt
def Sk.decL (s : Sk) : List Sg → Option s.α
  | [] => none
  | .c x :: l => (match l with | [] => s.dec x | _ => none)
  | .arr .. :: _ => none
theorem Sk.decL_ok (s : Sk) (l : List Sg) (x : s.α) (h : s.decL l = some x) : [Sg.c (s.enc x)] = l := by
  cases l with
  | nil => cases h
  | cons g l =>
    cases g with
    | c y =>
      cases l with
      | nil => exact congrArg (fun z => [Sg.c z]) (Sk.dec_ok h)
      | cons _ _ => cases h
    | arr _ _ _ => cases h
def Enc.dec : (E : Enc) → List Sg → Option E.α
  | .sc s, l => s.decL l
  | .st e, l => e.dec l
theorem Enc.len (E : Enc) (x : E.α) : slen (E.enc x) = E.sz := by
  cases E with
  | sc s => rfl
  | st e => exact e.len x
theorem Enc.decOk (E : Enc) (l : List Sg) (x : E.α) (h : E.dec l = some x) : SgEq (E.enc x) l := by
  cases E with
  | sc s => exact .of (s.decL_ok l x h)
  | st e => exact e.decOk l x h
def Enc.wf (E : Enc) (L : List E.α) : Prop := ∀ x ∈ L, swf (E.enc x)
def Enc.vals (E : Enc) (L : List E.α) : List Value := L.flatMap fun x => svals (E.enc x)

/-- A value that is no tuple. -/
inductive BV where
  | one (c : SC)
  | agg (l : List Sg)
def BV.val : BV → Value
  | .one c => c.val
  | .agg l => .agg (svals l).toArray
def BV.sg : BV → List Sg
  | .one c => [.c c]
  | .agg l => l
def BV.wf (v : BV) : Prop := swf v.sg
def BV.cells (v : BV) : List Value := svals v.sg

theorem one_cells {v : Value} (h : v.oneCell' = true) : v.cells.toList = [v] := by
  cases v <;> first | rfl | (simp [Value.oneCell'] at h)
theorem BV.val_cells (x : BV) : x.val.cells.toList = x.cells := by
  cases x with
  | one c => exact one_cells c.oneCell
  | agg l => simp [BV.val, BV.cells, BV.sg, Value.cells]

inductive TV where
  | b (x : BV)
  | tup (l : List BV)
def TV.val : TV → Value
  | .b x => x.val
  | .tup l => .tuple (l.map BV.val).toArray
def bwf : List BV → Prop
  | [] => True
  | v :: l => v.wf ∧ bwf l
def TV.wf : TV → Prop
  | .b x => x.wf
  | .tup l => bwf l

/-- What is known of a block, or of several: told by what it reads. -/
structure SemH where
  rw : Bool
  occ : Prop
  rd : Nat → Nat → Prop
  Is : World → Nat → Prop
  self : ∀ b, rw = true → occ → rd b b
  one : rw = true → ∀ b c, rd b c → c = b ∧ occ
  lt : ∀ w b c, Is w b → rd b c → c < w.heap.size
  kept : ∀ w w' b, Is w b → w.heap.size ≤ w'.heap.size → (∀ c, rd b c → w'.heap[c]? = w.heap[c]?) → Is w' b
  /-- A channel's, a map's length. -/
  ln : Option Nat := none
  lm : Option Nat := none
  lnOk : ∀ n w b, ln = some n → Is w b → ∃ cap buf cl s r, w.heap[b]? = some (.chan cap buf cl s r false) ∧ buf.size = n := by intro n w b h; cases h
  lmOk : ∀ n w b, lm = some n → Is w b → ∃ es ck, w.heap[b]? = some (.map es ck) ∧ es.size = n := by intro n w b h; cases h
/-- What is known of a block. -/
inductive HB where
  | var (T : TypeId) (l : List Sg)
  | ro (l : List Sg)
  | own (T : TypeId) (E : Enc) (x : SV) (L : List E.α)
  | view (E : Enc) (x : SV) (L : List E.α)
  | grw (T : TypeId) (E : Enc) (x : SV) (L : List E.α)
  | obj (o : Obj)
  | sem (X : SemH)
def HB.isRw : HB → Bool
  | .ro .. => false
  | .view .. => false
  | .sem X => X.rw
  | _ => true
/-- Is there a block at all? -/
def HB.occ : HB → Prop
  | .own _ _ x _ => x ≠ .nil
  | .view _ x _ => x ≠ .nil
  | .grw _ _ x _ => x ≠ .nil
  | .sem X => X.occ
  | _ => True
/-- The blocks that it reads. -/
def HB.rd : HB → Nat → Nat → Prop
  | .sem X, b, c => X.rd b c
  | .var .., b, c => c = b
  | .ro .., b, c => c = b
  | .own _ _ x _, b, c => x ≠ .nil ∧ c = b
  | .view _ x _, b, c => x ≠ .nil ∧ c = b
  | .grw _ _ x _, b, c => x ≠ .nil ∧ c = b
  | .obj _, b, c => c = b
theorem HB.rd_self {hb : HB} {b : Nat} (hr : hb.isRw = true) (ho : hb.occ) : hb.rd b b := by
  cases hb with
  | sem X => exact X.self b hr ho
  | own T E x L => exact ⟨ho, rfl⟩
  | view E x L => exact ⟨ho, rfl⟩
  | grw T E x L => exact ⟨ho, rfl⟩
  | _ => exact rfl
/-- It reads one block alone. -/
def HB.single : HB → Prop
  | .sem X => X.rw = true
  | _ => True
theorem HB.rd_one {hb : HB} (h : hb.single) {b c : Nat} (hc : hb.rd b c) : c = b := by
  cases hb with
  | sem X => exact (X.one h b c hc).1
  | own T E x L => exact hc.2
  | view E x L => exact hc.2
  | grw T E x L => exact hc.2
  | _ => exact hc
theorem HB.rw_single {hb : HB} (h : hb.isRw = true) : hb.single := by
  cases hb with
  | sem X => exact h
  | _ => trivial
/-- One block alone, as far as it is there. -/
def HB.plain : HB → Prop
  | .sem _ => False
  | _ => True
theorem HB.rd_plain {hb : HB} (h : hb.plain) {b c : Nat} : hb.rd b c ↔ hb.occ ∧ c = b := by
  cases hb with
  | sem X => exact h.elim
  | own T E x L => exact Iff.rfl
  | view E x L => exact Iff.rfl
  | grw T E x L => exact Iff.rfl
  | _ => exact ⟨fun h => ⟨trivial, h⟩, fun h => h.2⟩

def ownIs (w : World) (b : Nat) (T : TypeId) (E : Enc) (x : SV) (L : List E.α) : Prop :=
  match x with
  | .nil => L = []
  | .at b' o len cap => b' = b ∧ len = L.length ∧ ∃ pre post lo hi, w.heap[b]? = some (.cells (pre ++ E.vals L ++ post).toArray T (lo, hi)) ∧
      (hi ≤ lo ∨ (pre ++ E.vals L ++ post).length ≤ lo) ∧ pre.length = o ∧ len ≤ cap ∧ cap * E.sz ≤ (E.vals L).length + post.length
/-- A row that may grow; what is in it may be frozen. -/
def grwIs (w : World) (b : Nat) (T : TypeId) (E : Enc) (x : SV) (L : List E.α) : Prop :=
  match x with
  | .nil => L = []
  | .at b' o len cap => b' = b ∧ len = L.length ∧ ∃ pre post lo hi, w.heap[b]? = some (.cells (pre ++ E.vals L ++ post).toArray T (lo, hi)) ∧
      (lo = hi ∨ hi ≤ (pre ++ E.vals L).length) ∧ pre.length = o ∧ len ≤ cap ∧ cap * E.sz ≤ (E.vals L).length + post.length
def viewIs (w : World) (b : Nat) (E : Enc) (x : SV) (L : List E.α) : Prop :=
  match x with
  | .nil => L = []
  | .at b' o len cap => b' = b ∧ len = L.length ∧ len ≤ cap ∧ b < w.heap.size ∧ ∀ j v, (E.vals L)[j]? = some v → w.cell? ⟨b, o + j, none⟩ = some v
def HB.Is : HB → World → Nat → Prop
  | .var T l, w, b => ∃ lo hi, w.heap[b]? = some (.cells (svals l).toArray T (lo, hi)) ∧ (hi ≤ lo ∨ (svals l).length ≤ lo) ∧ swf l
  | .ro l, w, b => b < w.heap.size ∧ (∀ j v, (svals l)[j]? = some v → w.cell? ⟨b, j, none⟩ = some v) ∧ swf l
  | .own T E x L, w, b => E.wf L ∧ ownIs w b T E x L
  | .view E x L, w, b => E.wf L ∧ viewIs w b E x L
  | .grw T E x L, w, b => E.wf L ∧ grwIs w b T E x L
  | .obj o, w, b => w.heap[b]? = some o ∧ (∀ c T f, o ≠ .cells c T f)
  | .sem X, w, b => X.Is w b

theorem HB.Is.rlt {hb : HB} {w : World} {b c : Nat} (h : hb.Is w b) (ho : hb.rd b c) : c < w.heap.size := by
  cases hb with
  | sem X => exact X.lt w b c h ho
  | var T l => obtain rfl : c = b := ho; obtain ⟨lo, hi, h, _⟩ := h; exact (Array.getElem?_eq_some_iff.1 h).1
  | ro l => obtain rfl : c = b := ho; exact h.1
  | own T E x L =>
    obtain ⟨hx, rfl⟩ := ho
    obtain ⟨_, h⟩ := h
    cases x with
    | nil => exact (hx rfl).elim
    | «at» b' o len cap => obtain ⟨_, _, _, _, _, _, h, _⟩ := h; exact (Array.getElem?_eq_some_iff.1 h).1
  | view E x L =>
    obtain ⟨hx, rfl⟩ := ho
    obtain ⟨_, h⟩ := h
    cases x with
    | nil => exact (hx rfl).elim
    | «at» b' o len cap => exact h.2.2.2.1
  | grw T E x L =>
    obtain ⟨hx, rfl⟩ := ho
    obtain ⟨_, h⟩ := h
    cases x with
    | nil => exact (hx rfl).elim
    | «at» b' o len cap => obtain ⟨_, _, _, _, _, _, h, _⟩ := h; exact (Array.getElem?_eq_some_iff.1 h).1
  | obj o => obtain rfl : c = b := ho; exact (Array.getElem?_eq_some_iff.1 h.1).1
theorem HB.Is.lt {hb : HB} {w : World} {b : Nat} (h : hb.Is w b) (hr : hb.isRw = true) (ho : hb.occ) : b < w.heap.size := h.rlt (HB.rd_self hr ho)

theorem HB.Is.of_block {hb : HB} {w w' : World} {b : Nat} (h : hb.Is w b) (hs : w.heap.size ≤ w'.heap.size) (e : ∀ c, hb.rd b c → w'.heap[c]? = w.heap[c]?) : hb.Is w' b := by
  cases hb with
  | sem X => exact X.kept w w' b h hs e
  | var T c => obtain ⟨lo, hi, h1, h2⟩ := h; exact ⟨lo, hi, (e b rfl).trans h1, h2⟩
  | ro c =>
    refine ⟨Nat.lt_of_lt_of_le h.1 hs, fun j v hv => ?_, h.2.2⟩
    rw [← h.2.1 j v hv]
    exact World.cell?_of_block (w := w) (w' := w') (a := ⟨b, j, none⟩) (e b rfl)
  | own T E x L =>
    refine ⟨h.1, ?_⟩
    have h2 := h.2
    cases x with
    | nil => exact h2
    | «at» b' o len cap =>
      obtain ⟨h3, h4, pre, post, lo, hi, h5, h6⟩ := h2
      exact ⟨h3, h4, pre, post, lo, hi, (e b ⟨(by intro h; cases h), rfl⟩).trans h5, h6⟩
  | view E x L =>
    refine ⟨h.1, ?_⟩
    have h2 := h.2
    cases x with
    | nil => exact h2
    | «at» b' o len cap =>
      obtain ⟨h3, h4, h4', h5, h6⟩ := h2
      refine ⟨h3, h4, h4', Nat.lt_of_lt_of_le h5 hs, fun j v hv => ?_⟩
      rw [← h6 j v hv]
      exact World.cell?_of_block (w := w) (w' := w') (a := ⟨b, o + j, none⟩) (e b ⟨(by intro h; cases h), rfl⟩)
  | grw T E x L =>
    refine ⟨h.1, ?_⟩
    have h2 := h.2
    cases x with
    | nil => exact h2
    | «at» b' o len cap =>
      obtain ⟨h3, h4, pre, post, lo, hi, h5, h6⟩ := h2
      exact ⟨h3, h4, pre, post, lo, hi, (e b ⟨(by intro h; cases h), rfl⟩).trans h5, h6⟩
  | obj o => exact ⟨(e b rfl).trans h.1, h.2⟩

/-! ### What is known, under names -/
abbrev Heap := List (Nat × Nat × HB)
def hget : Heap → Nat → Option (Nat × HB)
  | [], _ => none
  | (k, b, hb) :: r, t => match Nat.beq k t with | true => some (b, hb) | false => hget r t
abbrev Tm := List (Nat × TV)
def tget : Tm → Nat → Option TV
  | [], _ => none
  | (k, v) :: r, t => match Nat.beq k t with | true => some v | false => tget r t

/-- The program, and what the elements of its slices are. -/
structure Pr where
  P : Program
  E : TypeId → Option Enc

structure Ctx where
  R : Pr
  N : Nat
  w0 : World
  F : Nat → Prop
  K : Nat → Prop
abbrev Ctx.P (C : Ctx) : Program := C.R.P

structure Frm (C : Ctx) (w : World) : Prop where
  os : w.os = C.w0.os
  tape : w.tape = C.w0.tape
  output : w.output = C.w0.output
  size : C.w0.heap.size ≤ w.heap.size
  block : ∀ b, b < C.w0.heap.size → ¬ C.F b → w.heap[b]? = C.w0.heap[b]?

structure Rep (C : Ctx) (H : Heap) (w : World) : Prop where
  is : ∀ k b hb, hget H k = some (b, hb) → hb.Is w b
  apart : ∀ k k' b b' hb hb', hget H k = some (b, hb) → hget H k' = some (b', hb') → k ≠ k' → hb.isRw = true → hb.occ → ¬ hb'.rd b' b
  own : ∀ k b hb, hget H k = some (b, hb) → hb.isRw = true → hb.occ → C.w0.heap.size ≤ b ∨ C.F b
  known : ∀ k b hb c, hget H k = some (b, hb) → hb.rd b c → C.w0.heap.size ≤ c ∨ C.K c
  frm : Frm C w

theorem beq_ne {k t : Nat} (h : k ≠ t) : Nat.beq k t = false := by
  cases hh : Nat.beq k t with
  | false => rfl
  | true => exact absurd (Nat.eq_of_beq_eq_true hh) h
theorem hget_cons (k b : Nat) (hb : HB) (H : Heap) (t : Nat) : hget ((k, b, hb) :: H) t = if k = t then some (b, hb) else hget H t := by
  simp only [hget]
  by_cases h : k = t
  · subst h; simp
  · simp [beq_ne h, h]
theorem tget_cons (k : Nat) (v : TV) (T : Tm) (t : Nat) : tget ((k, v) :: T) t = if k = t then some v else tget T t := by
  simp only [tget]
  by_cases h : k = t
  · subst h; simp
  · simp [beq_ne h, h]

/-- A change that no known block feels, and none of the frame. -/
theorem Rep.move {C : Ctx} {H : Heap} {w w' : World} (h : Rep C H w) (hos : w'.os = w.os) (ht : w'.tape = w.tape) (ho : w'.output = w.output)
    (hs : w.heap.size ≤ w'.heap.size) (hb : ∀ b, b < w.heap.size → w'.heap[b]? = w.heap[b]?) : Rep C H w' :=
  ⟨fun k b x hk => (h.is k b x hk).of_block hs fun c hc => hb c ((h.is k b x hk).rlt hc), h.apart, h.own, h.known,
   ⟨hos.trans h.frm.os, ht.trans h.frm.tape, ho.trans h.frm.output, Nat.le_trans h.frm.size hs,
    fun b hlt hF => (hb b (Nat.lt_of_lt_of_le hlt h.frm.size)).trans (h.frm.block b hlt hF)⟩⟩

theorem Rep.drew {C : Ctx} {H : Heap} {w : World} (h : Rep C H w) (n : Nat) : Rep C H { w with drawn := n } :=
  h.move rfl rfl rfl (Nat.le_refl _) (fun _ _ => rfl)

/-- A new block. -/
theorem Rep.alloc {C : Ctx} {H : Heap} {w w' : World} (h : Rep C H w) (k b0 : Nat) (hb : HB) (hb0 : ∀ c, hb.rd b0 c → w.heap.size ≤ c) (hw : hb.Is w' b0) (hos : w'.os = w.os) (ht : w'.tape = w.tape)
    (ho : w'.output = w.output) (hs : w.heap.size ≤ w'.heap.size) (hold : ∀ b, b < w.heap.size → w'.heap[b]? = w.heap[b]?) :
    Rep C ((k, b0, hb) :: H) w' := by
  have h' := h.move hos ht ho hs hold
  refine ⟨fun t b x ht => ?_, fun t t' b b' x x' ht ht' hne hrw ho1 ho2 => ?_, fun t b x ht hrw ho1 => ?_, fun t b x c ht hc => ?_, h'.frm⟩
  · rw [hget_cons] at ht
    split at ht
    · cases ht; exact hw
    · exact h'.is t b x ht
  · rw [hget_cons] at ht ht'
    split at ht <;> split at ht'
    · omega
    · cases ht; have := (h.is _ _ _ ht').rlt ho2; have := hb0 _ (HB.rd_self hrw ho1); omega
    · cases ht'; have := (h.is _ _ _ ht).lt hrw ho1; have := hb0 _ ho2; omega
    · exact h.apart t t' b b' x x' ht ht' hne hrw ho1 ho2
  · rw [hget_cons] at ht
    split at ht
    · cases ht; exact .inl (Nat.le_trans h.frm.size (hb0 _ (HB.rd_self hrw ho1)))
    · exact h.own t b x ht hrw ho1
  · rw [hget_cons] at ht
    split at ht
    · cases ht; exact .inl (Nat.le_trans h.frm.size (hb0 _ hc))
    · exact h.known t b x c ht hc

/-- A known block that may be written is another one now. -/
theorem Rep.write {C : Ctx} {H : Heap} {w w' : World} {k b : Nat} {hb hb' : HB} (h : Rep C H w) (hk : hget H k = some (b, hb)) (hr : hb.isRw = true) (ho1 : hb.occ)
    (hw : hb'.Is w' b) (hos : w'.os = w.os) (ht : w'.tape = w.tape)
    (ho : w'.output = w.output) (hs : w.heap.size ≤ w'.heap.size) (hold : ∀ c, c < w.heap.size → c ≠ b → w'.heap[c]? = w.heap[c]?) (hp : hb'.single := by first | trivial | rfl) :
    Rep C ((k, b, hb') :: H) w' := by
  refine ⟨fun t c x ht => ?_, fun t t' c c' x x' ht ht' hne hrw o1 o2 => ?_, fun t c x ht hrw o1 => ?_, fun t d x c ht hc => ?_, ?_⟩
  · rw [hget_cons] at ht
    split at ht
    · cases ht; exact hw
    · rename_i hne
      have h1 := h.is t c x ht
      exact h1.of_block hs fun d hd => hold d (h1.rlt hd) fun e => h.apart k t b c hb x hk ht hne hr ho1 (e ▸ hd)
  · rw [hget_cons] at ht ht'
    split at ht <;> split at ht'
    · omega
    · cases ht; rename_i e _; subst e; exact h.apart k t' b c' hb x' hk ht' hne hr ho1 o2
    · cases ht'; rename_i _ e; subst e
      obtain rfl := HB.rd_one hp o2
      exact h.apart t k c c x hb ht hk hne hrw o1 (HB.rd_self hr ho1)
    · exact h.apart t t' c c' x x' ht ht' hne hrw o1 o2
  · rw [hget_cons] at ht
    split at ht
    · cases ht; exact h.own k b hb hk hr ho1
    · exact h.own t c x ht hrw o1
  · rw [hget_cons] at ht
    split at ht
    · cases ht
      obtain rfl := HB.rd_one hp hc
      exact h.known k c hb c hk (HB.rd_self hr ho1)
    · exact h.known t d x c ht hc
  · refine ⟨hos.trans h.frm.os, ht.trans h.frm.tape, ho.trans h.frm.output, Nat.le_trans h.frm.size hs, fun c hlt hF => ?_⟩
    rw [← h.frm.block c hlt hF]
    refine hold c (Nat.lt_of_lt_of_le hlt h.frm.size) fun e => ?_
    subst e
    rcases h.own k c hb hk hr ho1 with h1 | h1
    · omega
    · exact hF h1

/-- Less is known. -/
theorem Rep.sub {C : Ctx} {H H' : Heap} {w : World} (h : Rep C H w) (hs : ∀ t x, hget H' t = some x → hget H t = some x) : Rep C H' w :=
  ⟨fun k b x hk => h.is k b x (hs _ _ hk), fun k k' b b' x x' hk hk' hn hr => h.apart k k' b b' x x' (hs _ _ hk) (hs _ _ hk') hn hr, fun k b x hk hr => h.own k b x (hs _ _ hk) hr, fun k b x c hk hc => h.known k b x c (hs _ _ hk) hc, h.frm⟩
def hdel : Heap → Nat → Heap
  | [], _ => []
  | (k, b, hb) :: r, t => match Nat.beq k t with | true => hdel r t | false => (k, b, hb) :: hdel r t
theorem hget_del (H : Heap) (k t : Nat) : hget (hdel H k) t = if k = t then none else hget H t := by
  induction H with
  | nil => simp [hdel, hget]
  | cons e H ih =>
    obtain ⟨k', b, hb⟩ := e
    by_cases h : k' = k
    · subst h
      simp only [hdel, Nat.beq_refl, ih, hget_cons]
      by_cases h2 : k' = t <;> simp [h2]
    · simp only [hdel, beq_ne h, hget_cons, ih]
      by_cases h2 : k = t
      · subst h2; simp [h]
      · simp [h2]
theorem Rep.del {C : Ctx} {H : Heap} {w : World} (h : Rep C H w) (k : Nat) : Rep C (hdel H k) w :=
  h.sub fun t x ht => by rw [hget_del] at ht; split at ht; · cases ht
                         · exact ht
/-- A known block that may be written goes to another key, and is known otherwise. -/
theorem Rep.rekey {C : Ctx} {H : Heap} {w : World} {k b d : Nat} {hb hb' : HB} (h : Rep C H w) (hk : hget H k = some (b, hb)) (hr : hb.isRw = true) (ho : hb'.occ → hb.occ) (hi : hb'.Is w b) (hp : hb'.plain := by trivial) : Rep C ((d, b, hb') :: hdel H k) w := by
  have h' := h.del k
  refine ⟨fun t c x ht => ?_, fun t t' c c' x x' ht ht' hne hrw o1 o2 => ?_, fun t c x ht hrw o1 => ?_, fun t e x c ht hc => ?_, h.frm⟩
  · rw [hget_cons] at ht; split at ht
    · cases ht; exact hi
    · exact h'.is _ _ _ ht
  · rw [hget_cons] at ht ht'
    split at ht <;> split at ht'
    · omega
    · cases ht
      rw [hget_del] at ht'; split at ht'; · cases ht'
      · rename_i hn; exact h.apart k t' _ c' _ x' hk ht' hn hr (ho o1) o2
    · cases ht'
      rw [hget_del] at ht; split at ht; · cases ht
      · rename_i hn
        obtain ⟨o3, rfl⟩ := (HB.rd_plain hp).1 o2
        exact h.apart t k c c x hb ht hk (Ne.symm hn) hrw o1 (HB.rd_self hr (ho o3))
    · exact h'.apart t t' c c' x x' ht ht' hne hrw o1 o2
  · rw [hget_cons] at ht; split at ht
    · cases ht; exact h.own _ _ _ hk hr (ho o1)
    · exact h'.own _ _ _ ht hrw o1
  · rw [hget_cons] at ht; split at ht
    · cases ht
      obtain ⟨o3, rfl⟩ := (HB.rd_plain hp).1 hc
      exact h.known k c hb c hk (HB.rd_self hr (ho o3))
    · exact h'.known _ _ _ _ ht hc

/-! ### The frame -/
structure Fits (C : Ctx) (T : Tm) (a : Act) : Prop where
  tmps : ∀ t v, tget T t = some v → a.tmps.getD t undef = v.val
  wf : ∀ t v, tget T t = some v → v.wf
  size : a.tmps.size = C.N
  defers : a.defers = []

theorem Fits.put {C : Ctx} {T : Tm} {a : Act} (h : Fits C T a) {d : Nat} (hd : Nat.blt d C.N = true) {v : TV} (hv : v.wf) : Fits C ((d, v) :: T) (a.put (some d) v.val) := by
  have hd' : d < a.tmps.size := by rw [h.size]; rwa [Nat.blt_eq] at hd
  refine ⟨fun t u ht => ?_, fun t u ht => ?_, by simp [Act.put, h.size], h.defers⟩
  · rw [tget_cons] at ht
    simp only [Act.put]
    split at ht
    · rename_i e; subst e; cases ht; simp [hd']
    · rename_i e; rw [← h.tmps t u ht]; simp [e]
  · rw [tget_cons] at ht
    split at ht
    · cases ht; exact hv
    · exact h.wf t u ht

/-- A constant, a place, a function. -/
def cst1 : Value → Option SC
  | .int .u8 (.ofNat n) => (match Nat.blt n 256 with | true => some (.w8 (UInt8.ofNat n)) | false => none)
  | .int .u32 (.ofNat n) => (match Nat.blt n 4294967296 with | true => some (.w32 (BitVec.ofNat 32 n)) | false => none)
  | .int .u64 (.ofNat n) => (match Nat.blt n 18446744073709551616 with | true => some (.w64 (BitVec.ofNat 64 n)) | false => none)
  | .int k n => some (.int k n)
  | .bool b => some (.bool b)
  | .string ⟨⟨l⟩⟩ => some (.str l)
  | .pointer Option.none => some .nilp
  | .slice Option.none 0 0 => some .nilsl
  | .nilFunc => some .nilfn
  | .map Option.none => some .nilmp
  | .chan Option.none => some .nilch
  | .nilIface => some (.raw .nilIface rfl)
  | _ => Option.none
theorem cst1_ok {v : Value} {x : SC} (h : cst1 v = some x) : v = x.val := by
  unfold cst1 at h
  split at h <;> first
    | (cases h; rfl)
    | (split at h
       · rename_i hb
         rw [Nat.blt_eq] at hb
         cases h
         simp only [SC.val, UInt8.toNat_ofNat', BitVec.toNat_ofNat]
         rw [Nat.mod_eq_of_lt (by omega)]; rfl
       · cases h)
    | cases h
def cst (v : Value) : Option TV := match cst1 v with | some c => some (.b (.one c)) | none => none
theorem cst_ok {v : Value} {x : TV} (h : cst v = some x) : v = x.val ∧ x.wf := by
  unfold cst at h
  split at h
  · rename_i hc; cases h; exact ⟨cst1_ok hc, trivial, trivial⟩
  · cases h

def ev (T : Tm) : Operand → Option TV
  | .tmp t => tget T t
  | .const v => cst v
  | .global g => some (.b (.one (.ptr ⟨50000 + g, g, .lit 0⟩)))
  | .func f => some (.b (.one (.fn (.func f) [] [])))
theorem ev_ok {C : Ctx} {T : Tm} {a : Act} (h : Fits C T a) {x : Operand} {v : TV} (e : ev T x = some v) : a.eval x = v.val := by
  cases x with
  | tmp t => exact h.tmps t v e
  | const u => exact (cst_ok e).1
  | global g => cases e; rfl
  | func f => cases e; rfl
theorem ev_wf {C : Ctx} {T : Tm} {a : Act} (h : Fits C T a) {x : Operand} {v : TV} (e : ev T x = some v) : v.wf := by
  cases x with
  | tmp t => exact h.wf t v e
  | const u => exact (cst_ok e).2
  | global g => cases e; exact ⟨trivial, trivial⟩
  | func f => cases e; exact ⟨trivial, trivial⟩
/-- An operand that is one cell. -/
def ev1 (T : Tm) (x : Operand) : Option SC :=
  match ev T x with
  | some (.b (.one c)) => some c
  | _ => Option.none
theorem ev1_ok {C : Ctx} {T : Tm} {a : Act} (h : Fits C T a) {x : Operand} {c : SC} (e : ev1 T x = some c) : a.eval x = c.val := by
  unfold ev1 at e
  split at e
  · rename_i h'; cases e; exact ev_ok h h'
  · cases e
def evb (T : Tm) (x : Operand) : Option BV :=
  match ev T x with
  | some (.b v) => some v
  | _ => Option.none
theorem evb_ok {C : Ctx} {T : Tm} {a : Act} (h : Fits C T a) {x : Operand} {c : BV} (e : evb T x = some c) : a.eval x = c.val := by
  unfold evb at e
  split at e
  · rename_i h'; cases e; exact ev_ok h h'
  · cases e
theorem evb_wf {C : Ctx} {T : Tm} {a : Act} (h : Fits C T a) {x : Operand} {c : BV} (e : evb T x = some c) : c.wf := by
  unfold evb at e
  split at e
  · rename_i h'; cases e; exact ev_wf h h'
  · cases e

/-! ### What stands at the head of a goal -/
structure Chk (p K : Prop) : Prop where
  ok : p
  go : K
structure Br (b : Bool) (A B : Prop) : Prop where
  t : b = true → A
  f : b = false → B
structure Wr (k : IntKind) (e : Int) (K : Int → Prop) : Prop where
  go : K (k.wrap e)
/-- A number that is not below 0. -/
structure NatOf (n : Int) (K : Nat → Prop) : Prop where
  go : ∃ m : Nat, n = m ∧ K m
theorem NatOf.out {n : Int} {K : Nat → Prop} (h : NatOf n K) : K n.toNat := by
  obtain ⟨m, rfl, h⟩ := h; simpa using h
theorem NatOf.cast {m : Nat} {K : Nat → Prop} (h : K m) : NatOf (m : Int) K := ⟨m, rfl, h⟩
theorem NatOf.any {n : Int} {K : Nat → Prop} (h0 : 0 ≤ n) (h : K n.toNat) : NatOf n K := ⟨n.toNat, (Int.toNat_of_nonneg h0).symm, h⟩
/-- A new thing: a block's number, a slice. -/
structure New {α : Type} (K : α → Prop) : Prop where
  go : ∀ b, K b
/-- What is known of a slice's length comes along. -/
def SV.len : SV → Nat
  | .nil => 0
  | .at _ _ n _ => n
end Go.SY

/- Reads and writes of known memory. -/
namespace Go.SY

theorem add_addr (b o n : Nat) : (⟨b, o, none⟩ : Addr).add n = ⟨b, o + n, none⟩ := by
  unfold Addr.add; split
  · subst_vars; rfl
  · rfl

theorem run_load_cell {P : Program} {w : World} {a : Addr} {v : Value} (h : w.cell? a = some v) : (load a).run P w = .ok v w := by
  rw [run_load, h]

theorem run_loadCellsFrom {P : Program} {w : World} {b o : Nat} : ∀ (vs : List Value) (i : Nat) (acc : Array Value),
    (∀ j v, vs[j]? = some v → w.cell? ⟨b, o + i + j, none⟩ = some v) →
    (loadCellsFrom ⟨b, o, none⟩ i vs.length acc).run P w = .ok (acc ++ vs.toArray) w := by
  intro vs
  induction vs with
  | nil => intro i acc _; simp [loadCellsFrom]
  | cons v vs ih =>
    intro i acc h
    simp only [List.length_cons, loadCellsFrom, Sem.run_bind]
    have h0 := h 0 v (by simp)
    rw [Nat.add_zero] at h0
    rw [add_addr, run_load_cell h0]
    simp only [Result.andThen]
    rw [ih (i + 1) (acc.push v) (fun j u hu => by have := h (j + 1) u (by simpa using hu); rwa [show o + (i + 1) + j = o + i + (j + 1) by omega])]
    simp

theorem run_loadCells {P : Program} {w : World} {b o n : Nat} {vs : List Value} (hn : vs.length = n) (h : ∀ j v, vs[j]? = some v → w.cell? ⟨b, o + j, none⟩ = some v) :
    (loadCells ⟨b, o, none⟩ n).run P w = .ok vs.toArray w := by
  subst hn
  unfold loadCells
  rw [run_loadCellsFrom vs 0 #[] (fun j v hv => by simpa using h j v hv)]
  simp

/-- A row of cells overwritten from a place on. -/
def over (cs : List Value) : Nat → List Value → List Value
  | _, [] => cs
  | o, v :: vs => over (cs.set o v) (o + 1) vs
theorem over_length (cs : List Value) (o : Nat) (vs : List Value) : (over cs o vs).length = cs.length := by
  induction vs generalizing cs o with
  | nil => rfl
  | cons v vs ih => simp [over, ih]

theorem frozen_full {w : World} {b n : Nat} {cs : Array Value} {T lo hi} (h : w.heap[b]? = some (.cells cs T (lo, hi))) (hf : hi ≤ lo ∨ cs.size ≤ lo) (hn : n < cs.size) : w.frozen? ⟨b, n, none⟩ = false := by
  simp only [World.frozen?, h]
  rcases hf with hf | hf
  · by_cases h1 : lo ≤ n
    · simp [h1]; omega
    · simp [h1]
  · have : ¬ lo ≤ n := by omega
    simp [this]

theorem heap_setCell_at {w : World} {b n : Nat} {cs : Array Value} {T fr} (v : Value) (h : w.heap[b]? = some (.cells cs T fr)) :
    (w.setCell ⟨b, n, none⟩ v).heap[b]? = some (.cells (cs.setIfInBounds n v) T fr) := by
  simp [World.setCell, Array.getElem?_modify, h]

theorem run_storeCellsF {P : Program} {b o T lo hi : Nat} : ∀ (vs : List Value) (i : Nat) (w : World) (cs : List Value),
    (∀ v ∈ vs, v.oneCell' = true) → w.heap[b]? = some (.cells cs.toArray T (lo, hi)) → (hi ≤ lo ∨ cs.length ≤ lo ∨ hi ≤ o + i) → o + i + vs.length ≤ cs.length →
    ∃ w', (storeCells ⟨b, o, none⟩ vs i).run P w = .ok () w' ∧ w'.heap[b]? = some (.cells (over cs (o + i) vs).toArray T (lo, hi)) ∧
      w'.os = w.os ∧ w'.tape = w.tape ∧ w'.output = w.output ∧ w'.heap.size = w.heap.size ∧ ∀ c, c ≠ b → w'.heap[c]? = w.heap[c]? := by
  intro vs
  induction vs with
  | nil => intro i w cs _ h _ _; exact ⟨w, by simp [storeCells], h, rfl, rfl, rfl, rfl, fun _ _ => rfl⟩
  | cons v vs ih =>
    intro i w cs h1 h hf hb
    simp only [List.length_cons] at hb
    have hlt : o + i < cs.length := by omega
    have hcell : w.cell? ⟨b, o + i, none⟩ = some cs[o + i] := by rw [cell_of_row w b _ _ _ _ h]; simp [hlt]
    have hfz : w.frozen? ⟨b, o + i, none⟩ = false := by
      rcases hf with hf | hf | hf
      · exact frozen_full h (.inl hf) (by simpa using hlt)
      · exact frozen_full h (.inr (by simpa using hf)) (by simpa using hlt)
      · simp only [World.frozen?, h, Bool.and_eq_false_iff, decide_eq_false_iff_not]
        right; omega
    have hset := heap_setCell_at (n := o + i) v h
    obtain ⟨w', hr, hw', e1, e2, e3, e4, e5⟩ := ih (i + 1) (w.setCell ⟨b, o + i, none⟩ v) (cs.set (o + i) v) (fun u hu => h1 u (by simp [hu]))
      (by rw [hset]; simp) (by simp only [List.length_set]; omega) (by simp; omega)
    refine ⟨w', ?_, ?_, e1, e2, e3, by rw [e4]; simp, fun c hc => by rw [e5 c hc]; exact heap_setCell_other _ _ _ _ hc⟩
    · simp only [storeCells, Sem.run_bind]
      rw [add_addr, run_store P w _ v _ (h1 v (by simp)), hcell]
      simp only [hfz, Bool.false_eq_true, if_false, Result.andThen]
      exact hr
    · simpa [over, Nat.add_assoc] using hw'

theorem run_storeCells {P : Program} {b o T lo hi : Nat} (vs : List Value) (i : Nat) (w : World) (cs : List Value)
    (h1 : ∀ v ∈ vs, v.oneCell' = true) (h : w.heap[b]? = some (.cells cs.toArray T (lo, hi))) (hf : hi ≤ lo ∨ cs.length ≤ lo) (hb : o + i + vs.length ≤ cs.length) :
    ∃ w', (storeCells ⟨b, o, none⟩ vs i).run P w = .ok () w' ∧ w'.heap[b]? = some (.cells (over cs (o + i) vs).toArray T (lo, hi)) ∧
      w'.os = w.os ∧ w'.tape = w.tape ∧ w'.output = w.output ∧ w'.heap.size = w.heap.size ∧ ∀ c, c ≠ b → w'.heap[c]? = w.heap[c]? :=
  run_storeCellsF vs i w cs h1 h (hf.imp id .inl) hb

theorem isAgg_run {P : Program} {t : TypeId} {d : TypeDesc} {w : World} (h : P.underlying t = some d) :
    (isAgg t).run P w = .ok (match d with | .struct _ | .array _ _ => true | _ => false) w := by
  simp only [isAgg, Sem.run_bind, run_underlying h, Result.andThen]
  cases d <;> rfl

theorem sizeOf_run {P : Program} {t : TypeId} {i : TypeInfo} {w : World} (h : P.info? t = some i) : (sizeOf t).run P w = .ok i.size w := by
  simp [sizeOf, typeInfo, h]

/-- Is a type one of several cells? -/
def aggB (P : Program) (t : TypeId) : Option Bool :=
  match P.underlying t with
  | some (.struct _) => some true
  | some (.array _ _) => some true
  | some _ => some false
  | none => none
def sizB (P : Program) (t : TypeId) : Option Nat :=
  match P.info? t with
  | some i => some i.size
  | none => none
theorem aggB_run {P : Program} {t : TypeId} {x : Bool} {w : World} (h : aggB P t = some x) : (isAgg t).run P w = .ok x w := by
  unfold aggB at h
  split at h
  · rename_i h'; rw [isAgg_run h']; cases h; rfl
  · rename_i h'; rw [isAgg_run h']; cases h; rfl
  · rename_i d h1 h2 h'
    rw [isAgg_run h']
    cases h
    cases d <;> first | rfl | exact (h1 _ rfl).elim | exact (h2 _ _ rfl).elim
  · cases h
theorem sizB_run {P : Program} {t : TypeId} {x : Nat} {w : World} (h : sizB P t = some x) : (sizeOf t).run P w = .ok x w := by
  unfold sizB at h
  split at h
  · rename_i h'; rw [sizeOf_run h']; cases h; rfl
  · cases h

theorem run_loadVar_one {P : Program} {t : TypeId} {a : Addr} {w : World} {v : Value} (h : aggB P t = some false) (hc : w.cell? a = some v) : (loadVar t a).run P w = .ok v w := by
  unfold loadVar
  rw [Sem.run_bind, aggB_run h]
  simp only [Result.andThen, Bool.false_eq_true, if_false]
  exact run_load_cell hc
theorem run_loadVar_agg {P : Program} {t : TypeId} {b o n : Nat} {w : World} {vs : List Value} (h : aggB P t = some true) (hn : sizB P t = some n) (hl : vs.length = n)
    (hc : ∀ j v, vs[j]? = some v → w.cell? ⟨b, o + j, none⟩ = some v) : (loadVar t ⟨b, o, none⟩).run P w = .ok (.agg vs.toArray) w := by
  unfold loadVar
  rw [Sem.run_bind, aggB_run h]
  simp only [Result.andThen, if_true, Sem.run_bind, sizB_run hn]
  rw [run_loadCells hl hc]
  rfl

theorem run_storeVar {P : Program} {t : TypeId} {b o T lo hi : Nat} {w : World} {cs : List Value} {v : Value} (hn : sizB P t = some v.cells.size) (h1 : ∀ u ∈ v.cells.toList, u.oneCell' = true)
    (h : w.heap[b]? = some (.cells cs.toArray T (lo, hi))) (hf : hi ≤ lo ∨ cs.length ≤ lo) (hb : o + v.cells.size ≤ cs.length) :
    ∃ w', (storeVar t ⟨b, o, none⟩ v).run P w = .ok () w' ∧ w'.heap[b]? = some (.cells (over cs o v.cells.toList).toArray T (lo, hi)) ∧
      w'.os = w.os ∧ w'.tape = w.tape ∧ w'.output = w.output ∧ w'.heap.size = w.heap.size ∧ ∀ c, c ≠ b → w'.heap[c]? = w.heap[c]? := by
  obtain ⟨w', hr, hw, r⟩ := run_storeCells (P := P) v.cells.toList 0 w cs h1 h hf (by simpa using hb)
  refine ⟨w', ?_, hw, r⟩
  unfold storeVar
  rw [Sem.run_bind, sizB_run hn]
  simp only [Result.andThen, ne_eq, not_true_eq_false, if_false]
  exact hr

theorem over_one (cs : List Value) (o : Nat) (v : Value) : over cs o [v] = cs.set o v := rfl
theorem over_get (cs : List Value) (o : Nat) (vs : List Value) (n : Nat) (h : o + vs.length ≤ cs.length) :
    (over cs o vs)[n]? = if o ≤ n ∧ n < o + vs.length then vs[n - o]? else cs[n]? := by
  induction vs generalizing cs o with
  | nil => simp [over]; intro h1 h2; omega
  | cons v vs ih =>
    simp only [List.length_cons] at h
    simp only [over, List.length_cons]
    rw [ih (cs.set o v) (o + 1) (by simp; omega)]
    by_cases h1 : o + 1 ≤ n ∧ n < o + 1 + vs.length
    · rw [if_pos h1, if_pos (by omega)]
      rw [show n - o = (n - (o + 1)) + 1 by omega]; simp
    · rw [if_neg h1]
      by_cases h2 : n = o
      · subst h2; rw [if_pos (by omega)]; simp only [Nat.sub_self, List.getElem?_cons_zero]; rw [List.getElem?_set_self (by omega)]
      · rw [if_neg (by omega)]; simp [Ne.symm h2]
theorem over_all (cs vs : List Value) (h : vs.length = cs.length) : over cs 0 vs = vs := by
  apply List.ext_getElem?
  intro n
  rw [over_get cs 0 vs n (by omega)]
  by_cases hn : n < vs.length
  · rw [if_pos (by omega)]; simp
  · rw [if_neg (by omega), List.getElem?_eq_none (by omega), List.getElem?_eq_none (by omega)]

theorem over_append (old post vs : List Value) (h : vs.length ≤ post.length) : over (old ++ post) old.length vs = old ++ vs ++ post.drop vs.length := by
  apply List.ext_getElem?
  intro n
  rw [over_get _ _ _ _ (by simp; omega)]
  by_cases h1 : n < old.length
  · rw [if_neg (by omega), List.getElem?_append_left h1, List.append_assoc, List.getElem?_append_left h1]
  · by_cases h2 : n < old.length + vs.length
    · rw [if_pos (by omega), List.append_assoc, List.getElem?_append_right (by omega), List.getElem?_append_left (by omega)]
    · rw [if_neg (by omega), List.getElem?_append_right (by omega), List.append_assoc, List.getElem?_append_right (by omega), List.getElem?_append_right (by omega), List.getElem?_drop]
      congr 1; omega


theorem svals_one (l : List Sg) : ∀ u ∈ svals l, u.oneCell' = true := by
  intro u hu; simp only [svals, List.mem_map] at hu; obtain ⟨c, _, rfl⟩ := hu; exact c.oneCell
theorem BV.cells_one (x : BV) : ∀ u ∈ x.val.cells.toList, u.oneCell' = true := by
  rw [BV.val_cells]; exact svals_one _
theorem var_cell {w : World} {b : Nat} {T : TypeId} {l : List Sg} {n : Nat} {v : Value} (h : (HB.var T l).Is w b) (hv : (svals l)[n]? = some v) : w.cell? ⟨b, n, none⟩ = some v := by
  obtain ⟨lo, hi, h1, _⟩ := h
  rw [cell_of_row w b n _ _ _ h1]
  simpa using hv

/-! ### The cells of a row of elements -/
theorem Enc.vals_len (E : Enc) {L : List E.α} (h : E.wf L) : (E.vals L).length = L.length * E.sz := by
  induction L with
  | nil => simp [Enc.vals]
  | cons x L ih =>
    have := ih fun y hy => h y (List.mem_cons_of_mem _ hy)
    simp only [Enc.vals, List.flatMap_cons, List.length_append, List.length_cons] at this ⊢
    rw [this, svals_len (h x (List.mem_cons_self ..)), E.len, Nat.succ_mul]; omega
theorem Enc.vals_append (E : Enc) (L M : List E.α) : E.vals (L ++ M) = E.vals L ++ E.vals M := List.flatMap_append
theorem Enc.wf_append {E : Enc} {L M : List E.α} (h : E.wf L) (h' : E.wf M) : E.wf (L ++ M) := fun x hx => (List.mem_append.1 hx).elim (h x) (h' x)
theorem Enc.wf_sub {E : Enc} {L M : List E.α} (h : E.wf L) (hs : ∀ x ∈ M, x ∈ L) : E.wf M := fun x hx => h x (hs x hx)
theorem Enc.wf_set {E : Enc} {L : List E.α} (h : E.wf L) {i : Nat} {x : E.α} (hx : swf (E.enc x)) : E.wf (L.set i x) := fun y hy => (List.mem_or_eq_of_mem_set hy).elim (h y) (fun e => e ▸ hx)
theorem Enc.wf_get {E : Enc} {L : List E.α} (h : E.wf L) {i : Nat} (hi : i < L.length) : swf (E.enc (L.getD i E.dflt)) := by
  rw [List.getD_eq_getElem?_getD, List.getElem?_eq_getElem hi]; exact h _ (List.getElem_mem hi)
theorem Enc.vals_split (E : Enc) {L : List E.α} (h : E.wf L) (i : Nat) : (E.vals L).drop (i * E.sz) = E.vals (L.drop i) ∧ (E.vals L).take (i * E.sz) = E.vals (L.take i) := by
  by_cases hi : i ≤ L.length
  · have e : E.vals L = E.vals (L.take i) ++ E.vals (L.drop i) := by rw [← E.vals_append, List.take_append_drop]
    have hl : (E.vals (L.take i)).length = i * E.sz := by rw [E.vals_len (Enc.wf_sub h fun x hx => List.mem_of_mem_take hx), List.length_take, Nat.min_eq_left hi]
    rw [e, ← hl]
    exact ⟨List.drop_left .., List.take_left ..⟩
  · have h1 : (E.vals L).length ≤ i * E.sz := by rw [E.vals_len h]; exact Nat.mul_le_mul_right _ (by omega)
    rw [List.drop_of_length_le h1, List.take_of_length_le h1, List.drop_of_length_le (by omega), List.take_of_length_le (by omega)]
    exact ⟨rfl, rfl⟩
theorem Enc.vals_get (E : Enc) {L : List E.α} (h : E.wf L) {i j : Nat} (hi : i < L.length) (hj : j < E.sz) :
    (E.vals L)[i * E.sz + j]? = (svals (E.enc (L.getD i E.dflt)))[j]? := by
  rw [← List.getElem?_drop, (E.vals_split h i).1]
  have : L.drop i = L[i] :: L.drop (i + 1) := List.drop_eq_getElem_cons hi
  rw [this]
  have e : L.getD i E.dflt = L[i] := by simp [List.getD_eq_getElem?_getD, hi]
  rw [e]
  simp only [Enc.vals, List.flatMap_cons]
  rw [List.getElem?_append_left]
  rw [svals_len (h _ (List.getElem_mem hi)), E.len]; exact hj
theorem Enc.vals_set (E : Enc) {L : List E.α} (h : E.wf L) {i : Nat} (hi : i < L.length) {x : E.α} (hx : swf (E.enc x)) :
    over (E.vals L) (i * E.sz) (svals (E.enc x)) = E.vals (L.set i x) := by
  have hlen := E.vals_len h
  have hb : i * E.sz + E.sz ≤ L.length * E.sz := by rw [← Nat.succ_mul]; exact Nat.mul_le_mul_right _ hi
  have hxl : (svals (E.enc x)).length = E.sz := by rw [svals_len hx, E.len]
  have hset := Enc.wf_set (i := i) h hx
  apply List.ext_getElem?
  intro n
  rw [over_get _ _ _ _ (by rw [hlen, hxl]; exact hb)]
  by_cases hn : n < L.length * E.sz
  · have hsz : 0 < E.sz := by
      rcases Nat.eq_zero_or_pos E.sz with h | h
      · rw [h] at hn; simp at hn
      · exact h
    have hq : n / E.sz < L.length := (Nat.div_lt_iff_lt_mul hsz).2 hn
    have hr : n % E.sz < E.sz := Nat.mod_lt _ hsz
    have he : n = (n / E.sz) * E.sz + n % E.sz := by rw [Nat.mul_comm]; exact (Nat.div_add_mod n E.sz).symm
    have e1 := E.vals_get h hq hr
    have e2 := E.vals_get hset (i := n / E.sz) (j := n % E.sz) (by simpa using hq) hr
    rw [← he] at e1 e2
    rw [e1, e2, hxl]
    have hd : n / E.sz * E.sz + n % E.sz = n := he.symm
    by_cases h1 : i = n / E.sz
    · have : i * E.sz ≤ n ∧ n < i * E.sz + E.sz := by rw [h1]; omega
      rw [if_pos this]
      have e3 : (L.set i x).getD (n / E.sz) E.dflt = x := by rw [h1]; simp [List.getD_eq_getElem?_getD, hq]
      rw [e3]; congr 1; rw [h1]; omega
    · have : ¬ (i * E.sz ≤ n ∧ n < i * E.sz + E.sz) := by
        rintro ⟨h2, h3⟩
        apply h1
        exact (Nat.div_eq_of_lt_le (by omega) (by rw [Nat.succ_mul]; omega)).symm
      rw [if_neg this]
      have e3 : (L.set i x).getD (n / E.sz) E.dflt = L.getD (n / E.sz) E.dflt := by simp [List.getD_eq_getElem?_getD, List.getElem?_set, h1]
      rw [e3]
  · rw [if_neg (by rw [hxl]; omega), List.getElem?_eq_none (by omega), List.getElem?_eq_none (by rw [E.vals_len hset]; simp only [List.length_set]; omega)]
end Go.SY

/- What a place of known memory holds, and what it holds behind a store. -/
namespace Go.SY

/-- A small number, written out. -/
def lit (n : Nat) (K : Nat → Prop) : Prop :=
  match n with
  | 0 => K 0 | 1 => K 1 | 2 => K 2 | 3 => K 3 | 4 => K 4 | 5 => K 5 | 6 => K 6 | 7 => K 7 | 8 => K 8 | 9 => K 9
  | 10 => K 10 | 11 => K 11 | 12 => K 12 | 13 => K 13 | 14 => K 14 | 15 => K 15 | 16 => K 16 | 17 => K 17 | 18 => K 18 | 19 => K 19
  | 20 => K 20 | 21 => K 21 | 22 => K 22 | 23 => K 23 | 24 => K 24 | 25 => K 25 | 26 => K 26 | 27 => K 27 | 28 => K 28 | 29 => K 29
  | 30 => K 30 | 31 => K 31 | 32 => K 32 | 33 => K 33 | 34 => K 34 | 35 => K 35 | 36 => K 36 | 37 => K 37 | 38 => K 38 | 39 => K 39
  | 40 => K 40 | 41 => K 41 | 42 => K 42 | 43 => K 43 | 44 => K 44 | 45 => K 45 | 46 => K 46 | 47 => K 47 | 48 => K 48 | 64 => K 64
  | n => K n
theorem lit_ok {n : Nat} {K : Nat → Prop} (h : lit n K) : K n := by
  unfold lit at h
  split at h <;> exact h

def idx (i sz j : Nat) : Nat :=
  match sz, j with
  | 1, 0 => i
  | sz, 0 => i * sz
  | sz, j => i * sz + j
theorem idx_eq (i sz j : Nat) : idx i sz j = i * sz + j := by unfold idx; split <;> simp
def idxK (i sz j : Nat) (K : Nat → Prop) : Prop :=
  match sz, j with
  | 1, 0 => K i
  | sz, 0 => K (i * sz)
  | sz, j => K (i * sz + j)
theorem idxK_ok {i sz j : Nat} {K : Nat → Prop} (h : idxK i sz j K) : K (idx i sz j) := by
  rw [idx_eq]
  unfold idxK at h
  split at h
  · simpa using h
  · simpa using h
  · exact h
theorem drop_app {α : Type} {a b : List α} {n : Nat} (h : a.length ≤ n) : (a ++ b).drop n = b.drop (n - a.length) := by
  rw [List.drop_append, List.drop_of_length_le h, List.nil_append]
theorem take_app {α : Type} {a b : List α} {n : Nat} (h : a.length ≤ n) : (a ++ b).take n = a ++ b.take (n - a.length) := by
  rw [List.take_append, List.take_of_length_le h]
theorem drop_take_app {α : Type} {a b : List α} {n z : Nat} (h : n + z ≤ a.length) : ((a ++ b).drop n).take z = (a.drop n).take z := by
  rw [List.drop_append, List.take_append_of_le_length (by simp; omega)]

/-! ### Parts of a row of cells -/
def segLook : List Sg → Nat → (SC → Prop) → Prop
  | [], _, _ => False
  | .c x :: l, n, K => (match n with | 0 => K x | n + 1 => segLook l n K)
  | .arr s m L :: l, n, K => (match Nat.blt n m with | true => K (s.enc (L.getD n s.dflt)) | false => segLook l (n - m) K)
theorem arr_get {s : Sk} {L : List s.α} {n : Nat} (h : n < L.length) : (L.map s.enc)[n]? = some (s.enc (L.getD n s.dflt)) := by
  simp [List.getD_eq_getElem?_getD, h]
theorem segLook_ok : ∀ {l : List Sg} {n : Nat} {K : SC → Prop}, segLook l n K → swf l → ∃ c, K c ∧ (scs l)[n]? = some c := by
  intro l
  induction l with
  | nil => intro n K h; exact h.elim
  | cons g l ih =>
    intro n K h hw
    cases g with
    | c x =>
      cases n with
      | zero => exact ⟨x, h, rfl⟩
      | succ n => obtain ⟨c, hc, he⟩ := ih h hw.2; exact ⟨c, hc, by simpa [scs, Sg.cs] using he⟩
    | arr s m L =>
      have hL : L.length = m := hw.1
      unfold segLook at h
      split at h
      · rename_i hb
        rw [Nat.blt_eq] at hb
        refine ⟨_, h, ?_⟩
        simp only [scs, Sg.cs]
        rw [List.getElem?_append_left (by simpa [hL] using hb), arr_get (by omega)]
      · rename_i hb
        have hb : ¬ n < m := by rw [← Nat.blt_eq, hb]; simp
        obtain ⟨c, hc, he⟩ := ih h hw.2
        refine ⟨c, hc, ?_⟩
        simp only [scs, Sg.cs]
        rw [List.getElem?_append_right (by simp [hL]; omega)]
        simpa [hL] using he

def segEl : List Sg → Nat → Nat → (SC → Prop) → Prop
  | [], _, _, _ => False
  | .c _ :: l, b, i, K => (match b with | 0 => False | b + 1 => segEl l b i K)
  | .arr s m L :: l, b, i, K => (match b with
    | 0 => Chk (i < m) (K (s.enc (L.getD i s.dflt)))
    | b => (match Nat.ble m b with | true => segEl l (b - m) i K | false => False))
theorem segEl_ok : ∀ {l : List Sg} {b i : Nat} {K : SC → Prop}, segEl l b i K → swf l → ∃ c, K c ∧ (scs l)[b + i]? = some c := by
  intro l
  induction l with
  | nil => intro b i K h; exact h.elim
  | cons g l ih =>
    intro b i K h hw
    cases g with
    | c x =>
      cases b with
      | zero => exact h.elim
      | succ b =>
        obtain ⟨c, hc, he⟩ := ih h hw.2
        exact ⟨c, hc, by rw [show b + 1 + i = (b + i) + 1 by omega]; simpa [scs, Sg.cs] using he⟩
    | arr s m L =>
      have hL : L.length = m := hw.1
      unfold segEl at h
      split at h
      · obtain ⟨hi, h⟩ := h
        refine ⟨_, h, ?_⟩
        simp only [scs, Sg.cs, Nat.zero_add]
        rw [List.getElem?_append_left (by simpa [hL] using hi), arr_get (by omega)]
      · split at h
        · rename_i hb
          have hb := Nat.le_of_ble_eq_true hb
          obtain ⟨c, hc, he⟩ := ih h hw.2
          refine ⟨c, hc, ?_⟩
          simp only [scs, Sg.cs]
          rw [List.getElem?_append_right (by simp [hL]; omega), ← he]
          congr 1
          simp [hL]; omega
        · exact h.elim

def segTake : List Sg → Nat → Nat → (List Sg → Prop) → Prop
  | _, _, 0, K => K []
  | [], _, _ + 1, _ => False
  | .c x :: l, 0, s + 1, K => segTake l 0 s fun r => K (.c x :: r)
  | .c _ :: l, n + 1, s + 1, K => segTake l n (s + 1) K
  | .arr s m L :: l, n, size + 1, K => (match Nat.ble m n with
    | true => segTake l (n - m) (size + 1) K
    | false => (match n, Nat.ble m (size + 1) with
      | 0, true => segTake l 0 (size + 1 - m) fun r => K (.arr s m L :: r)
      | n, _ => (match Nat.ble (n + (size + 1)) m with
        | true => lit (size + 1) fun z => K [.arr s z ((L.drop n).take z)]
        | false => False)))
theorem segTake_ok : ∀ {l : List Sg} {n size : Nat} {K : List Sg → Prop}, segTake l n size K → swf l → ∃ r, K r ∧ swf r ∧ slen r = size ∧ scs r = ((scs l).drop n).take size := by
  intro l
  induction l with
  | nil =>
    intro n size K h hw
    cases size with
    | zero => exact ⟨[], h, trivial, rfl, by simp [scs]⟩
    | succ s => exact h.elim
  | cons g l ih =>
    intro n size K h hw
    cases size with
    | zero => cases g <;> exact ⟨[], h, trivial, rfl, by simp [scs]⟩
    | succ size =>
      cases g with
      | c x =>
        cases n with
        | zero =>
          obtain ⟨r, hr, h1, h2, h3⟩ := ih h hw.2
          exact ⟨_, hr, ⟨trivial, h1⟩, by simp [slen, Sg.len, h2]; omega, by simp [scs, Sg.cs] at h3 ⊢; exact h3⟩
        | succ n =>
          obtain ⟨r, hr, h1, h2, h3⟩ := ih h hw.2
          exact ⟨_, hr, h1, h2, by simpa [scs, Sg.cs] using h3⟩
      | arr s m L =>
        have hL : L.length = m := hw.1
        unfold segTake at h
        split at h
        · rename_i hb
          have hb := Nat.le_of_ble_eq_true hb
          obtain ⟨r, hr, h1, h2, h3⟩ := ih h hw.2
          refine ⟨_, hr, h1, h2, ?_⟩
          rw [h3]; simp only [scs, Sg.cs]
          rw [drop_app (by simpa [hL] using hb), List.length_map, hL]
        · split at h
          · rename_i hm _
            have hm := Nat.le_of_ble_eq_true hm
            obtain ⟨r, hr, h1, h2, h3⟩ := ih h hw.2
            refine ⟨_, hr, ⟨hL, h1⟩, by simp [slen, Sg.len, h2]; omega, ?_⟩
            simp only [scs, Sg.cs, h3, List.drop_zero]
            rw [take_app (by simpa [hL] using hm), List.length_map, hL]
          · split at h
            · rename_i hb
              have hb := Nat.le_of_ble_eq_true hb
              refine ⟨_, lit_ok h, ⟨?_, trivial⟩, ?_, ?_⟩
              · simp [Sg.wf, hL]; omega
              · simp [slen, Sg.len]
              · simp only [scs, Sg.cs, List.append_nil]
                rw [drop_take_app (by simpa [hL] using hb)]; simp
            · exact h.elim

def segTakeEl : List Sg → Nat → Nat → Nat → (List Sg → Prop) → Prop
  | [], _, _, _, _ => False
  | .c _ :: l, b, i, z, K => (match b with | 0 => False | b + 1 => segTakeEl l b i z K)
  | .arr s m L :: l, b, i, z, K => (match b with
    | 0 => Chk (i + z ≤ m) (K [.arr s z ((L.drop i).take z)])
    | b => (match Nat.ble m b with | true => segTakeEl l (b - m) i z K | false => False))
theorem segTakeEl_ok : ∀ {l : List Sg} {b i z : Nat} {K : List Sg → Prop}, segTakeEl l b i z K → swf l → ∃ r, K r ∧ swf r ∧ slen r = z ∧ scs r = ((scs l).drop (b + i)).take z := by
  intro l
  induction l with
  | nil => intro b i z K h; exact h.elim
  | cons g l ih =>
    intro b i z K h hw
    cases g with
    | c x =>
      cases b with
      | zero => exact h.elim
      | succ b =>
        obtain ⟨r, hr, h1, h2, h3⟩ := ih h hw.2
        exact ⟨r, hr, h1, h2, by rw [h3, show b + 1 + i = (b + i) + 1 by omega]; simp [scs, Sg.cs]⟩
    | arr s m L =>
      have hL : L.length = m := hw.1
      unfold segTakeEl at h
      split at h
      · obtain ⟨hi, h⟩ := h
        refine ⟨_, h, ⟨by simp [Sg.wf, hL]; omega, trivial⟩, by simp [slen, Sg.len], ?_⟩
        simp only [scs, Sg.cs, List.append_nil, Nat.zero_add]
        rw [drop_take_app (by simpa [hL] using hi)]; simp
      · split at h
        · rename_i hb
          have hb := Nat.le_of_ble_eq_true hb
          obtain ⟨r, hr, h1, h2, h3⟩ := ih h hw.2
          refine ⟨r, hr, h1, h2, ?_⟩
          rw [h3]; simp only [scs, Sg.cs]
          rw [drop_app (by simp [hL]; omega), List.length_map, hL]
          congr 2; omega
        · exact h.elim

/-! ### Behind a store -/
def appK : List Sg → List Sg → (List Sg → Prop) → Prop
  | [], r, K => K r
  | g :: l, r, K => appK l r fun z => K (g :: z)
theorem appK_ok : ∀ {a r : List Sg} {K : List Sg → Prop}, appK a r K → K (a ++ r) := by
  intro a
  induction a with
  | nil => intro r K h; exact h
  | cons g a ih => intro r K h; exact ih (K := fun z => K (g :: z)) h
def segDrop : List Sg → Nat → Option (List Sg)
  | l, 0 => some l
  | [], _ + 1 => none
  | .c _ :: l, n + 1 => segDrop l n
  | .arr _ m _ :: l, n + 1 => (match Nat.ble m (n + 1) with | true => segDrop l (n + 1 - m) | false => none)
theorem segDrop_ok : ∀ {l : List Sg} {n : Nat} {r : List Sg}, segDrop l n = some r → swf l → swf r ∧ scs r = (scs l).drop n ∧ n ≤ slen l := by
  intro l
  induction l with
  | nil =>
    intro n r h hw
    cases n with
    | zero => cases h; exact ⟨trivial, rfl, Nat.zero_le _⟩
    | succ n => cases h
  | cons g l ih =>
    intro n r h hw
    cases n with
    | zero => cases g <;> (cases h; exact ⟨hw, rfl, Nat.zero_le _⟩)
    | succ n =>
      cases g with
      | c x =>
        obtain ⟨h1, h2, h3⟩ := ih h hw.2
        exact ⟨h1, by rw [h2]; simp [scs, Sg.cs], by simp [slen, Sg.len]; omega⟩
      | arr s m L =>
        have hL : L.length = m := hw.1
        unfold segDrop at h
        split at h
        · rename_i hb
          have hb := Nat.le_of_ble_eq_true hb
          obtain ⟨h1, h2, h3⟩ := ih h hw.2
          refine ⟨h1, ?_, by simp [slen, Sg.len]; omega⟩
          rw [h2]; simp only [scs, Sg.cs]
          rw [drop_app (by simp [hL]; omega), List.length_map, hL]
        · cases h

/-- Cells put over others, from a place on. -/
def putL {α : Type} (l : List α) (n : Nat) (g : List α) : List α := l.take n ++ g ++ l.drop (n + g.length)
theorem putL_cons {α : Type} (x : α) (l : List α) (n : Nat) (g : List α) : putL (x :: l) (n + 1) g = x :: putL l n g := by
  simp [putL, show n + 1 + g.length = (n + g.length) + 1 by omega]
theorem putL_app {α : Type} (a l : List α) (n : Nat) (g : List α) (h : a.length ≤ n) : putL (a ++ l) n g = a ++ putL l (n - a.length) g := by
  simp only [putL]
  rw [List.take_append, List.drop_append, List.take_of_length_le h, List.drop_of_length_le (by omega)]
  simp only [List.nil_append, List.append_assoc]
  congr 3
  congr 1; omega
theorem over_put (cs : List Value) (o : Nat) (vs : List Value) (h : o + vs.length ≤ cs.length) : over cs o vs = putL cs o vs := by
  apply List.ext_getElem?
  intro n
  rw [over_get _ _ _ _ h, putL]
  by_cases h1 : n < o
  · rw [if_neg (by omega), List.append_assoc, List.getElem?_append_left (by simp; omega), List.getElem?_take, if_pos h1]
  · by_cases h2 : n < o + vs.length
    · rw [if_pos (by omega), List.append_assoc, List.getElem?_append_right (by simp; omega), List.getElem?_append_left (by simp; omega)]
      congr 1; simp; omega
    · rw [if_neg (by omega), List.getElem?_append_right (by simp; omega), List.getElem?_drop]
      congr 1; simp; omega

def segPut : List Sg → Nat → SC → (List Sg → Prop) → Prop
  | [], _, _, _ => False
  | .c x :: l, n, v, K => (match n with | 0 => K (.c v :: l) | n + 1 => segPut l n v fun r => K (.c x :: r))
  | .arr s m L :: l, n, v, K => (match Nat.blt n m with
    | true => (match s.dec v with | some y => K (.arr s m (L.set n y) :: l) | none => False)
    | false => segPut l (n - m) v fun r => K (.arr s m L :: r))
theorem arr_set {s : Sk} {L : List s.α} {n : Nat} {y : s.α} {v : SC} (hy : s.enc y = v) (h : n < L.length) (r : List SC) : (L.set n y).map s.enc ++ r = putL (L.map s.enc ++ r) n [v] := by
  subst hy
  rw [putL, List.map_set, List.set_eq_take_append_cons_drop, if_pos (by simpa using h)]
  rw [List.take_append, List.drop_append]
  have h1 : n - (L.map s.enc).length = 0 := by simp; omega
  have h2 : n + [s.enc y].length - (L.map s.enc).length = 0 := by simp; omega
  rw [h1, h2]; simp
theorem segPut_ok : ∀ {l : List Sg} {n : Nat} {v : SC} {K : List Sg → Prop}, segPut l n v K → swf l → ∃ r, K r ∧ swf r ∧ scs r = putL (scs l) n [v] ∧ n < slen l := by
  intro l
  induction l with
  | nil => intro n v K h; exact h.elim
  | cons g l ih =>
    intro n v K h hw
    cases g with
    | c x =>
      cases n with
      | zero => exact ⟨_, h, ⟨trivial, hw.2⟩, by simp [scs, Sg.cs, putL], by simp [slen, Sg.len]; omega⟩
      | succ n =>
        obtain ⟨r, hr, h1, h2, h3⟩ := ih h hw.2
        exact ⟨_, hr, ⟨trivial, h1⟩, by simp only [scs, Sg.cs, List.singleton_append, putL_cons, h2], by simp [slen, Sg.len]; omega⟩
    | arr s m L =>
      have hL : L.length = m := hw.1
      unfold segPut at h
      split at h
      · rename_i hb
        rw [Nat.blt_eq] at hb
        split at h
        · rename_i y hy
          refine ⟨_, h, ⟨by simpa [Sg.wf] using hL, hw.2⟩, ?_, by simp [slen, Sg.len]; omega⟩
          simp only [scs, Sg.cs]
          exact arr_set (Sk.dec_ok hy) (by omega) _
        · exact h.elim
      · rename_i hb
        have hb : ¬ n < m := by rw [← Nat.blt_eq, hb]; simp
        obtain ⟨r, hr, h1, h2, h3⟩ := ih h hw.2
        refine ⟨_, hr, ⟨hL, h1⟩, ?_, by simp [slen, Sg.len]; omega⟩
        simp only [scs, Sg.cs, h2]
        rw [putL_app _ _ _ _ (by simp [hL]; omega)]
        simp [hL]

def segPutEl : List Sg → Nat → Nat → SC → (List Sg → Prop) → Prop
  | [], _, _, _, _ => False
  | .c x :: l, b, i, v, K => (match b with | 0 => False | b + 1 => segPutEl l b i v fun r => K (.c x :: r))
  | .arr s m L :: l, b, i, v, K => (match b with
    | 0 => (match s.dec v with | some y => Chk (i < m) (K (.arr s m (L.set i y) :: l)) | none => False)
    | b => (match Nat.ble m b with | true => segPutEl l (b - m) i v fun r => K (.arr s m L :: r) | false => False))
theorem segPutEl_ok : ∀ {l : List Sg} {b i : Nat} {v : SC} {K : List Sg → Prop}, segPutEl l b i v K → swf l → ∃ r, K r ∧ swf r ∧ scs r = putL (scs l) (b + i) [v] ∧ b + i < slen l := by
  intro l
  induction l with
  | nil => intro b i v K h; exact h.elim
  | cons g l ih =>
    intro b i v K h hw
    cases g with
    | c x =>
      cases b with
      | zero => exact h.elim
      | succ b =>
        obtain ⟨r, hr, h1, h2, h3⟩ := ih h hw.2
        exact ⟨_, hr, ⟨trivial, h1⟩, by simp only [scs, Sg.cs, List.singleton_append, show b + 1 + i = (b + i) + 1 by omega, putL_cons, h2], by simp [slen, Sg.len]; omega⟩
    | arr s m L =>
      have hL : L.length = m := hw.1
      unfold segPutEl at h
      split at h
      · split at h
        · rename_i y hy
          obtain ⟨hi, h⟩ := h
          refine ⟨_, h, ⟨by simpa [Sg.wf] using hL, hw.2⟩, ?_, by simp [slen, Sg.len]; omega⟩
          simp only [scs, Sg.cs, Nat.zero_add]
          exact arr_set (Sk.dec_ok hy) (by omega) _
        · exact h.elim
      · split at h
        · rename_i hb
          have hb := Nat.le_of_ble_eq_true hb
          obtain ⟨r, hr, h1, h2, h3⟩ := ih h hw.2
          refine ⟨_, hr, ⟨hL, h1⟩, ?_, by simp [slen, Sg.len]; omega⟩
          simp only [scs, Sg.cs, h2]
          rw [putL_app _ _ _ _ (by simp [hL]; omega)]
          simp only [List.length_map, hL]
          congr 2; omega
        · exact h.elim

/-- An array put into a greater one. -/
def arrPut : Sg → Nat → List Sg → Option Sg
  | .arr s m L, n, [.arr s' m' M] => if h : s' = s then (match Nat.ble (n + m') m with | true => some (.arr s m (L.take n ++ (h ▸ M) ++ L.drop (n + m'))) | false => none) else none
  | _, _, _ => none
theorem arrPut_ok {x y : Sg} {n : Nat} {g : List Sg} (h : arrPut x n g = some y) (hx : x.wf) (hg : swf g) : y.wf ∧ (∀ r, y.cs ++ r = putL (x.cs ++ r) n (scs g)) ∧ n + slen g ≤ x.len ∧ y.len = x.len := by
  unfold arrPut at h
  split at h
  · rename_i s m L s' m' M
    split at h
    · rename_i hs
      subst hs
      split at h
      · rename_i hb
        have hb := Nat.le_of_ble_eq_true hb
        cases h
        have hL : L.length = m := hx
        have hM : M.length = m' := hg.1
        refine ⟨?_, fun r => ?_, by simp [slen, Sg.len]; omega, rfl⟩
        · show (L.take n ++ M ++ L.drop (n + m')).length = m
          simp only [List.length_append, List.length_take, List.length_drop]; omega
        · simp only [Sg.cs, scs, List.append_nil, putL, List.map_append, List.map_take, List.map_drop, List.length_map, hM]
          rw [List.take_append_of_le_length (by simp [hL]; omega), List.drop_append_of_le_length (by simp [hL]; omega), List.append_assoc]
      · cases h
    · cases h
  · cases h
def segPutA : List Sg → Nat → List Sg → (List Sg → Prop) → Prop
  | l, 0, g, K => (match segDrop l (slen g) with | some r => appK g r K | none => (match l with | x :: l => (match arrPut x 0 g with | some y => K (y :: l) | none => False) | [] => False))
  | [], _ + 1, _, _ => False
  | .c x :: l, n + 1, g, K => segPutA l n g fun r => K (.c x :: r)
  | .arr s m L :: l, n + 1, g, K => (match Nat.ble m (n + 1) with | true => segPutA l (n + 1 - m) g fun r => K (.arr s m L :: r) | false => (match arrPut (.arr s m L) (n + 1) g with | some y => K (y :: l) | none => False))
theorem segPutA_ok : ∀ {l : List Sg} {n : Nat} {g : List Sg} {K : List Sg → Prop}, segPutA l n g K → swf l → swf g → ∃ r, K r ∧ swf r ∧ scs r = putL (scs l) n (scs g) ∧ n + slen g ≤ slen l := by
  intro l
  induction l with
  | nil =>
    intro n g K h hw hg
    cases n with
    | zero =>
      unfold segPutA at h
      split at h
      · rename_i r hr
        obtain ⟨h1, h2, h3⟩ := segDrop_ok hr hw
        exact ⟨_, appK_ok h, swf_append.2 ⟨hg, h1⟩, by rw [scs_append, h2, putL, scs_len hg]; simp, by omega⟩
      · exact h.elim
    | succ n => exact h.elim
  | cons x l ih =>
    intro n g K h hw hg
    have one : ∀ {k : Nat} {y : Sg}, arrPut x k g = some y → K (y :: l) → ∃ r, K r ∧ swf r ∧ scs r = putL (scs (x :: l)) k (scs g) ∧ k + slen g ≤ slen (x :: l) := by
      intro k y hy hK
      obtain ⟨h1, h2, h3, _⟩ := arrPut_ok hy hw.1 hg
      exact ⟨_, hK, ⟨h1, hw.2⟩, h2 _, by simp [slen]; omega⟩
    cases n with
    | zero =>
      have h : (match segDrop (x :: l) (slen g) with | some r => appK g r K | none => (match arrPut x 0 g with | some y => K (y :: l) | none => False)) := by cases x <;> exact h
      split at h
      · rename_i r hr
        obtain ⟨h1, h2, h3⟩ := segDrop_ok hr hw
        exact ⟨_, appK_ok h, swf_append.2 ⟨hg, h1⟩, by rw [scs_append, h2, putL, scs_len hg]; simp, by omega⟩
      · split at h
        · rename_i y hy; exact one hy h
        · exact h.elim
    | succ n =>
      cases x with
      | c x =>
        obtain ⟨r, hr, h1, h2, h3⟩ := ih h hw.2 hg
        exact ⟨_, hr, ⟨trivial, h1⟩, by simp only [scs, Sg.cs, List.singleton_append, putL_cons, h2], by simp [slen, Sg.len]; omega⟩
      | arr s m L =>
        have hL : L.length = m := hw.1
        unfold segPutA at h
        split at h
        · rename_i hb
          have hb := Nat.le_of_ble_eq_true hb
          obtain ⟨r, hr, h1, h2, h3⟩ := ih h hw.2 hg
          refine ⟨_, hr, ⟨hL, h1⟩, ?_, by simp [slen, Sg.len]; omega⟩
          simp only [scs, Sg.cs, h2]
          rw [putL_app _ _ _ _ (by simp [hL]; omega)]
          simp [hL]
        · split at h
          · rename_i y hy; exact one hy h
          · exact h.elim

/-! ### A block's -/
def HB.look (hb : HB) (o : Off) (K : SC → Prop) : Prop :=
  match hb, o with
  | .var _ l, .lit n => segLook l n K
  | .ro l, .lit n => segLook l n K
  | .var _ l, .el b i s j => idxK i s j fun n => segEl l b n K
  | .ro l, .el b i s j => idxK i s j fun n => segEl l b n K
  | .own _ E x L, .el b i s j => Chk (b = x.off ∧ s = E.sz) (Chk (i < L.length) (segLook (E.enc (L.getD i E.dflt)) j K))
  | .view E x L, .el b i s j => Chk (b = x.off ∧ s = E.sz) (Chk (i < L.length) (segLook (E.enc (L.getD i E.dflt)) j K))
  | .grw _ E x L, .el b i s j => Chk (b = x.off ∧ s = E.sz) (Chk (i < L.length) (segLook (E.enc (L.getD i E.dflt)) j K))
  | _, _ => False
def HB.lookAll (hb : HB) (o : Off) (z : Nat) (K : List Sg → Prop) : Prop :=
  match hb, o with
  | .var _ l, .lit n => segTake l n z K
  | .ro l, .lit n => segTake l n z K
  | .var _ l, .el b i s j => idxK i s j fun n => segTakeEl l b n z K
  | .ro l, .el b i s j => idxK i s j fun n => segTakeEl l b n z K
  | .own _ E x L, .el b i s j => Chk (b = x.off ∧ s = E.sz) (Chk (i < L.length) (segTake (E.enc (L.getD i E.dflt)) j z K))
  | .view E x L, .el b i s j => Chk (b = x.off ∧ s = E.sz) (Chk (i < L.length) (segTake (E.enc (L.getD i E.dflt)) j z K))
  | _, _ => False

theorem svals_get {l : List Sg} {n : Nat} {c : SC} (h : (scs l)[n]? = some c) : (svals l)[n]? = some c.val := by simp [svals, h]

theorem own_cell {w : World} {b : Nat} {T : TypeId} {E : Enc} {x : SV} {L : List E.α} (h : ownIs w b T E x L) {n : Nat} {v : Value} (hv : (E.vals L)[n]? = some v) : w.cell? ⟨b, x.off + n, none⟩ = some v := by
  cases x with
  | nil => have h : L = [] := h; subst h; simp [Enc.vals] at hv
  | «at» b' o len cap =>
    obtain ⟨_, _, pre, post, lo, hi, h1, _, hp, _⟩ := h
    rw [cell_of_row w b _ _ _ _ h1]
    have hn : n < (E.vals L).length := (List.getElem?_eq_some_iff.1 hv).1
    simp only [SV.off, List.getElem?_toArray, List.append_assoc]
    rw [List.getElem?_append_right (by omega), ← hp, Nat.add_sub_cancel_left, List.getElem?_append_left hn, hv]
theorem view_cell {w : World} {b : Nat} {E : Enc} {x : SV} {L : List E.α} (h : viewIs w b E x L) {n : Nat} {v : Value} (hv : (E.vals L)[n]? = some v) : w.cell? ⟨b, x.off + n, none⟩ = some v := by
  cases x with
  | nil => have h : L = [] := h; subst h; simp [Enc.vals] at hv
  | «at» b' o len cap => exact h.2.2.2.2 _ _ hv

theorem grw_cell {w : World} {b : Nat} {T : TypeId} {E : Enc} {x : SV} {L : List E.α} (h : grwIs w b T E x L) {n : Nat} {v : Value} (hv : (E.vals L)[n]? = some v) : w.cell? ⟨b, x.off + n, none⟩ = some v := by
  cases x with
  | nil => have h : L = [] := h; subst h; simp [Enc.vals] at hv
  | «at» b' o len cap =>
    obtain ⟨_, _, pre, post, lo, hi, h1, _, hp, _⟩ := h
    rw [cell_of_row w b _ _ _ _ h1]
    have hn : n < (E.vals L).length := (List.getElem?_eq_some_iff.1 hv).1
    simp only [SV.off, List.getElem?_toArray, List.append_assoc]
    rw [List.getElem?_append_right (by omega), ← hp, Nat.add_sub_cancel_left, List.getElem?_append_left hn, hv]
theorem grw_view {w : World} {b : Nat} {T : TypeId} {E : Enc} {x : SV} {L : List E.α} (hi : (HB.grw T E x L).Is w b) : viewIs w b E x L := by
  have h := hi.2
  cases x with
  | nil => exact h
  | «at» b' o len cap =>
    have hc : ∀ j v, (E.vals L)[j]? = some v → w.cell? ⟨b, o + j, none⟩ = some v := fun j v hv => grw_cell h hv
    have hlt := hi.lt rfl (by intro h; cases h)
    obtain ⟨h1, h2, _, _, _, _, _, _, _, h3, _⟩ := h
    exact ⟨h1, h2, h3, hlt, hc⟩
def HB.cwf : HB → Prop
  | .var _ l => swf l
  | .ro l => swf l
  | .own _ E _ L => E.wf L
  | .view E _ L => E.wf L
  | .grw _ E _ L => E.wf L
  | .obj _ => True
  | .sem _ => True
theorem HB.Is.cwf {hb : HB} {w : World} {b : Nat} (h : hb.Is w b) : hb.cwf := by
  cases hb with
  | var T l => exact h.choose_spec.choose_spec.2.2
  | ro l => exact h.2.2
  | own T E x L => exact h.1
  | view E x L => exact h.1
  | grw T E x L => exact h.1
  | obj o => trivial
  | sem X => trivial
def HWf (H : Heap) : Prop := ∀ k b hb, hget H k = some (b, hb) → hb.cwf
theorem Rep.hwf {C : Ctx} {H : Heap} {w : World} (h : Rep C H w) : HWf H := fun k b hb hk => (h.is k b hb hk).cwf

theorem enc_get {E : Enc} {L : List E.α} (hw : E.wf L) {i j : Nat} {c : SC} (hi : i < L.length) (hc : (scs (E.enc (L.getD i E.dflt)))[j]? = some c) : (E.vals L)[i * E.sz + j]? = some c.val := by
  have hj : j < E.sz := by
    have := (List.getElem?_eq_some_iff.1 hc).1
    rwa [scs_len (Enc.wf_get hw hi), E.len] at this
  rw [E.vals_get hw hi hj]; exact svals_get hc

theorem HB.look_ok {hb : HB} {o : Off} {K : SC → Prop} (hwf : hb.cwf) (h : hb.look o K) :
    ∃ x, K x ∧ ∀ (w : World) (b : Nat), hb.Is w b → w.cell? ⟨b, o.val, none⟩ = some x.val := by
  unfold HB.look at h
  split at h
  · obtain ⟨c, hc, he⟩ := segLook_ok h hwf
    exact ⟨c, hc, fun w b hi => var_cell hi (svals_get he)⟩
  · obtain ⟨c, hc, he⟩ := segLook_ok h hwf
    exact ⟨c, hc, fun w b hi => hi.2.1 _ _ (svals_get he)⟩
  · obtain ⟨c, hc, he⟩ := segEl_ok (idxK_ok (K := fun n => segEl _ _ n _) h) hwf
    rw [idx_eq, ← Nat.add_assoc] at he
    exact ⟨c, hc, fun w b hi => var_cell hi (svals_get he)⟩
  · obtain ⟨c, hc, he⟩ := segEl_ok (idxK_ok (K := fun n => segEl _ _ n _) h) hwf
    rw [idx_eq, ← Nat.add_assoc] at he
    exact ⟨c, hc, fun w b hi => hi.2.1 _ _ (svals_get he)⟩
  · obtain ⟨⟨rfl, rfl⟩, hi, h⟩ := h
    obtain ⟨c, hc, he⟩ := segLook_ok h (Enc.wf_get hwf hi)
    refine ⟨c, hc, fun w b hI => ?_⟩
    have := own_cell hI.2 (enc_get hwf hi he)
    simpa [Off.val, Nat.add_assoc] using this
  · obtain ⟨⟨rfl, rfl⟩, hi, h⟩ := h
    obtain ⟨c, hc, he⟩ := segLook_ok h (Enc.wf_get hwf hi)
    refine ⟨c, hc, fun w b hI => ?_⟩
    have := view_cell hI.2 (enc_get hwf hi he)
    simpa [Off.val, Nat.add_assoc] using this
  · obtain ⟨⟨rfl, rfl⟩, hi, h⟩ := h
    obtain ⟨c, hc, he⟩ := segLook_ok h (Enc.wf_get hwf hi)
    refine ⟨c, hc, fun w b hI => ?_⟩
    have := grw_cell hI.2 (enc_get hwf hi he)
    simpa [Off.val, Nat.add_assoc] using this
  · exact h.elim

theorem sub_get {α : Type} {l r : List α} {n z : Nat} (h : r = (l.drop n).take z) {j : Nat} {x : α} (hj : r[j]? = some x) : l[n + j]? = some x := by
  subst h
  rw [List.getElem?_take] at hj
  split at hj
  · simpa using hj
  · cases hj
theorem HB.lookAll_ok {hb : HB} {o : Off} {z : Nat} {K : List Sg → Prop} (hwf : hb.cwf) (h : hb.lookAll o z K) :
    ∃ r, K r ∧ swf r ∧ slen r = z ∧ ∀ (w : World) (b : Nat), hb.Is w b → ∀ j v, (svals r)[j]? = some v → w.cell? ⟨b, o.val + j, none⟩ = some v := by
  have sv : ∀ {r : List Sg} {l : List SC} {n : Nat}, scs r = (l.drop n).take z → ∀ j v, (svals r)[j]? = some v → ∃ c, l[n + j]? = some c ∧ c.val = v := by
    intro r l n hr j v hv
    simp only [svals, List.getElem?_map, Option.map_eq_some_iff] at hv
    obtain ⟨c, hc, rfl⟩ := hv
    exact ⟨c, sub_get hr hc, rfl⟩
  unfold HB.lookAll at h
  split at h
  · obtain ⟨r, hr, h1, h2, h3⟩ := segTake_ok h hwf
    refine ⟨r, hr, h1, h2, fun w b hi j v hv => ?_⟩
    obtain ⟨c, hc, rfl⟩ := sv h3 j v hv
    exact var_cell hi (svals_get hc)
  · obtain ⟨r, hr, h1, h2, h3⟩ := segTake_ok h hwf
    refine ⟨r, hr, h1, h2, fun w b hi j v hv => ?_⟩
    obtain ⟨c, hc, rfl⟩ := sv h3 j v hv
    exact hi.2.1 _ _ (svals_get hc)
  · obtain ⟨r, hr, h1, h2, h3⟩ := segTakeEl_ok (idxK_ok (K := fun n => segTakeEl _ _ n _ _) h) hwf
    rw [idx_eq, ← Nat.add_assoc] at h3
    refine ⟨r, hr, h1, h2, fun w b hi j v hv => ?_⟩
    obtain ⟨c, hc, rfl⟩ := sv h3 j v hv
    exact var_cell hi (svals_get hc)
  · obtain ⟨r, hr, h1, h2, h3⟩ := segTakeEl_ok (idxK_ok (K := fun n => segTakeEl _ _ n _ _) h) hwf
    rw [idx_eq, ← Nat.add_assoc] at h3
    refine ⟨r, hr, h1, h2, fun w b hi j v hv => ?_⟩
    obtain ⟨c, hc, rfl⟩ := sv h3 j v hv
    exact hi.2.1 _ _ (svals_get hc)
  · obtain ⟨⟨rfl, rfl⟩, hi, h⟩ := h
    obtain ⟨r, hr, h1, h2, h3⟩ := segTake_ok h (Enc.wf_get hwf hi)
    refine ⟨r, hr, h1, h2, fun w b hI j v hv => ?_⟩
    obtain ⟨c, hc, rfl⟩ := sv h3 j v hv
    have := own_cell hI.2 (enc_get hwf hi hc)
    simpa [Off.val, Nat.add_assoc] using this
  · obtain ⟨⟨rfl, rfl⟩, hi, h⟩ := h
    obtain ⟨r, hr, h1, h2, h3⟩ := segTake_ok h (Enc.wf_get hwf hi)
    refine ⟨r, hr, h1, h2, fun w b hI j v hv => ?_⟩
    obtain ⟨c, hc, rfl⟩ := sv h3 j v hv
    have := view_cell hI.2 (enc_get hwf hi hc)
    simpa [Off.val, Nat.add_assoc] using this
  · exact h.elim

/-- A store: what the block is behind it. -/
def HB.put (hb : HB) (o : Off) (v : BV) (K : HB → Prop) : Prop :=
  match hb, o, v with
  | .var T l, .lit n, .one c => segPut l n c fun r => K (.var T r)
  | .var T l, .lit n, .agg g => segPutA l n g fun r => K (.var T r)
  | .var T l, .el b i s j, .one c => idxK i s j fun n => segPutEl l b n c fun r => K (.var T r)
  | .own T E x L, .el b i s j, .one c => Chk (b = x.off ∧ s = E.sz) (Chk (i < L.length) (segPut (E.enc (L.getD i E.dflt)) j c fun r => match E.dec r with
    | some e => K (.own T E x (L.set i e))
    | none => False))
  | .own T E x L, .el b i s j, .agg g => Chk (b = x.off ∧ s = E.sz) (Chk (i < L.length) (segPutA (E.enc (L.getD i E.dflt)) j g fun r => match E.dec r with
    | some e => K (.own T E x (L.set i e))
    | none => False))
  | _, _, _ => False
end Go.SY

/- A store into known memory. -/
namespace Go.SY

theorem svals_put {l r : List Sg} {n : Nat} {g : List Sg} (h : scs r = putL (scs l) n (scs g)) : svals r = putL (svals l) n (svals g) := by
  simp [svals, h, putL, List.map_take, List.map_drop]

theorem put_row {E : Enc} {L : List E.α} (hw : E.wf L) {i j : Nat} (hi : i < L.length) {e : E.α} (he : swf (E.enc e)) {g : List Value}
    (hg : svals (E.enc e) = over (svals (E.enc (L.getD i E.dflt))) j g) (hj : j + g.length ≤ E.sz) : over (E.vals L) (i * E.sz + j) g = E.vals (L.set i e) := by
  have hlen := E.vals_len hw
  have hb : i * E.sz + E.sz ≤ L.length * E.sz := by rw [← Nat.succ_mul]; exact Nat.mul_le_mul_right _ hi
  have hrl : (svals (E.enc (L.getD i E.dflt))).length = E.sz := by rw [svals_len (Enc.wf_get hw hi), E.len]
  rw [← E.vals_set hw hi he, hg]
  have hol : (over (svals (E.enc (L.getD i E.dflt))) j g).length = E.sz := by rw [over_length, hrl]
  apply List.ext_getElem?
  intro n
  rw [over_get _ _ _ _ (by omega), over_get (E.vals L) (i * E.sz) _ n (by rw [hol]; omega), hol]
  by_cases h1 : i * E.sz ≤ n ∧ n < i * E.sz + E.sz
  · rw [if_pos h1, over_get _ _ _ _ (by omega)]
    by_cases h2 : i * E.sz + j ≤ n ∧ n < i * E.sz + j + g.length
    · rw [if_pos h2, if_pos (by omega)]; congr 1; omega
    · rw [if_neg h2, if_neg (by omega)]
      have := E.vals_get hw hi (j := n - i * E.sz) (by omega)
      rw [← this]; congr 1; omega
  · rw [if_neg h1, if_neg (by omega)]

theorem over_mid (pre mid post : List Value) (o : Nat) (g : List Value) (h : o + g.length ≤ mid.length) : over (pre ++ mid ++ post) (pre.length + o) g = pre ++ over mid o g ++ post := by
  rw [over_put _ _ _ (by simp; omega), over_put _ _ _ h, List.append_assoc, putL_app _ _ _ _ (by omega), Nat.add_sub_cancel_left, List.append_assoc]
  congr 1
  simp only [putL]
  rw [List.take_append_of_le_length (by omega), List.drop_append_of_le_length (by omega)]
  simp

theorem HB.put_ok {P : Program} {hb : HB} {o : Off} {v : BV} {K : HB → Prop} {t : TypeId} {w : World} {b : Nat} (h : hb.put o v K) (hi : hb.Is w b) (hv : v.wf) (hn : sizB P t = some v.cells.length) :
    ∃ hb' w', K hb' ∧ hb'.single ∧ hb.isRw = true ∧ hb.occ ∧ hb'.Is w' b ∧ (storeVar t ⟨b, o.val, none⟩ v.val).run P w = .ok () w' ∧
      w'.os = w.os ∧ w'.tape = w.tape ∧ w'.output = w.output ∧ w'.heap.size = w.heap.size ∧ ∀ c, c ≠ b → w'.heap[c]? = w.heap[c]? := by
  have hcs : v.val.cells.toList = v.cells := BV.val_cells v
  have hsz : v.val.cells.size = v.cells.length := by rw [← hcs]; simp
  have hvl : v.cells.length = slen v.sg := svals_len hv
  -- the variable's own
  have varc : ∀ {T : TypeId} {l r : List Sg} {n : Nat}, hb = .var T l → o.val = n → swf r → scs r = putL (scs l) n (scs v.sg) → n + v.cells.length ≤ slen l →
      ∃ w', (HB.var T r).Is w' b ∧ (storeVar t ⟨b, o.val, none⟩ v.val).run P w = .ok () w' ∧
        w'.os = w.os ∧ w'.tape = w.tape ∧ w'.output = w.output ∧ w'.heap.size = w.heap.size ∧ ∀ c, c ≠ b → w'.heap[c]? = w.heap[c]? := by
    intro T l r n e en hr hs hle
    subst e
    obtain ⟨lo, hi', hh, hf, hwl⟩ := hi
    have hll := svals_len hwl
    obtain ⟨w', hrun, hb', e1, e2, e3, e4, e5⟩ := run_storeVar (P := P) (t := t) (b := b) (o := o.val) (v := v.val) (by rw [hn, hsz]) (BV.cells_one v) hh hf (by rw [hsz, hll, en]; exact hle)
    rw [hcs, en, over_put _ _ _ (by rw [hll]; exact hle), ← show svals r = putL (svals l) n v.cells from svals_put hs] at hb'
    refine ⟨w', ⟨lo, hi', hb', ?_, hr⟩, hrun, e1, e2, e3, e4, e5⟩
    have : (svals r).length = (svals l).length := by
      rw [show svals r = putL (svals l) n v.cells from svals_put hs, ← over_put _ _ _ (by rw [hll]; exact hle), over_length]
    rw [this]; exact hf
  -- an element's
  have ownc : ∀ {T : TypeId} {E : Enc} {x : SV} {L : List E.α} {i j : Nat} {r : List Sg} {e : E.α}, hb = .own T E x L → o.val = x.off + i * E.sz + j → i < L.length → swf r → scs r = putL (scs (E.enc (L.getD i E.dflt))) j (scs v.sg) →
      j + v.cells.length ≤ slen (E.enc (L.getD i E.dflt)) → E.dec r = some e →
      ∃ w', (HB.own T E x (L.set i e)).Is w' b ∧ (storeVar t ⟨b, o.val, none⟩ v.val).run P w = .ok () w' ∧ hb.occ ∧
        w'.os = w.os ∧ w'.tape = w.tape ∧ w'.output = w.output ∧ w'.heap.size = w.heap.size ∧ ∀ c, c ≠ b → w'.heap[c]? = w.heap[c]? := by
    intro T E x L i j r e eh en hil hr hs hle hd
    subst eh
    obtain ⟨hee, hew⟩ := E.decOk _ _ hd
    obtain ⟨hwL, hI⟩ := hi
    cases x with
    | nil => have hI : L = [] := hI; subst hI; exact absurd hil (Nat.not_lt_zero _)
    | «at» b' o' len cap =>
      obtain ⟨hb0, hlen, pre, post, lo, hi', hh, hf, hp, hc⟩ := hI
      have hwi := Enc.wf_get hwL hil
      have hvs := E.vals_len hwL
      have hrow : svals (E.enc e) = over (svals (E.enc (L.getD i E.dflt))) j v.cells := by
        rw [over_put _ _ _ (by rw [svals_len hwi]; exact hle), hee]; exact svals_put hs
      have hwe : swf (E.enc e) := hew hr
      rw [E.len] at hle
      have hbound : i * E.sz + E.sz ≤ L.length * E.sz := by rw [← Nat.succ_mul]; exact Nat.mul_le_mul_right _ hil
      have hpr := put_row hwL hil hwe hrow hle
      have hoff : o.val = pre.length + (i * E.sz + j) := by rw [en, hp]; simp [SV.off, Nat.add_assoc]
      obtain ⟨w', hrun, hb', e1, e2, e3, e4, e5⟩ := run_storeVar (P := P) (t := t) (b := b) (o := o.val) (v := v.val) (by rw [hn, hsz]) (BV.cells_one v) hh hf
        (by rw [hsz, hoff]; simp only [List.length_append]; omega)
      rw [hcs, hoff, over_mid _ _ _ _ _ (by omega), hpr] at hb'
      have hlen2 : (E.vals (L.set i e)).length = (E.vals L).length := by rw [← hpr, over_length]
      refine ⟨w', ⟨Enc.wf_set hwL hwe, hb0, by simpa using hlen, pre, post, lo, hi', hb', ?_, hp, by rw [hlen2]; exact hc⟩, hrun, (by intro h; cases h), e1, e2, e3, e4, e5⟩
      simp only [List.length_append, hlen2] at hf ⊢; exact hf
  unfold HB.put at h
  split at h
  · rename_i T l n c
    obtain ⟨r, hr, h1, h2, h3⟩ := segPut_ok h hi.cwf
    obtain ⟨w', ha, hx⟩ := varc rfl rfl h1 h2 (by rw [hvl]; show n + 1 ≤ slen l; omega)
    exact ⟨_, w', hr, trivial, rfl, trivial, ha, hx⟩
  · rename_i T l n g
    obtain ⟨r, hr, h1, h2, h3⟩ := segPutA_ok h hi.cwf hv
    obtain ⟨w', ha, hx⟩ := varc rfl rfl h1 h2 (by rw [hvl]; exact h3)
    exact ⟨_, w', hr, trivial, rfl, trivial, ha, hx⟩
  · rename_i T l bb i s j c
    obtain ⟨r, hr, h1, h2, h3⟩ := segPutEl_ok (idxK_ok (K := fun n => segPutEl _ _ n _ _) h) hi.cwf
    rw [idx_eq, ← Nat.add_assoc] at h2 h3
    obtain ⟨w', ha, hx⟩ := varc rfl rfl h1 h2 (by rw [hvl]; show bb + i * s + j + 1 ≤ slen l; omega)
    exact ⟨_, w', hr, trivial, rfl, trivial, ha, hx⟩
  · rename_i T E x L bb i s j c
    obtain ⟨⟨rfl, rfl⟩, hil, h⟩ := h
    obtain ⟨r, hr, h1, h2, h3⟩ := segPut_ok h (Enc.wf_get hi.cwf hil)
    split at hr
    · rename_i e he
      obtain ⟨w', ha, hb', ho, hx⟩ := ownc rfl rfl hil h1 h2 (by rw [hvl]; show _ + 1 ≤ _; omega) he
      exact ⟨_, w', hr, trivial, rfl, ho, ha, hb', hx⟩
    · exact hr.elim
  · rename_i T E x L bb i s j g
    obtain ⟨⟨rfl, rfl⟩, hil, h⟩ := h
    obtain ⟨r, hr, h1, h2, h3⟩ := segPutA_ok h (Enc.wf_get hi.cwf hil) hv
    split at hr
    · rename_i e he
      obtain ⟨w', ha, hb', ho, hx⟩ := ownc rfl rfl hil h1 h2 (by rw [hvl]; exact h3) he
      exact ⟨_, w', hr, trivial, rfl, ho, ha, hb', hx⟩
    · exact hr.elim
  · exact h.elim
end Go.SY

/- Operations on numbers, texts, places. -/
set_option linter.unusedSimpArgs false
set_option linter.unusedVariables false
namespace Go.SY

def iand (k : IntKind) (a b : Int) : Int := k.wrap ((BitVec.ofInt k.bits a &&& BitVec.ofInt k.bits b).toNat)
def ior (k : IntKind) (a b : Int) : Int := k.wrap ((BitVec.ofInt k.bits a ||| BitVec.ofInt k.bits b).toNat)
def ixor (k : IntKind) (a b : Int) : Int := k.wrap ((BitVec.ofInt k.bits a ^^^ BitVec.ofInt k.bits b).toNat)
def iandn (k : IntKind) (a b : Int) : Int := k.wrap ((BitVec.ofInt k.bits a &&& ~~~ BitVec.ofInt k.bits b).toNat)
def inot (k : IntKind) (a : Int) : Int := ixor k (if k.signed then -1 else k.max) a
def ishl (k : IntKind) (a b : Int) : Int := k.wrap (a * 2 ^ (min b.toNat k.bits))
def ishr (k : IntKind) (a b : Int) : Int := a.fdiv (2 ^ (min b.toNat k.bits))

/-! ### Words -/
theorem wrap_un {k : IntKind} (hk : k.signed = false) (e : Int) : k.wrap e = ((BitVec.ofInt k.bits e).toNat : Int) := by
  unfold IntKind.wrap
  simp only [hk, Bool.false_and, Bool.false_eq_true, if_false, BitVec.toNat_ofInt]
  rw [Int.toNat_of_nonneg (Int.emod_nonneg _ (by have := Nat.pow_pos (n := k.bits) (show 0 < 2 by omega); omega))]
  simp
theorem ofInt_nat {n : Nat} (x : BitVec n) : BitVec.ofInt n (x.toNat : Int) = x := by
  rw [BitVec.ofInt_natCast, BitVec.ofNat_toNat, BitVec.setWidth_eq]

def bvop (op : BinOp) {n : Nat} (x y : BitVec n) (K : BitVec n → Prop) (B : Bool → Prop) : Prop :=
  match op with
  | .add => K (x + y)
  | .sub => K (x - y)
  | .mul => K (x * y)
  | .quo => Chk (y ≠ 0) (K (x / y))
  | .rem => Chk (y ≠ 0) (K (x % y))
  | .and => K (x &&& y)
  | .or => K (x ||| y)
  | .xor => K (x ^^^ y)
  | .andNot => K (x &&& ~~~ y)
  | .eql => B (decide (x = y))
  | .neq => B (!decide (x = y))
  | .lss => B (decide (x.toNat < y.toNat))
  | .leq => B (decide (x.toNat ≤ y.toNat))
  | .gtr => B (decide (y.toNat < x.toNat))
  | .geq => B (decide (y.toNat ≤ x.toNat))
  | _ => False
theorem bvop_ok {P : Program} {op : BinOp} {xt : TypeId} {k : IntKind} (hk : k.signed = false) {x y : BitVec k.bits} {K : SC → Prop} (mk : BitVec k.bits → SC) (hmk : ∀ z, (mk z).val = .int k z.toNat)
    (h : bvop op x y (fun z => K (mk z)) (fun b => K (.bool b))) : ∃ v, K v ∧ ∀ w, (binOp op xt (.int k x.toNat) (.int k y.toNat)).run P w = .ok v.val w := by
  have e0 : ∀ z : BitVec k.bits, BitVec.ofInt k.bits (z.toNat : Int) = z := ofInt_nat
  have hlt : ∀ z : BitVec k.bits, z.toNat < 2 ^ k.bits := fun z => z.isLt
  have wn : ∀ z : BitVec k.bits, k.wrap (z.toNat : Int) = z.toNat := fun z => by rw [wrap_un hk, e0]
  have nz : y ≠ 0 → (y.toNat : Int) ≠ 0 := fun hne he => hne (BitVec.eq_of_toNat_eq (by rw [BitVec.ofNat_eq_ofNat, BitVec.toNat_ofNat]; simp; omega))
  unfold bvop at h
  split at h
  · refine ⟨_, h, fun w => ?_⟩
    have e : k.wrap ((x.toNat : Int) + y.toNat) = ((x + y).toNat : Int) := by rw [wrap_un hk, BitVec.ofInt_add, e0, e0]
    rw [binOp_add, hmk, ← e]; rfl
  · refine ⟨_, h, fun w => ?_⟩
    have e : k.wrap ((x.toNat : Int) - y.toNat) = ((x - y).toNat : Int) := by rw [wrap_un hk, Int.sub_eq_add_neg, BitVec.ofInt_add, BitVec.ofInt_neg, e0, e0, ← BitVec.sub_eq_add_neg]
    rw [binOp_sub, hmk, ← e]; rfl
  · refine ⟨_, h, fun w => ?_⟩
    have e : k.wrap ((x.toNat : Int) * y.toNat) = ((x * y).toNat : Int) := by rw [wrap_un hk, BitVec.ofInt_mul, e0, e0]
    rw [binOp_mul, hmk, ← e]; rfl
  · refine ⟨_, h.go, fun w => ?_⟩
    have h0 := nz h.ok
    rw [binOp_quo, hmk]
    simp only [Op.intDiv, if_neg h0]
    have : ((x.toNat : Int).tdiv (y.toNat : Int)) = ((x / y).toNat : Int) := by
      rw [Int.tdiv_eq_ediv_of_nonneg (by omega), BitVec.toNat_udiv]; rfl
    simp only [this, wn]; rfl
  · refine ⟨_, h.go, fun w => ?_⟩
    have h0 := nz h.ok
    rw [binOp_rem, hmk]
    simp only [Op.intDiv, if_neg h0]
    have : ((x.toNat : Int).tmod (y.toNat : Int)) = ((x % y).toNat : Int) := by
      rw [Int.tmod_eq_emod_of_nonneg (by omega), BitVec.toNat_umod]; rfl
    simp only [this]; rfl
  · refine ⟨_, h, fun w => ?_⟩
    have e : iand k (x.toNat : Int) y.toNat = ((x &&& y).toNat : Int) := by unfold iand; rw [e0, e0, wn]
    rw [binOp_and, hmk, ← e]; rfl
  · refine ⟨_, h, fun w => ?_⟩
    have e : ior k (x.toNat : Int) y.toNat = ((x ||| y).toNat : Int) := by unfold ior; rw [e0, e0, wn]
    rw [binOp_or, hmk, ← e]; rfl
  · refine ⟨_, h, fun w => ?_⟩
    have e : ixor k (x.toNat : Int) y.toNat = ((x ^^^ y).toNat : Int) := by unfold ixor; rw [e0, e0, wn]
    rw [binOp_xor, hmk, ← e]; rfl
  · refine ⟨_, h, fun w => ?_⟩
    have e : iandn k (x.toNat : Int) y.toNat = ((x &&& ~~~ y).toNat : Int) := by unfold iandn; rw [e0, e0, wn]
    rw [binOp_andNot, hmk, ← e]; rfl
  · refine ⟨_, h, fun w => ?_⟩
    rw [binOp_eql]
    have : ((x.toNat : Int) == (y.toNat : Int)) = decide (x = y) := by
      by_cases hxy : x = y
      · subst hxy; simp
      · have : x.toNat ≠ y.toNat := fun e => hxy (BitVec.eq_of_toNat_eq e)
        simp [hxy]; omega
    rw [this]; rfl
  · refine ⟨_, h, fun w => ?_⟩
    rw [binOp_neq]
    have : ((x.toNat : Int) != (y.toNat : Int)) = !decide (x = y) := by
      by_cases hxy : x = y
      · subst hxy; simp
      · have : x.toNat ≠ y.toNat := fun e => hxy (BitVec.eq_of_toNat_eq e)
        simp [hxy]; omega
    rw [this]; rfl
  · exact ⟨_, h, fun w => by rw [binOp_lss]; simp [SC.val]⟩
  · exact ⟨_, h, fun w => by rw [binOp_leq]; simp [SC.val]⟩
  · exact ⟨_, h, fun w => by rw [binOp_gtr]; simp [SC.val]⟩
  · exact ⟨_, h, fun w => by rw [binOp_geq]; simp [SC.val]⟩
  · exact h.elim

theorem bv_shl {k : IntKind} (hk : k.signed = false) (x : BitVec k.bits) (m : Nat) : ishl k (x.toNat : Int) (m : Int) = ((x <<< m).toNat : Int) := by
  unfold ishl
  rw [Int.toNat_natCast, wrap_un hk, BitVec.toNat_ofInt, BitVec.toNat_shiftLeft, Nat.shiftLeft_eq]
  have hc : ((x.toNat : Int) * 2 ^ min m k.bits) = ((x.toNat * 2 ^ min m k.bits : Nat) : Int) := by rw [Int.natCast_mul, Int.natCast_pow]; rfl
  rw [hc, ← Int.natCast_emod, Int.toNat_natCast]
  congr 1
  by_cases h : m ≤ k.bits
  · rw [Nat.min_eq_left h]
  · rw [Nat.min_eq_right (by omega)]
    obtain ⟨d, rfl⟩ : ∃ d, m = k.bits + d := ⟨m - k.bits, by omega⟩
    rw [Nat.pow_add, ← Nat.mul_assoc, Nat.mul_comm (x.toNat) (2 ^ k.bits), Nat.mul_assoc]
    simp
theorem bv_shr {k : IntKind} (x : BitVec k.bits) (m : Nat) : ishr k (x.toNat : Int) (m : Int) = ((x >>> m).toNat : Int) := by
  unfold ishr
  rw [Int.toNat_natCast, BitVec.toNat_ushiftRight, Nat.shiftRight_eq_div_pow]
  have hc : ((2 : Int) ^ min m k.bits) = ((2 ^ min m k.bits : Nat) : Int) := by rw [Int.natCast_pow]; rfl
  rw [hc, Int.fdiv_eq_ediv_of_nonneg _ (Int.natCast_nonneg _), ← Int.natCast_ediv]
  congr 1
  by_cases h : m ≤ k.bits
  · rw [Nat.min_eq_left h]
  · rw [Nat.min_eq_right (by omega), Nat.div_eq_of_lt x.isLt, Nat.div_eq_of_lt]
    exact Nat.lt_of_lt_of_le x.isLt (Nat.pow_le_pow_right (by omega) (by omega))

def qint (op : BinOp) (k : IntKind) (a b : Int) (K : SC → Prop) : Prop :=
  match op with
  | .add => Wr k (a + b) fun z => K (.int k z)
  | .sub => Wr k (a - b) fun z => K (.int k z)
  | .mul => Wr k (a * b) fun z => K (.int k z)
  | .quo => Chk (b ≠ 0) (Wr k (a.tdiv b) fun z => K (.int k z))
  | .rem => Chk (b ≠ 0) (K (.int k (a.tmod b)))
  | .and => K (.int k (iand k a b))
  | .or => K (.int k (ior k a b))
  | .xor => K (.int k (ixor k a b))
  | .andNot => K (.int k (iandn k a b))
  | .eql => K (.bool (decide (a = b)))
  | .neq => K (.bool (decide (a ≠ b)))
  | .lss => K (.bool (decide (a < b)))
  | .leq => K (.bool (decide (a ≤ b)))
  | .gtr => K (.bool (decide (b < a)))
  | .geq => K (.bool (decide (b ≤ a)))
  | _ => False

def qstr (op : BinOp) (s t : List UInt8) (K : SC → Prop) : Prop :=
  match op with
  | .add => Chk (s.length + t.length ≤ 9223372036854775807) (K (.str (s ++ t)))
  | .eql => K (.bool (decide (s = t)))
  | .neq => K (.bool (!decide (s = t)))
  | .lss => K (.bool (Op.bytesLess s t))
  | .leq => K (.bool (Op.bytesLess s t || decide (s = t)))
  | .gtr => K (.bool (!(Op.bytesLess s t || decide (s = t))))
  | .geq => K (.bool (!Op.bytesLess s t))
  | _ => False

theorem qint_ok {P : Program} {op : BinOp} {xt : TypeId} {k : IntKind} {a b : Int} {K : SC → Prop} (h : qint op k a b K) (hs : op ≠ .shl) (hs' : op ≠ .shr) :
    ∃ v, K v ∧ ∀ w, (binOp op xt (.int k a) (.int k b)).run P w = .ok v.val w := by
  unfold qint at h
  split at h
  · exact ⟨_, h.go, fun w => by rw [binOp_add]; rfl⟩
  · exact ⟨_, h.go, fun w => by rw [binOp_sub]; rfl⟩
  · exact ⟨_, h.go, fun w => by rw [binOp_mul]; rfl⟩
  · exact ⟨_, h.go.go, fun w => by have := h.ok; rw [binOp_quo]; simp [Op.intDiv, SC.val, this]⟩
  · exact ⟨_, h.go, fun w => by have := h.ok; rw [binOp_rem]; simp [Op.intDiv, SC.val, this]⟩
  · exact ⟨_, h, fun w => by rw [binOp_and]; rfl⟩
  · exact ⟨_, h, fun w => by rw [binOp_or]; rfl⟩
  · exact ⟨_, h, fun w => by rw [binOp_xor]; rfl⟩
  · exact ⟨_, h, fun w => by rw [binOp_andNot]; rfl⟩
  · exact ⟨_, h, fun w => by rw [binOp_eql]; rfl⟩
  · exact ⟨_, h, fun w => by rw [binOp_neq, show (a != b) = decide (a ≠ b) by by_cases h : a = b <;> simp [h]]; rfl⟩
  · exact ⟨_, h, fun w => by rw [binOp_lss]; rfl⟩
  · exact ⟨_, h, fun w => by rw [binOp_leq]; rfl⟩
  · exact ⟨_, h, fun w => by rw [binOp_gtr]; rfl⟩
  · exact ⟨_, h, fun w => by rw [binOp_geq]; rfl⟩
  · exact h.elim

theorem str_toList (s : List UInt8) : (⟨⟨s⟩⟩ : ByteArray).toList = s := ByteArray.toList_mk s
theorem beq_dec (s t : List UInt8) : (s == t) = decide (s = t) := by
  by_cases h : s = t <;> simp [h]

theorem qstr_ok {P : Program} {op : BinOp} {xt : TypeId} {s t : List UInt8} {K : SC → Prop} (h : qstr op s t K) :
    ∃ v, K v ∧ ∀ w, (binOp op xt (SC.str s).val (SC.str t).val).run P w = .ok v.val w := by
  unfold qstr at h
  have e1 : (⟨⟨s⟩⟩ : ByteArray).size = s.length := rfl
  have e2 : (⟨⟨t⟩⟩ : ByteArray).size = t.length := rfl
  split at h
  · refine ⟨_, h.go, fun w => ?_⟩
    have := h.ok
    have hle : ¬ (((⟨⟨s⟩⟩ : ByteArray).size + (⟨⟨t⟩⟩ : ByteArray).size : Nat) : Int) > IntKind.i64.max := by rw [e1, e2, IntKind.max_i64]; omega
    simp only [SC.val, binOp_string_add, Op.stringOp, if_neg hle]
    have : (⟨⟨s⟩⟩ : ByteArray) ++ ⟨⟨t⟩⟩ = ⟨⟨s ++ t⟩⟩ := by
      apply ByteArray.ext; simp [ByteArray.data_append]
    rw [this]; rfl
  all_goals first
    | exact h.elim
    | exact ⟨_, h, fun w => by simp [SC.val, binOp, Op.stringOp, str_toList, beq_dec]⟩


/-- A number that an operand is. -/
def SC.num : SC → Option Int
  | .int _ n => some n
  | .w8 x => some x.toNat
  | .w32 x => some x.toNat
  | .w64 x => some x.toNat
  | _ => none
theorem SC.num_ok {c : SC} {n : Int} (h : c.num = some n) : ∃ k, c.val = .int k n := by
  cases c <;> simp only [SC.num] at h <;> first | (cases h; exact ⟨_, rfl⟩) | cases h

/-- Two cells alike? -/
def ceq (P : Program) (t : TypeId) (x y : SC) (K : Bool → Prop) : Prop :=
  match P.underlying t, x, y with
  | some .bool, .bool a, .bool b => K (a == b)
  | some (.pointer _), .nilp, .nilp => K true
  | some (.pointer _), .nilp, .ptr _ => K false
  | some (.pointer _), .ptr _, .nilp => K false
  | some (.pointer e), .ptr p, .ptr q => (match sizB P e with
    | some (_ + 1) => Chk (p.blk = q.blk) (K (decide (p.off.val = q.off.val)))
    | _ => False)
  | some (.slice _), .nilsl, .nilsl => K true
  | some (.slice _), .nilsl, .sl .. => K false
  | some (.slice _), .sl .., .nilsl => K false
  | some (.slice _), .lst _ x, .nilsl => K (match x with | .nil => true | _ => false)
  | some (.map _ _), .nilmp, .nilmp => K true
  | some (.map _ _), .nilmp, .mp .. => K false
  | some (.map _ _), .mp .., .nilmp => K false
  | some (.func _ _ _), .nilfn, .nilfn => K true
  | some (.func _ _ _), .nilfn, .fn .. => K false
  | some (.func _ _ _), .fn .., .nilfn => K false
  | _, _, _ => False

def qbin (P : Program) (op : BinOp) (xt : TypeId) (x y : SC) (K : SC → Prop) : Prop :=
  match op with
  | .shl => (match x, y.num with
    | .int k a, some b => Chk (0 ≤ b) (K (.int k (ishl k a b)))
    | .w8 x, some b => Chk (0 ≤ b) (K (.w8 ⟨x.toBitVec <<< b.toNat⟩))
    | .w32 x, some b => Chk (0 ≤ b) (K (.w32 (x <<< b.toNat)))
    | .w64 x, some b => Chk (0 ≤ b) (K (.w64 (x <<< b.toNat)))
    | _, _ => False)
  | .shr => (match x, y.num with
    | .int k a, some b => Chk (0 ≤ b) (K (.int k (ishr k a b)))
    | .w8 x, some b => Chk (0 ≤ b) (K (.w8 ⟨x.toBitVec >>> b.toNat⟩))
    | .w32 x, some b => Chk (0 ≤ b) (K (.w32 (x >>> b.toNat)))
    | .w64 x, some b => Chk (0 ≤ b) (K (.w64 (x >>> b.toNat)))
    | _, _ => False)
  | op => (match x, y with
    | .int k a, .int k' b => (match decide (k = k') with | true => qint op k a b K | false => False)
    | .w8 x, .w8 y => bvop op x.toBitVec y.toBitVec (fun z => K (.w8 ⟨z⟩)) fun b => K (.bool b)
    | .w32 x, .w32 y => bvop op x y (fun z => K (.w32 z)) fun b => K (.bool b)
    | .w64 x, .w64 y => bvop op x y (fun z => K (.w64 z)) fun b => K (.bool b)
    | .str s, .str t => qstr op s t K
    | x, y => (match op with
      | .eql => ceq P xt x y fun r => K (.bool r)
      | .neq => ceq P xt x y fun r => K (.bool (!r))
      | _ => False))

theorem equal_open : ∃ d, ∀ t x y, Op.equal t x y = Op.equalIn (d + 1) t x y := ⟨9999, fun _ _ _ => rfl⟩

theorem ceq_ok {P : Program} {t : TypeId} {x y : SC} {K : Bool → Prop} (h : ceq P t x y K) : ∃ r, K r ∧ ∀ w, (Op.equal t x.val y.val).run P w = .ok r w := by
  obtain ⟨d, hd⟩ := equal_open
  unfold ceq at h
  split at h
  all_goals first
    | exact h.elim
    | (rename_i hu
       refine ⟨_, h, fun w => ?_⟩
       rw [hd]
       simp [Op.equalIn, run_underlying hu, SC.val, Pt.value]; done)
    | skip
  · rename_i e p q hu
    split at h
    · rename_i n hn
      refine ⟨_, h.go, fun w => ?_⟩
      have hb := h.ok
      rw [hd]
      simp only [Op.equalIn, Sem.run_bind, run_underlying hu, Result.andThen_ok, SC.val, Pt.value, sizB_run hn]
      simp only [ne_eq, Nat.add_eq_zero_iff, Nat.succ_ne_zero, and_false, not_false_eq_true, if_true, sameAddr, Pt.addr, hb, beq_self_eq_true]
      simp only [Sem.run_ite, Sem.run_pure, if_true]
      have : ((⟨q.blk, p.off.val, none⟩ : Addr) == ⟨q.blk, q.off.val, none⟩) = decide (p.off.val = q.off.val) := by
        by_cases hh : p.off.val = q.off.val <;> simp [hh]
      simp [this]
    · exact h.elim
  · rename_i e k x hu
    refine ⟨_, h, fun w => ?_⟩
    rw [hd]
    cases x <;> simp [Op.equalIn, run_underlying hu, SC.val, SV.val]

theorem guard_ok {op : BinOp} {t : TypeId} {x y : Operand} {v : SC} {u : Value} (h : v.val ≠ .nilIface) : eqGuard op t x y v.val u = pure () := by
  cases v with
  | raw v hv =>
    simp only [SC.val] at *
    cases v <;> first
      | (simp [Value.oneCell'] at hv; done)
      | exact (h rfl).elim
      | (cases op <;> rfl)
  | lst k x => cases x <;> simp [SC.val, SV.val, eqGuard_at_slice]
  | part k x sz lo hi => cases x <;> simp [SC.val, SV.val, SV.sub, eqGuard_at_slice]
  | nilch => cases op <;> rfl
  | _ => simp [SC.val, Pt.value, eqGuard_at_int, eqGuard_at_bool, eqGuard_at_string, eqGuard_at_pointer, eqGuard_at_slice, eqGuard_at_map, eqGuard_at_chan, eqGuard_at_func, eqGuard_at_nilFunc]

theorem lst_ne {k : Nat} {x : SV} : (SC.lst k x).val ≠ .nilIface := by cases x <;> simp [SC.val, SV.val]
theorem eql_lst {xt : TypeId} {k : Nat} {x : SV} {u : Value} : binOp .eql xt (SC.lst k x).val u = (do pure (.bool (← Op.equal xt (SC.lst k x).val u))) := by cases x <;> rfl
theorem neq_lst {xt : TypeId} {k : Nat} {x : SV} {u : Value} : binOp .neq xt (SC.lst k x).val u = (do pure (.bool (!(← Op.equal xt (SC.lst k x).val u)))) := by cases x <;> rfl
theorem qbin_ok {P : Program} {op : BinOp} {xt : TypeId} {x y : SC} {K : SC → Prop} (h : qbin P op xt x y K) (X Y : Operand) :
    ∃ v, K v ∧ ∀ w, (do eqGuard op xt X Y x.val y.val; binOp op xt x.val y.val : Sem Value).run P w = .ok v.val w := by
  have fin : ∀ {v : SC}, x.val ≠ .nilIface → K v → (∀ w, (binOp op xt x.val y.val).run P w = .ok v.val w) →
      ∃ v, K v ∧ ∀ w, (do eqGuard op xt X Y x.val y.val; binOp op xt x.val y.val : Sem Value).run P w = .ok v.val w := fun hne hv hr =>
    ⟨_, hv, fun w => by rw [guard_ok hne]; simpa using hr w⟩
  have sh : ∀ {b : Int}, 0 ≤ b → ((b.toNat : Nat) : Int) = b := fun hb => Int.toNat_of_nonneg hb
  have num : ∀ {b : Int}, y.num = some b → ∃ k', y.val = .int k' b := fun h => SC.num_ok h
  unfold qbin at h
  split at h
  · split at h
    all_goals first
      | exact h.elim
      | (rename_i b hy; obtain ⟨k', hyv⟩ := num hy; obtain ⟨hb, h⟩ := h)
    · refine fin (by simp [SC.val]) h fun w => ?_
      rw [hyv]; simp only [SC.val, binOp_shl, Op.shift, ishl, if_neg (Int.not_lt.2 hb)]; rfl
    · rename_i x
      refine fin (by simp [SC.val]) h fun w => ?_
      rw [hyv]; simp only [SC.val, binOp_shl, Op.shift, if_neg (Int.not_lt.2 hb)]
      have := bv_shl (k := .u8) rfl x.toBitVec b.toNat
      rw [sh hb] at this
      exact congrArg (fun z => Result.ok (Value.int .u8 z) w) this
    · rename_i x
      refine fin (by simp [SC.val]) h fun w => ?_
      rw [hyv]; simp only [SC.val, binOp_shl, Op.shift, if_neg (Int.not_lt.2 hb)]
      have := bv_shl (k := .u32) rfl x b.toNat
      rw [sh hb] at this
      exact congrArg (fun z => Result.ok (Value.int .u32 z) w) this
    · rename_i x
      refine fin (by simp [SC.val]) h fun w => ?_
      rw [hyv]; simp only [SC.val, binOp_shl, Op.shift, if_neg (Int.not_lt.2 hb)]
      have := bv_shl (k := .u64) rfl x b.toNat
      rw [sh hb] at this
      exact congrArg (fun z => Result.ok (Value.int .u64 z) w) this
  · split at h
    all_goals first
      | exact h.elim
      | (rename_i b hy; obtain ⟨k', hyv⟩ := num hy; obtain ⟨hb, h⟩ := h)
    · refine fin (by simp [SC.val]) h fun w => ?_
      rw [hyv]; simp only [SC.val, binOp_shr, Op.shift, ishr, if_neg (Int.not_lt.2 hb)]; rfl
    · rename_i x
      refine fin (by simp [SC.val]) h fun w => ?_
      rw [hyv]; simp only [SC.val, binOp_shr, Op.shift, if_neg (Int.not_lt.2 hb)]
      have := bv_shr (k := .u8) x.toBitVec b.toNat
      rw [sh hb] at this
      exact congrArg (fun z => Result.ok (Value.int .u8 z) w) this
    · rename_i x
      refine fin (by simp [SC.val]) h fun w => ?_
      rw [hyv]; simp only [SC.val, binOp_shr, Op.shift, if_neg (Int.not_lt.2 hb)]
      have := bv_shr (k := .u32) x b.toNat
      rw [sh hb] at this
      exact congrArg (fun z => Result.ok (Value.int .u32 z) w) this
    · rename_i x
      refine fin (by simp [SC.val]) h fun w => ?_
      rw [hyv]; simp only [SC.val, binOp_shr, Op.shift, if_neg (Int.not_lt.2 hb)]
      have := bv_shr (k := .u64) x b.toNat
      rw [sh hb] at this
      exact congrArg (fun z => Result.ok (Value.int .u64 z) w) this
  · rename_i hn1 hn2
    split at h
    · rename_i k a k' b
      split at h
      · rename_i hk
        have hk : k = k' := of_decide_eq_true hk
        subst hk
        obtain ⟨v, hv, hr⟩ := qint_ok (P := P) (xt := xt) h hn1 hn2
        exact fin (by simp [SC.val]) hv hr
      · exact h.elim
    · rename_i x y
      obtain ⟨v, hv, hr⟩ := bvop_ok (P := P) (xt := xt) (k := .u8) rfl (K := K) (fun z => .w8 ⟨z⟩) (fun z => rfl) h
      exact fin (by simp [SC.val]) hv hr
    · rename_i x y
      obtain ⟨v, hv, hr⟩ := bvop_ok (P := P) (xt := xt) (k := .u32) rfl (K := K) (fun z => .w32 z) (fun z => rfl) h
      exact fin (by simp [SC.val]) hv hr
    · rename_i x y
      obtain ⟨v, hv, hr⟩ := bvop_ok (P := P) (xt := xt) (k := .u64) rfl (K := K) (fun z => .w64 z) (fun z => rfl) h
      exact fin (by simp [SC.val]) hv hr
    · rename_i s t
      obtain ⟨v, hv, hr⟩ := qstr_ok (P := P) (xt := xt) h
      exact fin (by simp [SC.val]) hv hr
    · have hx : ∀ {K' : Bool → Prop}, ceq P xt x y K' → x.val ≠ .nilIface := fun h e => by
        unfold ceq at h
        split at h <;> first
          | exact h.elim
          | (simp [SC.val, Pt.value] at e; done)
          | exact lst_ne e
      split at h
      · obtain ⟨r, hr, hw⟩ := ceq_ok h
        refine fin (hx h) hr fun w => ?_
        have : binOp .eql xt x.val y.val = (do pure (.bool (← Op.equal xt x.val y.val))) := by
          unfold ceq at h
          split at h <;> first
            | exact h.elim
            | rfl
            | exact eql_lst
        rw [this]; simp [hw]; rfl
      · obtain ⟨r, hr, hw⟩ := ceq_ok h
        refine fin (hx h) hr fun w => ?_
        have : binOp .neq xt x.val y.val = (do pure (.bool (!(← Op.equal xt x.val y.val)))) := by
          unfold ceq at h
          split at h <;> first
            | exact h.elim
            | rfl
            | exact neq_lst
        rw [this]; simp [hw]; rfl
      · exact h.elim

def qun (op : UnOp) (x : SC) (K : SC → Prop) : Prop :=
  match op, x with
  | .neg, .int k n => Wr k (0 - n) fun z => K (.int k z)
  | .xor, .int k n => K (.int k (inot k n))
  | .xor, .w8 x => K (.w8 ⟨~~~ x.toBitVec⟩)
  | .xor, .w32 x => K (.w32 (~~~ x))
  | .xor, .w64 x => K (.w64 (~~~ x))
  | .not, .bool b => K (.bool (!b))
  | _, _ => False
theorem bv_not {k : IntKind} (hk : k.signed = false) (hm : BitVec.ofInt k.bits k.max = BitVec.allOnes k.bits) (x : BitVec k.bits) : inot k (x.toNat : Int) = ((~~~ x).toNat : Int) := by
  unfold inot ixor
  simp only [hk, Bool.false_eq_true, if_false, hm]
  have e0 : BitVec.ofInt k.bits (x.toNat : Int) = x := ofInt_nat x
  rw [e0, wrap_un hk, ofInt_nat, BitVec.allOnes_xor]
theorem qun_ok {P : Program} {op : UnOp} {x : SC} {K : SC → Prop} (h : qun op x K) : ∃ v, K v ∧ ∀ w, (Op.unary op x.val).run P w = .ok v.val w := by
  unfold qun at h
  split at h
  · exact ⟨_, h.go, fun w => by simp [Op.unary, Op.intArith, SC.val]⟩
  · exact ⟨_, h, fun w => by simp [Op.unary, Op.intBits, SC.val, inot, ixor]⟩
  · rename_i x
    refine ⟨_, h, fun w => ?_⟩
    have := bv_not (k := .u8) rfl rfl x.toBitVec
    have e : (Op.unary UnOp.xor (SC.w8 x).val).run P w = .ok (.int .u8 (inot .u8 (x.toBitVec.toNat : Int))) w := by simp [Op.unary, Op.intBits, SC.val, inot, ixor]
    rw [e]; exact congrArg (fun z => Result.ok (Value.int .u8 z) w) this
  · rename_i x
    refine ⟨_, h, fun w => ?_⟩
    have := bv_not (k := .u32) rfl (by decide) x
    have e : (Op.unary UnOp.xor (SC.w32 x).val).run P w = .ok (.int .u32 (inot .u32 (x.toNat : Int))) w := by simp [Op.unary, Op.intBits, SC.val, inot, ixor]
    rw [e]; exact congrArg (fun z => Result.ok (Value.int .u32 z) w) this
  · rename_i x
    refine ⟨_, h, fun w => ?_⟩
    have := bv_not (k := .u64) rfl (by decide) x
    have e : (Op.unary UnOp.xor (SC.w64 x).val).run P w = .ok (.int .u64 (inot .u64 (x.toNat : Int))) w := by simp [Op.unary, Op.intBits, SC.val, inot, ixor]
    rw [e]; exact congrArg (fun z => Result.ok (Value.int .u64 z) w) this
  · exact ⟨_, h, fun w => by simp [Op.unary, SC.val]⟩
  · exact h.elim
end Go.SY

/- Operations that leave memory alone: slices, places, parts, conversions, loads; all of them. -/
set_option linter.unusedSimpArgs false
set_option linter.unusedVariables false
namespace Go.SY

def TWf (T : Tm) : Prop := ∀ t v, tget T t = some v → v.wf
theorem ev_wfT {T : Tm} (h : TWf T) {x : Operand} {v : TV} (e : ev T x = some v) : v.wf := by
  cases x with
  | tmp t => exact h t v e
  | const u => exact (cst_ok e).2
  | global g => cases e; exact ⟨trivial, trivial⟩
  | func f => cases e; exact ⟨trivial, trivial⟩
theorem evb_wfT {T : Tm} (h : TWf T) {x : Operand} {c : BV} (e : evb T x = some c) : c.wf := by
  unfold evb at e
  split at e
  · rename_i h'; cases e; exact ev_wfT h h'
  · cases e
theorem one_wf (c : SC) : (TV.b (.one c)).wf := ⟨trivial, trivial⟩
theorem bone_wf (c : SC) : (BV.one c).wf := ⟨trivial, trivial⟩

/-! ### Slices of texts, rows and arrays -/
def ev1n (T : Tm) (x : Operand) : Option Int :=
  match ev1 T x with
  | some c => c.num
  | none => none
theorem ev1n_ok {C : Ctx} {T : Tm} {a : Act} (h : Fits C T a) {x : Operand} {n : Int} (e : ev1n T x = some n) : ∃ k, a.eval x = .int k n := by
  unfold ev1n at e
  split at e
  · rename_i c hc; obtain ⟨k, hk⟩ := SC.num_ok e; exact ⟨k, by rw [ev1_ok h hc, hk]⟩
  · cases e
def evo (T : Tm) : Option Operand → Option (Option Int)
  | none => some none
  | some x => match ev1n T x with
    | some n => some (some n)
    | none => none

def lstOf (H : Heap) (k : Nat) (x : SV) (K : (E : Enc) → List E.α → Prop) : Prop :=
  match hget H k with
  | some (_, .own _ E x' L) => Chk (x = x') (K E L)
  | some (_, .view E x' L) => Chk (x = x') (K E L)
  | some (_, .grw _ E x' L) => Chk (x = x') (K E L)
  | _ => False
/-- What is known of a slice. -/
structure LstIs (C : Ctx) (H : Heap) (k : Nat) (x : SV) (E : Enc) (L : List E.α) : Prop where
  len : ∀ w, Rep C H w → (match x with | .nil => L = [] | .at b o len cap => len = L.length ∧ L.length ≤ cap)
  cell : ∀ w, Rep C H w → ∀ j v, (E.vals L)[j]? = some v → w.cell? ⟨x.blk, x.off + j, none⟩ = some v
theorem LstIs.ofOwn {C : Ctx} {H : Heap} {k b : Nat} {T : TypeId} {E : Enc} {x : SV} {L : List E.α} (hg : hget H k = some (b, .own T E x L)) : LstIs C H k x E L := by
  refine ⟨fun w hw => ?_, fun w hw j v hv => ?_⟩
  · have := (hw.is _ _ _ hg).2
    cases x with
    | nil => exact this
    | «at» b' o len cap => obtain ⟨_, h2, _, _, _, _, _, _, _, h3, _⟩ := this; exact ⟨h2, by omega⟩
  · have hI := (hw.is _ _ _ hg).2
    have := own_cell hI hv
    cases x with
    | nil => have hI : L = [] := hI; subst hI; simp [Enc.vals] at hv
    | «at» b' o len cap => obtain ⟨rfl, _⟩ := hI; exact this
theorem LstIs.ofView {C : Ctx} {H : Heap} {k b : Nat} {E : Enc} {x : SV} {L : List E.α} (hg : hget H k = some (b, .view E x L)) : LstIs C H k x E L := by
  refine ⟨fun w hw => ?_, fun w hw j v hv => ?_⟩
  · have := (hw.is _ _ _ hg).2
    cases x with
    | nil => exact this
    | «at» b' o len cap => obtain ⟨_, h2, h3, _⟩ := this; exact ⟨h2, by omega⟩
  · have hI := (hw.is _ _ _ hg).2
    have := view_cell hI hv
    cases x with
    | nil => have hI : L = [] := hI; subst hI; simp [Enc.vals] at hv
    | «at» b' o len cap => obtain ⟨rfl, _⟩ := hI; exact this
theorem LstIs.ofGrw {C : Ctx} {H : Heap} {k b : Nat} {T : TypeId} {E : Enc} {x : SV} {L : List E.α} (hg : hget H k = some (b, .grw T E x L)) : LstIs C H k x E L := by
  refine ⟨fun w hw => ?_, fun w hw j v hv => ?_⟩
  · have := grw_view (hw.is _ _ _ hg)
    cases x with
    | nil => exact this
    | «at» b' o len cap => obtain ⟨_, h2, h3, _⟩ := this; exact ⟨h2, by omega⟩
  · have hI := grw_view (hw.is _ _ _ hg)
    have := view_cell hI hv
    cases x with
    | nil => have hI : L = [] := hI; subst hI; simp [Enc.vals] at hv
    | «at» b' o len cap => obtain ⟨rfl, _⟩ := hI; exact this
theorem lstOf_ok {H : Heap} {k : Nat} {x : SV} {K : (E : Enc) → List E.α → Prop} (h : lstOf H k x K) (hw1 : HWf H) : ∃ (E : Enc) (L : List E.α), K E L ∧ E.wf L ∧ ∀ C, LstIs C H k x E L := by
  unfold lstOf at h
  split at h
  · rename_i b T E x' L hg
    obtain ⟨rfl, h⟩ := h
    exact ⟨E, L, h, hw1 _ _ _ hg, fun C => .ofOwn hg⟩
  · rename_i b E x' L hg
    obtain ⟨rfl, h⟩ := h
    exact ⟨E, L, h, hw1 _ _ _ hg, fun C => .ofView hg⟩
  · rename_i b T E x' L hg
    obtain ⟨rfl, h⟩ := h
    exact ⟨E, L, h, hw1 _ _ _ hg, fun C => .ofGrw hg⟩
  · exact h.elim

def qslice (P : Program) (H : Heap) (t : TypeId) (x : SC) (lo hi : Option Int) (K : SC → Prop) : Prop :=
  match P.underlying t, x with
  | some .string, .str s => (match lo, hi with
    | none, none => K (.str s)
    | some l, none => Chk (0 ≤ l ∧ l ≤ s.length) (NatOf l fun l => K (.str (s.drop l)))
    | none, some h => Chk (0 ≤ h ∧ h ≤ s.length) (NatOf h fun h => K (.str (s.take h)))
    | some l, some h => Chk (0 ≤ l ∧ l ≤ h ∧ h ≤ s.length) (NatOf l fun l => NatOf h fun h => K (.str ((s.take h).drop l))))
  | some (.slice e), .lst k x => (match sizB P e with
    | some sz => lit sz fun sz => lstOf H k x fun E L => (match Nat.beq sz E.sz with
      | true => (match lo, hi with
        | none, none => K (.lst k x)
        | none, some h => Chk (0 ≤ h ∧ h ≤ L.length) (NatOf h fun h => K (.part k x sz 0 h))
        | some l, none => Chk (0 ≤ l ∧ l ≤ L.length) (NatOf l fun l => K (.part k x sz l L.length))
        | some l, some h => Chk (0 ≤ l ∧ l ≤ h ∧ h ≤ L.length) (NatOf l fun l => NatOf h fun h => K (.part k x sz l h)))
      | false => False)
    | none => False)
  | some (.slice e), .sl key b base o sz len cap => (match sizB P e with
    | some sz' => (match Nat.beq sz' sz with
      | true => (match lo, hi with
        | none, none => K (.sl key b base o sz len cap)
        | none, some h => Chk (0 ≤ h ∧ h ≤ cap) (NatOf h fun h => K (.sl key b base o sz h cap))
        | some l, none => Chk (0 ≤ l ∧ l ≤ len ∧ l < cap ∧ len ≤ cap) (NatOf l fun l => K (.sl key b base (o + l) sz (len - l) (cap - l)))
        | some l, some h => Chk (0 ≤ l ∧ l ≤ h ∧ l < cap ∧ h ≤ cap) (NatOf l fun l => NatOf h fun h => K (.sl key b base (o + l) sz (h - l) (cap - l))))
      | false => False)
    | none => False)
  | some (.slice e), .nilsl => (match sizB P e with
    | some _ => Chk (lo.getD 0 = 0 ∧ hi.getD 0 = 0) (K .nilsl)
    | none => False)
  | some (.array n e), .ptr ⟨key, b, .lit m⟩ => (match sizB P e with
    | some sz => lit sz fun sz => (match lo, hi with
      | none, none => K (.sl key b m 0 sz n n)
      | none, some h => Chk (0 ≤ h ∧ h ≤ n) (NatOf h fun h => K (.sl key b m 0 sz h n))
      | some l, none => Chk (0 ≤ l ∧ l < n) (NatOf l fun l => K (.sl key b m l sz (n - l) (n - l)))
      | some l, some h => Chk (0 ≤ l ∧ l ≤ h ∧ l < n ∧ h ≤ n) (NatOf l fun l => NatOf h fun h => K (.sl key b m l sz (h - l) (n - l))))
    | none => False)
  | _, _ => False

theorem extract_str (s : List UInt8) (l h : Nat) : (⟨⟨s⟩⟩ : ByteArray).extract l h = ⟨⟨(s.take h).drop l⟩⟩ := by
  apply ByteArray.ext
  simp [ByteArray.data_extract, List.drop_take]
theorem base_addr {m l : Nat} (a : Addr) (sz : Nat) (h : l < m) : (if m = l then some a else (some a).map (·.add (l * sz))) = some (a.add (l * sz)) := by
  rw [if_neg (by omega)]; rfl

theorem qslice_ok {P : Program} {H : Heap} {t : TypeId} {x : SC} {lo hi : Option Int} {K : SC → Prop} (h : qslice P H t x lo hi K) (hw1 : HWf H) :
    ∃ v, K v ∧ ∀ C w (lk hk : IntKind), Rep C H w → (Instr.sliceAt t x.val (lo.map (Value.int lk)) (hi.map (Value.int hk)) none).run P w = .ok v.val w := by
  unfold qslice at h
  split at h
  · rename_i s hu
    have es : (⟨⟨s⟩⟩ : ByteArray).size = s.length := rfl
    split at h
    · exact ⟨_, h, fun C w lk hk _ => by simp [Instr.sliceAt, Instr.slice, run_underlying hu, Instr.sliceBounds, SC.val, extract_str, es]⟩
    · obtain ⟨⟨h1, h2⟩, h⟩ := h
      exact ⟨_, h.out, fun C w lk hk _ => by simp [Instr.sliceAt, Instr.slice, run_underlying hu, Instr.sliceBounds, SC.val, extract_str, es, run_sliceBound, h1, h2]⟩
    · obtain ⟨⟨h1, h2⟩, h⟩ := h
      exact ⟨_, h.out, fun C w lk hk _ => by simp [Instr.sliceAt, Instr.slice, run_underlying hu, Instr.sliceBounds, SC.val, extract_str, es, run_sliceBound, h1, h2]⟩
    · obtain ⟨⟨h1, h2, h3⟩, h⟩ := h
      rename_i l hh
      have e : ((hh.toNat : Nat) : Int) = hh := Int.toNat_of_nonneg (by omega)
      exact ⟨_, h.out.out, fun C w lk hk _ => by simp [Instr.sliceAt, Instr.slice, run_underlying hu, Instr.sliceBounds, SC.val, extract_str, es, run_sliceBound, h1, h2, h3, e, show 0 ≤ hh by omega]⟩
  · rename_i e k x hu
    split at h
    · rename_i sz hsz
      have h0 := lit_ok h
      clear h
      obtain ⟨E, L, h, hwL, hI⟩ := lstOf_ok h0 hw1
      clear h0
      -- of any two bounds
      have key : ∀ (l hh : Nat), l ≤ hh → hh ≤ L.length → ∀ C w (lk hk : IntKind), Rep C H w →
          (Instr.sliceAt t x.val (some (Value.int lk l)) (some (Value.int hk hh)) none).run P w = .ok (x.sub sz l hh).val w := by
        intro l hh h1 h2 C w lk hk hw
        have hl := (hI C).len w hw
        cases x with
        | nil =>
          have hl : L = [] := hl
          subst hl
          have e1 : hh = 0 := by simpa using h2
          have e2 : l = 0 := by omega
          subst e1 e2
          simp [Instr.sliceAt, Instr.slice, run_underlying hu, Instr.sliceBounds, SV.val, SV.sub, sizB_run hsz, run_sliceBound]
        | «at» b o len cap =>
          obtain ⟨rfl, hc⟩ := hl
          simp only [Instr.sliceAt, Instr.slice, Sem.run_bind, run_underlying hu, Instr.sliceBounds, SV.val, SV.sub, sizB_run hsz, run_sliceBound w _ _ _ _ (show (0 : Int) ≤ hh by omega) (show (hh : Int) ≤ cap by omega), run_sliceBound w lk l hh _ (show (0 : Int) ≤ l by omega) (by omega),
            Option.map_some, Option.map_none, Sem.run_pure, Result.andThen_ok, Option.isSome_none, Bool.false_eq_true, if_false, Int.toNat_natCast]
          by_cases hcl : cap = l
          · simp [hcl]
          · simp [hcl, add_addr]
      split at h
      · split at h
        · refine ⟨_, h, fun C w lk hk hw => ?_⟩
          have hl := (hI C).len w hw
          cases x with
          | nil => simp [Instr.sliceAt, Instr.slice, run_underlying hu, Instr.sliceBounds, SC.val, SV.val, sizB_run hsz]
          | «at» b o len cap =>
            obtain ⟨rfl, hc⟩ := hl
            by_cases hcl : cap = 0
            · simp [Instr.sliceAt, Instr.slice, run_underlying hu, Instr.sliceBounds, SC.val, SV.val, sizB_run hsz, hcl]
            · simp [Instr.sliceAt, Instr.slice, run_underlying hu, Instr.sliceBounds, SC.val, SV.val, sizB_run hsz, hcl, add_addr]
        · rename_i hh
          obtain ⟨⟨h1, h2⟩, h⟩ := h
          refine ⟨_, h.out, fun C w lk hk hw => ?_⟩
          have hl := (hI C).len w hw
          have e : ((hh.toNat : Nat) : Int) = hh := Int.toNat_of_nonneg (by omega)
          cases x with
          | nil =>
            have hl : L = [] := hl
            subst hl
            have e1 : hh = 0 := by simp at h2; omega
            subst e1
            simp [Instr.sliceAt, Instr.slice, run_underlying hu, Instr.sliceBounds, SC.val, SV.val, SV.sub, sizB_run hsz, run_sliceBound]
          | «at» b o len cap =>
            obtain ⟨rfl, hc⟩ := hl
            by_cases hcl : cap = 0
            · subst hcl
              simp [Instr.sliceAt, Instr.slice, run_underlying hu, Instr.sliceBounds, SC.val, SV.val, SV.sub, sizB_run hsz, run_sliceBound w hk hh 0 _ h1 (by omega)]
            · simp [Instr.sliceAt, Instr.slice, run_underlying hu, Instr.sliceBounds, SC.val, SV.val, SV.sub, sizB_run hsz, run_sliceBound, h1, show hh ≤ cap by omega, hcl, add_addr]
        · rename_i l
          obtain ⟨⟨h1, h2⟩, h⟩ := h
          refine ⟨_, h.out, fun C w lk hk hw => ?_⟩
          have hl := (hI C).len w hw
          have e : ((l.toNat : Nat) : Int) = l := Int.toNat_of_nonneg (by omega)
          cases x with
          | nil =>
            have hl : L = [] := hl
            subst hl
            have e1 : l = 0 := by simp at h2; omega
            subst e1
            simp [Instr.sliceAt, Instr.slice, run_underlying hu, Instr.sliceBounds, SC.val, SV.val, SV.sub, sizB_run hsz, run_sliceBound]
          | «at» b o len cap =>
            obtain ⟨rfl, hc⟩ := hl
            simp only [Instr.sliceAt, Instr.slice, Sem.run_bind, run_underlying hu, Instr.sliceBounds, SC.val, SV.val, SV.sub, sizB_run hsz, run_sliceBound w lk l L.length _ h1 (by omega),
              Option.map_some, Option.map_none, Sem.run_pure, Result.andThen_ok, Option.isSome_none, Bool.false_eq_true, if_false]
            by_cases hcl : cap = l.toNat
            · simp [hcl]
            · simp [hcl, add_addr]
        · rename_i l hh
          obtain ⟨⟨h1, h2, h3⟩, h⟩ := h
          refine ⟨_, h.out.out, fun C w lk hk hw => ?_⟩
          have := key l.toNat hh.toNat (by omega) (by omega) C w lk hk hw
          rw [Int.toNat_of_nonneg h1, Int.toNat_of_nonneg (show 0 ≤ hh by omega)] at this
          exact this
      · exact h.elim
    · exact h.elim
  · rename_i e key b base o sz len cap hu
    split at h
    · rename_i sz' hsz
      split at h
      · rename_i hbq
        have hbq := Nat.eq_of_beq_eq_true hbq
        subst hbq
        split at h
        · refine ⟨_, h, fun C w lk hk _ => ?_⟩
          simp [Instr.sliceAt, Instr.slice, run_underlying hu, Instr.sliceBounds, SC.val, sizB_run hsz, add_addr]
        · obtain ⟨⟨h1, h2⟩, h⟩ := h
          refine ⟨_, h.out, fun C w lk hk _ => ?_⟩
          simp [Instr.sliceAt, Instr.slice, run_underlying hu, Instr.sliceBounds, SC.val, sizB_run hsz, add_addr, run_sliceBound, h1, h2]
        · rename_i l
          obtain ⟨⟨h1, h2, h3, h4⟩, h⟩ := h
          refine ⟨_, h.out, fun C w lk hk _ => ?_⟩
          simp only [Instr.sliceAt, Instr.slice, Sem.run_bind, run_underlying hu, Instr.sliceBounds, SC.val, sizB_run hsz, run_sliceBound w _ _ _ _ h1 h2, Option.map_some, Option.map_none, Sem.run_pure, Result.andThen_ok]
          have := base_addr (m := cap) (l := l.toNat) ⟨b, base + o * sz', none⟩ sz' (by omega)
          simp only [Option.map_some] at this
          rw [this, add_addr, Nat.add_mul, Nat.add_assoc]
        · rename_i l hh
          obtain ⟨⟨h1, h2, h3, h4⟩, h⟩ := h
          refine ⟨_, h.out.out, fun C w lk hk _ => ?_⟩
          have e : ((hh.toNat : Nat) : Int) = hh := Int.toNat_of_nonneg (by omega)
          simp only [Instr.sliceAt, Instr.slice, Sem.run_bind, run_underlying hu, Instr.sliceBounds, SC.val, sizB_run hsz, run_sliceBound w _ _ _ _ (show 0 ≤ hh by omega) h4, run_sliceBound w lk l hh.toNat _ h1 (by omega),
            Option.map_some, Option.map_none, Sem.run_pure, Result.andThen_ok, Option.isSome_none, Bool.false_eq_true, if_false]
          have := base_addr (m := cap) (l := l.toNat) ⟨b, base + o * sz', none⟩ sz' (by omega)
          simp only [Option.map_some] at this
          rw [this, add_addr, Nat.add_mul, Nat.add_assoc]
      · exact h.elim
    · exact h.elim
  · rename_i e hu
    split at h
    · rename_i n hs
      obtain ⟨⟨h1, h2⟩, h⟩ := h
      refine ⟨_, h, fun C w lk hk _ => ?_⟩
      cases lo <;> cases hi <;> simp only [Option.getD_none, Option.getD_some] at h1 h2 <;> subst_vars <;>
        simp [Instr.sliceAt, Instr.slice, run_underlying hu, Instr.sliceBounds, SC.val, sizB_run hs, run_sliceBound]
    · exact h.elim
  · rename_i n e key b m hu
    split at h
    · rename_i sz hsz
      replace h := lit_ok h
      have sub : ∀ l : Nat, l < n → (if n = l then (⟨b, m, none⟩ : Addr) else (⟨b, m, none⟩ : Addr).add (l * sz)) = ⟨b, m + l * sz, none⟩ := fun l hl => by
        rw [if_neg (by omega), add_addr]
      split at h
      · refine ⟨_, h, fun C w lk hk _ => ?_⟩
        simp [Instr.sliceAt, run_underlying hu, Instr.sliceBounds, SC.val, Pt.value, Pt.addr, Off.val, Instr.sureAddr, sizB_run hsz, add_addr]
      · obtain ⟨⟨h1, h2⟩, h⟩ := h
        refine ⟨_, h.out, fun C w lk hk _ => ?_⟩
        simp [Instr.sliceAt, run_underlying hu, Instr.sliceBounds, SC.val, Pt.value, Pt.addr, Off.val, Instr.sureAddr, sizB_run hsz, add_addr, run_sliceBound, h1, h2]
      · rename_i l
        obtain ⟨⟨h1, h2⟩, h⟩ := h
        refine ⟨_, h.out, fun C w lk hk _ => ?_⟩
        simp only [Instr.sliceAt, Sem.run_bind, run_underlying hu, Instr.sliceBounds, SC.val, Pt.value, Pt.addr, Off.val, Instr.sureAddr, sizB_run hsz, run_sliceBound w _ _ _ _ h1 (show l ≤ n by omega), Option.map_some, Option.map_none, Sem.run_pure, Result.andThen_ok]
        rw [sub _ (by omega)]
      · rename_i l hh
        obtain ⟨⟨h1, h2, h3, h4⟩, h⟩ := h
        refine ⟨_, h.out.out, fun C w lk hk _ => ?_⟩
        have e : ((hh.toNat : Nat) : Int) = hh := Int.toNat_of_nonneg (by omega)
        simp only [Instr.sliceAt, Sem.run_bind, run_underlying hu, Instr.sliceBounds, SC.val, Pt.value, Pt.addr, Off.val, Instr.sureAddr, sizB_run hsz, run_sliceBound w _ _ _ _ (show 0 ≤ hh by omega) h4, run_sliceBound w lk l hh.toNat _ h1 (by omega),
          Option.map_some, Option.map_none, Sem.run_pure, Result.andThen_ok, Option.isSome_none, Bool.false_eq_true, if_false]
        rw [sub _ (by omega)]
    · exact h.elim
  · exact h.elim
end Go.SY
