/- A walk engine: what a call computes, symbolically (part 2). -/
import Derived.Test.YtchbadngbddmnaaSy1
import Derived.Lib.Builder
import Derived.ChangeKeysEq
import Derived.Lib.ConvBytes
/- Operations that leave memory alone: places, parts, conversions, loads, values out of parts. -/
set_option linter.unusedSimpArgs false
set_option linter.unusedVariables false
namespace Go.SY

def qindexAddr (P : Program) (H : Heap) (t : TypeId) (x : SC) (n : Int) (K : SC → Prop) : Prop :=
  match P.underlying t, x with
  | some (.slice e), .lst k x => (match sizB P e with
    | some sz => lit sz fun sz => lstOf H k x fun E L => (match Nat.beq sz E.sz with
      | true => Chk (0 ≤ n ∧ n < L.length) (NatOf n fun m => K (.ptr ⟨k, x.blk, .el x.off m sz 0⟩))
      | false => False)
    | none => False)
  | some (.slice e), .part k x sz' lo hi => (match sizB P e with
    | some sz => lit sz fun sz => lstOf H k x fun E L => (match Nat.beq sz E.sz, Nat.beq sz' sz with
      | true, true => Chk (0 ≤ n ∧ n < ((hi - lo : Nat) : Int) ∧ hi ≤ L.length) (NatOf n fun m => K (.ptr ⟨k, x.blk, .el x.off (lo + m) sz 0⟩))
      | _, _ => False)
    | none => False)
  | some (.slice e), .sl key b base o sz len cap => (match sizB P e with
    | some sz' => (match Nat.beq sz' sz with
      | true => Chk (0 ≤ n ∧ n < len) (NatOf n fun m => K (.ptr ⟨key, b, .el base (o + m) sz 0⟩))
      | false => False)
    | none => False)
  | some (.array len e), .ptr ⟨key, b, .lit m⟩ => (match sizB P e with
    | some sz => lit sz fun sz => Chk (0 ≤ n ∧ n < len) (NatOf n fun i => K (.ptr ⟨key, b, .el m i sz 0⟩))
    | none => False)
  | some (.array len e), .ptr ⟨key, b, .el base i sz j⟩ => (match sizB P e, hget H key with
    | some 1, some (_, .var _ _) => Chk (0 ≤ n ∧ n < len) (NatOf n fun m => K (.ptr ⟨key, b, .el base (i * sz + j + m) 1 0⟩))
    | some 1, some (_, .ro _) => Chk (0 ≤ n ∧ n < len) (NatOf n fun m => K (.ptr ⟨key, b, .el base (i * sz + j + m) 1 0⟩))
    | some sz', some _ => Chk (0 ≤ n ∧ n < len) (NatOf n fun n => lit (j + n * sz') fun m => K (.ptr ⟨key, b, .el base i sz m⟩))
    | _, _ => False)
  | _, _ => False

theorem qindexAddr_ok {P : Program} {H : Heap} {t : TypeId} {x : SC} {n : Int} {K : SC → Prop} (h : qindexAddr P H t x n K) (hw1 : HWf H) :
    ∃ v, K v ∧ ∀ C w (k : IntKind), Rep C H w → (Instr.indexAt t x.val (.int k n)).run P w = .ok v.val w := by
  unfold qindexAddr at h
  split at h
  · rename_i e k x hu
    split at h
    · rename_i sz hs
      have h0 := lit_ok h
      clear h
      obtain ⟨E, L, h, hwL, hI⟩ := lstOf_ok h0 hw1
      clear h0
      split at h
      · rename_i hb
        have hb := Nat.eq_of_beq_eq_true hb
        obtain ⟨⟨h1, h2⟩, h⟩ := h
        refine ⟨_, h.out, fun C w ik hw => ?_⟩
        have hl := (hI C).len w hw
        cases x with
        | nil => have hl : L = [] := hl; subst hl; simp at h2; omega
        | «at» b o len cap =>
          obtain ⟨rfl, hc⟩ := hl
          simp only [Instr.indexAt, asIntOf, Sem.run_bind, Sem.run_pure, Result.andThen_ok, run_underlying hu, SC.val, SV.val, sizB_run hs, if_pos (And.intro h1 h2), add_addr, Pt.value, Pt.addr, Off.val, SV.blk, SV.off]
          simp
      · exact h.elim
    · exact h.elim
  · rename_i e k x sz' lo hi hu
    split at h
    · rename_i sz hs
      have h0 := lit_ok h
      clear h
      obtain ⟨E, L, h, hwL, hI⟩ := lstOf_ok h0 hw1
      clear h0
      split at h
      · rename_i hb hb'
        have hb := Nat.eq_of_beq_eq_true hb
        have hb' := Nat.eq_of_beq_eq_true hb'
        obtain ⟨⟨h1, h2, h3⟩, h⟩ := h
        refine ⟨_, h.out, fun C w ik hw => ?_⟩
        have hl := (hI C).len w hw
        cases x with
        | nil => have hl : L = [] := hl; subst hl; simp at h3; omega
        | «at» b o len cap =>
          obtain ⟨rfl, hc⟩ := hl
          have hne : ¬ cap = lo := by omega
          simp only [Instr.indexAt, asIntOf, Sem.run_bind, Sem.run_pure, Result.andThen_ok, run_underlying hu, SC.val, SV.val, SV.sub, sizB_run hs, if_pos (And.intro h1 h2), if_neg hne, add_addr, Pt.value, Pt.addr, Off.val, SV.blk, SV.off]
          rw [hb', Nat.add_mul]
          simp [Nat.add_assoc]
      · exact h.elim
    · exact h.elim
  · rename_i e key b base o sz len cap hu
    split at h
    · rename_i sz' hs
      split at h
      · rename_i hb
        have hb := Nat.eq_of_beq_eq_true hb
        subst hb
        obtain ⟨⟨h1, h2⟩, h⟩ := h
        refine ⟨_, h.out, fun _ w k _ => ?_⟩
        simp only [Instr.indexAt, asIntOf, Sem.run_bind, Sem.run_pure, Result.andThen_ok, run_underlying hu, SC.val, sizB_run hs, if_pos (And.intro h1 h2), add_addr, Pt.value, Pt.addr, Off.val]
        simp [Nat.add_mul, Nat.add_assoc]
      · exact h.elim
    · exact h.elim
  · rename_i len e key b m hu
    split at h
    · rename_i sz hs
      obtain ⟨⟨h1, h2⟩, h⟩ := lit_ok h
      refine ⟨_, h.out, fun _ w k _ => ?_⟩
      simp only [Instr.indexAt, asIntOf, Sem.run_bind, Sem.run_pure, Result.andThen_ok, run_underlying hu, SC.val, Pt.value, Instr.sureAddr, sizB_run hs, if_pos (And.intro h1 h2), add_addr, Pt.addr, Off.val]
      simp
    · exact h.elim
  · rename_i len e key b base i sz j hu
    have key1 : sizB P e = some 1 → 0 ≤ n → n < len → ∀ w (k : IntKind), (Instr.indexAt t (SC.ptr ⟨key, b, .el base i sz j⟩).val (.int k n)).run P w = .ok (SC.ptr ⟨key, b, .el base (i * sz + j + n.toNat) 1 0⟩).val w := by
      intro hs h1 h2 w k
      simp only [Instr.indexAt, asIntOf, Sem.run_bind, Sem.run_pure, Result.andThen_ok, run_underlying hu, SC.val, Pt.value, Instr.sureAddr, sizB_run hs, if_pos (And.intro h1 h2), add_addr, Pt.addr, Off.val]
      simp [Nat.add_assoc]
    split at h
    · rename_i b' T l hs hg
      obtain ⟨⟨h1, h2⟩, h⟩ := h
      exact ⟨_, h.out, fun _ w k _ => key1 hs h1 h2 w k⟩
    · rename_i b' l hs hg
      obtain ⟨⟨h1, h2⟩, h⟩ := h
      exact ⟨_, h.out, fun _ w k _ => key1 hs h1 h2 w k⟩
    · rename_i sz' _ _ _ hs _
      obtain ⟨⟨h1, h2⟩, h⟩ := h
      refine ⟨_, lit_ok h.out, fun _ w k _ => ?_⟩
      simp only [Instr.indexAt, asIntOf, Sem.run_bind, Sem.run_pure, Result.andThen_ok, run_underlying hu, SC.val, Pt.value, Instr.sureAddr, sizB_run hs, if_pos (And.intro h1 h2), add_addr, Pt.addr, Off.val]
      simp [Nat.add_assoc]
    · exact h.elim
  · exact h.elim

/-- A field's place, its type and its size. -/
def fieldB (P : Program) (t : TypeId) (f : Nat) : Option (Nat × TypeId) :=
  match P.underlying t with
  | some (.struct fs) => match lget fs.toList f with
    | some fd => some (fd.offset, fd.type)
    | none => none
  | _ => none
theorem fieldB_ok {P : Program} {t : TypeId} {f o : Nat} {e : TypeId} (h : fieldB P t f = some (o, e)) :
    ∃ fs fd, P.underlying t = some (.struct fs) ∧ fs[f]? = some fd ∧ fd.offset = o ∧ fd.type = e := by
  unfold fieldB at h
  split at h
  · rename_i fs hu
    split at h
    · rename_i fd hf
      cases h
      rw [lget_eq, Array.getElem?_toList] at hf
      exact ⟨fs, fd, hu, hf, rfl, rfl⟩
    · cases h
  · cases h

def qfieldAddr (P : Program) (t : TypeId) (x : SC) (f : Nat) (K : SC → Prop) : Prop :=
  match fieldB P t f, x with
  | some (o, e), .ptr ⟨key, b, off⟩ => (match sizB P e with
    | some (_ + 1) => (match off with
      | .lit n => lit (n + o) fun m => K (.ptr ⟨key, b, .lit m⟩)
      | .el base i sz j => lit (j + o) fun m => K (.ptr ⟨key, b, .el base i sz m⟩))
    | _ => False)
  | _, _ => False
theorem qfieldAddr_ok {P : Program} {t : TypeId} {x : SC} {f : Nat} {K : SC → Prop} (h : qfieldAddr P t x f K) :
    ∃ v, K v ∧ ∀ w, (Instr.fieldAt t x.val f).run P w = .ok v.val w := by
  unfold qfieldAddr at h
  split at h
  · rename_i o e key b off hf
    obtain ⟨fs, fd, hu, hfd, rfl, rfl⟩ := fieldB_ok hf
    split at h
    · rename_i n hs
      have key : ∀ (off off' : Off), off'.val = off.val + fd.offset → ∀ w, (Instr.fieldAt t (SC.ptr ⟨key, b, off⟩).val f).run P w = .ok (SC.ptr ⟨key, b, off'⟩).val w := by
        intro off off' he w
        simp [Instr.fieldAt, run_underlying hu, hfd, SC.val, Pt.value, Pt.addr, Instr.sureAddr, fieldPlace, sizB_run hs, add_addr, he]
      split at h
      · exact ⟨_, lit_ok h, key _ _ rfl⟩
      · exact ⟨_, lit_ok h, key _ _ (by simp [Off.val, Nat.add_assoc])⟩
    · exact h.elim
  · exact h.elim

/-- A part of a value. -/
def qpart (P : Program) (t : TypeId) (l : List Sg) (off : Nat) (K : BV → Prop) : Prop :=
  match aggB P t, sizB P t with
  | some false, _ => segLook l off fun c => K (.one c)
  | some true, some n => segTake l off n fun r => K (.agg r)
  | _, _ => False
theorem extract_toArray {α : Type} (l : List α) (o n : Nat) : (l.toArray).extract o (o + n) = ((l.drop o).take n).toArray := by
  simp [List.extract_toArray, List.extract_eq_take_drop]
theorem svals_sub {r l : List Sg} {n z : Nat} (h : scs r = ((scs l).drop n).take z) : svals r = ((svals l).drop n).take z := by
  simp [svals, h, List.map_take, List.map_drop]
theorem part_one {P : Program} {t : TypeId} {l : List Sg} {off : Nat} {c : SC} {w : World} (ha : aggB P t = some false) (hc : (scs l)[off]? = some c) : (part t (svals l).toArray off).run P w = .ok c.val w := by
  have := svals_get hc
  simp [part, aggB_run ha, this]
theorem part_agg {P : Program} {t : TypeId} {l r : List Sg} {off n : Nat} {w : World} (ha : aggB P t = some true) (hs : sizB P t = some n) (h : scs r = ((scs l).drop off).take n) : (part t (svals l).toArray off).run P w = .ok (BV.agg r).val w := by
  simp only [part, Sem.run_bind, aggB_run ha, Result.andThen_ok, if_true, sizB_run hs, Sem.run_pure, BV.val, extract_toArray, svals_sub h]
theorem qpart_ok {P : Program} {t : TypeId} {l : List Sg} {off : Nat} {K : BV → Prop} (h : qpart P t l off K) (hl : swf l) :
    ∃ v, K v ∧ v.wf ∧ ∀ w, (part t (svals l).toArray off).run P w = .ok v.val w := by
  unfold qpart at h
  split at h
  · rename_i x ha
    obtain ⟨c, hc, he⟩ := segLook_ok h hl
    exact ⟨_, hc, bone_wf c, fun w => part_one ha he⟩
  · rename_i n ha hs
    obtain ⟨r, hr, h1, h2, h3⟩ := segTake_ok h hl
    exact ⟨_, hr, h1, fun w => part_agg ha hs h3⟩
  · exact h.elim

def qfield (P : Program) (t : TypeId) (x : BV) (f : Nat) (K : BV → Prop) : Prop :=
  match fieldB P t f, x with
  | some (o, e), .agg l => qpart P e l o K
  | _, _ => False
theorem qfield_ok {P : Program} {t : TypeId} {x : BV} {f : Nat} {K : BV → Prop} (h : qfield P t x f K) (hx : x.wf) :
    ∃ v, K v ∧ v.wf ∧ ∀ w, (Instr.field t x.val f).run P w = .ok v.val w := by
  unfold qfield at h
  split at h
  · rename_i o e l hf
    obtain ⟨fs, fd, hu, hfd, rfl, rfl⟩ := fieldB_ok hf
    obtain ⟨v, hv, hvw, hr⟩ := qpart_ok h hx
    exact ⟨v, hv, hvw, fun w => by simp [Instr.field, run_underlying hu, hfd, BV.val, asAgg, hr]⟩
  · exact h.elim

def qindex (P : Program) (t : TypeId) (x : BV) (n : Int) (K : BV → Prop) : Prop :=
  match P.underlying t, x with
  | some .string, .one (.str s) => Chk (0 ≤ n ∧ n < s.length) (NatOf n fun i => K (.one (.w8 (s.getD i 0))))
  | some (.array len e), .agg l => (match aggB P e, sizB P e with
    | some false, some 1 => Chk (0 ≤ n ∧ n < len) (NatOf n fun i => segEl l 0 i fun c => K (.one c))
    | some true, some sz => Chk (0 ≤ n ∧ n < len) (NatOf n fun i => lit sz fun sz => segTakeEl l 0 (i * sz) sz fun r => K (.agg r))
    | _, _ => False)
  | _, _ => False
theorem qindex_ok {P : Program} {t : TypeId} {x : BV} {n : Int} {K : BV → Prop} (h : qindex P t x n K) (hx : x.wf) :
    ∃ v, K v ∧ v.wf ∧ ∀ w (k : IntKind), (Instr.index t x.val (.int k n)).run P w = .ok v.val w := by
  unfold qindex at h
  split at h
  · rename_i s hu
    obtain ⟨⟨h1, h2⟩, h⟩ := h
    refine ⟨_, h.out, bone_wf _, fun w k => ?_⟩
    have h3 : n.toNat < s.length := by omega
    have h4 : (⟨⟨s⟩⟩ : ByteArray)[n.toNat]? = some s[n.toNat] := by
      rw [ByteArray.getElem?_lt' _ _ h3]; rfl
    simp [Instr.index, asIntOf, run_underlying hu, BV.val, SC.val, h1, h4, h3]
  · rename_i len e l hu
    split at h
    · rename_i ha hs
      obtain ⟨⟨h1, h2⟩, h⟩ := h
      obtain ⟨c, hc, he⟩ := segEl_ok h.out hx
      refine ⟨_, hc, bone_wf _, fun w k => ?_⟩
      rw [Nat.zero_add] at he
      simp only [Instr.index, asIntOf, Sem.run_bind, Sem.run_pure, Result.andThen_ok, run_underlying hu, BV.val, if_pos (And.intro h1 h2), sizB_run hs, Nat.mul_one]
      exact part_one ha he
    · rename_i sz ha hs
      obtain ⟨⟨h1, h2⟩, h⟩ := h
      obtain ⟨r, hr, e1, e2, e3⟩ := segTakeEl_ok (lit_ok (K := fun sz => segTakeEl l 0 (n.toNat * sz) sz fun r => K (.agg r)) h.out) hx
      refine ⟨_, hr, e1, fun w k => ?_⟩
      rw [Nat.zero_add] at e3
      simp only [Instr.index, asIntOf, Sem.run_bind, Sem.run_pure, Result.andThen_ok, run_underlying hu, show (BV.agg l).val = Value.agg (svals l).toArray from rfl, if_pos (And.intro h1 h2), sizB_run hs]
      exact part_agg ha hs e3
    · exact h.elim
  · exact h.elim

/-! ### Conversions -/
theorem bv_conv {n m : Nat} (x : BitVec n) : BitVec.ofInt m (x.toNat : Int) = x.setWidth m := by
  rw [BitVec.ofInt_natCast, BitVec.ofNat_toNat]
/-- A number as one of another kind. -/
def qnum (k : IntKind) (x : SC) (K : SC → Prop) : Prop :=
  match k, x with
  | .u8, .int _ n => K (.w8 ⟨BitVec.ofInt 8 n⟩)
  | .u8, .w8 x => K (.w8 x)
  | .u8, .w32 x => K (.w8 ⟨x.setWidth 8⟩)
  | .u8, .w64 x => K (.w8 ⟨x.setWidth 8⟩)
  | .u32, .int _ n => K (.w32 (BitVec.ofInt 32 n))
  | .u32, .w8 x => K (.w32 (x.toBitVec.setWidth 32))
  | .u32, .w32 x => K (.w32 x)
  | .u32, .w64 x => K (.w32 (x.setWidth 32))
  | .u64, .int _ n => K (.w64 (BitVec.ofInt 64 n))
  | .u64, .w8 x => K (.w64 (x.toBitVec.setWidth 64))
  | .u64, .w32 x => K (.w64 (x.setWidth 64))
  | .u64, .w64 x => K (.w64 x)
  | .i64, .w8 x => K (.int .i64 (x.toNat : Int))
  | .i64, .w32 x => K (.int .i64 (x.toNat : Int))
  | k, x => (match x.num with | some n => Wr k n fun z => K (.int k z) | none => False)
theorem qnum_ok {k : IntKind} {x : SC} {K : SC → Prop} (h : qnum k x K) : ∃ v, K v ∧ ∃ k' n, x.val = .int k' n ∧ v.val = .int k (k.wrap n) := by
  have u : ∀ {k : IntKind} (_ : k.signed = false) (n : Int), k.wrap n = ((BitVec.ofInt k.bits n).toNat : Int) := fun hk n => wrap_un hk n
  unfold qnum at h
  split at h
  · exact ⟨_, h, _, _, rfl, by rw [u rfl]; rfl⟩
  · rename_i x; exact ⟨_, h, _, _, rfl, by rw [u rfl]; exact congrArg (fun z : BitVec 8 => Value.int .u8 (z.toNat : Int)) (ofInt_nat x.toBitVec).symm⟩
  · rename_i x; exact ⟨_, h, _, _, rfl, by rw [u rfl]; exact congrArg (fun z : BitVec 8 => Value.int .u8 (z.toNat : Int)) (bv_conv x).symm⟩
  · rename_i x; exact ⟨_, h, _, _, rfl, by rw [u rfl]; exact congrArg (fun z : BitVec 8 => Value.int .u8 (z.toNat : Int)) (bv_conv x).symm⟩
  · exact ⟨_, h, _, _, rfl, by rw [u rfl]; rfl⟩
  · rename_i x; exact ⟨_, h, _, _, rfl, by rw [u rfl]; exact congrArg (fun z : BitVec 32 => Value.int .u32 (z.toNat : Int)) (bv_conv x.toBitVec).symm⟩
  · rename_i x; exact ⟨_, h, _, _, rfl, by rw [u rfl]; exact congrArg (fun z : BitVec 32 => Value.int .u32 (z.toNat : Int)) (ofInt_nat x).symm⟩
  · rename_i x; exact ⟨_, h, _, _, rfl, by rw [u rfl]; exact congrArg (fun z : BitVec 32 => Value.int .u32 (z.toNat : Int)) (bv_conv x).symm⟩
  · exact ⟨_, h, _, _, rfl, by rw [u rfl]; rfl⟩
  · rename_i x; exact ⟨_, h, _, _, rfl, by rw [u rfl]; exact congrArg (fun z : BitVec 64 => Value.int .u64 (z.toNat : Int)) (bv_conv x.toBitVec).symm⟩
  · rename_i x; exact ⟨_, h, _, _, rfl, by rw [u rfl]; exact congrArg (fun z : BitVec 64 => Value.int .u64 (z.toNat : Int)) (bv_conv x).symm⟩
  · rename_i x; exact ⟨_, h, _, _, rfl, by rw [u rfl]; exact congrArg (fun z : BitVec 64 => Value.int .u64 (z.toNat : Int)) (ofInt_nat x).symm⟩
  · rename_i x; have := x.toNat_lt; exact ⟨_, h, _, _, rfl, by rw [IntWalk.i64_in _ (by omega)]; rfl⟩
  · rename_i x; have := x.isLt; exact ⟨_, h, _, _, rfl, by rw [IntWalk.i64_in _ (by omega)]; rfl⟩
  · split at h
    · rename_i n hn
      obtain ⟨k', hv⟩ := SC.num_ok hn
      exact ⟨_, h.go, _, _, hv, rfl⟩
    · exact h.elim

/-- The bytes of a slice. -/
def bytesIn (H : Heap) (x : SC) (K : List UInt8 → Prop) : Prop :=
  match x with
  | .nilsl => K []
  | .lst k x => (match hget H k with
    | some (_, .own _ (.sc .u8) x' L) => Chk (x = x') (K L)
    | some (_, .view (.sc .u8) x' L) => Chk (x = x') (K L)
    | _ => False)
  | .part k x 1 lo hi => (match hget H k with
    | some (_, .own _ (.sc .u8) x' L) => Chk (x = x') (Chk (lo ≤ hi ∧ hi ≤ L.length) (K ((L.take hi).drop lo)))
    | some (_, .view (.sc .u8) x' L) => Chk (x = x') (Chk (lo ≤ hi ∧ hi ≤ L.length) (K ((L.take hi).drop lo)))
    | _ => False)
  | .sl k b base o 1 len cap => (match hget H k with
    | some (b', .var _ l) => Chk (b = b') (segTakeEl l base o len fun r => match r with | [.arr .u8 _ L] => K L | _ => False)
    | some (b', .ro l) => Chk (b = b') (segTakeEl l base o len fun r => match r with | [.arr .u8 _ L] => K L | _ => False)
    | _ => False)
  | _ => False
/-- As a slice's value: its length, and its cells one by one. -/
def Cells (C : Ctx) (H : Heap) (x : SC) (sz n : Nat) (vs : List Value) : Prop :=
  ∀ w, Rep C H w → vs.length = n * sz ∧ ((∃ cap, x.val = .slice none 0 cap ∧ n = 0) ∨ ∃ b o cap, x.val = .slice (some ⟨b, o, none⟩) n cap ∧ ∀ j v, vs[j]? = some v → w.cell? ⟨b, o + j, none⟩ = some v)
theorem Cells.of {C : Ctx} {H : Heap} {k : Nat} {x : SV} {E : Enc} {L : List E.α} (h : LstIs C H k x E L) (hw : E.wf L) : Cells C H (.lst k x) E.sz L.length (E.vals L) := fun w hr => by
  refine ⟨E.vals_len hw, ?_⟩
  have h1 := h.len w hr
  have h2 := h.cell w hr
  cases x with
  | nil => have h1 : L = [] := h1; exact .inl ⟨0, rfl, by rw [h1]; rfl⟩
  | «at» b o len cap => exact .inr ⟨b, o, cap, by rw [← h1.1]; rfl, h2⟩
theorem Cells.ofPart {C : Ctx} {H : Heap} {k : Nat} {x : SV} {E : Enc} {L : List E.α} (h : LstIs C H k x E L) (hw : E.wf L) {lo hi : Nat} (h1 : lo ≤ hi) (h2 : hi ≤ L.length) :
    Cells C H (.part k x E.sz lo hi) E.sz (hi - lo) (E.vals ((L.take hi).drop lo)) := fun w hr => by
  have hws : E.wf ((L.take hi).drop lo) := Enc.wf_sub hw fun y hy => List.mem_of_mem_take (List.mem_of_mem_drop hy)
  have hln : ((L.take hi).drop lo).length = hi - lo := by simp; omega
  refine ⟨by rw [E.vals_len hws, hln], ?_⟩
  have h3 := h.len w hr
  have h4 := h.cell w hr
  cases x with
  | nil =>
    have h3 : L = [] := h3
    subst h3
    have : hi = 0 := by simpa using h2
    subst this
    exact .inl ⟨0, rfl, by omega⟩
  | «at» b o len cap =>
    obtain ⟨rfl, hc⟩ := h3
    refine .inr ⟨b, (if cap = lo then o else o + lo * E.sz), cap - lo, rfl, fun j v hv => ?_⟩
    have hj : j < (hi - lo) * E.sz := by
      have := (List.getElem?_eq_some_iff.1 hv).1
      rwa [E.vals_len hws, hln] at this
    have hne : ¬ cap = lo := by
      intro e
      have : hi - lo = 0 := by omega
      rw [this] at hj; omega
    rw [if_neg hne, Nat.add_assoc]
    refine h4 _ _ ?_
    have e1 := (E.vals_split hw hi).2
    have e2 := (E.vals_split (L := L.take hi) (Enc.wf_sub hw fun y hy => List.mem_of_mem_take hy) lo).1
    rw [← e2, ← e1, List.getElem?_drop, List.getElem?_take] at hv
    split at hv
    · exact hv
    · cases hv
theorem u8_vals (L : List UInt8) : (Enc.sc .u8).vals L = L.map fun x : UInt8 => Value.int .u8 (x.toNat : Int) := by
  induction L with
  | nil => rfl
  | cons x L ih =>
    show _ ++ (Enc.sc .u8).vals L = _
    rw [ih]; rfl
theorem u8_vals' (L : List UInt8) : svals [Sg.arr .u8 L.length L] = L.map fun x : UInt8 => Value.int .u8 (x.toNat : Int) := by
  have : scs [Sg.arr .u8 L.length L] = L.map SC.w8 := List.append_nil _
  rw [svals, this, List.map_map]; rfl
theorem Cells.ofSl {C : Ctx} {H : Heap} {k b base o sz len cap : Nat} {b' : Nat} {l : List Sg} {T : TypeId} {r : List Sg} (hg : hget H k = some (b', .var T l) ∨ hget H k = some (b', .ro l)) (hb : b = b')
    (hr : scs r = ((scs l).drop (base + o * sz)).take (len * sz)) (hl : slen r = len * sz) (hrw : swf r) : Cells C H (.sl k b base o sz len cap) sz len (svals r) := fun w hw => by
  subst hb
  refine ⟨by rw [svals_len hrw, hl], .inr ⟨b, base + o * sz, cap, rfl, fun j v hv => ?_⟩⟩
  have : (svals l)[base + o * sz + j]? = some v := sub_get (svals_sub hr) hv
  rcases hg with hg | hg
  · exact var_cell (hw.is _ _ _ hg) this
  · exact (hw.is _ _ _ hg).2.1 _ _ this
theorem w8_wf (L : List UInt8) : (Enc.sc .u8).wf L := fun x _ => ⟨trivial, trivial⟩
abbrev u8v (L : List UInt8) : List Value := L.map fun x : UInt8 => Value.int .u8 (x.toNat : Int)
theorem Cells.bytes {C : Ctx} {H : Heap} {k : Nat} {x : SV} {L : List UInt8} (h : LstIs C H k x (.sc .u8) L) : Cells C H (.lst k x) 1 L.length (u8v L) := by
  have := Cells.of h (w8_wf L)
  rw [u8_vals] at this
  exact this
theorem Cells.bytesP {C : Ctx} {H : Heap} {k : Nat} {x : SV} {L : List UInt8} (h : LstIs C H k x (.sc .u8) L) {lo hi : Nat} (h1 : lo ≤ hi) (h2 : hi ≤ L.length) :
    Cells C H (.part k x 1 lo hi) 1 ((L.take hi).drop lo).length (u8v ((L.take hi).drop lo)) := by
  have := Cells.ofPart h (w8_wf L) h1 h2
  rw [u8_vals] at this
  have e : ((L.take hi).drop lo).length = hi - lo := by simp; omega
  rw [e]
  exact this
theorem Cells.bytesS {C : Ctx} {H : Heap} {k b base o len cap : Nat} {b' : Nat} {l : List Sg} {T : TypeId} {n : Nat} {L : List UInt8} (hg : hget H k = some (b', .var T l) ∨ hget H k = some (b', .ro l)) (hb : b = b')
    (h3 : scs [Sg.arr .u8 n L] = ((scs l).drop (base + o)).take len) (h2 : slen [Sg.arr .u8 n L] = len) (h1 : swf [Sg.arr .u8 n L]) : Cells C H (.sl k b base o 1 len cap) 1 L.length (u8v L) := by
  have hn : L.length = n := h1.1
  subst hn
  have h2 : L.length + 0 = len := h2
  rw [Nat.add_zero] at h2
  subst h2
  have := Cells.ofSl (C := C) (cap := cap) (o := o) (sz := 1) (len := L.length) (base := base) (T := T) hg hb (r := [Sg.arr .u8 L.length L]) (by rw [h3, Nat.mul_one, Nat.mul_one]) (by rw [Nat.mul_one]; rfl) h1
  rw [u8_vals'] at this
  exact this
theorem bytesIn_ok {H : Heap} {x : SC} {K : List UInt8 → Prop} (h : bytesIn H x K) (hw1 : HWf H) :
    ∃ L, K L ∧ ∀ C, Cells C H x 1 L.length (u8v L) := by
  unfold bytesIn at h
  split at h
  · exact ⟨[], h, fun C w hw => ⟨rfl, .inl ⟨0, rfl, rfl⟩⟩⟩
  · rename_i k x
    split at h
    · rename_i b T x' L hg
      obtain ⟨rfl, h⟩ := h
      exact ⟨L, h, fun C => .bytes (.ofOwn hg)⟩
    · rename_i b x' L hg
      obtain ⟨rfl, h⟩ := h
      exact ⟨L, h, fun C => .bytes (.ofView hg)⟩
    · exact h.elim
  · rename_i k x lo hi
    split at h
    · rename_i b T x' L hg
      obtain ⟨rfl, ⟨h1, h2⟩, h⟩ := h
      exact ⟨_, h, fun C => .bytesP (.ofOwn hg) h1 h2⟩
    · rename_i b x' L hg
      obtain ⟨rfl, ⟨h1, h2⟩, h⟩ := h
      exact ⟨_, h, fun C => .bytesP (.ofView hg) h1 h2⟩
    · exact h.elim
  · rename_i k b base o len cap
    have fin : ∀ {b' : Nat} {l : List Sg} {T : TypeId}, (hget H k = some (b', .var T l) ∨ hget H k = some (b', .ro l)) → b = b' → (segTakeEl l base o len fun r => match r with | [.arr .u8 _ L] => K L | _ => False) → swf l →
        ∃ L, K L ∧ ∀ C, Cells C H (.sl k b base o 1 len cap) 1 L.length (u8v L) := by
      intro b' l T hg hb h hwl
      obtain ⟨r, hr, h1, h2, h3⟩ := segTakeEl_ok h hwl
      split at hr
      · rename_i n L
        exact ⟨L, hr, fun C => .bytesS (T := T) hg hb h3 h2 h1⟩
      · exact hr.elim
    split at h
    · rename_i b' T l hg
      exact fin (.inl hg) h.ok h.go (hw1 _ _ _ hg)
    · rename_i b' l hg
      exact fin (T := 0) (.inr hg) h.ok h.go (hw1 _ _ _ hg)
    · exact h.elim
  · exact h.elim

theorem sizB_info {P : Program} {t : TypeId} {n : Nat} (h : sizB P t = some n) : ∃ i, P.info? t = some i ∧ i.size = n := by
  unfold sizB at h
  split at h
  · rename_i i hi; cases h; exact ⟨i, hi, rfl⟩
  · cases h
def qconv (P : Program) (H : Heap) (src dst : TypeId) (x : SC) (K : SC → Prop) : Prop :=
  match P.underlying src, P.underlying dst with
  | some (.int _), some (.int k) => qnum k x K
  | some .string, some .string => (match x with | .str s => K (.str s) | _ => False)
  | some (.slice e), some .string => (match P.underlying e with
    | some (.int .u8) => bytesIn H x fun L => K (.str L)
    | _ => False)
  | some (.pointer t), some .unsafePointer => (match x with
    | .ptr ⟨k, b, .lit n⟩ => (match hget H k, sizB P t with
      | some (b', .var _ l), some (_ + 1) => Chk (b = b') (match Nat.blt n (slen l) with | true => K (.ptr ⟨k, b, .lit n⟩) | false => False)
      | _, _ => False)
    | _ => False)
  | some .unsafePointer, some (.pointer u) => (match x with
    | .ptr ⟨k, b, .lit n⟩ => (match hget H k, sizB P u with
      | some (b', .var T l), some _ => Chk (b = b') (Chk (liesAt P P.depth T (slen l / P.cellsOf T) n u 1 = true) (K (.ptr ⟨k, b, .lit n⟩)))
      | _, _ => False)
    | _ => False)
  | _, _ => False
theorem run_conv_bytes {P : Program} {src dst e : TypeId} {w : World} {L : List UInt8} {x : Value} (hs : P.underlying src = some (.slice e)) (hd : P.underlying dst = some .string) (he : P.underlying e = some (.int .u8))
    (hx : (∃ cap, x = .slice none 0 cap ∧ L.length = 0) ∨ ∃ b o cap, x = .slice (some ⟨b, o, none⟩) L.length cap ∧ ∀ j v, (L.map fun x : UInt8 => Value.int .u8 (x.toNat : Int))[j]? = some v → w.cell? ⟨b, o + j, none⟩ = some v) :
    (convert src dst x).run P w = .ok (.string ⟨⟨L⟩⟩) w := by
  rcases hx with ⟨cap, rfl, hL⟩ | ⟨b, o, cap, rfl, hc⟩
  · have : L = [] := List.eq_nil_of_length_eq_zero hL
    subst this
    simp [convert, run_underlying hs, run_underlying hd, run_underlying he, Conv.bytesToString]
    rfl
  · rw [run_convert_bytes_string (P := P) w src dst e _ _ _ hs he hd]
    rw [run_bytesToString w ⟨b, o, none⟩ L.length cap (L.map fun x : UInt8 => (x.toNat : Int)) (by rw [List.map_map]; exact run_loadCells (n := L.length) (vs := L.map fun x : UInt8 => Value.int .u8 (x.toNat : Int)) (by simp) hc)]
    rw [foldl_push_bytes]
    congr 2
    simp only [List.map_map]
    have : (List.map ((fun n => UInt8.ofNat n.toNat) ∘ fun x : UInt8 => (x.toNat : Int)) L) = L := by
      rw [show ((fun n : Int => UInt8.ofNat n.toNat) ∘ fun x : UInt8 => (x.toNat : Int)) = id by funext x; simp]; simp
    rw [this, show ByteArray.empty.data = #[] from rfl]; simp
theorem qconv_ok {P : Program} {H : Heap} {src dst : TypeId} {x : SC} {K : SC → Prop} (h : qconv P H src dst x K) (hw1 : HWf H) :
    ∃ v, K v ∧ ∀ C w, Rep C H w → (convert src dst x.val).run P w = .ok v.val w := by
  unfold qconv at h
  split at h
  · rename_i k0 k hs hd
    obtain ⟨v, hv, k', n, e1, e2⟩ := qnum_ok h
    refine ⟨v, hv, fun _ w _ => ?_⟩
    rw [e1, e2]
    simp [convert, run_underlying hs, run_underlying hd, Conv.intToInt]
  · rename_i hs hd
    split at h
    · refine ⟨_, h, fun _ w _ => ?_⟩
      simp [convert, run_underlying hs, run_underlying hd, SC.val]
    · exact h.elim
  · rename_i e hs hd
    split at h
    · rename_i he
      obtain ⟨L, hL, hc⟩ := bytesIn_ok h hw1
      exact ⟨_, hL, fun C w hw => run_conv_bytes hs hd he (hc C w hw).2⟩
    · exact h.elim
  · rename_i tt hs hd
    split at h
    · rename_i k b n
      split at h
      · rename_i b' T l m hg hz
        obtain ⟨rfl, h⟩ := h
        split at h
        · rename_i hlt
          rw [Nat.blt_eq] at hlt
          refine ⟨_, h, fun C w hw => ?_⟩
          obtain ⟨lo, hi, hh, _, hwl⟩ := hw.is _ _ _ hg
          obtain ⟨j, hj, hjs⟩ := sizB_info hz
          have hsh : w.shape? b = some (T, (svals l).length) := by simp [World.shape?, hh]
          exact Lib.run_to_unsafe (P := P) w ⟨b, n, none⟩ hs hd hj (by rw [hjs]; exact Nat.succ_ne_zero _) hsh (by rw [svals_len hwl]; exact hlt)
        · exact h.elim
      · exact h.elim
    · exact h.elim
  · rename_i u hs hd
    split at h
    · rename_i k b n
      split at h
      · rename_i b' T l m hg hz
        obtain ⟨rfl, hlies, h⟩ := h
        refine ⟨_, h, fun C w hw => ?_⟩
        obtain ⟨lo, hi, hh, _, hwl⟩ := hw.is _ _ _ hg
        obtain ⟨j, hj, hjs⟩ := sizB_info hz
        have hsh : w.shape? b = some (T, (svals l).length) := by simp [World.shape?, hh]
        exact Lib.run_from_unsafe (P := P) w ⟨b, n, none⟩ hs hd hj hsh (by rw [svals_len hwl]; exact hlies)
      · exact h.elim
    · exact h.elim
  · exact h.elim

/-! ### A load -/
def qload (P : Program) (H : Heap) (t : TypeId) (x : SC) (K : BV → Prop) : Prop :=
  match x with
  | .ptr ⟨key, b, off⟩ => (match hget H key with
    | some (b', hb) => Chk (b = b') (match aggB P t, sizB P t with
      | some false, _ => hb.look off fun c => K (.one c)
      | some true, some n => lit n fun n => hb.lookAll off n fun r => K (.agg r)
      | _, _ => False)
    | none => False)
  | _ => False
theorem qload_ok {P : Program} {H : Heap} {t : TypeId} {x : SC} {K : BV → Prop} (h : qload P H t x K) (hw1 : HWf H) :
    ∃ v, K v ∧ v.wf ∧ ∀ C w, Rep C H w → (Instr.loadAt t x.val).run P w = .ok v.val w := by
  unfold qload at h
  split at h
  · rename_i key b off
    split at h
    · rename_i b' hb hg
      obtain ⟨rfl, h⟩ := h
      have hwf := hw1 _ _ _ hg
      split at h
      · rename_i ha
        obtain ⟨c, hc, hv⟩ := HB.look_ok hwf h
        refine ⟨_, hc, bone_wf c, fun C w hw => ?_⟩
        simp only [Instr.loadAt, Instr.sureAddr, SC.val, Pt.value, Pt.addr, Sem.run_bind, Sem.run_pure, Result.andThen_ok]
        exact run_loadVar_one ha (hv w b (hw.is _ _ _ hg))
      · rename_i n ha hs
        obtain ⟨r, hv, h1, h2, h3⟩ := HB.lookAll_ok hwf (lit_ok h)
        refine ⟨_, hv, h1, fun C w hw => ?_⟩
        simp only [Instr.loadAt, Instr.sureAddr, SC.val, Pt.value, Pt.addr, Sem.run_bind, Sem.run_pure, Result.andThen_ok]
        rw [run_loadVar_agg ha hs (by rw [svals_len h1, h2]) (h3 w b (hw.is _ _ _ hg))]; rfl
      · exact h.elim
    · exact h.elim
  · exact h.elim
end Go.SY

/- Two arrays or structs: alike? -/
set_option linter.unusedSimpArgs false
set_option linter.unusedVariables false
namespace Go.SY

/-- This holds, and the kernel sees it. -/
structure KChk (b : Bool) (K : Prop) : Prop where
  ok : b = true
  go : K

def leafEq (P : Program) (t : TypeId) (x y : SC) (K : Bool → Prop) : Prop :=
  match P.underlying t, x, y with
  | some (.int _), .int k a, .int k' b => (match decide (k = k') with | true => K (decide (a = b)) | false => False)
  | some (.int _), .w8 a, .w8 b => K (decide (a = b))
  | some (.int _), .w32 a, .w32 b => K (decide (a = b))
  | some (.int _), .w64 a, .w64 b => K (decide (a = b))
  | some .string, .str a, .str b => K (decide (a = b))
  | some .bool, .bool a, .bool b => K (decide (a = b))
  | _, _, _ => False

theorem u8_eq (a b : UInt8) : ((a.toNat : Int) == (b.toNat : Int)) = decide (a = b) := by
  by_cases h : a = b
  · simp [h]
  · have : a.toNat ≠ b.toNat := fun e => h (UInt8.toNat_inj.1 e)
    simp [h]; omega
theorem bv_eq {n : Nat} (a b : BitVec n) : ((a.toNat : Int) == (b.toNat : Int)) = decide (a = b) := by
  by_cases h : a = b
  · simp [h]
  · have : a.toNat ≠ b.toNat := fun e => h (BitVec.eq_of_toNat_eq e)
    simp [h]; omega

theorem leafEq_ok {P : Program} {t : TypeId} {x y : SC} {K : Bool → Prop} (h : leafEq P t x y K) : ∃ r, K r ∧ ∀ d w, (Op.equalIn (d + 1) t x.val y.val).run P w = .ok r w := by
  unfold leafEq at h
  split at h
  · rename_i k0 k a k' b hu
    split at h
    · rename_i hk; have := of_decide_eq_true hk; subst this
      exact ⟨_, h, fun d w => by
        simp only [SC.val]; rw [run_equalIn_int w d t _ _ _ _ hu]; congr 1⟩
    · exact h.elim
  · rename_i k0 a b hu; exact ⟨_, h, fun d w => by simp only [SC.val]; rw [run_equalIn_int w d t _ _ _ _ hu, u8_eq]⟩
  · rename_i k0 a b hu; exact ⟨_, h, fun d w => by simp only [SC.val]; rw [run_equalIn_int w d t _ _ _ _ hu, bv_eq]⟩
  · rename_i k0 a b hu; exact ⟨_, h, fun d w => by simp only [SC.val]; rw [run_equalIn_int w d t _ _ _ _ hu, bv_eq]⟩
  · rename_i a b hu; exact ⟨_, h, fun d w => by simp only [SC.val]; rw [run_equalIn_string w d t _ _ hu]; rw [str_toList, str_toList, beq_dec]⟩
  · rename_i a b hu; exact ⟨_, h, fun d w => by simp only [SC.val]; rw [run_equalIn_bool' w d t _ _ hu]; cases a <;> cases b <;> rfl⟩
  · exact h.elim

/-- Scalars that are such a type's. -/
def skFits (P : Program) (e : TypeId) : Sk → Bool
  | .u8 | .u32 | .u64 => (match P.underlying e with | some (.int _) => true | _ => false)
  | .int _ => (match P.underlying e with | some (.int _) => true | _ => false)
  | .str => (match P.underlying e with | some .string => true | _ => false)
  | .bool => (match P.underlying e with | some .bool => true | _ => false)
theorem sk_leaf {P : Program} {e : TypeId} : ∀ {s : Sk}, skFits P e s = true → ∀ a b : s.α, ∃ r : Bool, (r = true ↔ a = b) ∧ ∀ d w, (Op.equalIn (d + 1) e (s.enc a).val (s.enc b).val).run P w = .ok r w := by
  intro s hs a b
  cases s <;> simp only [skFits] at hs <;> split at hs <;> first | cases hs | skip
  all_goals
    rename_i hu
    obtain ⟨r, hr, h⟩ := leafEq_ok (P := P) (t := e) (x := Sk.enc _ a) (y := Sk.enc _ b) (K := fun r => r = true ↔ a = b) (by unfold leafEq; rw [hu]; simp)
    exact ⟨r, hr, h⟩

theorem items_ok {P : Program} {e : TypeId} {s : Sk} (hs : skFits P e s = true) (ha : aggB P e = some false) (d : Nat) (w : World) (L L' : List s.α) : ∀ (k i : Nat), L.length = i + k → L'.length = i + k →
    ∃ r : Bool, (r = true ↔ L.drop i = L'.drop i) ∧ (Op.eqItems (d + 1) e 1 (svals [.arr s (i + k) L]).toArray (svals [.arr s (i + k) L']).toArray (List.range' i k)).run P w = .ok r w := by
  intro k
  induction k with
  | zero =>
    intro i h1 h2
    refine ⟨true, ?_, by simp [Op.eqItems]⟩
    rw [List.drop_of_length_le (by omega), List.drop_of_length_le (by omega)]; simp
  | succ k ih =>
    intro i h1 h2
    obtain ⟨r', hr', hx⟩ := ih (i + 1) (by omega) (by omega)
    obtain ⟨r, hr, hy⟩ := sk_leaf hs (L.getD i s.dflt) (L'.getD i s.dflt)
    have e1 : (scs [Sg.arr s (i + (k + 1)) L])[i]? = some (s.enc (L.getD i s.dflt)) := by
      simp only [scs, Sg.cs, List.append_nil]; exact arr_get (by omega)
    have e2 : (scs [Sg.arr s (i + (k + 1)) L'])[i]? = some (s.enc (L'.getD i s.dflt)) := by
      simp only [scs, Sg.cs, List.append_nil]; exact arr_get (by omega)
    have e3 : svals [Sg.arr s (i + 1 + k) L] = svals [Sg.arr s (i + (k + 1)) L] := rfl
    have e4 : svals [Sg.arr s (i + 1 + k) L'] = svals [Sg.arr s (i + (k + 1)) L'] := rfl
    rw [e3, e4] at hx
    refine ⟨r && r', ?_, ?_⟩
    · rw [List.drop_eq_getElem_cons (by omega : i < L.length), List.drop_eq_getElem_cons (by omega : i < L'.length), Bool.and_eq_true, hr, hr', List.cons.injEq]
      simp [List.getD_eq_getElem?_getD, show i < L.length by omega, show i < L'.length by omega]
    · simp only [List.range'_succ, Op.eqItems, Sem.run_bind, Nat.mul_one, part_one ha e1, part_one ha e2, Result.andThen_ok, hy, Sem.run_ite, hx]
      cases r <;> simp

def skEq : (s : Sk) → List s.α → (s' : Sk) → List s'.α → (Bool → Prop) → Prop
  | .u8, L, .u8, L', K => K (decide (L = L'))
  | .u32, L, .u32, L', K => K (decide (L = L'))
  | .u64, L, .u64, L', K => K (decide (L = L'))
  | .bool, L, .bool, L', K => K (decide (L = L'))
  | .str, L, .str, L', K => K (decide (L = L'))
  | .int k, L, .int k', L', K => (match decide (k = k') with | true => K (decide (L = L')) | false => False)
  | _, _, _, _, _ => False
theorem skEq_ok {s s' : Sk} {L : List s.α} {L' : List s'.α} {K : Bool → Prop} (h : skEq s L s' L' K) : ∃ (e : s' = s) (r : Bool), K r ∧ (r = true ↔ L = e ▸ L') := by
  unfold skEq at h
  split at h
  all_goals first
    | exact ⟨rfl, _, h, by simp⟩
    | (split at h
       · rename_i hk; have := of_decide_eq_true hk; subst this; exact ⟨rfl, _, h, by simp⟩
       · exact h.elim)
    | exact h.elim

def eqf (P : Program) (E : TypeId → BV → BV → (Bool → Prop) → Prop) (l m : List Sg) : List Field → (Bool → Prop) → Prop
  | [], K => K true
  | f :: fs, K => KChk (f.name != "_") (qpart P f.type l f.offset fun a => qpart P f.type m f.offset fun b => E f.type a b fun r => eqf P E l m fs fun r' => K (r && r'))
def eqv (P : Program) : Nat → TypeId → BV → BV → (Bool → Prop) → Prop
  | _, t, .one a, .one b, K => leafEq P t a b K
  | d + 1, t, .agg l, .agg m, K => (match P.underlying t with
    | some (.struct fs) => KChk (!P.stoodInHeld t) (eqf P (eqv P d) l m fs.toList K)
    | some (.array n e) => (match sizB P e, aggB P e, l, m with
      | some 1, some false, [.arr s k L], [.arr s' k' L'] => (match Nat.beq k n, Nat.beq k' n, skFits P e s with | true, true, true => skEq s L s' L' K | _, _, _ => False)
      | _, _, _, _ => False)
    | _ => False)
  | _, _, _, _, _ => False

theorem eqf_ok {P : Program} {E : TypeId → BV → BV → (Bool → Prop) → Prop} {d : Nat} (hE : ∀ t x y K, x.wf → y.wf → E t x y K → ∃ r, K r ∧ ∀ n w, d < n → (Op.equalIn n t x.val y.val).run P w = .ok r w) {l m : List Sg} (hl : swf l) (hm : swf m) :
    ∀ {fs : List Field} {K : Bool → Prop}, eqf P E l m fs K → ∃ r, K r ∧ ∀ n w, d < n → (Op.eqFields n (svals l).toArray (svals m).toArray fs).run P w = .ok r w := by
  intro fs
  induction fs with
  | nil => intro K h; exact ⟨true, h, fun n w hn => by simp [Op.eqFields]⟩
  | cons f fs ih =>
    intro K h
    obtain ⟨hn, h⟩ := h
    obtain ⟨a, h, haw, ha⟩ := qpart_ok h hl
    obtain ⟨b, h, hbw, hb⟩ := qpart_ok h hm
    obtain ⟨r, h, hr⟩ := hE _ _ _ _ haw hbw h
    obtain ⟨r', h, hr'⟩ := ih h
    refine ⟨_, h, fun n w hd => ?_⟩
    have hn : f.name ≠ "_" := by simpa using hn
    simp only [Op.eqFields, if_pos hn, Sem.run_bind, ha, hb, hr n _ hd, Result.andThen_ok, Sem.run_ite, hr' n _ hd, Sem.run_pure]
    cases r <;> simp

theorem eqv_ok {P : Program} : ∀ {d : Nat} {t : TypeId} {x y : BV} {K : Bool → Prop}, x.wf → y.wf → eqv P d t x y K → ∃ r, K r ∧ ∀ n w, d < n → (Op.equalIn n t x.val y.val).run P w = .ok r w := by
  intro d
  induction d with
  | zero =>
    intro t x y K hx hy h
    cases x <;> cases y <;> simp only [eqv] at h
    obtain ⟨r, h1, h2⟩ := leafEq_ok h
    exact ⟨r, h1, fun n w hn => by obtain ⟨n, rfl⟩ : ∃ m, n = m + 1 := ⟨n - 1, by omega⟩; exact h2 _ w⟩
  | succ d ih =>
    intro t x y K hx hy h
    cases x with
    | one a =>
      cases y with
      | one b =>
        obtain ⟨r, h1, h2⟩ := leafEq_ok h
        exact ⟨r, h1, fun n w hn => by obtain ⟨n, rfl⟩ : ∃ m, n = m + 1 := ⟨n - 1, by omega⟩; exact h2 _ w⟩
      | agg m => exact h.elim
    | agg l =>
      cases y with
      | one b => exact h.elim
      | agg m =>
        simp only [eqv] at h
        split at h
        · rename_i fs hu
          obtain ⟨hs, h⟩ := h
          have hf : P.fieldsOf t = fs := by simp [Program.fieldsOf, hu]
          obtain ⟨r, hr, he⟩ := eqf_ok (d := d) (fun t x y K hx hy h => ih hx hy h) hx hy h
          refine ⟨r, hr, fun n w hn => ?_⟩
          obtain ⟨n, rfl⟩ : ∃ m, n = m + 1 := ⟨n - 1, by omega⟩
          simp only [BV.val]
          rw [run_equalIn_agg w n t _ _ (by rw [hf]; exact hu) (by simpa using hs), hf]
          exact he n w (by omega)
        · rename_i n e hu
          split at h
          · rename_i s k L s' k' L' hsz ha
            split at h
            · rename_i hk hk' hs
              have hk := Nat.eq_of_beq_eq_true hk
              have hk' := Nat.eq_of_beq_eq_true hk'
              subst hk'
              subst hk
              obtain ⟨hse, r, hr, hiff⟩ := skEq_ok h
              subst hse
              have hL : L.length = k := hx.1
              have hL' : L'.length = k := hy.1
              refine ⟨r, hr, fun n w hn => ?_⟩
              obtain ⟨n, rfl⟩ : ∃ m, n = m + 1 + 1 := ⟨n - 2, by omega⟩
              obtain ⟨r', hr', hrun⟩ := items_ok hs ha n w L L' k 0 (by omega) (by omega)
              have er : r' = r := by
                apply Bool.eq_iff_iff.2; rw [hr', hiff]; simp
              have hi : ∃ i, P.info? e = some i ∧ i.size = 1 := by
                unfold sizB at hsz
                split at hsz
                · rename_i i hi; exact ⟨i, hi, by injection hsz⟩
                · cases hsz
              obtain ⟨i, hi, hi1⟩ := hi
              have hc : P.cellsOf e = 1 := by simp [Program.cellsOf, hi, hi1]
              simp only [BV.val]
              rw [run_equalIn_array w (n + 1) _ _ hu hi, hc, List.range_eq_range', ← er]
              simpa using hrun
            · exact h.elim
          · exact h.elim
        · exact h.elim
/-- '==' and '!=' of arrays and structs. -/
def qeq (P : Program) (op : BinOp) (t : TypeId) (x y : BV) (K : Bool → Prop) : Prop :=
  match op with
  | .eql => KChk (!P.eqGuardType P.depth t) (eqv P 8 t x y K)
  | .neq => KChk (!P.eqGuardType P.depth t) (eqv P 8 t x y fun r => K (!r))
  | _ => False
theorem qeq_ok {P : Program} {op : BinOp} {t : TypeId} {l m : List Sg} {K : Bool → Prop} (h : qeq P op t (.agg l) (.agg m) K) (hl : swf l) (hm : swf m) (X Y : Operand) :
    ∃ v, K v ∧ ∀ w, (do eqGuard op t X Y (BV.agg l).val (BV.agg m).val; binOp op t (BV.agg l).val (BV.agg m).val : Sem Value).run P w = .ok (SC.bool v).val w := by
  unfold qeq at h
  split at h
  · obtain ⟨hg, h⟩ := h
    obtain ⟨r, hr, he⟩ := eqv_ok (x := .agg l) (y := .agg m) hl hm h
    refine ⟨_, hr, fun w => ?_⟩
    have e := he 10000 w (by omega)
    simp only [BV.val] at e
    simp only [BV.val, Sem.run_bind, run_eqGuard_agg w _ _ _ _ _ _ (by simpa using hg), Result.andThen_ok, run_eql_struct, e, SC.val]
  · obtain ⟨hg, h⟩ := h
    obtain ⟨r, hr, he⟩ := eqv_ok (x := .agg l) (y := .agg m) hl hm h
    refine ⟨_, hr, fun w => ?_⟩
    have e := he 10000 w (by omega)
    simp only [BV.val] at e
    simp only [BV.val, Sem.run_bind, run_eqGuard_agg w _ _ _ _ _ _ (by simpa using hg), Result.andThen_ok, run_neq_struct, e, SC.val]
  · exact h.elim
end Go.SY

/- One operation that leaves memory alone. -/
set_option linter.unusedSimpArgs false
set_option linter.unusedVariables false
namespace Go.SY

/-! ### Zero values -/
def beqL {α : Type} (f : α → α → Bool) : List α → List α → Bool
  | [], [] => true
  | a :: l, b :: r => f a b && beqL f l r
  | _, _ => false
theorem beqL_ok {α : Type} {f : α → α → Bool} (hf : ∀ a b, f a b = true → a = b) : ∀ {l r : List α}, beqL f l r = true → l = r
  | [], [], _ => rfl
  | a :: l, b :: r, h => by
    simp only [beqL, Bool.and_eq_true] at h
    rw [hf _ _ h.1, beqL_ok hf h.2]
  | [], _ :: _, h => by simp [beqL] at h
  | _ :: _, [], h => by simp [beqL] at h
/-- Is a cell the zero of its kind, and the same as another one? -/
def SC.zeq : SC → SC → Bool
  | .int k (.ofNat 0), .int k' (.ofNat 0) => decide (k = k')
  | .w8 x, .w8 y => decide (x = y)
  | .w32 x, .w32 y => decide (x = y)
  | .w64 x, .w64 y => decide (x = y)
  | .bool x, .bool y => decide (x = y)
  | .str [], .str [] => true
  | .nilp, .nilp => true
  | .nilsl, .nilsl => true
  | .nilfn, .nilfn => true
  | .nilmp, .nilmp => true
  | .nilch, .nilch => true
  | .raw .nilIface _, .raw .nilIface _ => true
  | _, _ => false
theorem SC.zeq_ok : ∀ (a b : SC), a.zeq b = true → a = b := by
  intro a b h
  unfold SC.zeq at h
  split at h <;> first
    | rfl
    | (have := of_decide_eq_true h; subst this; rfl)
    | cases h
def skZ : SC → Option Sk
  | .int k _ => some (.int k)
  | .w8 _ => some .u8
  | .w32 _ => some .u32
  | .w64 _ => some .u64
  | .bool _ => some .bool
  | .str _ => some .str
  | _ => none
def repl {α : Type} : Nat → List α → List α
  | 0, _ => []
  | n + 1, l => l ++ repl n l
mutual
def zsg (P : Program) : Nat → TypeId → Option (List Sg)
  | 0, _ => none
  | f + 1, t => (match P.underlying t with
    | some .bool => some [.c (.bool false)]
    | some (.int .u8) => some [.c (.w8 0)]
    | some (.int .u32) => some [.c (.w32 0)]
    | some (.int .u64) => some [.c (.w64 0)]
    | some (.int k) => some [.c (.int k (.ofNat 0))]
    | some .string => some [.c (.str [])]
    | some (.pointer _) => some [.c .nilp]
    | some (.slice _) => some [.c .nilsl]
    | some (.map _ _) => some [.c .nilmp]
    | some (.chan _ _) => some [.c .nilch]
    | some (.func _ _ _) => some [.c .nilfn]
    | some (.interface _) => some [.c (.raw .nilIface rfl)]
    | some (.array n e) => (match zsg P f e with
      | some [.c c] => (match skZ c with
        | some s => some [.arr s n (List.replicate n s.dflt)]
        | none => some (repl n [.c c]))
      | some [.arr s m _] => some [.arr s (n * m) (List.replicate (n * m) s.dflt)]
      | some l => some (repl n l)
      | none => none)
    | some (.struct fs) => zsgs P f fs.toList
    | _ => none)
def zsgs (P : Program) : Nat → List Field → Option (List Sg)
  | _, [] => some []
  | 0, _ :: _ => none
  | f + 1, x :: l => (match zsg P f x.type, zsgs P f l with
    | some a, some b => some (a ++ b)
    | _, _ => none)
end
def swfB : List Sg → Bool
  | [] => true
  | .c _ :: l => swfB l
  | .arr _ n L :: l => Nat.beq (llen L) n && swfB l
theorem swfB_ok : ∀ {l : List Sg}, swfB l = true → swf l
  | [], _ => trivial
  | .c _ :: l, h => ⟨trivial, swfB_ok h⟩
  | .arr _ n L :: l, h => by
    simp only [swfB, Bool.and_eq_true] at h
    have := Nat.eq_of_beq_eq_true h.1
    rw [llen_eq] at this
    exact ⟨this, swfB_ok h.2⟩
def cstAll : List Value → Option (List SC)
  | [] => some []
  | v :: l => match cst1 v, cstAll l with
    | some c, some r => some (c :: r)
    | _, _ => none
theorem cstAll_ok : ∀ {l : List Value} {r : List SC}, cstAll l = some r → l = r.map SC.val := by
  intro l
  induction l with
  | nil => intro r h; cases h; rfl
  | cons v l ih =>
    intro r h
    unfold cstAll at h
    split at h
    · rename_i c r' h1 h2
      cases h
      simp [← cst1_ok h1, ← ih h2]
    · cases h

def zeroB (P : Program) (t : TypeId) : Option (List SC) :=
  match P.info? t with
  | some i => (match i.zero with
    | some v => cstAll v.cells.toList
    | none => none)
  | none => none
theorem zeroB_ok {P : Program} {t : TypeId} {l : List SC} (h : zeroB P t = some l) (w : World) : ∃ v, (zeroValue t).run P w = .ok v w ∧ v.cells = (l.map SC.val).toArray := by
  unfold zeroB at h
  split at h
  · rename_i i hi
    split at h
    · rename_i v hv
      refine ⟨v, by simp [zeroValue, typeInfo, hi, hv], ?_⟩
      rw [← cstAll_ok h]
    · cases h
  · cases h

theorem zeroB_val {P : Program} {e : TypeId} {l : List SC} (h : zeroB P e = some l) : ∃ z, (∀ w, (zeroValue e).run P w = .ok z w) ∧ z.cells = (l.map SC.val).toArray := by
  unfold zeroB at h
  split at h
  · rename_i i hi
    split at h
    · rename_i v hv
      exact ⟨v, fun w => by simp [zeroValue, typeInfo, hi, hv], by rw [← cstAll_ok h]⟩
    · cases h
  · cases h
def splitK : List Sg → (List Sg → Prop) → Prop
  | [], K => K []
  | g :: l, K => splitK l fun r => K (g :: r)
theorem splitK_ok : ∀ {l : List Sg} {K : List Sg → Prop}, splitK l K → K l := by
  intro l
  induction l with
  | nil => intro K h; exact h
  | cons g l ih => intro K h; exact ih (K := fun r => K (g :: r)) h
/-- A type's zero value. -/
def zeroG (P : Program) (t : TypeId) (K : List Sg → Prop) : Prop :=
  match zsg P 12 t, zeroB P t with
  | some l, some cs => (match beqL SC.zeq (scs l) cs, swfB l with
    | true, true => splitK l K
    | _, _ => False)
  | _, _ => False
theorem zeroG_ok {P : Program} {t : TypeId} {K : List Sg → Prop} (h : zeroG P t K) : ∃ l, K l ∧ swf l ∧ ∃ z, (∀ w, (zeroValue t).run P w = .ok z w) ∧ z.cells = (svals l).toArray := by
  unfold zeroG at h
  split at h
  · rename_i l cs hl hc
    split at h
    · rename_i h1 h2
      obtain ⟨z, hz, he⟩ := zeroB_val hc
      exact ⟨l, splitK_ok h, swfB_ok h2, z, hz, by rw [he, ← beqL_ok SC.zeq_ok h1]; rfl⟩
    · exact h.elim
  · exact h.elim

/-! ### Values out of parts -/
def fillG (place : Nat → Option (Nat × Nat)) (l : List Sg) : List (Nat × BV) → (List Sg → Prop) → Prop
  | [], K => K l
  | (i, v) :: rest, K => (match place i with
    | some (off, size) => (match Nat.beq (slen v.sg) size with
      | true => (match v with
        | .one c => segPut l off c fun r => fillG place r rest K
        | .agg g => segPutA l off g fun r => fillG place r rest K)
      | false => False)
    | none => False)
theorem foldl_over (v : List Value) : ∀ (off j : Nat) (cells : Array Value),
    (v.toArray.zipIdx j).foldl (fun cs (x : Value × Nat) => cs.setIfInBounds (off + x.2) x.1) cells = (over cells.toList (off + j) v).toArray := by
  induction v with
  | nil => intro off j cells; rfl
  | cons x v ih =>
    intro off j cells
    have : ((x :: v).toArray.zipIdx j).toList = (x, j) :: (v.toArray.zipIdx (j + 1)).toList := by simp [List.zipIdx_cons]
    rw [← Array.foldl_toList, this, List.foldl_cons, Array.foldl_toList, ih]
    simp [over, Nat.add_assoc]

theorem fillG_ok {place : Nat → Option (Nat × Nat)} : ∀ {l : List (Nat × BV)} {s : List Sg} {K : List Sg → Prop}, fillG place s l K → swf s → (∀ p ∈ l, p.2.wf) →
    ∃ r, K r ∧ swf r ∧ slen r = slen s ∧ Instr.fill place (svals s).toArray (l.map fun p => (p.1, p.2.val)) = some (svals r).toArray := by
  intro l
  induction l with
  | nil => intro s K h hs _; exact ⟨s, h, hs, rfl, rfl⟩
  | cons p l ih =>
    intro s K h hs hw
    obtain ⟨i, v⟩ := p
    have hv : v.wf := hw _ (List.mem_cons_self ..)
    unfold fillG at h
    split at h
    · rename_i off size hp
      split at h
      · rename_i hb
        have hb := Nat.eq_of_beq_eq_true hb
        have key : ∀ r, swf r → scs r = putL (scs s) off (scs v.sg) → off + slen v.sg ≤ slen s → fillG place r l K →
            ∃ r', K r' ∧ swf r' ∧ slen r' = slen s ∧ Instr.fill place (svals s).toArray (((i, v) :: l).map fun p => (p.1, p.2.val)) = some (svals r').toArray := by
          intro r hr he hle hrest
          obtain ⟨r', hK, h1, h2, h3⟩ := ih hrest hr fun p hp => hw p (List.mem_cons_of_mem _ hp)
          have hrl : slen r = slen s := by
            rw [← scs_len hr, ← scs_len hs, he, putL]
            have := scs_len hv
            have := scs_len hs
            simp only [List.length_append, List.length_take, List.length_drop]; omega
          refine ⟨r', hK, h1, h2.trans hrl, ?_⟩
          simp only [List.map_cons, Instr.fill, hp]
          have hc : v.val.cells = v.cells.toArray := by rw [← BV.val_cells]
          have hcs : v.cells.length = size := by rw [← hb]; exact svals_len hv
          have hsl := svals_len hs
          rw [hc]
          simp only [List.size_toArray, hcs, ne_eq, not_true_eq_false, decide_false, Bool.false_or]
          rw [if_neg (by simp [hsl]; omega)]
          have := foldl_over v.cells off 0 (svals s).toArray
          simp only [Nat.add_zero] at this
          rw [this, ← h3]
          congr 2
          rw [over_put _ _ _ (by simp only [hsl, hcs]; omega)]
          exact (svals_put he).symm
        split at h
        · rename_i c
          obtain ⟨r, hr, h1, h2, h3⟩ := segPut_ok h hs
          exact key r h1 h2 (by show off + 1 ≤ _; omega) hr
        · rename_i g
          obtain ⟨r, hr, h1, h2, h3⟩ := segPutA_ok h hs hv
          exact key r h1 h2 h3 hr
      · exact h.elim
    · exact h.elim

def evParts (T : Tm) : List (Nat × Operand) → Option (List (Nat × BV))
  | [] => some []
  | (i, x) :: l => match evb T x, evParts T l with
    | some v, some r => some ((i, v) :: r)
    | _, _ => none
theorem evParts_ok {C : Ctx} {T : Tm} {a : Act} (h : Fits C T a) : ∀ {l : List (Nat × Operand)} {r : List (Nat × BV)}, evParts T l = some r →
    (l.map fun p => (p.1, a.eval p.2)) = r.map fun p => (p.1, p.2.val) := by
  intro l
  induction l with
  | nil => intro r h; cases h; rfl
  | cons p l ih =>
    intro r hr
    obtain ⟨i, x⟩ := p
    unfold evParts at hr
    split at hr
    · rename_i v r' h1 h2
      cases hr
      simp [evb_ok h h1, ih h2]
    · cases hr

theorem evParts_wf {T : Tm} (h : TWf T) : ∀ {l : List (Nat × Operand)} {r : List (Nat × BV)}, evParts T l = some r → ∀ p ∈ r, p.2.wf := by
  intro l
  induction l with
  | nil => intro r h; cases h; simp
  | cons p l ih =>
    intro r hr
    obtain ⟨i, x⟩ := p
    unfold evParts at hr
    split at hr
    · rename_i v r' h1 h2
      cases hr
      intro p hp
      rcases List.mem_cons.1 hp with rfl | hp
      · exact evb_wfT h h1
      · exact ih h2 p hp
    · cases hr
def pplaces (P : Program) : List Field → Option (List (Nat × Nat))
  | [] => some []
  | f :: l => match sizB P f.type, pplaces P l with
    | some n, some r => some ((f.offset, n) :: r)
    | _, _ => none
theorem pplaces_ok {P : Program} {w : World} : ∀ {l : List Field} {r : List (Nat × Nat)}, pplaces P l = some r →
    (l.mapM (fun f => do pure (f.offset, ← sizeOf f.type) : Field → Sem (Nat × Nat))).run P w = .ok r w := by
  intro l
  induction l with
  | nil => intro r h; cases h; rfl
  | cons f l ih =>
    intro r h
    unfold pplaces at h
    split at h
    · rename_i n r' h1 h2
      cases h
      rw [List.mapM_cons]
      simp only [Sem.run_bind, sizB_run h1, Result.andThen_ok, Sem.run_pure, ih h2]
    · cases h

def qbuild (P : Program) (t : TypeId) (parts : List (Nat × BV)) (K : BV → Prop) : Prop :=
  match P.underlying t with
  | some (.struct fs) => (match pplaces P fs.toList with
    | some ps => zeroG P t fun z => fillG (fun i => lget ps i) z parts fun r => K (.agg r)
    | none => False)
  | some (.array _ e) => (match sizB P e with
    | some sz => lit sz fun sz => zeroG P t fun z => fillG (fun i => some (i * sz, sz)) z parts fun r => K (.agg r)
    | none => False)
  | _ => False
theorem qbuild_ok {P : Program} {t : TypeId} {parts : List (Nat × BV)} {K : BV → Prop} (h : qbuild P t parts K) (hp : ∀ p ∈ parts, p.2.wf) :
    ∃ v, K v ∧ v.wf ∧ ∀ w (ps : Array (Nat × Value)), ps.toList = (parts.map fun p => (p.1, p.2.val)) → (Instr.build t ps).run P w = .ok v.val w := by
  unfold qbuild at h
  split at h
  · rename_i fs hu
    split at h
    · rename_i pl hpl
      obtain ⟨z, hz, hzw, v, hv, hc⟩ := zeroG_ok h
      obtain ⟨r, hr, hrw, _, he⟩ := fillG_ok hz hzw hp
      refine ⟨_, hr, hrw, fun w ps hps => ?_⟩
      have hm : (fs.mapM (fun f => do pure (f.offset, ← sizeOf f.type) : Field → Sem (Nat × Nat))).run P w = .ok pl.toArray w := by
        have := pplaces_ok (w := w) hpl
        rw [← Array.toArray_toList (xs := fs), List.mapM_toArray, Sem.run_map, this]
        rfl
      have e : (fun i => lget pl i) = fun i => pl.toArray[i]? := by funext i; simp [lget_eq]
      rw [e] at he
      simp only [Instr.build, Sem.run_bind, hv, Result.andThen_ok, Sem.run_pure, run_underlying hu, hm, hc, hps, he]
      rfl
    · exact h.elim
  · rename_i n e hu
    split at h
    · rename_i sz hs
      replace h := lit_ok h
      obtain ⟨z, hz, hzw, v, hv, hc⟩ := zeroG_ok h
      obtain ⟨r, hr, hrw, _, he⟩ := fillG_ok hz hzw hp
      refine ⟨_, hr, hrw, fun w ps hps => ?_⟩
      simp only [Instr.build, Sem.run_bind, hv, Result.andThen_ok, Sem.run_pure, run_underlying hu, sizB_run hs, hc, hps, he]
      rfl
    · exact h.elim
  · exact h.elim

def ev1s (T : Tm) : List Operand → Option (List SC)
  | [] => some []
  | x :: l => match ev1 T x, ev1s T l with
    | some c, some r => some (c :: r)
    | _, _ => none
theorem ev1s_ok {C : Ctx} {T : Tm} {a : Act} (h : Fits C T a) : ∀ {l : List Operand} {r : List SC}, ev1s T l = some r → l.map a.eval = r.map SC.val := by
  intro l
  induction l with
  | nil => intro r h; cases h; rfl
  | cons x l ih =>
    intro r hr
    unfold ev1s at hr
    split at hr
    · rename_i c r' h1 h2
      cases hr
      simp [ev1_ok h h1, ih h2]
    · cases hr

def ptsOf : List SC → Option (List Pt)
  | [] => some []
  | .ptr p :: l => (match ptsOf l with | some r => some (p :: r) | none => none)
  | _ => none
theorem ptsOf_ok : ∀ {l : List SC} {r : List Pt}, ptsOf l = some r → l.map SC.val = r.map Pt.value := by
  intro l
  induction l with
  | nil => intro r h; cases h; rfl
  | cons c l ih =>
    intro r h
    cases c <;> simp only [ptsOf] at h <;> try (cases h; done)
    split at h
    · rename_i r' hr; cases h; simp [SC.val, ih hr]
    · cases h

def qmm (mx : Bool) (k : IntKind) (x : Int) : List SC → (Int → Prop) → Prop
  | [], K => K x
  | .int _ y :: l, K => (match mx with
    | true => qmm mx k (if y > x then y else x) l K
    | false => qmm mx k (if y < x then y else x) l K)
  | _, _ => False
theorem qmax_ok {P : Program} {k : IntKind} : ∀ {l : List SC} {x : Int} {K : Int → Prop}, qmm true k x l K →
    ∃ v, K v ∧ ∀ w, ((l.map SC.val).foldlM Builtin.max2 (.int k x)).run P w = .ok (.int k v) w := by
  intro l
  induction l with
  | nil => intro x K h; exact ⟨x, h, fun w => rfl⟩
  | cons c l ih =>
    intro x K h
    cases c <;> simp only [qmm] at h
    obtain ⟨v, hv, hr⟩ := ih h
    refine ⟨v, hv, fun w => ?_⟩
    simp only [List.map_cons, SC.val, List.foldlM_cons, Builtin.max2, Sem.run_bind, Sem.run_pure, Result.andThen_ok]
    exact hr w
theorem qmin_ok {P : Program} {k : IntKind} : ∀ {l : List SC} {x : Int} {K : Int → Prop}, qmm false k x l K →
    ∃ v, K v ∧ ∀ w, ((l.map SC.val).foldlM Builtin.min2 (.int k x)).run P w = .ok (.int k v) w := by
  intro l
  induction l with
  | nil => intro x K h; exact ⟨x, h, fun w => rfl⟩
  | cons c l ih =>
    intro x K h
    cases c <;> simp only [qmm] at h
    obtain ⟨v, hv, hr⟩ := ih h
    refine ⟨v, hv, fun w => ?_⟩
    simp only [List.map_cons, SC.val, List.foldlM_cons, Builtin.min2, Sem.run_bind, Sem.run_pure, Result.andThen_ok]
    exact hr w

def qlen (P : Program) (H : Heap) (t : TypeId) (x : BV) (K : Int → Prop) : Prop :=
  match P.underlying t, x with
  | some .string, .one (.str s) => K s.length
  | some (.slice _), .one (.lst k x) => lstOf H k x fun _ L => K L.length
  | some (.slice _), .one (.part k x _ lo hi) => lstOf H k x fun _ L => Chk (lo ≤ hi ∧ hi ≤ L.length) (K ((hi - lo : Nat) : Int))
  | some (.slice _), .one (.sl _ _ _ _ _ len _) => K len
  | some (.slice _), .one .nilsl => K 0
  | some (.array n _), _ => K n
  | some (.map _ _), .one .nilmp => K 0
  | some (.chan _ _), .one (.ch k b) => (match hget H k with
    | some (b', .sem X) => (match X.ln with
      | some n => Chk (b' = b) (K n)
      | none => False)
    | _ => False)
  | some (.map _ _), .one (.mp k b) => (match hget H k with
    | some (b', .sem X) => (match X.lm with
      | some n => Chk (b' = b) (K n)
      | none => False)
    | _ => False)
  | _, _ => False
theorem qlen_ok {P : Program} {H : Heap} {t ty : TypeId} {x : BV} {K : Int → Prop} (h : qlen P H t x K) (hw1 : HWf H) : ∃ n, K n ∧ ∀ C w, Rep C H w → (Builtin.len_ #[t] ty #[x.val]).run P w = .ok (.int .i64 n) w := by
  unfold qlen at h
  split at h
  · rename_i s hu
    refine ⟨_, h, fun _ w _ => ?_⟩
    have : (⟨⟨s⟩⟩ : ByteArray).size = s.length := rfl
    simp [Builtin.len_, run_underlying hu, BV.val, SC.val, goInt, this]
  · rename_i e k x hu
    obtain ⟨E, L, hK, _, hI⟩ := lstOf_ok h hw1
    refine ⟨_, hK, fun C w hw => ?_⟩
    have hl := (hI C).len w hw
    cases x with
    | nil => have hl : L = [] := hl; subst hl; simp [Builtin.len_, run_underlying hu, BV.val, SC.val, SV.val, goInt]
    | «at» b o len cap => obtain ⟨rfl, _⟩ := hl; simp [Builtin.len_, run_underlying hu, BV.val, SC.val, SV.val, goInt]
  · rename_i e k x sz lo hi hu
    obtain ⟨E, L, hK, _, hI⟩ := lstOf_ok h hw1
    obtain ⟨⟨h1, h2⟩, hK⟩ := hK
    refine ⟨_, hK, fun C w hw => ?_⟩
    have hl := (hI C).len w hw
    cases x with
    | nil =>
      have hl : L = [] := hl
      subst hl
      have e1 : hi = 0 := by simpa using h2
      subst e1
      simp [Builtin.len_, run_underlying hu, BV.val, SC.val, SV.val, SV.sub, goInt]
    | «at» b o len cap => simp [Builtin.len_, run_underlying hu, BV.val, SC.val, SV.val, SV.sub, goInt]
  · rename_i hu; exact ⟨_, h, fun _ w _ => by simp [Builtin.len_, run_underlying hu, BV.val, SC.val, goInt]⟩
  · rename_i hu; exact ⟨_, h, fun _ w _ => by simp [Builtin.len_, run_underlying hu, BV.val, SC.val, goInt]⟩
  · rename_i hu; exact ⟨_, h, fun _ w _ => by simp [Builtin.len_, run_underlying hu, goInt]⟩
  · rename_i hu; exact ⟨_, h, fun _ w _ => by simp [Builtin.len_, run_underlying hu, BV.val, SC.val, goInt]⟩
  · rename_i k b hu
    split at h
    · rename_i b' X hg
      split at h
      · rename_i n hn
        obtain ⟨rfl, h⟩ := h
        refine ⟨_, h, fun C w hw => ?_⟩
        obtain ⟨cap, buf, cl, s, r, hb, hsz⟩ := X.lnOk n w b' hn (hw.is _ _ _ hg)
        have hob : (getObj b').run P w = .ok (.chan cap buf cl s r false) w := by simp [getObj, Sem.run, hb]
        simp [Builtin.len_, run_underlying hu, BV.val, SC.val, goInt, hob, hsz]
      · exact h.elim
    · exact h.elim
  · rename_i k b hu
    split at h
    · rename_i b' X hg
      split at h
      · rename_i n hn
        obtain ⟨rfl, h⟩ := h
        refine ⟨_, h, fun C w hw => ?_⟩
        obtain ⟨es, ck, hb, hsz⟩ := X.lmOk n w b' hn (hw.is _ _ _ hg)
        have hob : (getObj b').run P w = .ok (.map es ck) w := by simp [getObj, Sem.run, hb]
        simp [Builtin.len_, run_underlying hu, BV.val, SC.val, goInt, hob, hsz]
      · exact h.elim
    · exact h.elim
  · exact h.elim

/-- All of them. -/
def qop (P : Program) (T : Tm) (H : Heap) (o : Oper) (K : TV → Prop) : Prop :=
  match o.op with
  | .move x => (match ev T x with | some v => K v | none => False)
  | .assign x => (match ev T x with | some v => K v | none => False)
  | .pick c a b => (match ev1 T c, ev T a, ev T b with
    | some (.bool t), some u, some v => Br t (K u) (K v)
    | _, _, _ => False)
  | .load t x => (match ev1 T x with | some c => qload P H t c fun v => K (.b v) | none => False)
  | .nilCheck x => (match ev1 T x with
    | some (.ptr p) => K (.b (.one (.ptr p)))
    | some (.fn (.func f) a b) => K (.b (.one (.fn (.func f) a b)))
    | some (.fn (.yield l) a b) => K (.b (.one (.fn (.yield l) a b)))
    | _ => False)
  | .binOp op t x y _ => (match evb T x, evb T y with
    | some (.one c), some (.one d) => qbin P op t c d fun v => K (.b (.one v))
    | some (.agg l), some (.agg m) => qeq P op t (.agg l) (.agg m) fun r => K (.b (.one (.bool r)))
    | _, _ => False)
  | .unOp op _ x => (match ev1 T x with | some c => qun op c fun v => K (.b (.one v)) | none => False)
  | .convert s d x => (match ev1 T x with | some c => qconv P H s d c fun v => K (.b (.one v)) | none => False)
  | .makeFunc f first caps => (match ev1s T first.toList, ev1s T caps.toList with
    | some a, some b => (match ptsOf a, ptsOf b with
      | some a, some b => K (.b (.one (.fn f a b)))
      | _, _ => False)
    | _, _ => False)
  | .slice t x lo hi none => (match ev1 T x, evo T lo, evo T hi with
    | some c, some l, some h => qslice P H t c l h fun v => K (.b (.one v))
    | _, _, _ => False)
  | .fieldAddr t x f => (match ev1 T x with | some c => qfieldAddr P t c f fun v => K (.b (.one v)) | none => False)
  | .field t x f => (match evb T x with | some v => qfield P t v f fun v => K (.b v) | none => False)
  | .indexAddr t x i => (match ev1 T x, ev1n T i with
    | some c, some n => qindexAddr P H t c n fun v => K (.b (.one v))
    | _, _ => False)
  | .index t x i => (match evb T x, ev1n T i with
    | some v, some n => qindex P t v n fun v => K (.b v)
    | _, _ => False)
  | .extract x i => (match ev T x with
    | some (.tup l) => (match lget l i with | some v => K (.b v) | none => False)
    | _ => False)
  | .build t parts => (match evParts T parts.toList with
    | some ps => qbuild P t ps fun v => K (.b v)
    | none => False)
  | .sliceToArrayPointer t x => (match P.underlying t, ev1 T x with
    | some (.array n _), some (.sl key b base i sz len _) => Chk (n ≤ len) (K (.b (.one (.ptr ⟨key, b, .el base i sz 0⟩))))
    | _, _ => False)
  | .call c => (match c.callee, c.args.toList, c.argTypes.toList with
    | .builtin .len, [x], [t] => (match evb T x with | some v => qlen P H t v fun n => K (.b (.one (.int .i64 n))) | none => False)
    | .builtin .max, x :: l, _ => (match ev1 T x, ev1s T l with
      | some (.int k n), some cs => qmm true k n cs fun z => K (.b (.one (.int k z)))
      | _, _ => False)
    | .builtin .min, x :: l, _ => (match ev1 T x, ev1s T l with
      | some (.int k n), some cs => qmm false k n cs fun z => K (.b (.one (.int k z)))
      | _, _ => False)
    | _, _, _ => False)
  | _ => False

theorem arr_of {α : Type} {x : Array α} {l : List α} (h : x.toList = l) : x = l.toArray := by rw [← h]
theorem bwf_get : ∀ {l : List BV} {i : Nat} {v : BV}, bwf l → l[i]? = some v → v.wf
  | [], i, v, _, h => by simp at h
  | x :: l, 0, v, hw, h => by simp at h; subst h; exact hw.1
  | x :: l, i + 1, v, hw, h => bwf_get hw.2 (by simpa using h)

theorem qop_ok {P : Program} {T : Tm} {H : Heap} {o : Oper} {K : TV → Prop} (h : qop P T H o K) (hw1 : HWf H) (hT : TWf T) :
    ∃ v, K v ∧ v.wf ∧ ∀ C a w, Fits C T a → Rep C H w → (execOp a.eval o).run P w = .ok (.value v.val) w := by
  unfold qop at h
  split at h
  · rename_i x ho
    split at h
    · rename_i v hv; exact ⟨v, h, ev_wfT hT hv, fun C a w ha hw => by simp [execOp, ho, ev_ok ha hv]⟩
    · exact h.elim
  · rename_i x ho
    split at h
    · rename_i v hv; exact ⟨v, h, ev_wfT hT hv, fun C a w ha hw => by simp [execOp, ho, ev_ok ha hv]⟩
    · exact h.elim
  · rename_i c x y ho
    split at h
    · rename_i t u v hc hx hy
      cases t with
      | true => exact ⟨_, h.t rfl, ev_wfT hT hx, fun C a w ha hw => by have e : a.eval c = Value.bool _ := ev1_ok ha hc; simp [execOp, ho, e, ev_ok ha hx, asBool]⟩
      | false => exact ⟨_, h.f rfl, ev_wfT hT hy, fun C a w ha hw => by have e : a.eval c = Value.bool _ := ev1_ok ha hc; simp [execOp, ho, e, ev_ok ha hy, asBool]⟩
    · exact h.elim
  · rename_i t x ho
    split at h
    · rename_i c hc
      obtain ⟨v, hv, hvw, hr⟩ := qload_ok h hw1
      exact ⟨_, hv, hvw, fun C a w ha hw => by simp only [execOp, ho, ev1_ok ha hc, Sem.run_bind, hr C w hw, Result.andThen_ok, Sem.run_pure]; rfl⟩
    · exact h.elim
  · rename_i x ho
    split at h
    · rename_i p hc; refine ⟨_, h, one_wf _, fun C a w ha hw => ?_⟩; simp [execOp, ho, ev1_ok ha hc, SC.val, Pt.value, TV.val, BV.val]
    · rename_i f A B hc; refine ⟨_, h, one_wf _, fun C a w ha hw => ?_⟩; simp [execOp, ho, ev1_ok ha hc, SC.val, Pt.value, TV.val, BV.val]
    · rename_i f A B hc; refine ⟨_, h, one_wf _, fun C a w ha hw => ?_⟩; simp [execOp, ho, ev1_ok ha hc, SC.val, Pt.value, TV.val, BV.val]
    · exact h.elim
  · rename_i op t x y yt ho
    split at h
    · rename_i c d hc hd
      obtain ⟨v, hv, hr⟩ := qbin_ok h x y
      refine ⟨_, hv, one_wf _, fun C a w ha hw => ?_⟩
      have := hr w
      have e1 : a.eval x = c.val := evb_ok ha hc
      have e2 : a.eval y = d.val := evb_ok ha hd
      simp only [execOp, ho, e1, e2, Sem.run_bind] at this ⊢
      rw [this]; rfl
    · rename_i l m hc hd
      obtain ⟨v, hv, hr⟩ := qeq_ok h (evb_wfT hT hc) (evb_wfT hT hd) x y
      refine ⟨_, hv, one_wf _, fun C a w ha hw => ?_⟩
      have := hr w
      simp only [execOp, ho, evb_ok ha hc, evb_ok ha hd, Sem.run_bind] at this ⊢
      rw [this]; rfl
    · exact h.elim
  · rename_i op t x ho
    split at h
    · rename_i c hc
      obtain ⟨v, hv, hr⟩ := qun_ok (P := P) h
      exact ⟨_, hv, one_wf _, fun C a w ha hw => by simp only [execOp, ho, ev1_ok ha hc, Sem.run_bind, hr, Result.andThen_ok, Sem.run_pure]; rfl⟩
    · exact h.elim
  · rename_i s d x ho
    split at h
    · rename_i c hc
      obtain ⟨v, hv, hr⟩ := qconv_ok h hw1
      exact ⟨_, hv, one_wf _, fun C a w ha hw => by simp only [execOp, ho, ev1_ok ha hc, Sem.run_bind, hr C w hw, Result.andThen_ok, Sem.run_pure]; rfl⟩
    · exact h.elim
  · rename_i f first caps ho
    split at h
    · rename_i A B hA hB
      split at h
      · rename_i A' B' hA' hB'
        refine ⟨_, h, one_wf _, fun C a w ha hw => ?_⟩
        have e1 : first.map a.eval = (A'.map Pt.value).toArray := arr_of (by rw [Array.toList_map, ev1s_ok ha hA, ptsOf_ok hA'])
        have e2 : caps.map a.eval = (B'.map Pt.value).toArray := arr_of (by rw [Array.toList_map, ev1s_ok ha hB, ptsOf_ok hB'])
        simp only [execOp, ho, e1, e2, Instr.makeFunc, Sem.run_bind, Sem.run_pure, Result.andThen_ok]; rfl
      · exact h.elim
    · exact h.elim
  · rename_i t x lo hi ho
    split at h
    · rename_i c l h' hc hl hh
      obtain ⟨v, hv, hr⟩ := qslice_ok h hw1
      refine ⟨_, hv, one_wf _, fun C a w ha hw => ?_⟩
      have key : ∀ {x : Option Operand} {l : Option Int}, evo T x = some l → ∃ k : IntKind, x.map a.eval = l.map (Value.int k) := by
        intro x l hx
        cases x with
        | none => cases hx; exact ⟨.i64, rfl⟩
        | some x =>
          simp only [evo] at hx
          split at hx
          · rename_i n hk; cases hx; obtain ⟨k, hk⟩ := ev1n_ok ha hk; exact ⟨k, by simp [hk]⟩
          · cases hx
      obtain ⟨k1, e1⟩ := key hl
      obtain ⟨k2, e2⟩ := key hh
      simp only [execOp, ho, ev1_ok ha hc, Sem.run_bind, e1, e2, Option.map_none, hr C w _ _ hw, Result.andThen_ok, Sem.run_pure]; rfl
    · exact h.elim
  · rename_i t x f ho
    split at h
    · rename_i c hc
      obtain ⟨v, hv, hr⟩ := qfieldAddr_ok h
      exact ⟨_, hv, one_wf _, fun C a w ha hw => by simp only [execOp, ho, ev1_ok ha hc, Sem.run_bind, hr, Result.andThen_ok, Sem.run_pure]; rfl⟩
    · exact h.elim
  · rename_i t x f ho
    split at h
    · rename_i c hc
      obtain ⟨v, hv, hvw, hr⟩ := qfield_ok h (evb_wfT hT hc)
      exact ⟨_, hv, hvw, fun C a w ha hw => by simp only [execOp, ho, evb_ok ha hc, Sem.run_bind, hr, Result.andThen_ok, Sem.run_pure]; rfl⟩
    · exact h.elim
  · rename_i t x i ho
    split at h
    · rename_i c n hc hn
      obtain ⟨v, hv, hr⟩ := qindexAddr_ok h hw1
      exact ⟨_, hv, one_wf _, fun C a w ha hw => by obtain ⟨k, e⟩ := ev1n_ok ha hn; simp only [execOp, ho, ev1_ok ha hc, e, Sem.run_bind, hr C w k hw, Result.andThen_ok, Sem.run_pure]; rfl⟩
    · exact h.elim
  · rename_i t x i ho
    split at h
    · rename_i c n hc hn
      obtain ⟨v, hv, hvw, hr⟩ := qindex_ok h (evb_wfT hT hc)
      exact ⟨_, hv, hvw, fun C a w ha hw => by obtain ⟨k, e⟩ := ev1n_ok ha hn; simp only [execOp, ho, evb_ok ha hc, e, Sem.run_bind, hr, Result.andThen_ok, Sem.run_pure]; rfl⟩
    · exact h.elim
  · rename_i x i ho
    split at h
    · rename_i l hl
      split at h
      · rename_i v hv
        rw [lget_eq] at hv
        refine ⟨_, h, bwf_get (ev_wfT hT hl) hv, fun C a w ha hw => ?_⟩
        simp [execOp, ho, ev_ok ha hl, TV.val, Instr.extract, hv]
      · exact h.elim
    · exact h.elim
  · rename_i t parts ho
    split at h
    · rename_i ps hps
      obtain ⟨v, hv, hvw, hr⟩ := qbuild_ok h (evParts_wf hT hps)
      refine ⟨_, hv, hvw, fun C a w ha hw => ?_⟩
      have := hr w (parts.map fun (i, x) => (i, a.eval x)) (by rw [Array.toList_map, ← evParts_ok ha hps])
      simp only [execOp, ho, Sem.run_bind, this, Result.andThen_ok, Sem.run_pure]; rfl
    · exact h.elim
  · rename_i t x ho
    split at h
    · rename_i n e key b base i sz len cap hu hc
      obtain ⟨hle, h⟩ := h
      refine ⟨_, h, one_wf _, fun C a w ha hw => ?_⟩
      have e1 : ¬ len < n := by omega
      simp only [execOp, ho, ev1_ok ha hc, Instr.arrayAt, Sem.run_bind, run_underlying hu, Result.andThen_ok, SC.val, if_neg e1, Sem.run_pure]
      rfl
    · exact h.elim
  · rename_i c ho
    split at h
    · rename_i x t hc hx ht
      split at h
      · rename_i v hv
        obtain ⟨n, hn, hr⟩ := qlen_ok (ty := o.type) h hw1
        refine ⟨_, hn, one_wf _, fun C a w ha hw => ?_⟩
        have e1 : c.args.map a.eval = #[v.val] := arr_of (by rw [Array.toList_map, hx]; simp [evb_ok ha hv])
        have e2 : c.argTypes = #[t] := arr_of ht
        simp only [execOp, ho, resolve, hc, e1, e2, Sem.run_bind, Sem.run_pure, Result.andThen_ok, invoke, builtin, hr C w hw]; rfl
      · exact h.elim
    · rename_i x l hc hx
      split at h
      · rename_i k n cs hk hcs
        obtain ⟨z, hz, hr⟩ := qmax_ok (P := P) h
        refine ⟨_, hz, one_wf _, fun C a w ha hw => ?_⟩
        have e1 : c.args.map a.eval = (Value.int k n :: cs.map SC.val).toArray := arr_of (by rw [Array.toList_map, hx, List.map_cons, ev1s_ok ha hcs, ev1_ok ha hk]; rfl)
        simp only [execOp, ho, resolve, hc, e1, Sem.run_bind, Sem.run_pure, Result.andThen_ok, invoke, builtin, Builtin.max_, hr]; rfl
      · exact h.elim
    · rename_i x l hc hx
      split at h
      · rename_i k n cs hk hcs
        obtain ⟨z, hz, hr⟩ := qmin_ok (P := P) h
        refine ⟨_, hz, one_wf _, fun C a w ha hw => ?_⟩
        have e1 : c.args.map a.eval = (Value.int k n :: cs.map SC.val).toArray := arr_of (by rw [Array.toList_map, hx, List.map_cons, ev1s_ok ha hcs, ev1_ok ha hk]; rfl)
        simp only [execOp, ho, resolve, hc, e1, Sem.run_bind, Sem.run_pure, Result.andThen_ok, invoke, builtin, Builtin.min_, hr]; rfl
      · exact h.elim
    · exact h.elim
  · exact h.elim
end Go.SY

/- Operations that write or make memory: variables, stores, rows that are made. -/
set_option linter.unusedSimpArgs false
set_option linter.unusedVariables false
namespace Go.SY

def Holds (C : Ctx) (K : Tm → Heap → Prop) (a : Act) (w : World) : Prop := ∃ T H, Fits C T a ∧ Rep C H w ∧ K T H

/-- A value is stored in its slot. -/
def putK (N : Nat) (dst : Option Nat) (v : TV) (T : Tm) (H : Heap) (K : Tm → Heap → Prop) : Prop :=
  match dst with
  | some d => (match Nat.blt d N with | true => K ((d, v) :: T) H | false => False)
  | none => K T H
theorem putK_ok {C : Ctx} {dst : Option Nat} {v : TV} {T : Tm} {H : Heap} {K : Tm → Heap → Prop} {a : Act} {w : World} (h : putK C.N dst v T H K) (hv : v.wf) (ha : Fits C T a) (hw : Rep C H w) :
    Holds C K (a.put dst v.val) w := by
  unfold putK at h
  split at h
  · rename_i d
    split at h
    · rename_i hd; exact ⟨_, _, ha.put hd hv, hw, h⟩
    · exact h.elim
  · exact ⟨_, _, ha, hw, h⟩

theorem var_new {w : World} {T : TypeId} {l : List Sg} (hwf : swf l) : (HB.var T l).Is (w.alloc (.cells (svals l).toArray T)) w.heap.size :=
  ⟨0, 0, heap_alloc_new _ _, .inl (Nat.le_refl _), hwf⟩
theorem Rep.push {C : Ctx} {H : Heap} {w : World} (h : Rep C H w) (k : Nat) {T : TypeId} {l : List Sg} (hwf : swf l) :
    Rep C ((k, w.heap.size, .var T l) :: H) (w.alloc (.cells (svals l).toArray T)) :=
  h.alloc k _ _ (fun c hc => Nat.le_of_eq (Eq.symm hc)) (var_new hwf) rfl rfl rfl (by simp) (fun b hb => heap_alloc_old _ _ hb)
theorem own_new {w : World} {T : TypeId} {E : Enc} {L : List E.α} {post : List Value} {n cap : Nat} (hwf : E.wf L) (hn : n = L.length) (hc : n ≤ cap) (hp : cap * E.sz ≤ (E.vals L).length + post.length) :
    (HB.own T E (.at w.heap.size 0 n cap) L).Is (w.alloc (.cells (E.vals L ++ post).toArray T)) w.heap.size :=
  ⟨hwf, rfl, hn, [], post, 0, 0, heap_alloc_new _ _, .inl (Nat.le_refl _), rfl, hc, hp⟩
theorem Rep.pushOwn {C : Ctx} {H : Heap} {w : World} (h : Rep C H w) (k : Nat) {T : TypeId} {E : Enc} {L : List E.α} {post : List Value} {n cap : Nat} (hwf : E.wf L) (hn : n = L.length) (hc : n ≤ cap) (hp : cap * E.sz ≤ (E.vals L).length + post.length) :
    Rep C ((k, w.heap.size, .own T E (.at w.heap.size 0 n cap) L) :: H) (w.alloc (.cells (E.vals L ++ post).toArray T)) :=
  h.alloc k _ _ (fun c hc => Nat.le_of_eq hc.2.symm) (own_new hwf hn hc hp) rfl rfl rfl (by simp) (fun b hb => heap_alloc_old _ _ hb)

theorem grw_new {w : World} {T : TypeId} {E : Enc} {L : List E.α} {post : List Value} {n cap : Nat} (hwf : E.wf L) (hn : n = L.length) (hc : n ≤ cap) (hp : cap * E.sz ≤ (E.vals L).length + post.length) :
    (HB.grw T E (.at w.heap.size 0 n cap) L).Is (w.alloc (.cells (E.vals L ++ post).toArray T)) w.heap.size :=
  ⟨hwf, rfl, hn, [], post, 0, 0, heap_alloc_new _ _, .inl rfl, rfl, hc, hp⟩
theorem Rep.pushGrw {C : Ctx} {H : Heap} {w : World} (h : Rep C H w) (k : Nat) {T : TypeId} {E : Enc} {L : List E.α} {post : List Value} {n cap : Nat} (hwf : E.wf L) (hn : n = L.length) (hc : n ≤ cap) (hp : cap * E.sz ≤ (E.vals L).length + post.length) :
    Rep C ((k, w.heap.size, .grw T E (.at w.heap.size 0 n cap) L) :: H) (w.alloc (.cells (E.vals L ++ post).toArray T)) :=
  h.alloc k _ _ (fun c hc => Nat.le_of_eq hc.2.symm) (grw_new hwf hn hc hp) rfl rfl rfl (by simp) (fun b hb => heap_alloc_old _ _ hb)

/-! ### A store -/
def mstore (P : Program) (H : Heap) (t : TypeId) (x : SC) (v : BV) (K : Heap → Prop) : Prop :=
  match x, sizB P t with
  | .ptr ⟨key, b, off⟩, some n => (match hget H key with
    | some (b', hb) => Chk (b = b') (match Nat.beq (slen v.sg) n with | true => hb.put off v fun hb' => K ((key, b, hb') :: H) | false => False)
    | none => False)
  | _, _ => False
theorem mstore_ok {C : Ctx} {H : Heap} {t : TypeId} {x : SC} {v : BV} {K : Heap → Prop} {w : World} (h : mstore C.P H t x v K) (hv : v.wf) (hw : Rep C H w) :
    ∃ w' H', (Instr.storeAt t x.val v.val).run C.P w = .ok () w' ∧ Rep C H' w' ∧ K H' := by
  unfold mstore at h
  split at h
  · rename_i key b off n hn
    split at h
    · rename_i b' hb hg
      obtain ⟨rfl, h⟩ := h
      split at h
      · rename_i hb'
        have hb' := Nat.eq_of_beq_eq_true hb'
        obtain ⟨hb2, w', hK, hsg, hr, ho, hi, hrun, e1, e2, e3, e4, e5⟩ := HB.put_ok (P := C.P) (t := t) h (hw.is _ _ _ hg) hv (by rw [hn, BV.cells, svals_len hv, hb'])
        refine ⟨w', _, ?_, hw.write hg hr ho hi e1 e2 e3 (by omega) (fun c _ hc => e5 c hc) hsg, hK⟩
        simp only [Instr.storeAt, Instr.sureAddr, SC.val, Pt.value, Pt.addr, Sem.run_bind, Sem.run_pure, Result.andThen_ok, hrun]
      · exact h.elim
    · exact h.elim
  · exact h.elim

/-! ### What the elements of a slice are -/
def encOf (R : Pr) (e : TypeId) : Option Enc :=
  match R.P.underlying e with
  | some (.int .u8) => some (.sc .u8)
  | some (.int .u32) => some (.sc .u32)
  | some (.int .u64) => some (.sc .u64)
  | some (.int k) => some (.sc (.int k))
  | some .string => some (.sc .str)
  | some .bool => some (.sc .bool)
  | _ => R.E e
def bytB (P : Program) (t : TypeId) : Option Nat :=
  match P.info? t with
  | some i => some i.bytes
  | none => none
/-- An element's type: its encoding, its zero. -/
def elemK (R : Pr) (e : TypeId) (K : (E : Enc) → E.α → Prop) : Prop :=
  match encOf R e with
  | some E => zeroG R.P e fun z => (match E.dec z, sizB R.P e with
    | some z, some sz => (match Nat.beq sz E.sz with | true => K E z | false => False)
    | _, _ => False)
  | none => False
structure ElemOk (P : Program) (e : TypeId) (E : Enc) (z : E.α) : Prop where
  zero : ∃ v, (∀ w, (zeroValue e).run P w = .ok v w) ∧ v.cells = (svals (E.enc z)).toArray
  wf : swf (E.enc z)
  size : sizB P e = some E.sz
theorem elemK_ok {R : Pr} {e : TypeId} {K : (E : Enc) → E.α → Prop} (h : elemK R e K) : ∃ (E : Enc) (z : E.α), K E z ∧ ElemOk R.P e E z := by
  unfold elemK at h
  split at h
  · rename_i E hE
    obtain ⟨l, hl, hw, v, hv, hc⟩ := zeroG_ok h
    split at hl
    · rename_i z sz hz hs
      split at hl
      · rename_i hb
        have hb := Nat.eq_of_beq_eq_true hb
        obtain ⟨he, hew⟩ := E.decOk _ _ hz
        exact ⟨E, z, hl, ⟨v, hv, by rw [hc, he]⟩, hew hw, by rw [hs, hb]⟩
      · exact hl.elim
    · exact hl.elim
  · exact h.elim
theorem zeros_of {E : Enc} {z : E.α} (hz : swf (E.enc z)) (n : Nat) : Builtin.zeroCells (svals (E.enc z)).toArray n = (E.vals (List.replicate n z)).toArray := by
  have hwf : E.wf (List.replicate n z) := fun x hx => by rw [(List.mem_replicate.1 hx).2]; exact hz
  have hlen : (E.vals (List.replicate n z)).length = n * E.sz := by rw [E.vals_len hwf]; simp
  have hzl : (svals (E.enc z)).length = E.sz := by rw [svals_len hz, E.len]
  apply Array.ext
  · simp only [Builtin.zeroCells, Array.size_map, Array.size_range, List.size_toArray, hzl, hlen]
  · intro i h1 h2
    have hi : i < n * E.sz := by simpa [hlen] using h2
    have hpos : 0 < E.sz := by
      rcases Nat.eq_zero_or_pos E.sz with h | h
      · rw [h] at hi; simp at hi
      · exact h
    have hm : i % E.sz < E.sz := Nat.mod_lt _ hpos
    have hd : i / E.sz < n := (Nat.div_lt_iff_lt_mul hpos).2 hi
    have hg := E.vals_get hwf (i := i / E.sz) (j := i % E.sz) (by simpa using hd) hm
    rw [show i / E.sz * E.sz + i % E.sz = i by rw [Nat.mul_comm]; exact Nat.div_add_mod i E.sz] at hg
    have hgd : (List.replicate n z).getD (i / E.sz) E.dflt = z := by simp [List.getD_eq_getElem?_getD, hd]
    rw [hgd] at hg
    have e2 : (E.vals (List.replicate n z)).toArray[i] = (svals (E.enc z))[i % E.sz]'(by rw [hzl]; exact hm) := by
      rw [List.getElem?_eq_getElem (by rw [hlen]; exact hi), List.getElem?_eq_getElem (by rw [hzl]; exact hm)] at hg
      simpa using hg
    rw [e2]
    have hm2 : i % (svals (E.enc z)).length < (svals (E.enc z)).length := by rw [hzl]; exact hm
    simp [Builtin.zeroCells, hzl, hm]
theorem range_zeros {E : Enc} {z : E.α} {v : Value} (hz : swf (E.enc z)) (hv : v.cells = (svals (E.enc z)).toArray) (n : Nat) :
    ((Array.range (n * E.sz)).map fun i => v.cells[i % v.cells.size]!) = (E.vals (List.replicate n z)).toArray := by
  have h := zeros_of hz n
  have hzl : (svals (E.enc z)).length = E.sz := by rw [svals_len hz, E.len]
  rw [hv, ← h]
  simp only [Builtin.zeroCells, List.size_toArray, hzl]

/-- The elements that a slice is made of, in their order. -/
def decAll (E : Enc) : Nat → List (Nat × BV) → Option (List E.α)
  | _, [] => some []
  | i, (j, v) :: l => (match Nat.beq i j, E.dec v.sg, decAll E (i + 1) l with
    | true, some x, some r => some (x :: r)
    | _, _, _ => none)
theorem fill_all {E : Enc} : ∀ {l : List (Nat × BV)} {i : Nat} {L : List E.α} {done rest : List Value}, decAll E i l = some L → (∀ p ∈ l, p.2.wf) → done.length = i * E.sz → rest.length = l.length * E.sz →
    Instr.fill (fun i => some (i * E.sz, E.sz)) (done ++ rest).toArray (l.map fun p => (p.1, p.2.val)) = some (done ++ E.vals L).toArray ∧ E.wf L ∧ L.length = l.length := by
  intro l
  induction l with
  | nil =>
    intro i L done rest h _ _ hr
    cases h
    have : rest = [] := List.eq_nil_of_length_eq_zero (by simpa using hr)
    subst this
    exact ⟨rfl, (by intro x hx; cases hx), rfl⟩
  | cons p l ih =>
    intro i L done rest h hw hd hr
    obtain ⟨j, v⟩ := p
    unfold decAll at h
    split at h
    · rename_i x r hb hx hrr
      have hb := Nat.eq_of_beq_eq_true hb
      subst hb
      cases h
      obtain ⟨he, hew⟩ := E.decOk _ _ hx
      have hv : v.wf := hw _ (List.mem_cons_self ..)
      have hwx : swf (E.enc x) := hew hv
      have hvl : v.cells.length = E.sz := by rw [BV.cells, ← he, svals_len hwx, E.len]
      have hc : v.val.cells = v.cells.toArray := by rw [← BV.val_cells]
      have hrl : rest.length = E.sz + l.length * E.sz := by rw [hr, List.length_cons, Nat.succ_mul]; omega
      have hov : over (done ++ rest) (i * E.sz) v.cells = (done ++ v.cells) ++ rest.drop E.sz := by
        rw [← hd, over_append _ _ _ (by omega), hvl]
      obtain ⟨h1, h2, h3⟩ := ih (done := done ++ v.cells) (rest := rest.drop E.sz) hrr (fun p hp => hw p (List.mem_cons_of_mem _ hp)) (by simp [hd, hvl, Nat.succ_mul]) (by simp; omega)
      refine ⟨?_, ?_, by simp [h3]⟩
      · simp only [List.map_cons, Instr.fill, hc, List.size_toArray, hvl, ne_eq, not_true_eq_false, decide_false, Bool.false_or]
        rw [if_neg (by simp [hd]; omega)]
        have := foldl_over v.cells (i * E.sz) 0 (done ++ rest).toArray
        simp only [Nat.add_zero] at this
        rw [this, hov, h1]
        have : E.vals (x :: r) = v.cells ++ E.vals r := by simp [Enc.vals, he, BV.cells]
        rw [this, List.append_assoc]
      · intro y hy
        rcases List.mem_cons.1 hy with rfl | hy
        · exact hwx
        · exact h2 y hy
    · cases h

def mbuildSlice (R : Pr) (t : TypeId) (len : Nat) (parts : List (Nat × BV)) (K : TypeId → (E : Enc) → List E.α → Prop) : Prop :=
  match R.P.underlying t with
  | some (.slice e) => elemK R e fun E z => (match decAll E 0 parts, Nat.beq (llen parts) len, Nat.ble (len * E.sz) 16777216 with
    | some L, true, true => K e E L
    | _, _, _ => False)
  | _ => False
theorem mbuildSlice_ok {R : Pr} {t : TypeId} {len : Nat} {parts : List (Nat × BV)} {K : TypeId → (E : Enc) → List E.α → Prop} (h : mbuildSlice R t len parts K) (hp : ∀ p ∈ parts, p.2.wf) :
    ∃ (e : TypeId) (E : Enc) (L : List E.α), K e E L ∧ E.wf L ∧ L.length = len ∧ ∀ w (ps : Array (Nat × Value)), ps.toList = (parts.map fun p => (p.1, p.2.val)) →
      (Instr.buildSlice t len ps).run R.P w = .ok (.slice (some ⟨w.heap.size, 0, none⟩) len len) (w.alloc (.cells (E.vals L ++ []).toArray e)) := by
  unfold mbuildSlice at h
  split at h
  · rename_i e hu
    obtain ⟨E, z, h, hz⟩ := elemK_ok h
    split at h
    · rename_i L hL hb hle
      have hb := Nat.eq_of_beq_eq_true hb
      rw [llen_eq] at hb
      have hle := Nat.le_of_ble_eq_true hle
      obtain ⟨v, hv, hvc⟩ := hz.zero
      have hwr : E.wf (List.replicate len z) := fun x hx => by rw [(List.mem_replicate.1 hx).2]; exact hz.wf
      obtain ⟨h1, h2, h3⟩ := fill_all (E := E) (done := []) (rest := E.vals (List.replicate len z)) hL hp (by simp) (by rw [E.vals_len hwr, hb]; simp)
      refine ⟨e, E, L, h, h2, by rw [h3, hb], fun w ps hps => ?_⟩
      have hgt : ¬ len * E.sz > 2 ^ 24 := by omega
      have hz1 := range_zeros hz.wf hvc len
      have he : Instr.fill (fun i => some (i * E.sz, E.sz)) (E.vals (List.replicate len z)).toArray (parts.map fun p => (p.1, p.2.val)) = some (E.vals L ++ []).toArray := by simpa using h1
      by_cases h0 : len * E.sz = 0
      · have hnil : E.vals (List.replicate len z) = [] := List.eq_nil_of_length_eq_zero (by rw [E.vals_len hwr]; simpa using h0)
        rw [hnil] at he
        have h4 : ¬ (0 : Nat) > 2 ^ 24 := by omega
        have he' : Instr.fill (fun i => some (i * E.sz, E.sz)) #[] (parts.map fun p => (p.1, p.2.val)) = some (E.vals L ++ []).toArray := he
        simp only [Instr.buildSlice, Sem.run_bind, run_underlying hu, Result.andThen_ok, sizB_run hz.size, h0, if_neg h4, if_true, Sem.run_pure, hps, Array.range_zero', Array.map_empty, he', newRow, run_newObj]
        rfl
      · simp only [Instr.buildSlice, Sem.run_bind, run_underlying hu, Result.andThen_ok, sizB_run hz.size, if_neg h0, if_neg hgt, Sem.run_pure, hv, hz1, hps, he, newRow, run_newObj]
        rfl
    · exact h.elim
  · exact h.elim

def mmake (R : Pr) (t : TypeId) (l c : Int) (K : TypeId → (E : Enc) → List E.α → Prop) : Prop :=
  match R.P.underlying t with
  | some (.slice e) => elemK R e fun E z => (match bytB R.P e with
    | some bytes => Chk (0 ≤ l ∧ l ≤ c ∧ bytes * c ≤ 281474976710656 ∧ c < 9223372036854775808) (K e E (List.replicate l.toNat z))
    | none => False)
  | _ => False
theorem mmake_ok {R : Pr} {t : TypeId} {l c : Int} {K : TypeId → (E : Enc) → List E.α → Prop} (h : mmake R t l c K) :
    ∃ (e : TypeId) (E : Enc) (L : List E.α) (post : List Value), K e E L ∧ E.wf L ∧ L.length = l.toNat ∧ l.toNat ≤ c.toNat ∧ c.toNat * E.sz ≤ (E.vals L).length + post.length ∧ ∀ w (k1 k2 : IntKind),
      (Instr.makeSlice t (.int k1 l) (.int k2 c)).run R.P w = .ok (.slice (some ⟨w.heap.size, 0, none⟩) l.toNat c.toNat) (w.alloc (.cells (E.vals L ++ post).toArray e)) := by
  unfold mmake at h
  split at h
  · rename_i e hu
    obtain ⟨E, z, h, hz⟩ := elemK_ok h
    split at h
    · rename_i bytes hb
      obtain ⟨⟨h1, h2, h3, h4⟩, h⟩ := h
      obtain ⟨i, hi, hib⟩ : ∃ i, R.P.info? e = some i ∧ i.bytes = bytes := by
        unfold bytB at hb; split at hb
        · rename_i i hi; exact ⟨i, hi, by cases hb; rfl⟩
        · cases hb
      have hwr : ∀ n, E.wf (List.replicate n z) := fun n x hx => by rw [(List.mem_replicate.1 hx).2]; exact hz.wf
      refine ⟨e, E, _, E.vals (List.replicate (c.toNat - l.toNat) z), h, hwr _, by simp, by omega, ?_, fun w k1 k2 => ?_⟩
      · rw [E.vals_len (hwr _), E.vals_len (hwr _), ← Nat.add_mul]
        simp only [List.length_replicate]
        exact Nat.mul_le_mul_right _ (by omega)
      · have hti : ∀ w, (typeInfo e).run R.P w = .ok i w := fun w => by simp [typeInfo, hi]
        have w1 : IntKind.i64.wrap l = l := IntWalk.i64_in _ (by omega)
        have w2 : IntKind.i64.wrap c = c := IntWalk.i64_in _ (by omega)
        have n1 : (decide (c < 0) || decide ((i.bytes : Int) * c > 2 ^ 48)) = false := by
          rw [hib]; simp; omega
        have n2 : decide (l < 0) = false := by simp; omega
        have n3 : decide (l > c) = false := by simp; omega
        obtain ⟨v, hv, hvc⟩ := hz.zero
        have hz1 := range_zeros hz.wf hvc c.toNat
        have hsplit : E.vals (List.replicate l.toNat z) ++ E.vals (List.replicate (c.toNat - l.toNat) z) = E.vals (List.replicate c.toNat z) := by
          rw [← E.vals_append, List.replicate_append_replicate, show l.toNat + (c.toNat - l.toNat) = c.toNat by omega]
        rw [hsplit]
        by_cases h0 : c.toNat * E.sz = 0
        · have hnil : E.vals (List.replicate c.toNat z) = [] := List.eq_nil_of_length_eq_zero (by rw [E.vals_len (hwr _)]; simpa using h0)
          rw [hnil]
          simp only [Instr.makeSlice, Sem.run_bind, run_underlying hu, Result.andThen_ok, asInt, asIntOf, Sem.run_pure, hti, w1, w2, n1, n2, n3, Bool.or_self, Bool.false_eq_true, if_false, run_askRoom, sizB_run hz.size, h0, if_true, Array.range_zero', Array.map_empty, newRow, run_newObj]
          rfl
        · simp only [Instr.makeSlice, Sem.run_bind, run_underlying hu, Result.andThen_ok, asInt, asIntOf, Sem.run_pure, hti, w1, w2, n1, n2, n3, Bool.or_self, Bool.false_eq_true, if_false, run_askRoom, sizB_run hz.size, if_neg h0, hv, hz1, newRow, run_newObj]
          rfl
    · exact h.elim
  · exact h.elim

/-- '[]byte(s)'. -/
def mbytes (P : Program) (s d : TypeId) (x : SC) (K : TypeId → List UInt8 → Prop) : Prop :=
  match P.underlying s, P.underlying d, x with
  | some .string, some (.slice e), .str l => (match P.underlying e with
    | some (.int .u8) => K e l
    | _ => False)
  | _, _, _ => False
theorem mbytes_ok {C : Ctx} {H : Heap} {s d : TypeId} {x : SC} {K : TypeId → List UInt8 → Prop} (h : mbytes C.P s d x K) (key : Nat) {w : World} (hw : Rep C H w) :
    ∃ e l, K e l ∧ ∃ (y : SV) (w' : World), (convert s d x.val).run C.P w = .ok y.val w' ∧ Rep C ((key, y.blk, .own e (.sc .u8) y l) :: H) w' := by
  unfold mbytes at h
  split at h
  · rename_i e l hs hd
    split at h
    · rename_i he
      refine ⟨e, l, h, ?_⟩
      have hr := Lib.run_convert_string_bytes (P := C.P) w s d e ⟨⟨l⟩⟩ hs hd he
      have hsz : (⟨⟨l⟩⟩ : ByteArray).size = l.length := rfl
      rw [hsz] at hr
      have hge : l.length ≤ grownCap w l.length 0 e := by unfold grownCap; simp only [Question.cut]; omega
      refine ⟨.at w.heap.size 0 l.length (grownCap w l.length 0 e), Lib.bytesWorld w e ⟨⟨l⟩⟩, hr, ?_⟩
      have hcells : Lib.bytesCells w e ⟨⟨l⟩⟩ = ((Enc.sc .u8).vals l ++ (List.replicate (grownCap w l.length 0 e - l.length) (Value.int .u8 0))).toArray := by
        rw [u8_vals]
        simp [Lib.bytesCells, hsz, Function.comp_def]
      have hnew := Lib.bytesWorld_at_new w e ⟨⟨l⟩⟩
      rw [hcells] at hnew
      have hvl : ((Enc.sc .u8).vals l).length = l.length := by rw [u8_vals]; simp
      refine hw.alloc key _ _ (fun c h => Nat.le_of_eq h.2.symm) ⟨w8_wf l, rfl, rfl, [], _, _, _, hnew, .inr (by simp [hvl]), rfl, hge, ?_⟩ rfl rfl rfl (by rw [Lib.bytesWorld_size]; omega) (fun b hb => Lib.bytesWorld_at_old w e _ b hb)
      rw [hvl]; simp [Enc.sz]; omega
    · exact h.elim
  · exact h.elim

/-- '[]byte(..)' of a constant: the row that was built is marked, and looked at. -/
def mconst (P : Program) (H : Heap) (s d : TypeId) (k : Nat) (y : SV) (K : List UInt8 → Prop) : Prop :=
  match Nat.beq s d, P.underlying s, y, hget H k with
  | true, some (.slice e), .at _ _ _ _, some (_, .own _ (.sc .u8) y' L) => (match P.underlying e with
    | some (.int .u8) => Chk (y' = y) (K L)
    | _ => False)
  | _, _, _, _ => False
theorem mconst_ok {C : Ctx} {H : Heap} {s d : TypeId} {k : Nat} {y : SV} {K : List UInt8 → Prop} (h : mconst C.P H s d k y K) {w : World} (hw : Rep C H w) :
    ∃ L, K L ∧ ∃ w' : World, (convert s d y.val).run C.P w = .ok y.val w' ∧ Rep C ((k, y.blk, .view (.sc .u8) y L) :: H) w' := by
  unfold mconst at h
  split at h
  · rename_i e b0 o n cap b1 T y' L hsd hs hg
    have hsd := Nat.eq_of_beq_eq_true hsd
    subst hsd
    split at h
    · rename_i he
      obtain ⟨rfl, h⟩ := h
      have hi := hw.is _ _ _ hg
      have hi2 := hi
      obtain ⟨hwf, hb, hn, pre, post, lo, hh, hrow, hfl, hpre, hlc, hcap⟩ := hi
      obtain rfl : b0 = b1 := hb
      refine ⟨L, h, w.freeze ⟨b0, (pre ++ (Enc.sc .u8).vals L ++ post).toArray.size, none⟩ 1, ?_, ?_⟩
      · have hsh : w.shape? b0 = some (T, (pre ++ (Enc.sc .u8).vals L ++ post).toArray.size) := by
          unfold World.shape?; rw [hrow]
        have e0 : (s == s) = true := by simp
        simp only [convert, SV.val, Sem.run_bind, run_underlying hs, run_underlying he, Result.andThen_ok, e0, markStringish, run_shape, hsh, run_freeze, Sem.run_pure]
      · have hlt : b0 < w.heap.size := (Array.getElem?_eq_some_iff.1 hrow).1
        have hne : ∀ c, c ≠ b0 → (w.freeze ⟨b0, (pre ++ (Enc.sc .u8).vals L ++ post).toArray.size, none⟩ 1).heap[c]? = w.heap[c]? := fun c hc => by
          unfold World.freeze
          rw [if_neg (by decide)]
          show (w.heap.modify b0 _)[c]? = _
          rw [Array.getElem?_modify, if_neg (Ne.symm hc)]
        have hsz : (w.freeze ⟨b0, (pre ++ (Enc.sc .u8).vals L ++ post).toArray.size, none⟩ 1).heap.size = w.heap.size := by
          unfold World.freeze
          rw [if_neg (by decide)]
          show (w.heap.modify b0 _).size = _
          rw [Array.size_modify]
        obtain ⟨fl, hat⟩ : ∃ fl, (w.freeze ⟨b0, (pre ++ (Enc.sc .u8).vals L ++ post).toArray.size, none⟩ 1).heap[b0]? = some (.cells (pre ++ (Enc.sc .u8).vals L ++ post).toArray T fl) := by
          unfold World.freeze
          rw [if_neg (by decide)]
          refine ⟨if (lo == hh) = true then ((pre ++ (Enc.sc .u8).vals L ++ post).toArray.size, (pre ++ (Enc.sc .u8).vals L ++ post).toArray.size + 1) else (min lo (pre ++ (Enc.sc .u8).vals L ++ post).toArray.size, max hh ((pre ++ (Enc.sc .u8).vals L ++ post).toArray.size + 1)), ?_⟩
          show (w.heap.modify b0 _)[b0]? = _
          rw [Array.getElem?_modify, if_pos rfl, hrow]
          rfl
        refine Rep.write (hb := .own T (.sc .u8) (.at b0 o n cap) L) hw hg rfl (by intro h; cases h) ⟨hwf, ?_⟩ rfl rfl rfl (by rw [hsz]; exact Nat.le_refl _) (fun c hc hcb => hne c hcb)
        refine ⟨rfl, hn, by omega, by rw [hsz]; exact hlt, fun j v hv => ?_⟩
        obtain ⟨fl1, fl2⟩ := fl
        rw [cell_of_row _ b0 _ _ _ _ hat]
        have hj : j < ((Enc.sc .u8).vals L).length := (List.getElem?_eq_some_iff.1 hv).1
        simp only [List.getElem?_toArray, List.append_assoc]
        rw [List.getElem?_append_right (by omega), ← hpre, Nat.add_sub_cancel_left, List.getElem?_append_left hj, hv]
    · exact h.elim
  · exact h.elim
end Go.SY

/- 'append' and 'copy'. -/
set_option linter.unusedSimpArgs false
set_option linter.unusedVariables false
namespace Go.SY

def growCap (need cap : Nat) : Nat := Builtin.nextslicecap need cap
theorem growBy_le (n : Nat) : ∀ (r c : Nat), c ≤ n + (n + 768) / 4 → Builtin.growBy n r c ≤ n + (n + 768) / 4 := by
  intro r
  induction r with
  | zero => intro c h; simpa [Builtin.growBy] using h
  | succ r ih =>
    intro c h
    unfold Builtin.growBy
    split
    · exact h
    · exact ih _ (by omega)
theorem growCap_le {need cap : Nat} (h : cap < need) : Builtin.nextslicecap need cap ≤ 2 * need + 192 := by
  unfold Builtin.nextslicecap
  split
  · omega
  · split
    · omega
    · have := growBy_le need 4 cap (by omega)
      omega

structure AppT (P : Program) (st xt e : TypeId) (size bytes : Nat) : Prop where
  st : P.underlying st = some (.slice e)
  xt : (∃ e', P.underlying xt = some (.slice e')) ∨ P.underlying xt = some .string
  info : ∃ i, P.info? e = some i ∧ i.size = size ∧ i.bytes = bytes

theorem zeroCells_len (z : Array Value) (n : Nat) : (Builtin.zeroCells z n).size = n * z.size := by simp [Builtin.zeroCells]

theorem run_append_in {P : Program} {st xt ty e : TypeId} {size bytes n : Nat} (ht : AppT P st xt e size bytes) {w w' : World} {base : Option Addr} {len cap : Nat} {x : Value}
    (hn : (Builtin.lenOf x).run P w = .ok n w) {new : Array Value} (hf : (Builtin.firstCells size n x).run P w = .ok new w) (hle : len + n ≤ cap)
    (hs : (match base with | some a => storeCells (a.add (len * size)) new.toList | none => pure () : Sem Unit).run P w = .ok () w') :
    (Builtin.append_ #[st, xt] ty #[.slice base len cap, x]).run P w = .ok (.slice base (len + n) cap) w' := by
  obtain ⟨hst, hxt, i, hi, rfl, rfl⟩ := ht
  have hsz : (sizeOf e).run P w = .ok i.size w := sizeOf_run hi
  rcases hxt with ⟨e', hd⟩ | hd <;> cases base
  all_goals first
    | (simp only [Sem.run_pure, Result.ok.injEq, true_and] at hs
       subst hs
       simp [Builtin.append_, run_underlying hst, run_underlying hd, hsz, hn, hle, hf]; done)
    | (simp [Builtin.append_, run_underlying hst, run_underlying hd, hsz, hn, hle, hf, hs]; done)

theorem run_append_new {P : Program} {st xt ty e : TypeId} {size bytes n : Nat} (ht : AppT P st xt e size bytes) {w : World} {base : Option Addr} {len cap : Nat} {x : Value}
    (hn : (Builtin.lenOf x).run P w = .ok n w) {new old : Array Value} (hf : ∀ w' : World, w' = { w with drawn := w.drawn + 1 } → (Builtin.firstCells size n x).run P w' = .ok new w')
    (ho : ∀ w' : World, w' = { w with drawn := w.drawn + 1 } → (Builtin.firstCells size len (.slice base len cap)).run P w' = .ok old w')
    (hgt : cap < len + n) (hb : (2 * (len + n) + 192) * bytes ≤ 281474976710656) (hi64 : len + n < 9223372036854775808) {z : Value} (hz : ∀ w, (zeroValue e).run P w = .ok z w) (hb0 : bytes ≠ 0) :
    ∃ c, len + n ≤ c ∧ (Builtin.append_ #[st, xt] ty #[.slice base len cap, x]).run P w =
      .ok (.slice (some ⟨w.heap.size, 0, none⟩) (len + n) c) (({ w with drawn := w.drawn + 1 } : World).alloc (.cells (old ++ new ++ Builtin.zeroCells z.cells (c - (len + n))) e)) := by
  obtain ⟨hst, hxt, i, hi, rfl, rfl⟩ := ht
  have hsz : (sizeOf e).run P w = .ok i.size w := sizeOf_run hi
  have hti : ∀ w, (typeInfo e).run P w = .ok i w := fun w => by simp [typeInfo, hi]
  have hcap : Builtin.nextslicecap (len + n) cap * i.bytes ≤ 2 ^ 48 := by
    have h1 := Nat.mul_le_mul_right i.bytes (growCap_le hgt)
    omega
  refine ⟨len + n + w.tape w.drawn (.appendCap (len + n) cap e) % (2 ^ 63 - (len + n)), by omega, ?_⟩
  have hns : ¬ len + n ≤ cap := by omega
  have hc2 : ¬ Builtin.nextslicecap (len + n) cap * i.bytes > 2 ^ 48 := by omega
  rcases hxt with ⟨e', hd⟩ | hd
  all_goals
    simp only [Builtin.append_, List.getElem?_toArray, List.getElem?_cons_zero, List.getElem?_cons_succ, Sem.run_bind, run_underlying hst, Result.andThen_ok, hsz, Sem.run_pure, run_underlying hd, Bool.false_eq_true, if_false,
      hn, if_neg hns, hti, hb0, or_self, and_false, if_neg hc2, run_choose, Question.forced, Question.cut, run_askRoom, ho _ rfl, hf _ rfl, Bool.not_false, if_true, hz, newRow, run_newObj]
    rfl

/-- The same elements, of the same kind. -/
structure Same {E' : Enc} (L : List E'.α) (E : Enc) (K : List E.α → Prop) : Prop where
  go : ∃ h : E' = E, K (h ▸ L)
theorem Same.rfl {E : Enc} {L : List E.α} {K : List E.α → Prop} (h : K L) : Same L E K := ⟨_root_.rfl, h⟩

/-- What an append puts behind. -/
def srcK (H : Heap) (E : Enc) (x : SC) (K : List E.α → Prop) : Prop :=
  match x with
  | .nilsl => K []
  | .str s => (match E, K with | .sc .u8, K => K s | _, _ => False)
  | .lst k x => lstOf H k x fun _ L => Same L E K
  | .part k x sz lo hi => lstOf H k x fun E' L => (match Nat.beq sz E'.sz with
    | true => Chk (lo ≤ hi ∧ hi ≤ L.length) (Same ((L.take hi).drop lo) E K)
    | false => False)
  | .sl .. => (match E, K with | .sc .u8, K => bytesIn H x K | _, _ => False)
  | _ => False
def Src (C : Ctx) (H : Heap) (x : SC) (size n : Nat) (vs : List Value) : Prop :=
  ∀ w, Rep C H w → (Builtin.lenOf x.val).run C.P w = .ok n w ∧ ∀ m, m ≤ n → (Builtin.firstCells size m x.val).run C.P w = .ok (vs.take (m * size)).toArray w
theorem Cells.src {C : Ctx} {H : Heap} {x : SC} {sz n : Nat} {vs : List Value} (h : Cells C H x sz n vs) : Src C H x sz n vs := fun w hw => by
  obtain ⟨hl, h⟩ := h w hw
  rcases h with ⟨cap, e, rfl⟩ | ⟨b, o, cap, e, hc⟩
  · rw [e]
    refine ⟨by simp [Builtin.lenOf], fun m hm => ?_⟩
    have : m = 0 := by omega
    subst this
    simp [Builtin.firstCells]
  · rw [e]
    refine ⟨by simp [Builtin.lenOf], fun m hm => ?_⟩
    simp only [Builtin.firstCells]
    have hb : m * sz ≤ n * sz := Nat.mul_le_mul_right _ hm
    refine run_loadCells (by rw [List.length_take, hl]; omega) fun j v hv => hc j v ?_
    rw [List.getElem?_take] at hv
    split at hv
    · exact hv
    · cases hv
theorem srcK_ok {H : Heap} {E : Enc} {x : SC} {K : List E.α → Prop} (h : srcK H E x K) (hw1 : HWf H) : ∃ L : List E.α, K L ∧ E.wf L ∧ ∀ C, Src C H x E.sz L.length (E.vals L) := by
  unfold srcK at h
  split at h
  · exact ⟨[], h, (by intro x hx; cases hx), fun C => Cells.src (fun w hw => ⟨by simp [Enc.vals], .inl ⟨0, rfl, rfl⟩⟩)⟩
  · rename_i s
    split at h
    · rename_i K
      refine ⟨s, h, w8_wf s, fun C w hw => ⟨by simp [SC.val, Builtin.lenOf, ByteArray.size], fun m hm => ?_⟩⟩
      rw [u8_vals]
      simp only [SC.val, Builtin.firstCells, extract_str, Sem.run_pure, List.drop_zero]
      congr 1
      simp [List.map_take, Function.comp_def, Enc.sz]
    · exact h.elim
  · rename_i k x
    obtain ⟨E', L, ⟨rfl, h⟩, hwL, hI⟩ := lstOf_ok h hw1
    exact ⟨L, h, hwL, fun C => (Cells.of (hI C) hwL).src⟩
  · rename_i k x sz lo hi
    have h0 := h
    clear h
    obtain ⟨E', L, h, hwL, hI⟩ := lstOf_ok h0 hw1
    clear h0
    split at h
    · rename_i hb
      have hb := Nat.eq_of_beq_eq_true hb
      subst hb
      obtain ⟨⟨h1, h2⟩, ⟨rfl, h⟩⟩ := h
      refine ⟨_, h, Enc.wf_sub hwL fun y hy => List.mem_of_mem_take (List.mem_of_mem_drop hy), fun C => ?_⟩
      have := Cells.ofPart (hI C) hwL h1 h2
      have e : ((L.take hi).drop lo).length = hi - lo := by simp; omega
      show Src C H _ _ ((L.take hi).drop lo).length (E'.vals ((L.take hi).drop lo))
      rw [e]
      exact this.src
    · exact h.elim
  · split at h
    · obtain ⟨L, hL, hc⟩ := bytesIn_ok h hw1
      refine ⟨L, hL, w8_wf L, fun C => ?_⟩
      rw [u8_vals]
      exact (hc C).src
    · exact h.elim
  · exact h.elim

def appOk (bytes n : Nat) : Prop := (2 * n + 192) * bytes ≤ 281474976710656 ∧ n < 9223372036854775808
def mappend (R : Pr) (N d : Nat) (T : Tm) (H : Heap) (e : TypeId) (bytes : Nat) (s x : SC) (K : Tm → Heap → Prop) : Prop :=
  match s with
  | .nilsl => elemK R e fun E _ => srcK H E x fun new => Chk ((2 * new.length + 192) * bytes ≤ 281474976710656 ∧ new.length < 9223372036854775808) (New fun y : SV => (match Nat.blt d N with
      | true => K ((d, .b (.one (.lst d y))) :: T) ((d, y.blk, .own e E y new) :: H)
      | false => False))
  | .lst k z => (match hget H k with
    | some (_, .own e' E z' L) => Chk (z = z' ∧ e' = e) (elemK R e fun E' _ => srcK H E x fun new => Same L E' fun _ => Chk ((2 * (L.length + new.length) + 192) * bytes ≤ 281474976710656 ∧ L.length + new.length < 9223372036854775808) (New fun y : SV => (match Nat.blt d N with
      | true => K ((d, .b (.one (.lst k y))) :: T) ((k, y.blk, .own e E y (L ++ new)) :: hdel H k)
      | false => False)))
    | some (_, .grw e' E z' L) => Chk (z = z' ∧ e' = e) (elemK R e fun E' _ => srcK H E x fun new => Same L E' fun _ => Chk ((2 * (L.length + new.length) + 192) * bytes ≤ 281474976710656 ∧ L.length + new.length < 9223372036854775808) (New fun y : SV => (match Nat.blt d N with
      | true => K ((d, .b (.one (.lst k y))) :: T) ((k, y.blk, .grw e E y (L ++ new)) :: hdel H k)
      | false => False)))
    | _ => False)
  | _ => False

theorem SV.val_at (b o len cap : Nat) : (SC.lst 0 (.at b o len cap)).val = .slice (some ⟨b, o, none⟩) len cap := rfl

theorem run_append_grow {C : Ctx} {H : Heap} {w : World} {st xt ty e : TypeId} {bytes : Nat} {E : Enc} (ht : AppT C.P st xt e E.sz bytes) (hb0 : bytes ≠ 0) {x : SC} {new : List E.α} (hnw : E.wf new)
    (hsrc : Src C H x E.sz new.length (E.vals new)) {base : Option Addr} {len cap : Nat} {old : List E.α} (how : E.wf old) (hol : old.length = len)
    (ho : ∀ w, Rep C H w → (Builtin.firstCells E.sz len (.slice base len cap)).run C.P w = .ok (E.vals old).toArray w)
    (hgt : cap < len + new.length) (hb : (2 * (len + new.length) + 192) * bytes ≤ 281474976710656) (hi64 : len + new.length < 9223372036854775808) {z : E.α} (hz : ElemOk C.P e E z) (hw : Rep C H w) (k : Nat) :
    ∃ (y : SV) (w' : World), (Builtin.append_ #[st, xt] ty #[.slice base len cap, x.val]).run C.P w = .ok y.val w' ∧ Rep C ((k, y.blk, .own e E y (old ++ new)) :: H) w' := by
  obtain ⟨v, hv, hvc⟩ := hz.zero
  have hd : Rep C H { w with drawn := w.drawn + 1 } := hw.drew _
  have htk : (E.vals new).take (new.length * E.sz) = E.vals new := List.take_of_length_le (by rw [E.vals_len hnw]; exact Nat.le_refl _)
  obtain ⟨c, hc, hr⟩ := run_append_new (ty := ty) ht (hsrc w hw).1 (fun w' e => (hsrc w' (by subst e; exact hd)).2 _ (Nat.le_refl _)) (fun w' e => ho w' (by subst e; exact hd)) hgt hb hi64 hv hb0
  rw [htk, hvc, zeros_of hz.wf] at hr
  have hcells : (E.vals old).toArray ++ (E.vals new).toArray ++ (E.vals (List.replicate (c - (len + new.length)) z)).toArray = (E.vals (old ++ new) ++ E.vals (List.replicate (c - (len + new.length)) z)).toArray := by
    rw [E.vals_append]; simp
  rw [hcells] at hr
  have hwr : E.wf (List.replicate (c - (len + new.length)) z) := fun x hx => by rw [(List.mem_replicate.1 hx).2]; exact hz.wf
  refine ⟨.at w.heap.size 0 (len + new.length) c, _, hr, hd.pushOwn k (Enc.wf_append how hnw) (by simp [hol]) hc ?_⟩
  rw [E.vals_len (Enc.wf_append how hnw), E.vals_len hwr, ← Nat.add_mul]
  simp only [List.length_append, List.length_replicate]
  exact Nat.mul_le_mul_right _ (by omega)

theorem run_append_growG {C : Ctx} {H : Heap} {w : World} {st xt ty e : TypeId} {bytes : Nat} {E : Enc} (ht : AppT C.P st xt e E.sz bytes) (hb0 : bytes ≠ 0) {x : SC} {new : List E.α} (hnw : E.wf new)
    (hsrc : Src C H x E.sz new.length (E.vals new)) {base : Option Addr} {len cap : Nat} {old : List E.α} (how : E.wf old) (hol : old.length = len)
    (ho : ∀ w, Rep C H w → (Builtin.firstCells E.sz len (.slice base len cap)).run C.P w = .ok (E.vals old).toArray w)
    (hgt : cap < len + new.length) (hb : (2 * (len + new.length) + 192) * bytes ≤ 281474976710656) (hi64 : len + new.length < 9223372036854775808) {z : E.α} (hz : ElemOk C.P e E z) (hw : Rep C H w) (k : Nat) :
    ∃ (y : SV) (w' : World), (Builtin.append_ #[st, xt] ty #[.slice base len cap, x.val]).run C.P w = .ok y.val w' ∧ Rep C ((k, y.blk, .grw e E y (old ++ new)) :: H) w' := by
  obtain ⟨v, hv, hvc⟩ := hz.zero
  have hd : Rep C H { w with drawn := w.drawn + 1 } := hw.drew _
  have htk : (E.vals new).take (new.length * E.sz) = E.vals new := List.take_of_length_le (by rw [E.vals_len hnw]; exact Nat.le_refl _)
  obtain ⟨c, hc, hr⟩ := run_append_new (ty := ty) ht (hsrc w hw).1 (fun w' e => (hsrc w' (by subst e; exact hd)).2 _ (Nat.le_refl _)) (fun w' e => ho w' (by subst e; exact hd)) hgt hb hi64 hv hb0
  rw [htk, hvc, zeros_of hz.wf] at hr
  have hcells : (E.vals old).toArray ++ (E.vals new).toArray ++ (E.vals (List.replicate (c - (len + new.length)) z)).toArray = (E.vals (old ++ new) ++ E.vals (List.replicate (c - (len + new.length)) z)).toArray := by
    rw [E.vals_append]; simp
  rw [hcells] at hr
  have hwr : E.wf (List.replicate (c - (len + new.length)) z) := fun x hx => by rw [(List.mem_replicate.1 hx).2]; exact hz.wf
  refine ⟨.at w.heap.size 0 (len + new.length) c, _, hr, hd.pushGrw k (Enc.wf_append how hnw) (by simp [hol]) hc ?_⟩
  rw [E.vals_len (Enc.wf_append how hnw), E.vals_len hwr, ← Nat.add_mul]
  simp only [List.length_append, List.length_replicate]
  exact Nat.mul_le_mul_right _ (by omega)

theorem mappend_ok {C : Ctx} {d : Nat} {T : Tm} {H : Heap} {st xt ty e : TypeId} {bytes : Nat} {s x : SC} {K : Tm → Heap → Prop} {a : Act} {w : World}
    (ht : ∀ sz, sizB C.P e = some sz → AppT C.P st xt e sz bytes) (hb0 : bytes ≠ 0) (h : mappend C.R C.N d T H e bytes s x K) (ha : Fits C T a) (hw : Rep C H w) :
    ∃ v w', (Builtin.append_ #[st, xt] ty #[s.val, x.val]).run C.P w = .ok v w' ∧ Holds C K (a.put (some d) v) w' := by
  unfold mappend at h
  split at h
  · obtain ⟨E, z, h, hz⟩ := elemK_ok h
    obtain ⟨new, h, hnw, hsrc⟩ := srcK_ok h hw.hwf
    obtain ⟨⟨hb1, hb2⟩, h⟩ := h
    have hat := ht _ hz.size
    have hfin : ∀ (y : SV) (w' : World), (Builtin.append_ #[st, xt] ty #[SC.nilsl.val, x.val]).run C.P w = .ok y.val w' → Rep C ((d, y.blk, .own e E y new) :: H) w' →
        ∃ v w', (Builtin.append_ #[st, xt] ty #[SC.nilsl.val, x.val]).run C.P w = .ok v w' ∧ Holds C K (a.put (some d) v) w' := by
      intro y w' hr hrep
      have h := h.go y
      split at h
      · rename_i hd
        exact ⟨_, w', hr, _, _, ha.put hd (one_wf (.lst d y)), hrep, h⟩
      · exact h.elim
    by_cases hn0 : new = []
    · subst hn0
      refine hfin .nil w (run_append_in (w' := w) hat ((hsrc C) w hw).1 (((hsrc C) w hw).2 _ (Nat.le_refl _)) (by simp) (by simp)) ?_
      exact hw.alloc d _ _ (fun c h => (h.1 rfl).elim) ⟨(by intro x hx; cases hx), rfl⟩ rfl rfl rfl (Nat.le_refl _) (fun _ _ => rfl)
    · have hpos : 0 < new.length := List.length_pos_iff.2 hn0
      obtain ⟨y, w', hr, hrep⟩ := run_append_grow (ty := ty) hat hb0 hnw (hsrc C) (base := none) (len := 0) (cap := 0) (old := []) (by intro x hx; cases hx) rfl (fun w _ => by simp [Builtin.firstCells, Enc.vals]) (by omega) (by simpa using hb1) (by simpa using hb2) hz hw d
      exact hfin y w' hr (by simpa using hrep)
  · rename_i k z
    split at h
    · rename_i b e' E z' L hg
      obtain ⟨⟨rfl, rfl⟩, h⟩ := h
      obtain ⟨E', z0, h, hz⟩ := elemK_ok h
      obtain ⟨new, h, hnw, hsrc⟩ := srcK_ok h hw.hwf
      obtain ⟨⟨rfl, ⟨hb1, hb2⟩, h⟩⟩ := h
      have hat := ht _ hz.size
      have hwL : E.wf L := hw.hwf _ _ _ hg
      have hcell := (LstIs.ofOwn (C := C) hg)
      have hfin : ∀ (y : SV) (w' : World), (Builtin.append_ #[st, xt] ty #[z.val, x.val]).run C.P w = .ok y.val w' → Rep C ((k, y.blk, .own e' E y (L ++ new)) :: hdel H k) w' →
          ∃ v w', (Builtin.append_ #[st, xt] ty #[(SC.lst k z).val, x.val]).run C.P w = .ok v w' ∧ Holds C K (a.put (some d) v) w' := by
        intro y w' hr hrep
        have h := h.go y
        split at h
        · rename_i hd
          exact ⟨_, w', hr, _, _, ha.put hd (one_wf (.lst k y)), hrep, h⟩
        · exact h.elim
      have hgrow : ∀ {base : Option Addr} {cap : Nat}, z.val = .slice base L.length cap → cap < L.length + new.length → (∀ w, Rep C H w → (Builtin.firstCells E.sz L.length (.slice base L.length cap)).run C.P w = .ok (E.vals L).toArray w) →
          ∃ v w', (Builtin.append_ #[st, xt] ty #[(SC.lst k z).val, x.val]).run C.P w = .ok v w' ∧ Holds C K (a.put (some d) v) w' := by
        intro base cap hz1 hgt hold
        obtain ⟨y, w', hr, hrep⟩ := run_append_grow (ty := ty) hat hb0 hnw (hsrc C) (base := base) (len := L.length) (cap := cap) (old := L) hwL rfl hold hgt hb1 hb2 hz hw k
        refine hfin y w' (by rw [hz1]; exact hr) (hrep.sub fun t u hu => ?_)
        rw [hget_cons] at hu ⊢
        split
        · rename_i e; rw [if_pos e] at hu; exact hu
        · rename_i e; rw [if_neg e, hget_del, if_neg e] at hu; exact hu
      have hI := (hw.is _ _ _ hg).2
      cases z with
      | nil =>
        have hI : L = [] := hI
        subst hI
        by_cases hn0 : new = []
        · subst hn0
          refine hfin .nil w (run_append_in (w' := w) hat ((hsrc C) w hw).1 (((hsrc C) w hw).2 _ (Nat.le_refl _)) (by simp) (by simp)) ?_
          exact (hw.del k).alloc k _ _ (fun c h => (h.1 rfl).elim) ⟨(by intro x hx; cases hx), rfl⟩ rfl rfl rfl (Nat.le_refl _) (fun _ _ => rfl)
        · have hpos : 0 < new.length := List.length_pos_iff.2 hn0
          exact hgrow (base := none) (cap := 0) rfl (by simpa using hpos) (fun w _ => by simp [Builtin.firstCells, Enc.vals])
      | «at» b' o len cap =>
        obtain ⟨rfl, rfl, pre, post, lo, hi', hh, hf, hp, hlc, hcap⟩ := hI
        have hLv := E.vals_len hwL
        have hNv := E.vals_len hnw
        have htk : (E.vals new).take (new.length * E.sz) = E.vals new := List.take_of_length_le (by rw [hNv]; exact Nat.le_refl _)
        by_cases hle : L.length + new.length ≤ cap
        · have hlt : L.length * E.sz + new.length * E.sz ≤ cap * E.sz := by rw [← Nat.add_mul]; exact Nat.mul_le_mul_right _ hle
          obtain ⟨w', hr, hb, e1, e2, e3, e4, e5⟩ := run_storeCells (P := C.P) (b := b') (o := o + L.length * E.sz) (E.vals new) 0 w (pre ++ E.vals L ++ post)
            (by intro v hv; obtain ⟨x, _, hv⟩ := List.mem_flatMap.1 hv; exact svals_one _ v hv) hh hf (by simp only [List.length_append]; omega)
          have hov : over (pre ++ E.vals L ++ post) (o + L.length * E.sz + 0) (E.vals new) = pre ++ E.vals (L ++ new) ++ post.drop (E.vals new).length := by
            have : o + L.length * E.sz + 0 = (pre ++ E.vals L).length := by simp only [List.length_append, hp, hLv]; omega
            rw [this, over_append _ _ _ (by omega), E.vals_append]; simp
          rw [hov] at hb
          have hlen2 : (pre ++ E.vals (L ++ new) ++ post.drop (E.vals new).length).length = (pre ++ E.vals L ++ post).length := by rw [← hov, over_length]
          have hown : (HB.own e' E (.at b' o (L.length + new.length) cap) (L ++ new)).Is w' b' :=
            ⟨Enc.wf_append hwL hnw, rfl, by simp, pre, post.drop (E.vals new).length, lo, hi', hb, by rw [hlen2]; exact hf, hp, hle, by rw [E.vals_append]; simp only [List.length_append, List.length_drop]; omega⟩
          have hw' := hw.write (hb' := .own e' E (.at b' o (L.length + new.length) cap) (L ++ new)) hg rfl (by intro h; cases h) hown e1 e2 e3 (by omega) (fun c _ hc => e5 c hc)
          refine hfin (.at b' o (L.length + new.length) cap) w' (run_append_in (w' := w') hat ((hsrc C) w hw).1 (((hsrc C) w hw).2 _ (Nat.le_refl _)) hle ?_) (hw'.sub fun t u hu => ?_)
          · rw [htk]
            simp only [add_addr]
            exact hr
          · rw [hget_cons] at hu ⊢
            split
            · rename_i e; rw [if_pos e] at hu; exact hu
            · rename_i e; rw [if_neg e, hget_del, if_neg e] at hu; exact hu
        · refine hgrow rfl (by omega) fun w hw => ?_
          simp only [Builtin.firstCells]
          exact run_loadCells hLv fun j v hv => hcell.cell w hw j v hv
    · rename_i b e' E z' L hg
      obtain ⟨⟨rfl, rfl⟩, h⟩ := h
      obtain ⟨E', z0, h, hz⟩ := elemK_ok h
      obtain ⟨new, h, hnw, hsrc⟩ := srcK_ok h hw.hwf
      obtain ⟨⟨rfl, ⟨hb1, hb2⟩, h⟩⟩ := h
      have hat := ht _ hz.size
      have hwL : E.wf L := hw.hwf _ _ _ hg
      have hcell := (LstIs.ofGrw (C := C) hg)
      have hfin : ∀ (y : SV) (w' : World), (Builtin.append_ #[st, xt] ty #[z.val, x.val]).run C.P w = .ok y.val w' → Rep C ((k, y.blk, .grw e' E y (L ++ new)) :: hdel H k) w' →
          ∃ v w', (Builtin.append_ #[st, xt] ty #[(SC.lst k z).val, x.val]).run C.P w = .ok v w' ∧ Holds C K (a.put (some d) v) w' := by
        intro y w' hr hrep
        have h := h.go y
        split at h
        · rename_i hd
          exact ⟨_, w', hr, _, _, ha.put hd (one_wf (.lst k y)), hrep, h⟩
        · exact h.elim
      have hgrow : ∀ {base : Option Addr} {cap : Nat}, z.val = .slice base L.length cap → cap < L.length + new.length → (∀ w, Rep C H w → (Builtin.firstCells E.sz L.length (.slice base L.length cap)).run C.P w = .ok (E.vals L).toArray w) →
          ∃ v w', (Builtin.append_ #[st, xt] ty #[(SC.lst k z).val, x.val]).run C.P w = .ok v w' ∧ Holds C K (a.put (some d) v) w' := by
        intro base cap hz1 hgt hold
        obtain ⟨y, w', hr, hrep⟩ := run_append_growG (ty := ty) hat hb0 hnw (hsrc C) (base := base) (len := L.length) (cap := cap) (old := L) hwL rfl hold hgt hb1 hb2 hz hw k
        refine hfin y w' (by rw [hz1]; exact hr) (hrep.sub fun t u hu => ?_)
        rw [hget_cons] at hu ⊢
        split
        · rename_i e; rw [if_pos e] at hu; exact hu
        · rename_i e; rw [if_neg e, hget_del, if_neg e] at hu; exact hu
      have hI := (hw.is _ _ _ hg).2
      cases z with
      | nil =>
        have hI : L = [] := hI
        subst hI
        by_cases hn0 : new = []
        · subst hn0
          refine hfin .nil w (run_append_in (w' := w) hat ((hsrc C) w hw).1 (((hsrc C) w hw).2 _ (Nat.le_refl _)) (by simp) (by simp)) ?_
          exact (hw.del k).alloc k _ _ (fun c h => (h.1 rfl).elim) ⟨(by intro x hx; cases hx), rfl⟩ rfl rfl rfl (Nat.le_refl _) (fun _ _ => rfl)
        · have hpos : 0 < new.length := List.length_pos_iff.2 hn0
          exact hgrow (base := none) (cap := 0) rfl (by simpa using hpos) (fun w _ => by simp [Builtin.firstCells, Enc.vals])
      | «at» b' o len cap =>
        obtain ⟨rfl, rfl, pre, post, lo, hi', hh, hf, hp, hlc, hcap⟩ := hI
        have hLv := E.vals_len hwL
        have hNv := E.vals_len hnw
        have htk : (E.vals new).take (new.length * E.sz) = E.vals new := List.take_of_length_le (by rw [hNv]; exact Nat.le_refl _)
        by_cases hle : L.length + new.length ≤ cap
        · have hlt : L.length * E.sz + new.length * E.sz ≤ cap * E.sz := by rw [← Nat.add_mul]; exact Nat.mul_le_mul_right _ hle
          obtain ⟨w', hr, hb, e1, e2, e3, e4, e5⟩ := run_storeCellsF (P := C.P) (b := b') (o := o + L.length * E.sz) (E.vals new) 0 w (pre ++ E.vals L ++ post)
            (by intro v hv; obtain ⟨x, _, hv⟩ := List.mem_flatMap.1 hv; exact svals_one _ v hv) hh (hf.elim (fun hf => .inl (by omega)) (fun hf => .inr (.inr (by simp only [List.length_append] at hf; omega)))) (by simp only [List.length_append]; omega)
          have hov : over (pre ++ E.vals L ++ post) (o + L.length * E.sz + 0) (E.vals new) = pre ++ E.vals (L ++ new) ++ post.drop (E.vals new).length := by
            have : o + L.length * E.sz + 0 = (pre ++ E.vals L).length := by simp only [List.length_append, hp, hLv]; omega
            rw [this, over_append _ _ _ (by omega), E.vals_append]; simp
          rw [hov] at hb
          have hlen2 : (pre ++ E.vals (L ++ new) ++ post.drop (E.vals new).length).length = (pre ++ E.vals L ++ post).length := by rw [← hov, over_length]
          have hown : (HB.grw e' E (.at b' o (L.length + new.length) cap) (L ++ new)).Is w' b' :=
            ⟨Enc.wf_append hwL hnw, rfl, by simp, pre, post.drop (E.vals new).length, lo, hi', hb, hf.imp id (fun hf => by rw [E.vals_append]; simp only [List.length_append] at hf ⊢; omega), hp, hle, by rw [E.vals_append]; simp only [List.length_append, List.length_drop]; omega⟩
          have hw' := hw.write (hb' := .grw e' E (.at b' o (L.length + new.length) cap) (L ++ new)) hg rfl (by intro h; cases h) hown e1 e2 e3 (by omega) (fun c _ hc => e5 c hc)
          refine hfin (.at b' o (L.length + new.length) cap) w' (run_append_in (w' := w') hat ((hsrc C) w hw).1 (((hsrc C) w hw).2 _ (Nat.le_refl _)) hle ?_) (hw'.sub fun t u hu => ?_)
          · rw [htk]
            simp only [add_addr]
            exact hr
          · rw [hget_cons] at hu ⊢
            split
            · rename_i e; rw [if_pos e] at hu; exact hu
            · rename_i e; rw [if_neg e, hget_del, if_neg e] at hu; exact hu
        · refine hgrow rfl (by omega) fun w hw => ?_
          simp only [Builtin.firstCells]
          exact run_loadCells hLv fun j v hv => hcell.cell w hw j v hv
    · exact h.elim
  · exact h.elim

/-! ### 'copy' -/
/-- Scalars put over others in an array. -/
def segOver : List Sg → Nat → Nat → (s : Sk) → List s.α → (List Sg → Prop) → Prop
  | [], _, _, _, _, _ => False
  | .c x :: l, b, i, s, g, K => (match b with | 0 => False | b + 1 => segOver l b i s g fun r => K (.c x :: r))
  | .arr s' m L :: l, b, i, s, g, K => (match b with
    | 0 => if h : s = s' then Chk (i + g.length ≤ m) (K (.arr s' m (L.take i ++ (h ▸ g) ++ L.drop (i + g.length)) :: l)) else False
    | b => (match Nat.ble m b with | true => segOver l (b - m) i s g fun r => K (.arr s' m L :: r) | false => False))
theorem segOver_ok : ∀ {l : List Sg} {b i : Nat} {s : Sk} {g : List s.α} {K : List Sg → Prop}, segOver l b i s g K → swf l → ∃ r, K r ∧ swf r ∧ scs r = putL (scs l) (b + i) (g.map s.enc) ∧ b + i + g.length ≤ slen l := by
  intro l
  induction l with
  | nil => intro b i s g K h; exact h.elim
  | cons x l ih =>
    intro b i s g K h hw
    cases x with
    | c x =>
      cases b with
      | zero => exact h.elim
      | succ b =>
        obtain ⟨r, hr, h1, h2, h3⟩ := ih h hw.2
        exact ⟨_, hr, ⟨trivial, h1⟩, by simp only [scs, Sg.cs, List.singleton_append, show b + 1 + i = (b + i) + 1 by omega, putL_cons, h2], by simp [slen, Sg.len]; omega⟩
    | arr s' m L =>
      have hL : L.length = m := hw.1
      unfold segOver at h
      split at h
      · split at h
        · rename_i e
          subst e
          obtain ⟨hi, h⟩ := h
          refine ⟨_, h, ⟨by simp [Sg.wf, hL]; omega, hw.2⟩, ?_, by simp [slen, Sg.len]; omega⟩
          simp only [scs, Sg.cs, Nat.zero_add, putL, List.map_append, List.map_take, List.map_drop, List.length_map]
          rw [List.take_append_of_le_length (by simp [hL]; omega), List.drop_append_of_le_length (by simp [hL]; omega)]
          simp
        · exact h.elim
      · split at h
        · rename_i hb
          have hb := Nat.le_of_ble_eq_true hb
          obtain ⟨r, hr, h1, h2, h3⟩ := ih h hw.2
          refine ⟨_, hr, ⟨hL, h1⟩, ?_, by simp [slen, Sg.len]; omega⟩
          simp only [scs, Sg.cs, h2]
          rw [putL_app _ _ _ _ (by simp [hL]; omega)]
          simp only [List.length_map, hL]
          congr 2; omega
        · exact h.elim

theorem sc_vals (s : Sk) (L : List s.α) : (Enc.sc s).vals L = (L.map s.enc).map SC.val := by
  induction L with
  | nil => rfl
  | cons x L ih =>
    show _ ++ (Enc.sc s).vals L = _
    rw [ih]; rfl
theorem sc_wf (s : Sk) (L : List s.α) : (Enc.sc s).wf L := fun x _ => ⟨trivial, trivial⟩
/-- The scalars of a slice. -/
def scIn (H : Heap) (s : Sk) (x : SC) (K : List s.α → Prop) : Prop :=
  match x with
  | .nilsl => K []
  | .str t => (match s, K with | .u8, K => K t | _, _ => False)
  | .lst k x => lstOf H k x fun _ L => Same L (.sc s) K
  | .part k x sz lo hi => lstOf H k x fun E' L => (match Nat.beq sz E'.sz with
    | true => Chk (lo ≤ hi ∧ hi ≤ L.length) (Same ((L.take hi).drop lo) (.sc s) K)
    | false => False)
  | .sl k b base o 1 len cap => (match hget H k with
    | some (b', .var _ l) => Chk (b = b') (segTakeEl l base o len fun r => match r with | [.arr s' _ L] => if h : s' = s then K (h ▸ L) else False | _ => False)
    | some (b', .ro l) => Chk (b = b') (segTakeEl l base o len fun r => match r with | [.arr s' _ L] => if h : s' = s then K (h ▸ L) else False | _ => False)
    | _ => False)
  | _ => False
theorem scIn_ok {H : Heap} {s : Sk} {x : SC} {K : List s.α → Prop} (h : scIn H s x K) (hw1 : HWf H) : ∃ L : List s.α, K L ∧ ∀ C, Src C H x 1 L.length ((L.map s.enc).map SC.val) := by
  unfold scIn at h
  split at h
  · exact ⟨[], h, fun C => Cells.src (fun w hw => ⟨by simp, .inl ⟨0, rfl, rfl⟩⟩)⟩
  · rename_i t
    split at h
    · rename_i K
      refine ⟨t, h, fun C w hw => ⟨by simp [SC.val, Builtin.lenOf, ByteArray.size], fun m hm => ?_⟩⟩
      simp only [SC.val, Builtin.firstCells, extract_str, Sem.run_pure, List.drop_zero]
      congr 1
      simp [List.map_take, Function.comp_def, SC.val, Sk.enc]
    · exact h.elim
  · rename_i k x
    obtain ⟨E', L, ⟨rfl, h⟩, hwL, hI⟩ := lstOf_ok h hw1
    refine ⟨L, h, fun C => ?_⟩
    rw [← sc_vals]
    exact (Cells.of (hI C) hwL).src
  · rename_i k x sz lo hi
    have h0 := h
    clear h
    obtain ⟨E', L, h, hwL, hI⟩ := lstOf_ok h0 hw1
    clear h0
    split at h
    · rename_i hb
      have hb := Nat.eq_of_beq_eq_true hb
      subst hb
      obtain ⟨⟨h1, h2⟩, ⟨rfl, h⟩⟩ := h
      refine ⟨_, h, fun C => ?_⟩
      have := Cells.ofPart (hI C) hwL h1 h2
      have e : ((L.take hi).drop lo).length = hi - lo := by simp; omega
      rw [← sc_vals]
      show Src C H _ _ ((L.take hi).drop lo).length ((Enc.sc s).vals ((L.take hi).drop lo))
      rw [e]
      exact this.src
    · exact h.elim
  · rename_i k b base o len cap
    have fin : ∀ {b' : Nat} {l : List Sg} {T : TypeId}, (hget H k = some (b', .var T l) ∨ hget H k = some (b', .ro l)) → b = b' → (segTakeEl l base o len fun r => match r with | [.arr s' _ L] => if h : s' = s then K (h ▸ L) else False | _ => False) → swf l →
        ∃ L : List s.α, K L ∧ ∀ C, Src C H (.sl k b base o 1 len cap) 1 L.length ((L.map s.enc).map SC.val) := by
      intro b' l T hg hb h hwl
      obtain ⟨r, hr, h1, h2, h3⟩ := segTakeEl_ok h hwl
      split at hr
      · rename_i s' n L
        split at hr
        · rename_i e
          subst e
          have hn : L.length = n := h1.1
          subst hn
          have h2 : L.length + 0 = len := h2
          rw [Nat.add_zero] at h2
          subst h2
          refine ⟨L, hr, fun C => ?_⟩
          have := Cells.ofSl (C := C) (cap := cap) (o := o) (sz := 1) (len := L.length) (base := base) (T := T) hg hb (r := [Sg.arr s' L.length L]) (by rw [h3, Nat.mul_one, Nat.mul_one]) (by rw [Nat.mul_one]; rfl) h1
          have e2 : svals [Sg.arr s' L.length L] = (L.map s'.enc).map SC.val := by
            have : scs [Sg.arr s' L.length L] = L.map s'.enc := List.append_nil _
            rw [svals, this]
          rw [e2] at this
          exact this.src
        · exact hr.elim
      · exact hr.elim
    split at h
    · rename_i b' T l hg
      exact fin (.inl hg) h.ok h.go (hw1 _ _ _ hg)
    · rename_i b' l hg
      exact fin (T := 0) (.inr hg) h.ok h.go (hw1 _ _ _ hg)
    · exact h.elim
  · exact h.elim

theorem map_putL {α β : Type} (f : α → β) (l : List α) (n : Nat) (g : List α) : (putL l n g).map f = putL (l.map f) n (g.map f) := by
  simp only [putL, List.map_append, List.map_take, List.map_drop, List.length_map]
def skOf (P : Program) (e : TypeId) : Option Sk :=
  match P.underlying e with
  | some (.int .u8) => some .u8
  | some (.int .u32) => some .u32
  | some (.int .u64) => some .u64
  | some (.int k) => some (.int k)
  | some .string => some .str
  | some .bool => some .bool
  | _ => none
def mcopy (H : Heap) (s : Sk) (dst x : SC) (K : Int → Heap → Prop) : Prop :=
  match dst with
  | .sl key b base o 1 len cap => (match hget H key with
    | some (b', .var T l) => Chk (b = b') (scIn H s x fun src => segOver l base o s (src.take len) fun r => K ((min src.length len : Nat) : Int) ((key, b, .var T r) :: H))
    | _ => False)
  | .lst k z => (match hget H k with
    | some (b, .own T E z' L) => Chk (z = z') (scIn H s x fun src => Same L (.sc s) fun L => K ((min src.length L.length : Nat) : Int) ((k, b, .own T (.sc s) z (src.take L.length ++ L.drop src.length)) :: H))
    | _ => False)
  | .part k z sz lo hi => (match hget H k with
    | some (b, .own T E z' L) => Chk (z = z' ∧ sz = 1 ∧ lo < hi ∧ hi ≤ L.length) (scIn H s x fun src => Same L (.sc s) fun L => K ((min src.length (hi - lo) : Nat) : Int) ((k, b, .own T (.sc s) z (putL L lo (src.take (hi - lo)))) :: H))
    | _ => False)
  | _ => False

theorem mcopy_ok {C : Ctx} {H : Heap} {dt xt ty e : TypeId} {s : Sk} {dst x : SC} {K : Int → Heap → Prop} {w : World} (hdt : C.P.underlying dt = some (.slice e)) (hsz : sizB C.P e = some 1)
    (h : mcopy H s dst x K) (hw : Rep C H w) :
    ∃ n w' H', (Builtin.copy_ #[dt, xt] ty #[dst.val, x.val]).run C.P w = .ok (.int .i64 n) w' ∧ Rep C H' w' ∧ K n H' := by
  have run : ∀ {base : Addr} {len cap n : Nat} {vs : List Value} {w' : World}, dst.val = .slice (some base) len cap → Src C H x 1 n vs → (storeCells base (vs.take (min n len)) 0).run C.P w = .ok () w' →
      (Builtin.copy_ #[dt, xt] ty #[dst.val, x.val]).run C.P w = .ok (.int .i64 (min n len : Nat)) w' := by
    intro base len cap n vs w' hd hsrc hs
    obtain ⟨hlen, hfirst⟩ := hsrc w hw
    have hf := hfirst (min n len) (Nat.min_le_left _ _)
    rw [Nat.mul_one] at hf
    have hnm : Nat.min n len = min n len := rfl
    rw [hd]
    simp only [Builtin.copy_, List.getElem?_toArray, List.getElem?_cons_zero, List.getElem?_cons_succ, Sem.run_bind, run_underlying hdt, Result.andThen_ok, sizB_run hsz, Sem.run_pure] at hlen hf ⊢
    simp only [hlen, Result.andThen_ok, hnm, hf, Nat.zero_add, Nat.mul_one]
    simp only [hs, Result.andThen_ok, goInt]
  unfold mcopy at h
  split at h
  · rename_i key b base o len cap
    split at h
    · rename_i b' T l hg
      obtain ⟨rfl, h⟩ := h
      obtain ⟨src, h, hsrc⟩ := scIn_ok h hw.hwf
      obtain ⟨lo, hi', hh, hfz, hwl⟩ := hw.is _ _ _ hg
      obtain ⟨r, hK, hr, hrs, hle⟩ := segOver_ok h hwl
      have hll := svals_len hwl
      have hvs : (((src.map s.enc).map SC.val).take (min src.length len)) = ((src.take len).map s.enc).map SC.val := by
        rw [List.map_take, List.map_take]
        rcases Nat.le_total src.length len with h1 | h1
        · rw [Nat.min_eq_left h1, List.take_of_length_le (by simp), List.take_of_length_le (by simpa using h1)]
        · rw [Nat.min_eq_right h1]
      obtain ⟨w', hrun, hb, e1, e2, e3, e4, e5⟩ := run_storeCells (P := C.P) (b := b) (o := base + o) (((src.take len).map s.enc).map SC.val) 0 w (svals l)
        (by intro v hv; simp only [List.mem_map] at hv; obtain ⟨c, _, rfl⟩ := hv; exact c.oneCell) hh hfz (by simp only [List.length_map, hll]; omega)
      have hov : over (svals l) (base + o + 0) (((src.take len).map s.enc).map SC.val) = svals r := by
        rw [Nat.add_zero, over_put _ _ _ (by simp only [List.length_map, hll]; omega)]
        rw [svals, svals, hrs, map_putL]
      rw [hov] at hb
      have hlr : (svals r).length = (svals l).length := by rw [← hov, over_length]
      refine ⟨_, w', _, run (base := ⟨b, base + o, none⟩) (len := len) (cap := cap) (by simp [SC.val]) (hsrc C) (by rw [hvs]; exact hrun), hw.write (hb' := .var T r) hg rfl trivial ⟨lo, hi', hb, by rw [hlr]; exact hfz, hr⟩ e1 e2 e3 (by omega) (fun c _ hc => e5 c hc), hK⟩
    · exact h.elim
  · rename_i k z
    split at h
    · rename_i b T E z' L hg
      obtain ⟨rfl, h⟩ := h
      obtain ⟨src, h, hsrc⟩ := scIn_ok h hw.hwf
      obtain ⟨rfl, h⟩ := h
      have hI := (hw.is _ _ _ hg).2
      cases z with
      | nil =>
        have hI : L = [] := hI
        subst hI
        refine ⟨_, w, _, ?_, hw.sub (H' := (k, b, .own T (.sc s) .nil (src.take 0 ++ List.drop src.length []))  :: H) (fun t u hu => ?_), h⟩
        · obtain ⟨hlen, hfirst⟩ := (hsrc C) w hw
          have hf := hfirst 0 (Nat.zero_le _)
          have hnm : Nat.min src.length 0 = 0 := Nat.min_zero _
          simp only [Builtin.copy_, List.getElem?_toArray, List.getElem?_cons_zero, List.getElem?_cons_succ, Sem.run_bind, run_underlying hdt, Result.andThen_ok, sizB_run hsz, Sem.run_pure, SC.val, SV.val] at hlen hf ⊢
          simp only [hlen, Result.andThen_ok, hnm, hf]
          simp [goInt]
        · rw [hget_cons] at hu
          split at hu
          · rename_i e; subst e; cases hu; rw [hg]; simp
          · exact hu
      | «at» b' o len cap =>
        obtain ⟨rfl, rfl, pre, post, lo, hi', hh, hf, hp, hlc, hcap⟩ := hI
        have hvl : (Enc.sc s).vals L = (L.map s.enc).map SC.val := sc_vals s L
        have hnl : (Enc.sc s).vals (src.take L.length ++ L.drop src.length) = ((src.take L.length).map s.enc).map SC.val ++ ((L.drop src.length).map s.enc).map SC.val := by rw [sc_vals]; simp
        have hvs : (((src.map s.enc).map SC.val).take (min src.length L.length)) = ((src.take L.length).map s.enc).map SC.val := by
          rw [List.map_take, List.map_take]
          rcases Nat.le_total src.length L.length with h1 | h1
          · rw [Nat.min_eq_left h1, List.take_of_length_le (by simp), List.take_of_length_le (by simpa using h1)]
          · rw [Nat.min_eq_right h1]
        have htl : (src.take L.length).length = min L.length src.length := List.length_take
        obtain ⟨w', hrun, hb, e1, e2, e3, e4, e5⟩ := run_storeCells (P := C.P) (b := b') (o := o) (((src.take L.length).map s.enc).map SC.val) 0 w (pre ++ (Enc.sc s).vals L ++ post)
          (by intro v hv; simp only [List.mem_map] at hv; obtain ⟨c, _, rfl⟩ := hv; exact c.oneCell) hh hf (by simp only [List.length_append, List.length_map, htl, hvl]; omega)
        have hov : over (pre ++ (Enc.sc s).vals L ++ post) (o + 0) (((src.take L.length).map s.enc).map SC.val) = pre ++ (Enc.sc s).vals (src.take L.length ++ L.drop src.length) ++ post := by
          rw [← hp, over_mid _ _ _ _ _ (by simp only [List.length_map, htl, hvl]; omega), over_put _ _ _ (by simp only [List.length_map, htl, hvl]; omega), hnl, putL, hvl]
          simp only [List.take_zero, List.nil_append, List.length_map, htl, Nat.zero_add]
          congr 3
          rw [← List.map_drop, ← List.map_drop]
          congr 2
          rcases Nat.le_total src.length L.length with h1 | h1
          · rw [Nat.min_eq_right h1]
          · rw [Nat.min_eq_left h1, List.drop_of_length_le (Nat.le_refl _), List.drop_of_length_le h1]
        rw [hov] at hb
        have hlr := congrArg List.length hov
        rw [over_length] at hlr
        have hll : (src.take L.length ++ L.drop src.length).length = L.length := by simp only [List.length_append, htl, List.length_drop]; omega
        have hown : (HB.own T (.sc s) (.at b' o L.length cap) (src.take L.length ++ L.drop src.length)).Is w' b' :=
          ⟨sc_wf s _, rfl, hll.symm, pre, post, lo, hi', hb, by rw [← hlr]; exact hf, hp, hlc, by simp only [hnl, List.length_append, List.length_map, htl, List.length_drop] at *; rw [hvl] at hcap; simp only [List.length_map] at hcap; omega⟩
        exact ⟨_, w', _, run (base := ⟨b', o, none⟩) rfl (hsrc C) (by rw [hvs]; exact hrun), hw.write (hb' := .own T (.sc s) (.at b' o L.length cap) (src.take L.length ++ L.drop src.length)) hg rfl (by intro h; cases h) hown e1 e2 e3 (by omega) (fun c _ hc => e5 c hc), h⟩
    · exact h.elim
  · rename_i k z sz lo hi
    split at h
    · rename_i b T E z' L hg
      obtain ⟨⟨rfl, rfl, hlo, hhi⟩, h⟩ := h
      obtain ⟨src, h, hsrc⟩ := scIn_ok h hw.hwf
      obtain ⟨rfl, h⟩ := h
      have hI := (hw.is _ _ _ hg).2
      cases z with
      | nil =>
        have hI : L = [] := hI
        subst hI
        simp at hhi; omega
      | «at» b' o len cap =>
        obtain ⟨rfl, rfl, pre, post, fl, fh, hh, hf, hp, hlc, hcap⟩ := hI
        have hcl : ¬ cap = lo := by omega
        have hvl : (Enc.sc s).vals L = (L.map s.enc).map SC.val := sc_vals s L
        have htl : (src.take (hi - lo)).length = min (hi - lo) src.length := List.length_take
        have hvs : (((src.map s.enc).map SC.val).take (min src.length (hi - lo))) = ((src.take (hi - lo)).map s.enc).map SC.val := by
          rw [List.map_take, List.map_take]
          rcases Nat.le_total src.length (hi - lo) with h1 | h1
          · rw [Nat.min_eq_left h1, List.take_of_length_le (by simp), List.take_of_length_le (by simpa using h1)]
          · rw [Nat.min_eq_right h1]
        obtain ⟨w', hrun, hb, e1, e2, e3, e4, e5⟩ := run_storeCells (P := C.P) (b := b') (o := o + lo * 1) (((src.take (hi - lo)).map s.enc).map SC.val) 0 w (pre ++ (Enc.sc s).vals L ++ post)
          (by intro v hv; simp only [List.mem_map] at hv; obtain ⟨c, _, rfl⟩ := hv; exact c.oneCell) hh hf (by simp only [List.length_append, List.length_map, htl, hvl]; omega)
        have hnl : (Enc.sc s).vals (putL L lo (src.take (hi - lo))) = putL ((Enc.sc s).vals L) lo (((src.take (hi - lo)).map s.enc).map SC.val) := by
          rw [sc_vals, hvl]; simp [putL]
        have hov : over (pre ++ (Enc.sc s).vals L ++ post) (o + lo * 1 + 0) (((src.take (hi - lo)).map s.enc).map SC.val) = pre ++ (Enc.sc s).vals (putL L lo (src.take (hi - lo))) ++ post := by
          rw [← hp, Nat.add_zero, Nat.mul_one, over_mid _ _ _ _ _ (by simp only [List.length_map, htl, hvl]; omega), over_put _ _ _ (by simp only [List.length_map, htl, hvl]; omega), hnl]
        rw [hov] at hb
        have hlr := congrArg List.length hov
        rw [over_length] at hlr
        have hll : (putL L lo (src.take (hi - lo))).length = L.length := by simp only [putL, List.length_append, List.length_take, List.length_drop]; omega
        have hlv : ((Enc.sc s).vals (putL L lo (src.take (hi - lo)))).length = ((Enc.sc s).vals L).length := by rw [sc_vals, hvl]; simp [hll]
        have hown : (HB.own T (.sc s) (.at b' o L.length cap) (putL L lo (src.take (hi - lo)))).Is w' b' :=
          ⟨sc_wf s _, rfl, hll.symm, pre, post, fl, fh, hb, by rw [← hlr]; exact hf, hp, hlc, by rw [hlv]; exact hcap⟩
        exact ⟨_, w', _, run (base := ⟨b', o + lo * 1, none⟩) (len := hi - lo) (cap := cap - lo) (by simp [SC.val, SV.sub, SV.val, hcl]) (hsrc C) (by rw [hvs]; exact hrun), hw.write (hb' := .own T (.sc s) (.at b' o L.length cap) (putL L lo (src.take (hi - lo)))) hg rfl (by intro h; cases h) hown e1 e2 e3 (by omega) (fun c _ hc => e5 c hc), h⟩
    · exact h.elim
  · exact h.elim
end Go.SY
