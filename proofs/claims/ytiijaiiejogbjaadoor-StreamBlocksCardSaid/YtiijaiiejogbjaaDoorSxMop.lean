/- Operations that write or make memory. -/
import Derived.Test.YtiijaiiejogbjaaDoorSxQop
set_option linter.unusedSimpArgs false
set_option linter.unusedVariables false
namespace Go.SX

def Holds (C : Ctx) (K : Tm → Heap → Prop) (a : Act) (w : World) : Prop := ∃ T H, Fits C T a ∧ Rep C H w ∧ K T H

structure New (K : Nat → Prop) : Prop where
  go : ∀ b, K b

/-- A value is stored in its slot. -/
def putK (N : Nat) (dst : Option Nat) (v : TV) (T : Tm) (H : Heap) (K : Tm → Heap → Prop) : Prop :=
  match dst with
  | some d => (match Nat.blt d N with | true => K ((d, v) :: T) H | false => False)
  | none => K T H
theorem putK_ok {C : Ctx} {dst : Option Nat} {v : TV} {T : Tm} {H : Heap} {K : Tm → Heap → Prop} {a : Act} {w : World} (h : putK C.N dst v T H K) (ha : Fits C T a) (hw : Rep C H w) :
    Holds C K (a.put dst v.val) w := by
  unfold putK at h
  split at h
  · rename_i d
    split at h
    · rename_i hd; exact ⟨_, _, ha.put hd v, hw, h⟩
    · exact h.elim
  · exact ⟨_, _, ha, hw, h⟩

def allZ (k : IntKind) : List SC → Bool
  | [] => true
  | .int k' n :: l => (match n with
    | .ofNat 0 => (match decide (k' = k) with | true => allZ k l | false => false)
    | _ => false)
  | _ => false
theorem allZ_ok {k : IntKind} : ∀ {l : List SC}, allZ k l = true → l = (List.replicate l.length 0).map (SC.int k) := by
  intro l
  induction l with
  | nil => intro _; rfl
  | cons c l ih =>
    intro h
    cases c <;> simp only [allZ] at h <;> try (cases h; done)
    rename_i k' n
    split at h
    · split at h
      · rename_i e1
        have := of_decide_eq_true e1
        subst this
        simp only [List.length_cons, List.replicate_succ, List.map_cons]
        rw [← ih h]
        rfl
      · cases h
    · cases h

/-- A type's zero value, as what a block holds. -/
def zeroCT (P : Program) (t : TypeId) (K : CT → Prop) : Prop :=
  match zeroB P t with
  | some z => (match P.underlying t with
    | some (.array n e) => (match P.underlying e with
      | some (.int k) => (match allZ k z, Nat.beq (llen z) n with
        | true, true => K (.ints k (List.replicate n 0))
        | _, _ => K (.cells z))
      | _ => K (.cells z))
    | _ => K (.cells z))
  | none => False
theorem zeroCT_ok {P : Program} {t : TypeId} {K : CT → Prop} (h : zeroCT P t K) : ∃ c, K c ∧ c.wf ∧ ∀ w, ∃ v, (zeroValue t).run P w = .ok v w ∧ v.cells = c.vals.toArray := by
  unfold zeroCT at h
  split at h
  · rename_i z hz
    have hc : K (.cells z) → ∃ c, K c ∧ c.wf ∧ ∀ w, ∃ v, (zeroValue t).run P w = .ok v w ∧ v.cells = c.vals.toArray :=
      fun h => ⟨_, h, trivial, fun w => zeroB_ok hz w⟩
    split at h
    · rename_i n e hu
      split at h
      · rename_i k hk
        split at h
        · rename_i h1 h2
          have h2 := Nat.eq_of_beq_eq_true h2
          rw [llen_eq] at h2
          refine ⟨_, h, trivial, fun w => ?_⟩
          obtain ⟨v, hv, he⟩ := zeroB_ok hz w
          refine ⟨v, hv, ?_⟩
          rw [he, allZ_ok h1, h2]
          simp [CT.vals, SC.val]
        · exact hc h
      · exact hc h
    · exact hc h
  · exact h.elim

def BV.ct : BV → CT
  | .one c => .cells [c]
  | .agg l => .cells l
  | .seq k l => .ints k l
theorem BV.ct_vals (x : BV) : x.ct.vals = x.cells := by cases x <;> rfl
theorem BV.ct_wf (x : BV) : x.ct.wf := by cases x <;> trivial

theorem full_new {w : World} {T : TypeId} {c : CT} (hwf : c.wf) : (HB.full T c).Is (w.alloc (.cells c.vals.toArray T)) w.heap.size :=
  ⟨0, 0, heap_alloc_new _ _, .inl (Nat.le_refl _), hwf⟩

theorem Rep.push {C : Ctx} {H : Heap} {w : World} (h : Rep C H w) (k : Nat) {T : TypeId} {c : CT} (hwf : c.wf) :
    Rep C ((k, w.heap.size, .full T c) :: H) (w.alloc (.cells c.vals.toArray T)) :=
  h.alloc k _ (full_new hwf) rfl rfl rfl (by simp) (fun b hb => heap_alloc_old _ _ hb)

/-! ### A store -/
def mstore (P : Program) (T : Tm) (H : Heap) (t : TypeId) (x : SC) (v : BV) (K : Heap → Prop) : Prop :=
  match x, sizB P t with
  | .ptr ⟨key, b, off⟩, some n => (match hget H key with
    | some (b', .full E c) => Chk (b = b' ∧ v.cells.length = n) (c.put off v fun c' => K ((key, b, .full E c') :: H))
    | _ => False)
  | _, _ => False
theorem mstore_ok {C : Ctx} {T : Tm} {H : Heap} {t : TypeId} {x : SC} {v : BV} {K : Heap → Prop} {w : World} (h : mstore C.P T H t x v K) (hw : Rep C H w) :
    ∃ w' H', (Instr.storeAt t x.val v.val).run C.P w = .ok () w' ∧ Rep C H' w' ∧ K H' := by
  unfold mstore at h
  split at h
  · rename_i key b off n hn
    split at h
    · rename_i b' E c hg
      obtain ⟨⟨rfl, hl⟩, h⟩ := h
      obtain ⟨lo, hi, hh, hf, hwf⟩ := hw.is _ _ _ hg
      obtain ⟨c', hK, hwf', hv, hle⟩ := CT.put_ok h hwf
      have hcs : v.val.cells.toList = v.cells := BV.val_cells v
      have hsz : v.val.cells.size = v.cells.length := by rw [← hcs]; simp
      obtain ⟨w', hr, hb, e1, e2, e3, e4, e5⟩ := run_storeVar (P := C.P) (t := t) (b := b) (o := off.val) (v := v.val) (by rw [hn, hsz, hl]) (BV.cells_one v) hh hf (by rw [hsz]; exact hle)
      rw [hcs, ← hv] at hb
      refine ⟨w', _, ?_, hw.write (hb' := .full E c') hg rfl ⟨lo, hi, hb, ?_, hwf'⟩ e1 e2 e3 (by omega) (fun c _ hc => e5 c hc), hK⟩
      · simp only [Instr.storeAt, Instr.sureAddr, SC.val, Pt.value, Pt.addr, Sem.run_bind, Sem.run_pure, Result.andThen_ok, hr]
      · rw [hv, over_length]; exact hf
    · exact h.elim
  · exact h.elim

/-! ### Rows that grow -/
def growCap (need cap : Nat) : Nat := Builtin.nextslicecap need cap
theorem growBy_le (n : Nat) : ∀ (r c : Nat), c ≤ n + (n + 768) / 4 → Builtin.growBy n r c ≤ n + (n + 768) / 4 := by
  intro r
  induction r with
  | zero => intro c h; simpa [Builtin.growBy] using h
  | succ r ih =>
    intro c h
    unfold Builtin.growBy
    split
    · exact h
    · exact ih _ (by omega)
theorem growCap_le {need cap : Nat} (h : cap < need) : Builtin.nextslicecap need cap ≤ 2 * need + 192 := by
  unfold Builtin.nextslicecap
  split
  · omega
  · split
    · omega
    · have := growBy_le need 4 cap (by omega)
      omega

def hdel : Heap → Nat → Heap
  | [], _ => []
  | (k, b, hb) :: r, t => match Nat.beq k t with | true => hdel r t | false => (k, b, hb) :: hdel r t
theorem hget_del (H : Heap) (k t : Nat) : hget (hdel H k) t = if k = t then none else hget H t := by
  induction H with
  | nil => simp [hdel, hget]
  | cons e H ih =>
    obtain ⟨k', b, hb⟩ := e
    by_cases h : k' = k
    · subst h
      simp only [hdel, Nat.beq_refl, ih, hget_cons]
      by_cases h2 : k' = t <;> simp [h2]
    · have : Nat.beq k' k = false := by
        cases hh : Nat.beq k' k with
        | false => rfl
        | true => exact absurd (Nat.eq_of_beq_eq_true hh) h
      simp only [hdel, this, hget_cons, ih]
      by_cases h2 : k = t
      · subst h2; simp [h]
      · simp [h2]
theorem Rep.del {C : Ctx} {H : Heap} {w : World} (h : Rep C H w) (k : Nat) : Rep C (hdel H k) w := by
  refine ⟨fun t b x ht => ?_, fun t t' b b' x x' ht ht' hne hr => ?_, fun t b x ht hr => ?_, h.frm⟩
  · rw [hget_del] at ht; split at ht; · cases ht
    · exact h.is t b x ht
  · rw [hget_del] at ht ht'; split at ht; · cases ht
    · split at ht'; · cases ht'
      · exact h.apart t t' b b' x x' ht ht' hne hr
  · rw [hget_del] at ht; split at ht; · cases ht
    · exact h.own t b x ht hr

/-- A known block that may be written goes to another key. -/
theorem Rep.rekey {C : Ctx} {H : Heap} {w : World} {k b d : Nat} {hb : HB} (h : Rep C H w) (hk : hget H k = some (b, hb)) (hr : hb.isRw = true) : Rep C ((d, b, hb) :: hdel H k) w := by
  have h' := h.del k
  refine ⟨fun t c x ht => ?_, fun t t' c c' x x' ht ht' hne hrw => ?_, fun t c x ht hrw => ?_, h.frm⟩
  · rw [hget_cons] at ht; split at ht
    · cases ht; exact h.is _ _ _ hk
    · exact h'.is _ _ _ ht
  · rw [hget_cons] at ht ht'
    split at ht <;> split at ht'
    · omega
    · cases ht
      rw [hget_del] at ht'; split at ht'; · cases ht'
      · rename_i hn; exact h.apart k t' _ c' _ x' hk ht' hn hr
    · cases ht'
      rw [hget_del] at ht; split at ht; · cases ht
      · rename_i hn; exact (h.apart k t _ c _ x hk ht hn hr).symm
    · exact h'.apart t t' c c' x x' ht ht' hne hrw
  · rw [hget_cons] at ht; split at ht
    · cases ht; exact h.own _ _ _ hk hr
    · exact h'.own _ _ _ ht hrw

/-- What an append puts behind: numbers. -/
def srcInts (P : Program) (H : Heap) (k : IntKind) (x : SC) (K : List Int → Prop) : Prop :=
  match x with
  | .nilsl => K []
  | .str s => (match k with | .u8 => K (numsOf s) | _ => False)
  | .sl key b base o 1 len cap => (match hget H key with
    | some (b', .full _ (.ints k' l)) => Chk (b = b' ∧ base = 0 ∧ k' = k ∧ o + len ≤ l.length) (K ((l.drop o).take len))
    | some (b', .seg base' (.ints k' l)) => Chk (b = b' ∧ base = base' ∧ k' = k ∧ o + len ≤ l.length) (K ((l.drop o).take len))
    | _ => False)
  | _ => False

theorem cellsInts {w : World} {b base : Nat} {k : IntKind} {l : List Int} {o n : Nat} (hl : o + n ≤ l.length)
    (hc : ∀ j, j < l.length → w.cell? ⟨b, base + j, none⟩ = some (.int k (l.getD j 0))) :
    ∀ m, m ≤ n → ∀ j v, (((l.drop o).take m).map (Value.int k))[j]? = some v → w.cell? ⟨b, base + o + j, none⟩ = some v := by
  intro m hm j v hv
  have hj : j < m := by have := (List.getElem?_eq_some_iff.1 hv).1; simp at this; omega
  rw [show base + o + j = base + (o + j) by omega, hc (o + j) (by omega), ← hv]
  have h1 : o + j < l.length := by omega
  simp [List.getElem?_take, hj, h1]

def Src (C : Ctx) (H : Heap) (x : SC) (size n : Nat) (vs : Nat → List Value) : Prop :=
  ∀ w, Rep C H w → (Builtin.lenOf x.val).run C.P w = .ok n w ∧ ∀ m, m ≤ n → (Builtin.firstCells size m x.val).run C.P w = .ok (vs m).toArray w

theorem srcInts_ok {C : Ctx} {H : Heap} {k : IntKind} {x : SC} {K : List Int → Prop} (h : srcInts C.P H k x K) :
    ∃ l, K l ∧ Src C H x 1 l.length fun m => (l.take m).map (Value.int k) := by
  unfold srcInts at h
  split at h
  · exact ⟨[], h, fun w hw => ⟨by simp [SC.val, Builtin.lenOf], fun m hm => by simp [SC.val, Builtin.firstCells]⟩⟩
  · rename_i s
    split at h
    · refine ⟨_, h, fun w hw => ⟨by simp [SC.val, Builtin.lenOf, numsOf, ByteArray.size], fun m hm => ?_⟩⟩
      simp only [SC.val, Builtin.firstCells, extract_str, Sem.run_pure, List.drop_zero]
      congr 1
      simp [numsOf, List.map_take, Function.comp_def]
    · exact h.elim
  · rename_i key b base o len cap
    have fin : ∀ (l : List Int), o + len ≤ l.length → (∀ w, Rep C H w → ∀ j, j < l.length → w.cell? ⟨b, base + j, none⟩ = some (.int k (l.getD j 0))) → K ((l.drop o).take len) →
        ∃ l, K l ∧ Src C H (SC.sl key b base o 1 len cap) 1 l.length fun m => (l.take m).map (Value.int k) := by
      intro l hl hc h
      have hlen : ((l.drop o).take len).length = len := by simp; omega
      refine ⟨_, h, fun w hw => ⟨by simp only [SC.val, Builtin.lenOf, Sem.run_pure, hlen], fun m hm => ?_⟩⟩
      rw [hlen] at hm
      simp only [SC.val, Builtin.firstCells, Nat.mul_one]
      have e : ((l.drop o).take len).take m = (l.drop o).take m := by rw [List.take_take, Nat.min_eq_left hm]
      rw [e]
      exact run_loadCells (by simp; omega) (cellsInts (n := len) hl (hc w hw) m hm)
    split at h
    · rename_i b' T k' l hg
      obtain ⟨⟨rfl, rfl, rfl, hl⟩, h⟩ := h
      exact fin l hl (fun w hw j hj => by simpa using full_cell (hw.is _ _ _ hg) (ints_at hj)) h
    · rename_i b' base' k' l hg
      obtain ⟨⟨rfl, rfl, rfl, hl⟩, h⟩ := h
      exact fin l hl (fun w hw j hj => by simpa using (hw.is _ _ _ hg).2.1 _ _ (ints_at hj)) h
    · exact h.elim
  · exact h.elim

structure Exi {α : Type} (p : α → Prop) : Prop where
  ex : ∃ x, p x

/-- 'append' onto a row of numbers that is the call's own, or nil. -/
def mappendI (P : Program) (N d : Nat) (T : Tm) (H : Heap) (e : TypeId) (k : IntKind) (bytes : Nat) (s x : SC) (K : Tm → Heap → Prop) : Prop :=
  match s with
  | .nilsl => srcInts P H k x fun new => Chk ((2 * new.length + 192) * bytes ≤ 281474976710656 ∧ new.length < 9223372036854775808) (match new with
    | [] => (match Nat.blt d N with | true => K ((d, .b (.one .nilsl)) :: T) H | false => False)
    | _ => New fun b => ∀ post : List Int, (match Nat.blt d N with
      | true => K ((d, .b (.one (.sl d b 0 0 1 new.length (new.length + post.length)))) :: T) ((d, b, .full e (.ints k (new ++ post))) :: H)
      | false => False))
  | .sl key b 0 0 1 len cap => (match hget H key with
    | some (b', .full e' (.ints k' L)) => Exi fun (p : List Int × List Int) => b = b' ∧ e' = e ∧ k' = k ∧ L = p.1 ++ p.2 ∧ p.1.length = len ∧ cap = L.length ∧ srcInts P H k x fun new =>
      Chk ((2 * (len + new.length) + 192) * bytes ≤ 281474976710656 ∧ len + new.length < 9223372036854775808) (New fun b => ∀ post : List Int, (match Nat.blt d N with
        | true => K ((d, .b (.one (.sl d b 0 0 1 (len + new.length) (len + new.length + post.length)))) :: T) ((d, b, .full e (.ints k (p.1 ++ new ++ post))) :: hdel H key)
        | false => False))
    | _ => False)
  | _ => False

/-- What an append puts behind: rows of cells. -/
def srcRows (P : Program) (H : Heap) (sz : Nat) (x : SC) (K : List (List SC) → Prop) : Prop :=
  match x with
  | .nilsl => K []
  | .sl key b base o sz' len cap => (match hget H key with
    | some (b', .full _ (.rows s l)) => Chk (b = b' ∧ base = 0 ∧ s = sz ∧ sz' = sz ∧ o + len ≤ l.length) (K ((l.drop o).take len))
    | some (b', .seg base' (.rows s l)) => Chk (b = b' ∧ base = base' ∧ s = sz ∧ sz' = sz ∧ o + len ≤ l.length) (K ((l.drop o).take len))
    | _ => False)
  | _ => False

theorem flat_sub (sz : Nat) (l : List (List SC)) (hl : ∀ r ∈ l, r.length = sz) (o m : Nat) :
    ((l.flatMap fun r => r.map SC.val).drop (o * sz)).take (m * sz) = ((l.drop o).take m).flatMap fun r => r.map SC.val := by
  have dropf : ∀ (l : List (List SC)) (hl : ∀ r ∈ l, r.length = sz) (o : Nat), (l.flatMap fun r => r.map SC.val).drop (o * sz) = (l.drop o).flatMap fun r => r.map SC.val := by
    intro l
    induction l with
    | nil => intro _ o; simp
    | cons r l ih =>
      intro hl o
      cases o with
      | zero => simp
      | succ o =>
        have hr : r.length = sz := hl r (by simp)
        rw [List.flatMap_cons, List.drop_succ_cons, ← ih (fun r' h => hl r' (by simp [h])) o, List.drop_append]
        rw [List.drop_of_length_le (by simp [hr, Nat.succ_mul])]
        simp [hr, Nat.succ_mul]
  have takef : ∀ (l : List (List SC)) (hl : ∀ r ∈ l, r.length = sz) (m : Nat), (l.flatMap fun r => r.map SC.val).take (m * sz) = (l.take m).flatMap fun r => r.map SC.val := by
    intro l
    induction l with
    | nil => intro _ o; simp
    | cons r l ih =>
      intro hl m
      cases m with
      | zero => simp
      | succ m =>
        have hr : r.length = sz := hl r (by simp)
        rw [List.flatMap_cons, List.take_succ_cons, List.flatMap_cons, ← ih (fun r' h => hl r' (by simp [h])) m, List.take_append]
        rw [List.take_of_length_le (by simp [hr, Nat.succ_mul])]
        simp [hr, Nat.succ_mul]
  rw [dropf l hl o, takef _ (fun r h => hl r (List.mem_of_mem_drop h)) m]

theorem srcRows_ok {C : Ctx} {H : Heap} {sz : Nat} {x : SC} {K : List (List SC) → Prop} (h : srcRows C.P H sz x K) {w1 : World} (hw1 : Rep C H w1) :
    ∃ l, K l ∧ (∀ r ∈ l, r.length = sz) ∧ Src C H x sz l.length fun m => (l.take m).flatMap fun r => r.map SC.val := by
  unfold srcRows at h
  split at h
  · exact ⟨[], h, by simp, fun w hw => ⟨by simp [SC.val, Builtin.lenOf], fun m hm => by simp [SC.val, Builtin.firstCells]⟩⟩
  · rename_i key b base o sz' len cap
    have fin : ∀ (l : List (List SC)), sz' = sz → (∀ r ∈ l, r.length = sz) → o + len ≤ l.length →
        (∀ w, Rep C H w → ∀ j v, (l.flatMap fun r => r.map SC.val)[j]? = some v → w.cell? ⟨b, base + j, none⟩ = some v) → K ((l.drop o).take len) →
        ∃ l, K l ∧ (∀ r ∈ l, r.length = sz) ∧ Src C H (SC.sl key b base o sz' len cap) sz l.length fun m => (l.take m).flatMap fun r => r.map SC.val := by
      intro l hsz hwf hl hc hKK
      subst hsz
      have hlen : ((l.drop o).take len).length = len := by simp; omega
      refine ⟨_, hKK, fun r hr => hwf r (List.mem_of_mem_drop (List.mem_of_mem_take hr)), fun w hw => ⟨by simp only [SC.val, Builtin.lenOf, Sem.run_pure, hlen], fun m hm => ?_⟩⟩
      rw [hlen] at hm
      simp only [SC.val, Builtin.firstCells]
      have e : ((l.drop o).take len).take m = (l.drop o).take m := by rw [List.take_take, Nat.min_eq_left hm]
      rw [e, ← flat_sub sz' l hwf o m]
      have hll := flat_length sz' l hwf
      have hb : o * sz' + m * sz' ≤ l.length * sz' := by rw [← Nat.add_mul]; exact Nat.mul_le_mul_right _ (by omega)
      refine run_loadCells (by simp [hll]; omega) fun j v hv => ?_
      have hj : j < m * sz' := by have := (List.getElem?_eq_some_iff.1 hv).1; simp at this; omega
      rw [Nat.add_assoc]
      refine hc w hw _ _ ?_
      rw [← hv]
      simp [List.getElem?_take, hj]
    split at h
    · rename_i b' T s l hg
      obtain ⟨⟨rfl, rfl, rfl, hsz, hl⟩, h⟩ := h
      exact fin l hsz (hw1.is _ _ _ hg).wf hl (fun w hw j v hv => by simpa using full_cell (hw.is _ _ _ hg) hv) h
    · rename_i b' base' s l hg
      obtain ⟨⟨rfl, rfl, rfl, hsz, hl⟩, h⟩ := h
      exact fin l hsz (hw1.is _ _ _ hg).2.2 hl (fun w hw j v hv => (hw.is _ _ _ hg).2.1 _ _ hv) h
    · exact h.elim
  · exact h.elim

def mappendR (P : Program) (N d : Nat) (T : Tm) (H : Heap) (e : TypeId) (sz : Nat) (bytes : Nat) (s x : SC) (K : Tm → Heap → Prop) : Prop :=
  match s with
  | .nilsl => srcRows P H sz x fun new => Chk ((2 * new.length + 192) * bytes ≤ 281474976710656 ∧ new.length < 9223372036854775808) (match new with
    | [] => (match Nat.blt d N with | true => K ((d, .b (.one .nilsl)) :: T) H | false => False)
    | _ => New fun b => ∀ post : List (List SC), (match Nat.blt d N with
      | true => K ((d, .b (.one (.sl d b 0 0 sz new.length (new.length + post.length)))) :: T) ((d, b, .full e (.rows sz (new ++ post))) :: H)
      | false => False))
  | .sl key b 0 0 sz' len cap => (match hget H key with
    | some (b', .full e' (.rows s L)) => Exi fun (p : List (List SC) × List (List SC)) => b = b' ∧ e' = e ∧ s = sz ∧ sz' = sz ∧ L = p.1 ++ p.2 ∧ p.1.length = len ∧ cap = L.length ∧ srcRows P H sz x fun new =>
      Chk ((2 * (len + new.length) + 192) * bytes ≤ 281474976710656 ∧ len + new.length < 9223372036854775808) (New fun b => ∀ post : List (List SC), (match Nat.blt d N with
        | true => K ((d, .b (.one (.sl d b 0 0 sz (len + new.length) (len + new.length + post.length)))) :: T) ((d, b, .full e (.rows sz (p.1 ++ new ++ post))) :: hdel H key)
        | false => False))
    | _ => False)
  | _ => False
end Go.SX
