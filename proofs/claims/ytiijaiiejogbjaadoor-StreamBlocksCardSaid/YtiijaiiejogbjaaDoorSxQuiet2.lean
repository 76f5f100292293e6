/- Operations that leave memory alone, the second part: places, parts, conversions; all of them. -/
import Derived.Test.YtiijaiiejogbjaaDoorSxQuiet
import Derived.Lib.ConvBytes
import Derived.Laws.Build
set_option linter.unusedSimpArgs false
set_option linter.unusedVariables false
namespace Go.SX

def qindexAddr (P : Program) (t : TypeId) (x : SC) (n : Int) (K : SC → Prop) : Prop :=
  match P.underlying t, x with
  | some (.slice e), .sl key b base o sz len cap => (match sizB P e with
    | some sz' => Chk (sz' = sz) (Chk (0 ≤ n ∧ n < len) (K (.ptr ⟨key, b, .el base (o + n.toNat) sz 0⟩)))
    | none => False)
  | some (.array len e), .ptr ⟨key, b, .lit m⟩ => (match sizB P e with
    | some sz => lit sz fun sz => Chk (0 ≤ n ∧ n < len) (K (.ptr ⟨key, b, .el m n.toNat sz 0⟩))
    | none => False)
  | some (.array len e), .ptr ⟨key, b, .el base i sz j⟩ => (match sizB P e with
    | some sz' => lit sz' fun sz' => Chk (0 ≤ n ∧ n < len) (K (.ptr ⟨key, b, .el (base + i * sz + j) n.toNat sz' 0⟩))
    | none => False)
  | _, _ => False

theorem qindexAddr_ok {P : Program} {t : TypeId} {x : SC} {n : Int} {K : SC → Prop} (h : qindexAddr P t x n K) :
    ∃ v, K v ∧ ∀ w (k : IntKind), (Instr.indexAt t x.val (.int k n)).run P w = .ok v.val w := by
  unfold qindexAddr at h
  split at h
  · rename_i e key b base o sz len cap hu
    split at h
    · rename_i sz' hs
      obtain ⟨rfl, ⟨h1, h2⟩, h⟩ := h
      refine ⟨_, h, fun w k => ?_⟩
      simp only [Instr.indexAt, asIntOf, Sem.run_bind, Sem.run_pure, Result.andThen_ok, run_underlying hu, SC.val, sizB_run hs, if_pos (And.intro h1 h2), add_addr, Pt.value, Pt.addr, Off.val]
      simp [Nat.add_mul, Nat.add_assoc]
    · exact h.elim
  · rename_i len e key b m hu
    split at h
    · rename_i sz hs
      obtain ⟨⟨h1, h2⟩, h⟩ := lit_ok h
      refine ⟨_, h, fun w k => ?_⟩
      simp only [Instr.indexAt, asIntOf, Sem.run_bind, Sem.run_pure, Result.andThen_ok, run_underlying hu, SC.val, Pt.value, Instr.sureAddr, sizB_run hs, if_pos (And.intro h1 h2), add_addr, Pt.addr, Off.val]
      simp
    · exact h.elim
  · rename_i len e key b base i sz j hu
    split at h
    · rename_i sz' hs
      obtain ⟨⟨h1, h2⟩, h⟩ := lit_ok h
      refine ⟨_, h, fun w k => ?_⟩
      simp only [Instr.indexAt, asIntOf, Sem.run_bind, Sem.run_pure, Result.andThen_ok, run_underlying hu, SC.val, Pt.value, Instr.sureAddr, sizB_run hs, if_pos (And.intro h1 h2), add_addr, Pt.addr, Off.val]
      simp
    · exact h.elim
  · exact h.elim

/-- A field's place, its type and its size. -/
def fieldB (P : Program) (t : TypeId) (f : Nat) : Option (Nat × TypeId) :=
  match P.underlying t with
  | some (.struct fs) => match lget fs.toList f with
    | some fd => some (fd.offset, fd.type)
    | none => none
  | _ => none
theorem fieldB_ok {P : Program} {t : TypeId} {f o : Nat} {e : TypeId} (h : fieldB P t f = some (o, e)) :
    ∃ fs fd, P.underlying t = some (.struct fs) ∧ fs[f]? = some fd ∧ fd.offset = o ∧ fd.type = e := by
  unfold fieldB at h
  split at h
  · rename_i fs hu
    split at h
    · rename_i fd hf
      cases h
      rw [lget_eq, Array.getElem?_toList] at hf
      exact ⟨fs, fd, hu, hf, rfl, rfl⟩
    · cases h
  · cases h

def qfieldAddr (P : Program) (t : TypeId) (x : SC) (f : Nat) (K : SC → Prop) : Prop :=
  match fieldB P t f, x with
  | some (o, e), .ptr ⟨key, b, off⟩ => (match sizB P e with
    | some (_ + 1) => (match off with
      | .lit n => lit (n + o) fun m => K (.ptr ⟨key, b, .lit m⟩)
      | .el base i sz j => lit (j + o) fun m => K (.ptr ⟨key, b, .el base i sz m⟩))
    | _ => False)
  | _, _ => False
theorem qfieldAddr_ok {P : Program} {t : TypeId} {x : SC} {f : Nat} {K : SC → Prop} (h : qfieldAddr P t x f K) :
    ∃ v, K v ∧ ∀ w, (Instr.fieldAt t x.val f).run P w = .ok v.val w := by
  unfold qfieldAddr at h
  split at h
  · rename_i o e key b off hf
    obtain ⟨fs, fd, hu, hfd, rfl, rfl⟩ := fieldB_ok hf
    split at h
    · rename_i n hs
      have key : ∀ (off off' : Off), off'.val = off.val + fd.offset → ∀ w, (Instr.fieldAt t (SC.ptr ⟨key, b, off⟩).val f).run P w = .ok (SC.ptr ⟨key, b, off'⟩).val w := by
        intro off off' he w
        simp [Instr.fieldAt, run_underlying hu, hfd, SC.val, Pt.value, Pt.addr, Instr.sureAddr, fieldPlace, sizB_run hs, add_addr, he]
      split at h
      · exact ⟨_, lit_ok h, key _ _ rfl⟩
      · exact ⟨_, lit_ok h, key _ _ (by simp [Off.val, Nat.add_assoc])⟩
    · exact h.elim
  · exact h.elim

/-- A part of a value. -/
def qpart (P : Program) (t : TypeId) (l : List SC) (off : Nat) (K : BV → Prop) : Prop :=
  match aggB P t, sizB P t with
  | some false, _ => (match lget l off with | some c => K (.one c) | none => False)
  | some true, some n => lit n fun n => K (.agg ((l.drop off).take n))
  | _, _ => False
theorem extract_toArray {α : Type} (l : List α) (o n : Nat) : (l.toArray).extract o (o + n) = ((l.drop o).take n).toArray := by
  simp [List.extract_toArray, List.extract_eq_take_drop]
theorem qpart_ok {P : Program} {t : TypeId} {l : List SC} {off : Nat} {K : BV → Prop} (h : qpart P t l off K) :
    ∃ v, K v ∧ ∀ w, (part t (l.map SC.val).toArray off).run P w = .ok v.val w := by
  unfold qpart at h
  split at h
  · rename_i x ha
    split at h
    · rename_i c hc
      rw [lget_eq] at hc
      refine ⟨_, h, fun w => ?_⟩
      simp [part, aggB_run ha, hc, BV.val]
    · exact h.elim
  · rename_i n ha hs
    refine ⟨_, lit_ok h, fun w => ?_⟩
    simp only [part, Sem.run_bind, aggB_run ha, Result.andThen_ok, if_true, sizB_run hs, Sem.run_pure, BV.val, extract_toArray, List.map_take, List.map_drop]
  · exact h.elim

def qfield (P : Program) (t : TypeId) (x : BV) (f : Nat) (K : BV → Prop) : Prop :=
  match fieldB P t f, x with
  | some (o, e), .agg l => qpart P e l o K
  | _, _ => False
theorem qfield_ok {P : Program} {t : TypeId} {x : BV} {f : Nat} {K : BV → Prop} (h : qfield P t x f K) :
    ∃ v, K v ∧ ∀ w, (Instr.field t x.val f).run P w = .ok v.val w := by
  unfold qfield at h
  split at h
  · rename_i o e l hf
    obtain ⟨fs, fd, hu, hfd, rfl, rfl⟩ := fieldB_ok hf
    obtain ⟨v, hv, hr⟩ := qpart_ok h
    exact ⟨v, hv, fun w => by simp [Instr.field, run_underlying hu, hfd, BV.val, asAgg, hr]⟩
  · exact h.elim

def qindex (P : Program) (t : TypeId) (x : BV) (n : Int) (K : BV → Prop) : Prop :=
  match P.underlying t, x with
  | some .string, .one (.str s) => Chk (0 ≤ n ∧ n < s.length) (K (.one (.int .u8 (bat s n))))
  | some (.array len e), .seq k l => (match aggB P e, sizB P e with
    | some false, some 1 => Chk (0 ≤ n ∧ n < len ∧ l.length = len) (K (.one (.int k (l.getD n.toNat 0))))
    | some true, some sz => Chk (0 ≤ n ∧ n < len) (K (.seq k ((l.drop (n.toNat * sz)).take sz)))
    | _, _ => False)
  | some (.array len e), .agg l => (match sizB P e with
    | some sz => Chk (0 ≤ n ∧ n < len) (qpart P e l (n.toNat * sz) K)
    | none => False)
  | _, _ => False
theorem qindex_ok {P : Program} {t : TypeId} {x : BV} {n : Int} {K : BV → Prop} (h : qindex P t x n K) :
    ∃ v, K v ∧ ∀ w (k : IntKind), (Instr.index t x.val (.int k n)).run P w = .ok v.val w := by
  unfold qindex at h
  split at h
  · rename_i s hu
    obtain ⟨⟨h1, h2⟩, h⟩ := h
    refine ⟨_, h, fun w k => ?_⟩
    have h3 : n.toNat < s.length := by omega
    have h4 : (⟨⟨s⟩⟩ : ByteArray)[n.toNat]? = some s[n.toNat] := by
      rw [ByteArray.getElem?_lt' _ _ h3]; rfl
    simp [Instr.index, asIntOf, run_underlying hu, BV.val, SC.val, h1, h4, bat, h3]
  · rename_i len e k' l hu
    split at h
    · rename_i ha hs
      obtain ⟨⟨h1, h2, h3⟩, h⟩ := h
      refine ⟨_, h, fun w k => ?_⟩
      have h4 : n.toNat < l.length := by omega
      simp [Instr.index, asIntOf, run_underlying hu, BV.val, SC.val, h1, h2, part, aggB_run ha, sizB_run hs, h4]
    · rename_i sz ha hs
      obtain ⟨⟨h1, h2⟩, h⟩ := h
      refine ⟨_, h, fun w k => ?_⟩
      simp only [Instr.index, asIntOf, Sem.run_bind, Sem.run_pure, Result.andThen_ok, run_underlying hu, BV.val, if_pos (And.intro h1 h2), part, aggB_run ha, sizB_run hs, if_true, extract_toArray, List.map_take, List.map_drop]
    · exact h.elim
  · rename_i len e l hu
    split at h
    · rename_i sz hs
      obtain ⟨⟨h1, h2⟩, h⟩ := h
      obtain ⟨v, hv, hr⟩ := qpart_ok h
      refine ⟨v, hv, fun w k => ?_⟩
      simp only [Instr.index, asIntOf, Sem.run_bind, Sem.run_pure, Result.andThen_ok, run_underlying hu, BV.val, if_pos (And.intro h1 h2), sizB_run hs]
      exact hr w
    · exact h.elim
  · exact h.elim

/-- The number type of a type, and whether it is a text, a row of bytes. -/
def qconv (P : Program) (H : Heap) (src dst : TypeId) (x : SC) (K : SC → Prop) : Prop :=
  match P.underlying src, P.underlying dst, x with
  | some _, some (.int k), .int _ n => Wr k n fun z => K (.int k z)
  | some .string, some .string, .str s => K (.str s)
  | some (.slice e), some .string, .nilsl => (match P.underlying e with
    | some (.int .u8) => K (.str [])
    | _ => False)
  | some (.slice e), some .string, .sl key b base o 1 len cap => (match P.underlying e, hget H key with
    | some (.int .u8), some (b', .full _ (.ints .u8 l)) => Chk (b = b' ∧ base = 0 ∧ o + len ≤ l.length) (K (.str (bytesOf ((l.drop o).take len))))
    | some (.int .u8), some (b', .seg base' (.ints .u8 l)) => Chk (b = b' ∧ base = base' ∧ o + len ≤ l.length) (K (.str (bytesOf ((l.drop o).take len))))
    | _, _ => False)
  | _, _, _ => False

theorem bytes_str {P : Program} {src dst e : TypeId} {b o len cap : Nat} {l : List Int} {w : World} (hs : P.underlying src = some (.slice e)) (hd : P.underlying dst = some .string) (he : P.underlying e = some (.int .u8))
    (hl : l.length = len) (hc : ∀ j, j < len → w.cell? ⟨b, o + j, none⟩ = some (.int .u8 (l.getD j 0))) :
    (convert src dst (.slice (some ⟨b, o, none⟩) len cap)).run P w = .ok (.string ⟨⟨bytesOf l⟩⟩) w := by
  rw [run_convert_bytes_string (P := P) w src dst e _ _ _ hs he hd]
  rw [run_bytesToString w ⟨b, o, none⟩ len cap l (run_loadCells (vs := l.map (Value.int .u8)) (by simpa using hl) (fun j v hv => by
    have hj : j < l.length := by have := (List.getElem?_eq_some_iff.1 hv).1; simpa using this
    rw [hc j (by omega), ← hv]; simp [hj]))]
  rw [foldl_push_bytes]
  congr 2
  simp [bytesOf]

theorem drop_take_getD (l : List Int) (o n j : Nat) (hj : j < n) (hl : o + n ≤ l.length) : ((l.drop o).take n).getD j 0 = l.getD (o + j) 0 := by
  simp [List.getD, hj]

def HWf (H : Heap) : Prop := ∀ k b hb, hget H k = some (b, hb) → hb.cwf
theorem Rep.hwf {C : Ctx} {H : Heap} {w : World} (h : Rep C H w) : HWf H := fun k b hb hk => (h.is k b hb hk).cwf

theorem qconv_ok {P : Program} {H : Heap} {src dst : TypeId} {x : SC} {K : SC → Prop} (h : qconv P H src dst x K) :
    ∃ v, K v ∧ ∀ C w, Rep C H w → (convert src dst x.val).run P w = .ok v.val w := by
  unfold qconv at h
  split at h
  · rename_i d k k' n hs hd
    refine ⟨_, h.go, fun _ w _ => ?_⟩
    simp [convert, run_underlying hs, run_underlying hd, SC.val, Conv.intToInt]
  · rename_i s hs hd
    refine ⟨_, h, fun _ w _ => ?_⟩
    simp [convert, run_underlying hs, run_underlying hd, SC.val]
  · rename_i e hs hd
    split at h
    · rename_i he
      refine ⟨_, h, fun _ w _ => ?_⟩
      simp [convert, run_underlying hs, run_underlying hd, run_underlying he, SC.val, Conv.bytesToString]
      rfl
    · exact h.elim
  · rename_i e key b base o len cap hs hd
    split at h
    · rename_i b' T l he hg
      obtain ⟨⟨rfl, rfl, hl⟩, h⟩ := h
      refine ⟨_, h, fun C w hw => ?_⟩
      have hb := hw.is _ _ _ hg
      refine bytes_str hs hd he (by simp; omega) fun j hj => ?_
      rw [drop_take_getD l o len j hj hl]
      have := full_cell hb (ints_at (k := .u8) (l := l) (n := o + j) (by omega))
      simpa using this
    · rename_i b' base' l he hg
      obtain ⟨⟨rfl, rfl, hl⟩, h⟩ := h
      refine ⟨_, h, fun C w hw => ?_⟩
      have hb := hw.is _ _ _ hg
      refine bytes_str hs hd he (by simp; omega) fun j hj => ?_
      rw [drop_take_getD l o len j hj hl]
      have := hb.2.1 _ _ (ints_at (k := .u8) (l := l) (n := o + j) (by omega))
      simpa [Nat.add_assoc] using this
    · exact h.elim
  · exact h.elim

/-- A load. -/
def qload (P : Program) (H : Heap) (t : TypeId) (x : SC) (K : BV → Prop) : Prop :=
  match x with
  | .ptr ⟨key, b, off⟩ => (match hget H key with
    | some (b', hb) => Chk (b = b') (match aggB P t, sizB P t with
      | some false, _ => hb.look off fun c => K (.one c)
      | some true, some n => lit n fun n => hb.lookAll off n K
      | _, _ => False)
    | none => False)
  | _ => False
theorem qload_ok {P : Program} {H : Heap} {t : TypeId} {x : SC} {K : BV → Prop} (h : qload P H t x K) (hw1 : HWf H) :
    ∃ v, K v ∧ ∀ C w, Rep C H w → (Instr.loadAt t x.val).run P w = .ok v.val w := by
  unfold qload at h
  split at h
  · rename_i key b off
    split at h
    · rename_i b' hb hg
      obtain ⟨rfl, h⟩ := h
      have hwf := hw1 _ _ _ hg
      split at h
      · rename_i ha
        obtain ⟨c, hc, hv⟩ := HB.look_ok hwf h
        refine ⟨_, hc, fun C w hw => ?_⟩
        simp only [Instr.loadAt, Instr.sureAddr, SC.val, Pt.value, Pt.addr, Sem.run_bind, Sem.run_pure, Result.andThen_ok]
        exact run_loadVar_one ha (hv w b (hw.is _ _ _ hg))
      · rename_i n ha hs
        obtain ⟨v, hv, l, h1, h2, h3⟩ := HB.lookAll_ok hwf (lit_ok h)
        refine ⟨v, hv, fun C w hw => ?_⟩
        simp only [Instr.loadAt, Instr.sureAddr, SC.val, Pt.value, Pt.addr, Sem.run_bind, Sem.run_pure, Result.andThen_ok]
        rw [run_loadVar_agg ha hs h1 (h3 w b (hw.is _ _ _ hg)), h2]
      · exact h.elim
    · exact h.elim
  · exact h.elim

/-- A value out of its parts. -/
def cstC : Value → Option SC
  | .int k n => some (.int k n)
  | .bool b => some (.bool b)
  | .string s => some (.str s.data.toList)
  | .pointer none => some .nilp
  | .slice none 0 0 => some .nilsl
  | .nilFunc => some .nilfn
  | .map none => some .nilmp
  | .chan none => some (.raw (.chan none) rfl)
  | .nilIface => some (.raw .nilIface rfl)
  | _ => none
theorem cstC_ok {v : Value} {c : SC} (h : cstC v = some c) : v = c.val := by
  unfold cstC at h
  split at h <;> first | (cases h; rfl) | cases h
def cstAll : List Value → Option (List SC)
  | [] => some []
  | v :: l => match cstC v, cstAll l with
    | some c, some r => some (c :: r)
    | _, _ => none
theorem cstAll_ok : ∀ {l : List Value} {r : List SC}, cstAll l = some r → l = r.map SC.val := by
  intro l
  induction l with
  | nil => intro r h; cases h; rfl
  | cons v l ih =>
    intro r h
    unfold cstAll at h
    split at h
    · rename_i c r' h1 h2
      cases h
      simp [← cstC_ok h1, ← ih h2]
    · cases h

def BV.cs : BV → List SC
  | .one c => [c]
  | .agg l => l
  | .seq k l => l.map (SC.int k)
theorem BV.cs_val (x : BV) : x.cs.map SC.val = x.cells := by
  cases x <;> simp [BV.cs, BV.cells, SC.val, Function.comp_def]
def overC (cs : List SC) : Nat → List SC → List SC
  | _, [] => cs
  | o, v :: vs => overC (lset cs o v) (o + 1) vs
theorem overC_val (cs : List SC) (o : Nat) (vs : List SC) : (overC cs o vs).map SC.val = over (cs.map SC.val) o (vs.map SC.val) := by
  induction vs generalizing cs o with
  | nil => rfl
  | cons v vs ih => simp [overC, over, ih, lset_eq, List.map_set]

def fillC (place : Nat → Option (Nat × Nat)) (cells : List SC) : List (Nat × BV) → (List SC → Prop) → Prop
  | [], K => K cells
  | (i, v) :: rest, K => match place i with
    | some (off, size) => Chk (v.cs.length = size ∧ off + size ≤ cells.length) (fillC place (overC cells off v.cs) rest K)
    | none => False

theorem foldl_over (v : List Value) : ∀ (off j : Nat) (cells : Array Value),
    (v.toArray.zipIdx j).foldl (fun cs (x : Value × Nat) => cs.setIfInBounds (off + x.2) x.1) cells = (over cells.toList (off + j) v).toArray := by
  induction v with
  | nil => intro off j cells; rfl
  | cons x v ih =>
    intro off j cells
    have : ((x :: v).toArray.zipIdx j).toList = (x, j) :: (v.toArray.zipIdx (j + 1)).toList := by simp [List.zipIdx_cons]
    rw [← Array.foldl_toList, this, List.foldl_cons, Array.foldl_toList, ih]
    simp [over, Nat.add_assoc]

theorem fillC_ok {place : Nat → Option (Nat × Nat)} : ∀ {l : List (Nat × BV)} {cells : List SC} {K : List SC → Prop}, fillC place cells l K →
    ∃ r, K r ∧ Instr.fill place (cells.map SC.val).toArray (l.map fun p => (p.1, p.2.val)) = some (r.map SC.val).toArray := by
  intro l
  induction l with
  | nil => intro cells K h; exact ⟨cells, h, rfl⟩
  | cons p l ih =>
    intro cells K h
    obtain ⟨i, v⟩ := p
    unfold fillC at h
    split at h
    · rename_i off size hp
      obtain ⟨⟨h1, h2⟩, h⟩ := h
      obtain ⟨r, hr, he⟩ := ih h
      refine ⟨r, hr, ?_⟩
      simp only [List.map_cons, Instr.fill, hp]
      have hc : v.val.cells = v.cells.toArray := by rw [← BV.val_cells]
      have hcs : v.cells.length = size := by rw [← BV.cs_val]; simpa using h1
      rw [hc]
      simp only [List.size_toArray, hcs, ne_eq, not_true_eq_false, decide_false, Bool.false_or, List.length_map]
      rw [if_neg (by simp; omega)]
      have := foldl_over v.cells off 0 (cells.map SC.val).toArray
      simp only [Nat.add_zero] at this
      rw [this, ← he, overC_val, BV.cs_val]
    · exact h.elim

def evParts (T : Tm) : List (Nat × Operand) → Option (List (Nat × BV))
  | [] => some []
  | (i, x) :: l => match evb T x, evParts T l with
    | some v, some r => some ((i, v) :: r)
    | _, _ => none
theorem evParts_ok {C : Ctx} {T : Tm} {a : Act} (h : Fits C T a) : ∀ {l : List (Nat × Operand)} {r : List (Nat × BV)}, evParts T l = some r →
    (l.map fun p => (p.1, a.eval p.2)) = r.map fun p => (p.1, p.2.val) := by
  intro l
  induction l with
  | nil => intro r h; cases h; rfl
  | cons p l ih =>
    intro r hr
    obtain ⟨i, x⟩ := p
    unfold evParts at hr
    split at hr
    · rename_i v r' h1 h2
      cases hr
      simp [evb_ok h h1, ih h2]
    · cases hr

def zeroB (P : Program) (t : TypeId) : Option (List SC) :=
  match P.info? t with
  | some i => (match i.zero with
    | some v => cstAll v.cells.toList
    | none => none)
  | none => none
theorem zeroB_ok {P : Program} {t : TypeId} {l : List SC} (h : zeroB P t = some l) (w : World) : ∃ v, (zeroValue t).run P w = .ok v w ∧ v.cells = (l.map SC.val).toArray := by
  unfold zeroB at h
  split at h
  · rename_i i hi
    split at h
    · rename_i v hv
      refine ⟨v, by simp [zeroValue, typeInfo, hi, hv], ?_⟩
      rw [← cstAll_ok h]
    · cases h
  · cases h

def intsOf : List SC → Option (IntKind × List Int)
  | [.int k n] => some (k, [n])
  | .int k n :: l => match intsOf l with
    | some (k', r) => (match decide (k = k') with | true => some (k, n :: r) | false => none)
    | none => none
  | _ => none
theorem intsOf_ok : ∀ {l : List SC} {k : IntKind} {r : List Int}, intsOf l = some (k, r) → l = r.map (SC.int k) := by
  intro l
  induction l with
  | nil => intro k r h; simp [intsOf] at h
  | cons c l ih =>
    intro k r h
    cases c with
    | int k' n =>
      cases l with
      | nil => simp only [intsOf, Option.some.injEq, Prod.mk.injEq] at h; obtain ⟨rfl, rfl⟩ := h; rfl
      | cons c' l' =>
        simp only [intsOf] at h
        split at h
        · rename_i k2 r2 h2
          split at h
          · rename_i hk
            have := of_decide_eq_true hk
            cases h
            subst this
            simp [ih h2]
          · cases h
        · cases h
    | _ => simp [intsOf] at h

def pplaces (P : Program) : List Field → Option (List (Nat × Nat))
  | [] => some []
  | f :: l => match sizB P f.type, pplaces P l with
    | some n, some r => some ((f.offset, n) :: r)
    | _, _ => none
theorem pplaces_ok {P : Program} {w : World} : ∀ {l : List Field} {r : List (Nat × Nat)}, pplaces P l = some r →
    (l.mapM (fun f => do pure (f.offset, ← sizeOf f.type) : Field → Sem (Nat × Nat))).run P w = .ok r w := by
  intro l
  induction l with
  | nil => intro r h; cases h; rfl
  | cons f l ih =>
    intro r h
    unfold pplaces at h
    split at h
    · rename_i n r' h1 h2
      cases h
      rw [List.mapM_cons]
      simp only [Sem.run_bind, sizB_run h1, Result.andThen_ok, Sem.run_pure, ih h2]
    · cases h

def qbuild (P : Program) (t : TypeId) (parts : List (Nat × BV)) (K : BV → Prop) : Prop :=
  match zeroB P t, P.underlying t with
  | some z, some (.struct fs) => (match pplaces P fs.toList with
    | some ps => fillC (fun i => lget ps i) z parts fun r => K (.agg r)
    | none => False)
  | some z, some (.array _ e) => (match sizB P e with
    | some sz => fillC (fun i => some (i * sz, sz)) z parts fun r => match intsOf r with
      | some (k, l) => K (.seq k l)
      | none => K (.agg r)
    | none => False)
  | _, _ => False
theorem qbuild_ok {P : Program} {t : TypeId} {parts : List (Nat × BV)} {K : BV → Prop} (h : qbuild P t parts K) :
    ∃ v, K v ∧ ∀ w (ps : Array (Nat × Value)), ps.toList = (parts.map fun p => (p.1, p.2.val)) → (Instr.build t ps).run P w = .ok v.val w := by
  unfold qbuild at h
  split at h
  · rename_i z fs hz hu
    split at h
    · rename_i pl hp
      obtain ⟨r, hr, he⟩ := fillC_ok h
      refine ⟨_, hr, fun w ps hps => ?_⟩
      obtain ⟨v, hv, hc⟩ := zeroB_ok hz w
      have hm : (fs.mapM (fun f => do pure (f.offset, ← sizeOf f.type) : Field → Sem (Nat × Nat))).run P w = .ok pl.toArray w := by
        have := pplaces_ok (w := w) hp
        rw [← Array.toArray_toList (xs := fs), List.mapM_toArray, Sem.run_map, this]
        rfl
      have e : (fun i => lget pl i) = fun i => pl.toArray[i]? := by funext i; simp [lget_eq]
      rw [e] at he
      simp only [Instr.build, Sem.run_bind, hv, Result.andThen_ok, Sem.run_pure, run_underlying hu, hm, hc, hps, he]
      rfl
    · exact h.elim
  · rename_i z n e hz hu
    split at h
    · rename_i sz hs
      obtain ⟨r, hr, he⟩ := fillC_ok h
      split at hr
      · rename_i k l hi
        refine ⟨_, hr, fun w ps hps => ?_⟩
        obtain ⟨v, hv, hc⟩ := zeroB_ok hz w
        simp only [Instr.build, Sem.run_bind, hv, Result.andThen_ok, Sem.run_pure, run_underlying hu, sizB_run hs, hc, hps, he]
        rw [intsOf_ok hi]
        simp [BV.val, SC.val, Function.comp_def]
      · refine ⟨_, hr, fun w ps hps => ?_⟩
        obtain ⟨v, hv, hc⟩ := zeroB_ok hz w
        simp only [Instr.build, Sem.run_bind, hv, Result.andThen_ok, Sem.run_pure, run_underlying hu, sizB_run hs, hc, hps, he]
        rfl
    · exact h.elim
  · exact h.elim
end Go.SX
