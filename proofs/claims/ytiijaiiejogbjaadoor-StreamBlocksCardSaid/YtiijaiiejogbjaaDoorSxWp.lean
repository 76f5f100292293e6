/- A function's body, step by step. -/
import Derived.Test.YtiijaiiejogbjaaDoorSxApp3
import Derived.Lib.ConvBytes
set_option linter.unusedSimpArgs false
set_option linter.unusedVariables false
namespace Go.SX

/-! ### Rows that are made -/
def chunks (sz : Nat) : Nat → List SC → List (List SC)
  | 0, _ => []
  | n + 1, l => l.take sz :: chunks sz n (l.drop sz)
theorem chunks_flat (sz : Nat) : ∀ (n : Nat) (l : List SC), l.length = n * sz → flat (chunks sz n l) = l.map SC.val ∧ ∀ r ∈ chunks sz n l, r.length = sz := by
  intro n
  induction n with
  | zero => intro l h; have : l = [] := by simpa using h
            subst this; exact ⟨rfl, by simp [chunks]⟩
  | succ n ih =>
    intro l h
    rw [Nat.succ_mul] at h
    obtain ⟨h1, h2⟩ := ih (l.drop sz) (by simp; omega)
    refine ⟨?_, fun r hr => ?_⟩
    · simp only [chunks, flat, List.flatMap_cons] at h1 ⊢
      rw [h1, ← List.map_append, List.take_append_drop]
    · rcases List.mem_cons.1 hr with rfl | hr
      · simp; omega
      · exact h2 r hr

/-- What a made row holds: numbers, if all are of one kind; else rows. -/
def rowCT (z : List SC) (sz n : Nat) (l : List SC) (K : CT → Prop) : Prop :=
  match sz with
  | 1 => (match intsOf l with
    | some (k, r) => K (.ints k r)
    | none => (match l, z with
      | [], [.int k _] => K (.ints k [])
      | l, _ => K (.rows 1 (l.map fun c => [c]))))
  | sz => Chk (l.length = n * sz) (K (.rows sz (chunks sz n l)))
theorem rowCT_ok {z : List SC} {sz n : Nat} {l : List SC} {K : CT → Prop} (h : rowCT z sz n l K) : ∃ c, K c ∧ c.wf ∧ c.vals = l.map SC.val := by
  unfold rowCT at h
  split at h
  · split at h
    · rename_i k r hi
      exact ⟨_, h, trivial, by rw [intsOf_ok hi]; simp [CT.vals, SC.val, Function.comp_def]⟩
    · have key : ∀ l : List SC, (CT.rows 1 (l.map fun c => [c])).wf ∧ (CT.rows 1 (l.map fun c => [c])).vals = l.map SC.val := fun l => by
        refine ⟨fun r hr => by obtain ⟨c, _, rfl⟩ := List.mem_map.1 hr; rfl, ?_⟩
        simp only [CT.vals, List.flatMap_map, List.map_cons, List.map_nil]
        induction l with
        | nil => rfl
        | cons c l ih => rw [List.flatMap_cons, ih]; rfl
      split at h
      · exact ⟨_, h, trivial, rfl⟩
      · exact ⟨_, h, (key _).1, (key _).2⟩
  · obtain ⟨h1, h2⟩ := chunks_flat sz n l h.ok
    exact ⟨_, h.go, h2, h1⟩

def repl {α : Type} : Nat → List α → List α
  | 0, _ => []
  | n + 1, l => l ++ repl n l
theorem repl_eq {α : Type} (n : Nat) (l : List α) : repl n l = (List.replicate n l).flatten := by
  induction n with
  | zero => rfl
  | succ n ih => simp [repl, List.replicate_succ, ih]

theorem range_zero_cells (z : List SC) (n : Nat) : ((Array.range (n * z.length)).map fun i => ((z.map SC.val).toArray)[i % z.length]!) = ((repl n z).map SC.val).toArray := by
  have hwf : ∀ r ∈ List.replicate n z, r.length = z.length := fun r hr => by rw [(List.mem_replicate.1 hr).2]
  have hflat : (repl n z).map SC.val = flat (List.replicate n z) := by
    rw [repl_eq]; simp [flat, List.flatMap, List.map_flatten]
  have hlen : (flat (List.replicate n z)).length = n * z.length := by rw [flat_length _ _ hwf]; simp
  rw [hflat]
  apply Array.ext
  · simp only [Array.size_map, Array.size_range, List.size_toArray, hlen]
  · intro i h1 h2
    have hi : i < n * z.length := by simpa [hlen] using h2
    have hpos : 0 < z.length := by
      rcases Nat.eq_zero_or_pos z.length with h | h
      · rw [h] at hi; simp at hi
      · exact h
    have hm : i % z.length < z.length := Nat.mod_lt _ hpos
    have hd : i / z.length < n := (Nat.div_lt_iff_lt_mul hpos).2 hi
    have hg := flat_get z.length _ hwf (i / z.length) (i % z.length) z (by simp [hd]) hm
    rw [show i / z.length * z.length + i % z.length = i by rw [Nat.mul_comm]; exact Nat.div_add_mod i z.length] at hg
    have e2 : (flat (List.replicate n z)).toArray[i] = (z[i % z.length]).val := by
      rw [List.getElem?_eq_getElem (by rw [hlen]; exact hi), List.getElem?_eq_getElem hm] at hg
      simpa using hg
    rw [e2]
    simp [hm]

theorem repl_length {α : Type} (n : Nat) (l : List α) : (repl n l).length = n * l.length := by
  induction n with
  | zero => simp [repl]
  | succ n ih => simp [repl, ih, Nat.succ_mul]; omega
theorem zc1 {z : List SC} {sz : Nat} {v : Value} (hs : z.length = sz) (hc : v.cells = (z.map SC.val).toArray) (n : Nat) :
    (Array.range (n * sz)).map (fun i => v.cells[i % v.cells.size]!) = ((repl n z).map SC.val).toArray := by
  subst hs
  have key := range_zero_cells z n
  rw [hc]
  simpa using key

def mbuildSlice (P : Program) (t : TypeId) (len : Nat) (parts : List (Nat × BV)) (K : TypeId → Nat → CT → Prop) : Prop :=
  match P.underlying t with
  | some (.slice e) => (match sizB P e, zeroB P e with
    | some sz, some z => Chk (z.length = sz ∧ len * sz ≤ 16777216) (lit sz fun sz => fillC (fun i => some (i * sz, sz)) (repl len z) parts fun r => rowCT z sz len r fun c => K e sz c)
    | _, _ => False)
  | _ => False
theorem mbuildSlice_ok {P : Program} {t : TypeId} {len : Nat} {parts : List (Nat × BV)} {K : TypeId → Nat → CT → Prop} (h : mbuildSlice P t len parts K) :
    ∃ e sz c, K e sz c ∧ c.wf ∧ ∀ w (ps : Array (Nat × Value)), ps.toList = (parts.map fun p => (p.1, p.2.val)) →
      (Instr.buildSlice t len ps).run P w = .ok (.slice (some ⟨w.heap.size, 0, none⟩) len len) (w.alloc (.cells c.vals.toArray e)) := by
  unfold mbuildSlice at h
  split at h
  · rename_i e hu
    split at h
    · rename_i sz z hs hz
      obtain ⟨⟨h1, h2⟩, h⟩ := h
      obtain ⟨r, hr, he⟩ := fillC_ok (lit_ok h)
      obtain ⟨c, hK, hwf, hv⟩ := rowCT_ok hr
      refine ⟨e, sz, c, hK, hwf, fun w ps hps => ?_⟩
      have h3 : ¬ len * sz > 2 ^ 24 := by omega
      obtain ⟨v, hvv, hvc⟩ := zeroB_val hz
      by_cases h0 : len * sz = 0
      · have hnil : repl len z = [] := List.eq_nil_of_length_eq_zero (by rw [repl_length, h1, h0])
        rw [hnil] at he
        have h4 : ¬ (0 : Nat) > 2 ^ 24 := by omega
        have he' : Instr.fill (fun i => some (i * sz, sz)) #[] (parts.map fun p => (p.1, p.2.val)) = some (r.map SC.val).toArray := he
        simp only [Instr.buildSlice, Sem.run_bind, run_underlying hu, Result.andThen_ok, sizB_run hs, h0, if_neg h4, if_true, Sem.run_pure, hps, Array.range_zero', Array.map_empty, he', newRow, run_newObj, hv]
        rfl
      · have hz1 := zc1 h1 hvc len
        simp only [Instr.buildSlice, Sem.run_bind, run_underlying hu, Result.andThen_ok, sizB_run hs, if_neg h0, if_neg h3, Sem.run_pure, hvv, hz1, hps, he, newRow, run_newObj, hv]
        rfl
    · exact h.elim
  · exact h.elim

def mmake (P : Program) (t : TypeId) (l c : Int) (K : TypeId → Nat → CT → Prop) : Prop :=
  match P.underlying t with
  | some (.slice e) => (match sizB P e, bytB P e, zeroB P e with
    | some sz, some bytes, some z => Chk (z.length = sz ∧ 0 ≤ l ∧ l ≤ c ∧ bytes * c ≤ 281474976710656 ∧ c < 9223372036854775808) (match z with
      | [.int k (.ofNat 0)] => lit sz fun sz => K e sz (.ints k (List.replicate c.toNat 0))
      | z => lit sz fun sz => K e sz (.rows sz (List.replicate c.toNat z)))
    | _, _, _ => False)
  | _ => False

theorem mmake_ok {P : Program} {t : TypeId} {l c : Int} {K : TypeId → Nat → CT → Prop} (h : mmake P t l c K) :
    ∃ e sz ct, K e sz ct ∧ ct.wf ∧ ∀ w (k1 k2 : IntKind),
      (Instr.makeSlice t (.int k1 l) (.int k2 c)).run P w = .ok (.slice (some ⟨w.heap.size, 0, none⟩) l.toNat c.toNat) (w.alloc (.cells ct.vals.toArray e)) := by
  unfold mmake at h
  split at h
  · rename_i e hu
    split at h
    · rename_i sz bytes z hs hb hz
      obtain ⟨⟨h1, h2, h3, h4, h5⟩, h⟩ := h
      have key : ∀ ct : CT, ct.vals = (repl c.toNat z).map SC.val → ∀ w (k1 k2 : IntKind),
          (Instr.makeSlice t (.int k1 l) (.int k2 c)).run P w = .ok (.slice (some ⟨w.heap.size, 0, none⟩) l.toNat c.toNat) (w.alloc (.cells ct.vals.toArray e)) := by
        intro ct hct w k1 k2
        rw [hct]
        obtain ⟨i, hi, hib⟩ : ∃ i, P.info? e = some i ∧ i.bytes = bytes := by
          unfold bytB at hb; split at hb
          · rename_i i hi; exact ⟨i, hi, by cases hb; rfl⟩
          · cases hb
        have hti : ∀ w, (typeInfo e).run P w = .ok i w := fun w => by simp [typeInfo, hi]
        have w1 : IntKind.i64.wrap l = l := IntWalk.i64_in _ (by omega)
        have w2 : IntKind.i64.wrap c = c := IntWalk.i64_in _ (by omega)
        have n1 : (decide (c < 0) || decide ((i.bytes : Int) * c > 2 ^ 48)) = false := by
          rw [hib]; simp; omega
        have n2 : decide (l < 0) = false := by simp; omega
        have n3 : decide (l > c) = false := by simp; omega
        obtain ⟨v, hvv, hvc⟩ := zeroB_val hz
        by_cases h0 : c.toNat * sz = 0
        · have hnil : repl c.toNat z = [] := List.eq_nil_of_length_eq_zero (by rw [repl_length, h1, h0])
          rw [hnil]
          simp only [Instr.makeSlice, Sem.run_bind, run_underlying hu, Result.andThen_ok, asInt, asIntOf, Sem.run_pure, hti, w1, w2, n1, n2, n3, Bool.or_self, Bool.false_eq_true, if_false, run_askRoom, sizB_run hs, h0, if_true, Array.range_zero', Array.map_empty, newRow, run_newObj]
          rfl
        · have hz1 := zc1 h1 hvc c.toNat
          simp only [Instr.makeSlice, Sem.run_bind, run_underlying hu, Result.andThen_ok, asInt, asIntOf, Sem.run_pure, hti, w1, w2, n1, n2, n3, Bool.or_self, Bool.false_eq_true, if_false, run_askRoom, sizB_run hs, if_neg h0, hvv, hz1, newRow, run_newObj]
          rfl
      split at h
      · rename_i k
        refine ⟨e, sz, _, lit_ok h, trivial, key _ ?_⟩
        rw [repl_eq]
        simp [CT.vals, SC.val]
      · refine ⟨e, sz, _, lit_ok h, fun r hr => by rw [(List.mem_replicate.1 hr).2, h1], key _ ?_⟩
        rw [repl_eq]
        simp [CT.vals, List.flatMap, List.map_flatten]
    · exact h.elim
  · exact h.elim

/-- '[]byte(s)'. -/
def mbytes (P : Program) (s d : TypeId) (x : SC) (K : TypeId → List UInt8 → Prop) : Prop :=
  match P.underlying s, P.underlying d, x with
  | some .string, some (.slice e), .str l => (match P.underlying e with
    | some (.int .u8) => K e l
    | _ => False)
  | _, _, _ => False
theorem mbytes_ok {C : Ctx} {H : Heap} {s d : TypeId} {x : SC} {K : TypeId → List UInt8 → Prop} (h : mbytes C.P s d x K) (key : Nat) {w : World} (hw : Rep C H w) :
    ∃ e l, K e l ∧ ∃ c w', (convert s d x.val).run C.P w = .ok (.slice (some ⟨w.heap.size, 0, none⟩) l.length (l.length + c)) w' ∧
      Rep C ((key, w.heap.size, .full e (.ints .u8 (numsOf l ++ List.replicate c 0))) :: H) w' := by
  unfold mbytes at h
  split at h
  · rename_i e l hs hd
    split at h
    · rename_i he
      refine ⟨e, l, h, ?_⟩
      have hr := Lib.run_convert_string_bytes (P := C.P) w s d e ⟨⟨l⟩⟩ hs hd he
      have hsz : (⟨⟨l⟩⟩ : ByteArray).size = l.length := rfl
      rw [hsz] at hr
      have hge : l.length ≤ grownCap w l.length 0 e := by unfold grownCap; simp only [Question.cut]; omega
      refine ⟨grownCap w l.length 0 e - l.length, Lib.bytesWorld w e ⟨⟨l⟩⟩, ?_, ?_⟩
      · rw [show l.length + (grownCap w l.length 0 e - l.length) = grownCap w l.length 0 e by omega]
        exact hr
      · have hcells : Lib.bytesCells w e ⟨⟨l⟩⟩ = (CT.ints .u8 (numsOf l ++ List.replicate (grownCap w l.length 0 e - l.length) 0)).vals.toArray := by
          simp [Lib.bytesCells, CT.vals, numsOf, hsz, Function.comp_def]
        have hnew := Lib.bytesWorld_at_new w e ⟨⟨l⟩⟩
        rw [hcells] at hnew
        refine hw.alloc key _ ⟨_, _, hnew, .inr (by simp), trivial⟩ rfl rfl rfl (by rw [Lib.bytesWorld_size]; omega) (fun b hb => Lib.bytesWorld_at_old w e _ b hb)
    · exact h.elim
  · exact h.elim
end Go.SX
