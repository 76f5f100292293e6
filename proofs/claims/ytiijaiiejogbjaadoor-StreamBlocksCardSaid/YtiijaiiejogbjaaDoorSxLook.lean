/- What a place of known memory holds, and what it holds behind a store. -/
import Derived.Test.YtiijaiiejogbjaaDoorSxMem
namespace Go.SX

def lget {α : Type} : List α → Nat → Option α
  | [], _ => none
  | x :: l, n => match n with | 0 => some x | n + 1 => lget l n
theorem lget_eq {α : Type} (l : List α) (n : Nat) : lget l n = l[n]? := by
  induction l generalizing n with
  | nil => simp [lget]
  | cons x l ih => cases n <;> simp [lget, ih]
def lset {α : Type} : List α → Nat → α → List α
  | [], _, _ => []
  | x :: l, n, y => match n with | 0 => y :: l | n + 1 => x :: lset l n y
theorem lset_eq {α : Type} (l : List α) (n : Nat) (y : α) : lset l n y = l.set n y := by
  induction l generalizing n with
  | nil => simp [lset]
  | cons x l ih => cases n <;> simp [lset, ih]
def llen {α : Type} : List α → Nat
  | [] => 0
  | _ :: l => llen l + 1
theorem llen_eq {α : Type} (l : List α) : llen l = l.length := by
  induction l with
  | nil => rfl
  | cons x l ih => simp [llen, ih]

/-- A small number, written out. -/
def lit (n : Nat) (K : Nat → Prop) : Prop :=
  match n with
  | 0 => K 0
  | 1 => K 1
  | 2 => K 2
  | 3 => K 3
  | 4 => K 4
  | 5 => K 5
  | 6 => K 6
  | 7 => K 7
  | 8 => K 8
  | 9 => K 9
  | 10 => K 10
  | 11 => K 11
  | 12 => K 12
  | 13 => K 13
  | 14 => K 14
  | 15 => K 15
  | 16 => K 16
  | 17 => K 17
  | 18 => K 18
  | 19 => K 19
  | 20 => K 20
  | 21 => K 21
  | 22 => K 22
  | 23 => K 23
  | 24 => K 24
  | 25 => K 25
  | 26 => K 26
  | 27 => K 27
  | 28 => K 28
  | 29 => K 29
  | 30 => K 30
  | 31 => K 31
  | 32 => K 32
  | 33 => K 33
  | 34 => K 34
  | 35 => K 35
  | 36 => K 36
  | 37 => K 37
  | 38 => K 38
  | 39 => K 39
  | 40 => K 40
  | 41 => K 41
  | 42 => K 42
  | 43 => K 43
  | 44 => K 44
  | 45 => K 45
  | 46 => K 46
  | 47 => K 47
  | 48 => K 48
  | 49 => K 49
  | 50 => K 50
  | 51 => K 51
  | 52 => K 52
  | 53 => K 53
  | 54 => K 54
  | 55 => K 55
  | 56 => K 56
  | 57 => K 57
  | 58 => K 58
  | 59 => K 59
  | 60 => K 60
  | 61 => K 61
  | 62 => K 62
  | 63 => K 63
  | 64 => K 64
  | n => K n
theorem lit_ok {n : Nat} {K : Nat → Prop} (h : lit n K) : K n := by
  unfold lit at h
  split at h <;> exact h

def CT.look (c : CT) (o : Off) (K : SC → Prop) : Prop :=
  match c, o with
  | .cells l, o => match lget l o.val with | some c => K c | none => False
  | .ints k l, .lit n => Chk (n < l.length) (K (.int k (l.getD n 0)))
  | .ints k l, .el 0 i 1 0 => Chk (i < l.length) (K (.int k (l.getD i 0)))
  | .ints k l, .el b i s j => Chk (b + i * s + j < l.length) (K (.int k (l.getD (b + i * s + j) 0)))
  | .rows sz l, .el 0 i s j => Chk (s = sz ∧ i < l.length) (Some_ (fun row => l[i]? = some row) fun row => match lget row j with | some c => K c | none => False)
  | .rows _ _, _ => False

theorem ints_at {k : IntKind} {l : List Int} {n : Nat} (h : n < l.length) : (CT.ints k l).vals[n]? = some (Value.int k (l.getD n 0)) := by
  simp [CT.vals, h]

theorem rows_at {sz : Nat} {l : List (List SC)} (hwf : ∀ r ∈ l, r.length = sz) {i j : Nat} {row : List SC} {x : SC} (hr : l[i]? = some row) (hx : row[j]? = some x) :
    (CT.rows sz l).vals[i * sz + j]? = some x.val := by
  have hj : j < sz := by
    rw [← hwf row (List.mem_of_getElem? hr)]
    exact (List.getElem?_eq_some_iff.1 hx).1
  simp only [CT.vals]
  rw [flat_get sz l hwf i j row hr hj, hx]; rfl

theorem CT.look_ok {c : CT} {o : Off} {K : SC → Prop} (h : c.look o K) (hwf : c.wf) : ∃ x, K x ∧ c.vals[o.val]? = some x.val := by
  unfold CT.look at h
  split at h
  · rename_i l o
    split at h
    · rename_i x hx
      exact ⟨x, h, by rw [lget_eq] at hx; simp [CT.vals, hx]⟩
    · exact h.elim
  · exact ⟨_, h.go, ints_at h.ok⟩
  · exact ⟨_, h.go, by simpa [Off.val, SC.val] using ints_at h.ok⟩
  · exact ⟨_, h.go, ints_at h.ok⟩
  · rename_i sz l i s j
    obtain ⟨⟨rfl, hi⟩, h⟩ := h
    have hr : l[i]? = some l[i] := by simp [hi]
    have h := h.go l[i] hr
    split at h
    · rename_i x hx
      refine ⟨x, h, ?_⟩
      rw [lget_eq] at hx
      rw [← rows_at hwf hr hx]
      simp [Off.val]
    · exact h.elim
  · exact h.elim

/-- Without wf in sight: for content whose form is kept by HB.Is. -/
def HB.look (hb : HB) (o : Off) (K : SC → Prop) : Prop :=
  match hb, o with
  | .full _ c, o => c.look o K
  | .seg base c, .el b i s j => Chk (b = base) (c.look (.el 0 i s j) K)
  | .seg base c, .lit n => Chk (base = 0) (c.look (.lit n) K)
  | .obj _, _ => False

theorem HB.Is.wf {T : TypeId} {c : CT} {w : World} {b : Nat} (h : (HB.full T c).Is w b) : c.wf := h.choose_spec.choose_spec.2.2

def HB.cwf : HB → Prop
  | .full _ c => c.wf
  | .seg _ c => c.wf
  | .obj _ => True
theorem HB.Is.cwf {hb : HB} {w : World} {b : Nat} (h : hb.Is w b) : hb.cwf := by
  cases hb with
  | full T c => exact h.wf
  | seg base c => exact h.2.2
  | obj o => trivial

theorem HB.look_ok {hb : HB} {o : Off} {K : SC → Prop} (hwf : hb.cwf) (h : hb.look o K) :
    ∃ x, K x ∧ ∀ (w : World) (b : Nat), hb.Is w b → w.cell? ⟨b, o.val, none⟩ = some x.val := by
  unfold HB.look at h
  split at h
  · obtain ⟨x, hx, hv⟩ := CT.look_ok h hwf
    exact ⟨x, hx, fun w b hi => full_cell hi hv⟩
  · obtain ⟨rfl, h⟩ := h
    obtain ⟨x, hx, hv⟩ := CT.look_ok h hwf
    refine ⟨x, hx, fun w b hi => ?_⟩
    have := hi.2.1 _ _ hv
    simpa [Off.val, Nat.add_assoc] using this
  · obtain ⟨rfl, h⟩ := h
    obtain ⟨x, hx, hv⟩ := CT.look_ok h hwf
    refine ⟨x, hx, fun w b hi => ?_⟩
    have := hi.2.1 _ _ hv
    simpa [Off.val] using this
  · exact h.elim

/-! ### Several cells -/
def CT.lookAll (c : CT) (o : Off) (size : Nat) (K : BV → Prop) : Prop :=
  match c, o with
  | .cells l, .lit 0 => match Nat.beq (llen l) size with
    | true => K (.agg l)
    | false => Chk (size ≤ l.length) (K (.agg (l.take size)))
  | .cells l, o => Chk (o.val + size ≤ l.length) (K (.agg ((l.drop o.val).take size)))
  | .ints k l, .lit 0 => Chk (l.length = size) (K (.seq k l))
  | .ints k l, o => Chk (o.val + size ≤ l.length) (K (.seq k ((l.drop o.val).take size)))
  | .rows sz l, .el 0 i s 0 => Chk (s = sz ∧ size = sz ∧ i < l.length) (Some_ (fun row => l[i]? = some row) fun row => K (.agg row))
  | .rows sz l, .el 0 i s j => Chk (s = sz ∧ j + size ≤ sz ∧ i < l.length) (Some_ (fun row => l[i]? = some row) fun row => K (.agg ((row.drop j).take size)))
  | .rows _ _, _ => False

theorem sub_get {α : Type} (l : List α) (o n j : Nat) (hj : j < n) : ((l.drop o).take n)[j]? = l[o + j]? := by
  simp [hj]

theorem CT.lookAll_ok {c : CT} {o : Off} {size : Nat} {K : BV → Prop} (h : c.lookAll o size K) (hwf : c.wf) :
    ∃ x, K x ∧ ∃ l : List Value, l.length = size ∧ x.val = .agg l.toArray ∧ ∀ j v, l[j]? = some v → c.vals[o.val + j]? = some v := by
  unfold CT.lookAll at h
  split at h
  · rename_i l
    split at h
    · rename_i hb
      have hb := Nat.eq_of_beq_eq_true hb
      rw [llen_eq] at hb
      exact ⟨_, h, l.map SC.val, by simpa using hb, rfl, fun j v hv => by simpa [CT.vals, Off.val] using hv⟩
    · refine ⟨_, h.go, (l.take size).map SC.val, by have := h.ok; simp; omega, rfl, fun j v hv => ?_⟩
      have hj : j < size := by have := (List.getElem?_eq_some_iff.1 hv).1; simp at this; omega
      simpa [CT.vals, Off.val, List.getElem?_take, hj] using hv
  · rename_i l _
    refine ⟨_, h.go, ((l.drop o.val).take size).map SC.val, by have := h.ok; simp; omega, rfl, fun j v hv => ?_⟩
    have hj : j < size := by have := (List.getElem?_eq_some_iff.1 hv).1; simp at this; omega
    simpa [CT.vals, List.getElem?_take, hj] using hv
  · rename_i k l
    exact ⟨_, h.go, l.map (Value.int k), by simpa using h.ok, rfl, fun j v hv => by simpa [CT.vals, Off.val] using hv⟩
  · rename_i k l _
    refine ⟨_, h.go, ((l.drop o.val).take size).map (Value.int k), by have := h.ok; simp; omega, rfl, fun j v hv => ?_⟩
    have hj : j < size := by have := (List.getElem?_eq_some_iff.1 hv).1; simp at this; omega
    simpa [CT.vals, List.getElem?_take, hj] using hv
  · rename_i sz l i s
    obtain ⟨⟨rfl, hsz, hi⟩, h⟩ := h
    have hr : l[i]? = some l[i] := by simp [hi]
    have hl : (l[i]).length = s := hwf _ (List.getElem_mem hi)
    refine ⟨_, h.go l[i] hr, (l[i]).map SC.val, by simp [hl, hsz], rfl, fun j v hv => ?_⟩
    have hj : j < s := by have := (List.getElem?_eq_some_iff.1 hv).1; simp [hl] at this; omega
    simp only [CT.vals, Off.val]
    rw [show 0 + i * s + 0 + j = i * s + j by omega, flat_get s l hwf i j _ hr hj, ← hv]
    simp
  · rename_i sz l i s j0 _
    obtain ⟨⟨rfl, hsz, hi⟩, h⟩ := h
    have hr : l[i]? = some l[i] := by simp [hi]
    have hl : (l[i]).length = s := hwf _ (List.getElem_mem hi)
    refine ⟨_, h.go l[i] hr, (((l[i]).drop j0).take size).map SC.val, by simp [hl]; omega, rfl, fun j v hv => ?_⟩
    have hj : j < size := by have := (List.getElem?_eq_some_iff.1 hv).1; simp [hl] at this; omega
    simp only [CT.vals, Off.val]
    rw [show 0 + i * s + j0 + j = i * s + (j0 + j) by omega, flat_get s l hwf i (j0 + j) _ hr (by omega), ← hv]
    simp [hj]
  · exact h.elim

def HB.lookAll (hb : HB) (o : Off) (size : Nat) (K : BV → Prop) : Prop :=
  match hb, o with
  | .full _ c, o => c.lookAll o size K
  | .seg base c, .el b i s j => Chk (b = base) (c.lookAll (.el 0 i s j) size K)
  | .seg base c, .lit n => Chk (base = 0) (c.lookAll (.lit n) size K)
  | .obj _, _ => False

theorem HB.lookAll_ok {hb : HB} {o : Off} {size : Nat} {K : BV → Prop} (hwf : hb.cwf) (h : hb.lookAll o size K) :
    ∃ x, K x ∧ ∃ l : List Value, l.length = size ∧ x.val = .agg l.toArray ∧ ∀ (w : World) (b : Nat), hb.Is w b → ∀ j v, l[j]? = some v → w.cell? ⟨b, o.val + j, none⟩ = some v := by
  unfold HB.lookAll at h
  split at h
  · obtain ⟨x, hx, l, h1, h2, h3⟩ := CT.lookAll_ok h hwf
    exact ⟨x, hx, l, h1, h2, fun w b hi j v hv => full_cell hi (h3 j v hv)⟩
  · obtain ⟨rfl, h⟩ := h
    obtain ⟨x, hx, l, h1, h2, h3⟩ := CT.lookAll_ok h hwf
    refine ⟨x, hx, l, h1, h2, fun w b hi j v hv => ?_⟩
    have := hi.2.1 _ _ (h3 j v hv)
    simpa [Off.val, Nat.add_assoc] using this
  · obtain ⟨rfl, h⟩ := h
    obtain ⟨x, hx, l, h1, h2, h3⟩ := CT.lookAll_ok h hwf
    refine ⟨x, hx, l, h1, h2, fun w b hi j v hv => ?_⟩
    have := hi.2.1 _ _ (h3 j v hv)
    simpa [Off.val] using this
  · exact h.elim

/-! ### Behind a store -/
def aggInts : List SC → Option (IntKind × List Int)
  | [.int k n] => some (k, [n])
  | .int k n :: l => match aggInts l with
    | some (k', r) => (match decide (k = k') with | true => some (k, n :: r) | false => none)
    | none => none
  | _ => none
theorem aggInts_ok : ∀ {l : List SC} {k : IntKind} {r : List Int}, aggInts l = some (k, r) → l = r.map (SC.int k) := by
  intro l
  induction l with
  | nil => intro k r h; simp [aggInts] at h
  | cons c l ih =>
    intro k r h
    cases c with
    | int k' n =>
      cases l with
      | nil => simp only [aggInts, Option.some.injEq, Prod.mk.injEq] at h; obtain ⟨rfl, rfl⟩ := h; rfl
      | cons c' l' =>
        simp only [aggInts] at h
        split at h
        · rename_i k2 r2 h2
          split at h
          · rename_i hk
            have := of_decide_eq_true hk
            cases h
            subst this
            simp [ih h2]
          · cases h
        · cases h
    | _ => simp [aggInts] at h

def CT.put (c : CT) (o : Off) (x : BV) (K : CT → Prop) : Prop :=
  match c, o, x with
  | .cells l, .lit n, .one v => match Nat.blt n (llen l) with | true => K (.cells (lset l n v)) | false => False
  | .cells l, .lit 0, .agg l' => match Nat.beq (llen l') (llen l) with | true => K (.cells l') | false => False
  | .cells l, o, .one v => Chk (o.val < l.length) (K (.cells (lset l o.val v)))
  | .ints k l, .el 0 i 1 0, .one (.int k' n) => Chk (k' = k ∧ i < l.length) (K (.ints k (l.set i n)))
  | .ints k l, .lit i, .one (.int k' n) => Chk (k' = k ∧ i < l.length) (K (.ints k (l.set i n)))
  | .ints k l, .lit 0, .seq k' l' => Chk (k' = k ∧ l'.length = l.length) (K (.ints k l'))
  | .ints k l, .lit 0, .agg a => (match aggInts a with
    | some (k', l') => Chk (k' = k ∧ l'.length = l.length) (K (.ints k l'))
    | none => False)
  | .rows sz l, .el 0 i s j, .one v => Chk (s = sz ∧ i < l.length ∧ j < sz) (Some_ (fun row => l[i]? = some row) fun row => K (.rows sz (l.set i (lset row j v))))
  | .rows sz l, .el 0 i s 0, .agg l' => Chk (s = sz ∧ i < l.length ∧ l'.length = sz) (K (.rows sz (l.set i l')))
  | _, _, _ => False

theorem over_one (cs : List Value) (o : Nat) (v : Value) : over cs o [v] = cs.set o v := rfl
theorem over_get (cs : List Value) (o : Nat) (vs : List Value) (n : Nat) (h : o + vs.length ≤ cs.length) :
    (over cs o vs)[n]? = if o ≤ n ∧ n < o + vs.length then vs[n - o]? else cs[n]? := by
  induction vs generalizing cs o with
  | nil => simp [over]; intro h1 h2; omega
  | cons v vs ih =>
    simp only [List.length_cons] at h
    simp only [over, List.length_cons]
    rw [ih (cs.set o v) (o + 1) (by simp; omega)]
    by_cases h1 : o + 1 ≤ n ∧ n < o + 1 + vs.length
    · rw [if_pos h1, if_pos (by omega)]
      rw [show n - o = (n - (o + 1)) + 1 by omega]; simp
    · rw [if_neg h1]
      by_cases h2 : n = o
      · subst h2; rw [if_pos (by omega)]; simp only [Nat.sub_self, List.getElem?_cons_zero]; rw [List.getElem?_set_self (by omega)]
      · rw [if_neg (by omega)]; simp [Ne.symm h2]
theorem over_all (cs vs : List Value) (h : vs.length = cs.length) : over cs 0 vs = vs := by
  apply List.ext_getElem?
  intro n
  rw [over_get cs 0 vs n (by omega)]
  by_cases hn : n < vs.length
  · rw [if_pos (by omega)]; simp
  · rw [if_neg (by omega), List.getElem?_eq_none (by omega), List.getElem?_eq_none (by omega)]

theorem over_row (sz : Nat) (l : List (List SC)) (hl : ∀ r ∈ l, r.length = sz) (i : Nat) (hi : i < l.length) (l' : List SC) (hl' : l'.length = sz) :
    over (l.flatMap fun r => r.map SC.val) (i * sz) (l'.map SC.val) = (l.set i l').flatMap fun r => r.map SC.val := by
  have hlen := flat_length sz l hl
  have hset : ∀ r ∈ l.set i l', r.length = sz := fun r hr => by
    rcases List.mem_or_eq_of_mem_set hr with h | h
    · exact hl r h
    · rw [h]; exact hl'
  have hlen' := flat_length sz (l.set i l') hset
  have hb : i * sz + sz ≤ l.length * sz := by rw [← Nat.succ_mul]; exact Nat.mul_le_mul_right _ hi
  apply List.ext_getElem?
  intro n
  rw [over_get _ _ _ _ (by rw [hlen]; simp [hl']; omega)]
  by_cases hn : n < l.length * sz
  · have hsz : 0 < sz := by rcases Nat.eq_zero_or_pos sz with h | h; · subst h; simp at hn
                            · exact h
    have hq : n / sz < l.length := (Nat.div_lt_iff_lt_mul hsz).2 hn
    have hr : n % sz < sz := Nat.mod_lt _ hsz
    have he : n = (n / sz) * sz + n % sz := by rw [Nat.mul_comm]; exact (Nat.div_add_mod n sz).symm
    have e1 : (l.flatMap fun r => r.map SC.val)[n]? = (l[n / sz])[n % sz]?.map SC.val := by
      conv => lhs; rw [he]
      exact flat_get sz l hl _ _ _ (by simp [hq]) hr
    have e2 : ((l.set i l').flatMap fun r => r.map SC.val)[n]? = ((l.set i l')[n / sz]'(by simpa using hq))[n % sz]?.map SC.val := by
      conv => lhs; rw [he]
      exact flat_get sz _ hset _ _ _ (by simp) hr
    rw [e1, e2]
    simp only [List.length_map, hl', List.getElem_set]
    by_cases h1 : i = n / sz
    · have : i * sz ≤ n ∧ n < i * sz + sz := by rw [h1]; omega
      rw [if_pos this, if_pos h1]
      simp only [List.getElem?_map]
      congr 2
      rw [h1]; omega
    · have : ¬ (i * sz ≤ n ∧ n < i * sz + sz) := by
        rintro ⟨h2, h3⟩
        apply h1
        exact (Nat.div_eq_of_lt_le (by omega) (by rw [Nat.succ_mul]; omega)).symm
      rw [if_neg this, if_neg h1]
  · rw [if_neg (by simp [hl']; omega), List.getElem?_eq_none (by omega), List.getElem?_eq_none (by simp only [hlen', List.length_set]; omega)]

theorem CT.put_ok {c : CT} {o : Off} {x : BV} {K : CT → Prop} (h : c.put o x K) (hwf : c.wf) :
    ∃ c', K c' ∧ c'.wf ∧ c'.vals = over c.vals o.val x.cells ∧ o.val + x.cells.length ≤ c.vals.length := by
  unfold CT.put at h
  split at h
  · rename_i l n v
    split at h
    · rename_i hb
      rw [Nat.blt_eq, llen_eq] at hb
      exact ⟨_, h, trivial, by simp [CT.vals, BV.cells, over_one, lset_eq, List.map_set, Off.val], by simp [CT.vals, BV.cells, Off.val]; omega⟩
    · exact h.elim
  · rename_i l l'
    split at h
    · rename_i hb
      have hb := Nat.eq_of_beq_eq_true hb
      rw [llen_eq, llen_eq] at hb
      exact ⟨_, h, trivial, by simp only [CT.vals, BV.cells, Off.val]; rw [over_all _ _ (by simpa using hb)], by simp [CT.vals, BV.cells, Off.val, hb]⟩
    · exact h.elim
  · rename_i l o v _
    exact ⟨_, h.go, trivial, by simp [CT.vals, BV.cells, over_one, lset_eq, List.map_set], by have := h.ok; simp [CT.vals, BV.cells]; omega⟩
  · rename_i k l i k' n
    obtain ⟨⟨rfl, hi⟩, h⟩ := h
    exact ⟨_, h, trivial, by simp [CT.vals, BV.cells, over_one, List.map_set, Off.val, SC.val], by simp [CT.vals, BV.cells, Off.val]; omega⟩
  · rename_i k l i k' n
    obtain ⟨⟨rfl, hi⟩, h⟩ := h
    exact ⟨_, h, trivial, by simp [CT.vals, BV.cells, over_one, List.map_set, Off.val, SC.val], by simp [CT.vals, BV.cells, Off.val]; omega⟩
  · rename_i k l k' l'
    obtain ⟨⟨rfl, hl⟩, h⟩ := h
    exact ⟨_, h, trivial, by simp only [CT.vals, BV.cells, Off.val]; rw [over_all _ _ (by simpa using hl)], by simp [CT.vals, BV.cells, Off.val, hl]⟩
  · rename_i k l a
    split at h
    · rename_i k' l' ha
      obtain ⟨⟨rfl, hl⟩, h⟩ := h
      have e : (BV.agg a).cells = l'.map (Value.int k') := by rw [aggInts_ok ha]; simp [BV.cells, SC.val, Function.comp_def]
      exact ⟨_, h, trivial, by rw [e]; simp only [CT.vals, Off.val]; rw [over_all _ _ (by simpa using hl)], by rw [e]; simp [CT.vals, Off.val, hl]⟩
    · exact h.elim
  · rename_i sz l i s j v
    obtain ⟨⟨rfl, hi, hj⟩, h⟩ := h
    have hr : l[i]? = some l[i] := by simp [hi]
    have hl : (l[i]).length = s := hwf _ (List.getElem_mem hi)
    refine ⟨_, h.go _ hr, fun r hr' => ?_, ?_, ?_⟩
    · rcases List.mem_or_eq_of_mem_set hr' with h | h
      · exact hwf r h
      · rw [h, lset_eq]; simpa using hl
    · simp only [CT.vals, BV.cells, over_one, lset_eq, Off.val]
      rw [show 0 + i * s + j = i * s + j by omega, flat_set s l hwf i j _ v hr hj]
    · have : (l.flatMap fun r => r.map SC.val).length = l.length * s := flat_length s l hwf
      have hb : i * s + s ≤ l.length * s := by rw [← Nat.succ_mul]; exact Nat.mul_le_mul_right _ hi
      simp only [CT.vals, BV.cells, Off.val, this, List.length_singleton]; omega
  · rename_i sz l i s l'
    obtain ⟨⟨rfl, hi, hl'⟩, h⟩ := h
    refine ⟨_, h, fun r hr' => ?_, ?_, ?_⟩
    · rcases List.mem_or_eq_of_mem_set hr' with h | h
      · exact hwf r h
      · rw [h]; exact hl'
    · simp only [CT.vals, BV.cells, Off.val]
      rw [show 0 + i * s + 0 = i * s by omega, over_row s l hwf i hi l' hl']
    · have : (l.flatMap fun r => r.map SC.val).length = l.length * s := flat_length s l hwf
      have hb : i * s + s ≤ l.length * s := by rw [← Nat.succ_mul]; exact Nat.mul_le_mul_right _ hi
      simp only [CT.vals, BV.cells, Off.val, this, List.length_map, hl']; omega
  · exact h.elim

end Go.SX
