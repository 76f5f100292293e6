/- 'append', 'copy', rows that are made: what they leave. -/
import Derived.Test.YtiijaiiejogbjaaDoorSxApp
import Derived.Lib.ConvBytes
set_option linter.unusedSimpArgs false
set_option linter.unusedVariables false
namespace Go.SX

theorem Rep.drewN {C : Ctx} {H : Heap} {w : World} (h : Rep C H w) : Rep C H { w with drawn := w.drawn + 1 } := h.drew _

/-- Less is known. -/
theorem Rep.sub {C : Ctx} {H H' : Heap} {w : World} (h : Rep C H w) (hs : ∀ t x, hget H' t = some x → hget H t = some x) : Rep C H' w :=
  ⟨fun k b x hk => h.is k b x (hs _ _ hk), fun k k' b b' x x' hk hk' hn hr => h.apart k k' b b' x x' (hs _ _ hk) (hs _ _ hk') hn hr, fun k b x hk hr => h.own k b x (hs _ _ hk) hr, h.frm⟩

/-- A new block behind a draw. -/
theorem Rep.pushD {C : Ctx} {H : Heap} {w : World} (h : Rep C H w) (k : Nat) {T : TypeId} {c : CT} (hwf : c.wf) :
    Rep C ((k, w.heap.size, .full T c) :: H) (({ w with drawn := w.drawn + 1 } : World).alloc (.cells c.vals.toArray T)) := (h.drewN).push k hwf

theorem over_append (old post vs : List Value) (h : vs.length ≤ post.length) : over (old ++ post) old.length vs = old ++ vs ++ post.drop vs.length := by
  apply List.ext_getElem?
  intro n
  rw [over_get _ _ _ _ (by simp; omega)]
  by_cases h1 : n < old.length
  · rw [if_neg (by omega), List.getElem?_append_left h1, List.append_assoc, List.getElem?_append_left h1]
  · by_cases h2 : n < old.length + vs.length
    · rw [if_pos (by omega), List.append_assoc, List.getElem?_append_right (by omega), List.getElem?_append_left (by omega)]
    · rw [if_neg (by omega), List.getElem?_append_right (by omega), List.append_assoc, List.getElem?_append_right (by omega), List.getElem?_append_right (by omega), List.getElem?_drop]
      congr 1; omega

theorem zeroB_ints {P : Program} {e : TypeId} {k : IntKind} (h : zeroB P e = some [.int k 0]) {z : Value} {w : World} (hz : (zeroValue e).run P w = .ok z w) (n : Nat) :
    Builtin.zeroCells z.cells n = ((List.replicate n (0 : Int)).map (Value.int k)).toArray := by
  obtain ⟨v, hv, he⟩ := zeroB_ok h w
  rw [hz] at hv
  cases hv
  rw [he]
  apply Array.ext
  · simp [Builtin.zeroCells]
  · intro i h1 h2
    simp [Builtin.zeroCells, SC.val, Nat.mod_one]

theorem zeroB_val {P : Program} {e : TypeId} {l : List SC} (h : zeroB P e = some l) : ∃ z, (∀ w, (zeroValue e).run P w = .ok z w) ∧ z.cells = (l.map SC.val).toArray := by
  unfold zeroB at h
  split at h
  · rename_i i hi
    split at h
    · rename_i v hv
      exact ⟨v, fun w => by simp [zeroValue, typeInfo, hi, hv], by rw [← cstAll_ok h]⟩
    · cases h
  · cases h

theorem run_append_grow {C : Ctx} {H : Heap} {T : Tm} {a : Act} {w : World} {st xt ty e : TypeId} {size bytes : Nat} (ht : AppT C.P st xt e size bytes) (hb0 : bytes ≠ 0) {x : SC} {n : Nat} {vs : Nat → List Value}
    (hsrc : Src C H x size n vs) {base : Option Addr} {len cap : Nat} {old : List Value} (ho : ∀ w, Rep C H w → (Builtin.firstCells size len (.slice base len cap)).run C.P w = .ok old.toArray w)
    (hgt : cap < len + n) (hb : (2 * (len + n) + 192) * bytes ≤ 281474976710656) (hi64 : len + n < 9223372036854775808) {z : Value} (hz : ∀ w, (zeroValue e).run C.P w = .ok z w) (hw : Rep C H w)
    {d : Nat} {K : Tm → Heap → Prop} {c0 : Nat → CT} (hwf : ∀ c, (c0 c).wf) (hc0 : ∀ c, (c0 c).vals.toArray = old.toArray ++ (vs n).toArray ++ Builtin.zeroCells z.cells c)
    (hK : ∀ (b c : Nat) (a' : Act) (w' : World), Rep C ((d, b, .full e (c0 c)) :: H) w' → a' = a.put (some d) (.slice (some ⟨b, 0, none⟩) (len + n) (len + n + c)) → Holds C K a' w') :
    ∃ v w', (Builtin.append_ #[st, xt] ty #[.slice base len cap, x.val]).run C.P w = .ok v w' ∧ Holds C K (a.put (some d) v) w' := by
  obtain ⟨c, hc, hr⟩ := run_append_new (ty := ty) ht (hsrc w hw).1 (fun w' e => (hsrc w' (by subst e; exact hw.drewN)).2 n (Nat.le_refl _)) (fun w' e => ho w' (by subst e; exact hw.drewN)) hgt hb hi64 hz hb0
  refine ⟨_, _, hr, ?_⟩
  rw [← hc0 (c - (len + n))]
  refine hK w.heap.size (c - (len + n)) _ _ (hw.pushD d (hwf _)) ?_
  rw [show len + n + (c - (len + n)) = c by omega]

theorem mappendI_ok {C : Ctx} {d : Nat} {T : Tm} {H : Heap} {st xt ty e : TypeId} {k : IntKind} {bytes : Nat} {s x : SC} {K : Tm → Heap → Prop} {a : Act} {w : World}
    (ht : AppT C.P st xt e 1 bytes) (hz : zeroB C.P e = some [.int k 0]) (hb0 : bytes ≠ 0) (h : mappendI C.P C.N d T H e k bytes s x K) (ha : Fits C T a) (hw : Rep C H w) :
    ∃ v w', (Builtin.append_ #[st, xt] ty #[s.val, x.val]).run C.P w = .ok v w' ∧ Holds C K (a.put (some d) v) w' := by
  obtain ⟨z, hzr, hzc⟩ := zeroB_val hz
  unfold mappendI at h
  split at h
  · obtain ⟨new, hK, hsrc⟩ := srcInts_ok h
    obtain ⟨⟨hb1, hb2⟩, h⟩ := hK
    cases new with
    | nil =>
      change (match Nat.blt d C.N with | true => K ((d, .b (.one .nilsl)) :: T) H | false => False) at h
      split at h
      · rename_i hd
        refine ⟨_, w, run_append_in (w' := w) ht (hsrc w hw).1 ((hsrc w hw).2 _ (Nat.le_refl _)) (by simp) (by simp), ?_⟩
        exact ⟨_, _, ha.put hd (.b (.one .nilsl)), hw, h⟩
      · exact h.elim
    | cons n l =>
      refine run_append_grow (T := T) (d := d) (K := K) (a := a) ht hb0 hsrc (base := none) (len := 0) (cap := 0) (old := []) (fun w _ => by simp [Builtin.firstCells]) (by simp) (by simpa using hb1) (by simpa using hb2) hzr hw
        (c0 := fun c => .ints k ((n :: l) ++ List.replicate c 0)) (fun _ => trivial) (fun c => by rw [zeroB_ints hz (hzr w)]; simp [CT.vals]) ?_
      rintro b c a' w' hw' rfl
      have h := h.go b (List.replicate c 0)
      change (match Nat.blt d C.N with | true => _ | false => False) at h
      split at h
      · rename_i hd
        have hfit := ha.put hd (.b (.one (.sl d b 0 0 1 (n :: l).length ((n :: l).length + (List.replicate c (0 : Int)).length))))
        refine ⟨_, _, ?_, hw', h⟩
        simpa [TV.val, BV.val, SC.val] using hfit
      · exact h.elim
  · rename_i key b len cap
    split at h
    · rename_i b' e' k' L hg
      obtain ⟨⟨p1, p2⟩, rfl, rfl, rfl, hL, hp1, hcap, h⟩ := h
      dsimp only at hL hp1 h
      obtain ⟨new, hK, hsrc⟩ := srcInts_ok h
      obtain ⟨⟨hb1, hb2⟩, h⟩ := hK
      have hi := hw.is _ _ _ hg
      have hLl : L.length = len + p2.length := by rw [hL]; simp [hp1]
      by_cases hle : len + new.length ≤ cap
      · obtain ⟨lo, hi', hh, hf, _⟩ := hi
        obtain ⟨w', hr, hb, e1, e2, e3, e4, e5⟩ := run_storeCells (P := C.P) (b := b) (o := len) (new.map (Value.int k')) 0 w (L.map (Value.int k')) (by intro v hv; simp only [List.mem_map] at hv; obtain ⟨n, _, rfl⟩ := hv; rfl)
          (by simpa [CT.vals] using hh) (by simpa [CT.vals] using hf) (by simp; omega)
        have hov : over (L.map (Value.int k')) (len + 0) (new.map (Value.int k')) = (p1 ++ new ++ p2.drop new.length).map (Value.int k') := by
          rw [hL, List.map_append, Nat.add_zero, show len = (p1.map (Value.int k')).length by simpa using hp1.symm, over_append _ _ _ (by simp; omega)]
          simp
        rw [hov] at hb
        have hfz : hi' ≤ lo ∨ (CT.ints k' (p1 ++ new ++ p2.drop new.length)).vals.length ≤ lo := by
          rcases hf with hf | hf
          · exact .inl hf
          · right; simp [CT.vals] at hf ⊢; omega
        have hw' : Rep C ((key, b, .full e' (.ints k' (p1 ++ new ++ p2.drop new.length))) :: H) w' :=
          hw.write (hb' := .full e' (.ints k' (p1 ++ new ++ p2.drop new.length))) hg rfl ⟨lo, hi', hb, hfz, trivial⟩ e1 e2 e3 (by omega) (fun c _ hc => e5 c hc)
        have hw2 := hw'.rekey (d := d) (k := key) (by rw [hget_cons, if_pos rfl]) rfl
        simp only [hdel, Nat.beq_refl] at hw2
        refine ⟨_, w', run_append_in (w' := w') ht (hsrc w hw).1 ((hsrc w hw).2 _ (Nat.le_refl _)) hle ?_, ?_⟩
        · simp only [Nat.zero_mul, Nat.add_zero, Nat.mul_one, add_addr, Nat.zero_add]
          simpa using hr
        · have h := h.go b (p2.drop new.length)
          split at h
          · rename_i hd
            have hfit := ha.put hd (.b (.one (.sl d b 0 0 1 (len + new.length) (len + new.length + (p2.drop new.length).length))))
            refine ⟨_, _, ?_, hw2, h⟩
            have : len + new.length + (p2.drop new.length).length = cap := by simp; omega
            rw [this] at hfit ⊢
            simpa [TV.val, BV.val, SC.val] using hfit
          · exact h.elim
      · refine run_append_grow (T := T) (d := d) (K := K) (a := a) ht hb0 hsrc (base := some ⟨b, 0 + 0 * 1, none⟩) (len := len) (cap := cap) (old := p1.map (Value.int k')) (fun w hw => ?_) (by omega) hb1 hb2 hzr hw
          (c0 := fun c => .ints k' (p1 ++ new ++ List.replicate c 0)) (fun _ => trivial) (fun c => by rw [zeroB_ints hz (hzr w)]; simp [CT.vals]) ?_
        · simp only [Builtin.firstCells, Nat.mul_one, Nat.zero_mul, Nat.add_zero]
          refine run_loadCells (by simp [hp1]) fun j v hv => ?_
          have hj : j < p1.length := by have := (List.getElem?_eq_some_iff.1 hv).1; simpa using this
          have := full_cell (hw.is _ _ _ hg) (ints_at (k := k') (l := L) (n := j) (by omega))
          rw [Nat.zero_add, this, ← hv, hL]
          simp [hj, List.getElem?_append_left]
        · rintro b2 c a' w' hw' rfl
          have h := h.go b2 (List.replicate c 0)
          split at h
          · rename_i hd
            have hfit := ha.put hd (.b (.one (.sl d b2 0 0 1 (len + new.length) (len + new.length + (List.replicate c (0 : Int)).length))))
            refine ⟨_, _, ?_, hw'.sub (H' := (d, b2, .full e' (.ints k' (p1 ++ new ++ List.replicate c 0))) :: hdel H key) (fun t x hx => ?_), h⟩
            · simpa [TV.val, BV.val, SC.val] using hfit
            · rw [hget_cons] at hx ⊢
              split
              · rename_i e; rw [if_pos e] at hx; exact hx
              · rename_i e; rw [if_neg e, hget_del] at hx; split at hx; · cases hx
                · exact hx
          · exact h.elim
    · exact h.elim
  · exact h.elim
end Go.SX
