/- 'append' of rows of cells; 'copy'; rows that are made. -/
import Derived.Test.YtiijaiiejogbjaaDoorSxApp2
set_option linter.unusedSimpArgs false
set_option linter.unusedVariables false
namespace Go.SX

abbrev flat (l : List (List SC)) : List Value := l.flatMap fun r => r.map SC.val
theorem flat_append (a b : List (List SC)) : flat (a ++ b) = flat a ++ flat b := List.flatMap_append
theorem flat_drop {sz : Nat} {l : List (List SC)} (hl : ∀ r ∈ l, r.length = sz) (o : Nat) : (flat l).drop (o * sz) = flat (l.drop o) := by
  have h := flat_sub sz l hl o l.length
  rw [List.take_of_length_le (by rw [List.length_drop, flat_length sz l hl]; omega), List.take_of_length_le (by simp)] at h
  exact h

theorem zeroB_rows {P : Program} {e : TypeId} {z0 : List SC} (h : zeroB P e = some z0) {z : Value} {w : World} (hz : (zeroValue e).run P w = .ok z w) (n : Nat) :
    Builtin.zeroCells z.cells n = (flat (List.replicate n z0)).toArray := by
  obtain ⟨v, hv, he⟩ := zeroB_ok h w
  rw [hz] at hv
  cases hv
  have hwf : ∀ r ∈ List.replicate n z0, r.length = z0.length := fun r hr => by rw [(List.mem_replicate.1 hr).2]
  have hlen : (flat (List.replicate n z0)).length = n * z0.length := by rw [flat_length _ _ hwf]; simp
  rw [he]
  apply Array.ext
  · simp only [Builtin.zeroCells, Array.size_map, Array.size_range, List.size_toArray, List.length_map, hlen]
  · intro i h1 h2
    have hi : i < n * z0.length := by simpa [hlen] using h2
    have hpos : 0 < z0.length := by
      rcases Nat.eq_zero_or_pos z0.length with h | h
      · rw [h] at hi; simp at hi
      · exact h
    have hm : i % z0.length < z0.length := Nat.mod_lt _ hpos
    have hd : i / z0.length < n := (Nat.div_lt_iff_lt_mul hpos).2 hi
    have hg := flat_get z0.length _ hwf (i / z0.length) (i % z0.length) z0 (by simp [hd]) hm
    rw [show i / z0.length * z0.length + i % z0.length = i by rw [Nat.mul_comm]; exact Nat.div_add_mod i z0.length] at hg
    have e2 : (flat (List.replicate n z0)).toArray[i] = (z0[i % z0.length]).val := by
      have := hg
      rw [List.getElem?_eq_getElem (by rw [hlen]; exact hi), List.getElem?_eq_getElem hm] at this
      simpa using this
    rw [e2]
    simp [Builtin.zeroCells, hm]

theorem mappendR_ok {C : Ctx} {d : Nat} {T : Tm} {H : Heap} {st xt ty e : TypeId} {sz bytes : Nat} {z0 : List SC} {s x : SC} {K : Tm → Heap → Prop} {a : Act} {w : World}
    (ht : AppT C.P st xt e sz bytes) (hz : zeroB C.P e = some z0) (hz0 : z0.length = sz) (hb0 : bytes ≠ 0) (h : mappendR C.P C.N d T H e sz bytes s x K) (ha : Fits C T a) (hw : Rep C H w) :
    ∃ v w', (Builtin.append_ #[st, xt] ty #[s.val, x.val]).run C.P w = .ok v w' ∧ Holds C K (a.put (some d) v) w' := by
  obtain ⟨z, hzr, hzc⟩ := zeroB_val hz
  have hrep : ∀ c, ∀ r ∈ List.replicate c z0, r.length = sz := fun c r hr => by rw [(List.mem_replicate.1 hr).2, hz0]
  unfold mappendR at h
  split at h
  · obtain ⟨new, hK, hnwf, hsrc⟩ := srcRows_ok h hw
    obtain ⟨⟨hb1, hb2⟩, h⟩ := hK
    cases new with
    | nil =>
      change (match Nat.blt d C.N with | true => K ((d, .b (.one .nilsl)) :: T) H | false => False) at h
      split at h
      · rename_i hd
        refine ⟨_, w, run_append_in (w' := w) ht (hsrc w hw).1 ((hsrc w hw).2 _ (Nat.le_refl _)) (by simp) (by simp), ?_⟩
        exact ⟨_, _, ha.put hd (.b (.one .nilsl)), hw, h⟩
      · exact h.elim
    | cons n l =>
      refine run_append_grow (T := T) (d := d) (K := K) (a := a) ht hb0 hsrc (base := none) (len := 0) (cap := 0) (old := []) (fun w _ => by simp [Builtin.firstCells]) (by simp) (by simpa using hb1) (by simpa using hb2) hzr hw
        (c0 := fun c => .rows sz ((n :: l) ++ List.replicate c z0)) (fun c r hr => by
          rcases List.mem_append.1 hr with hr | hr
          · exact hnwf r hr
          · exact hrep c r hr) (fun c => by rw [zeroB_rows hz (hzr w)]; simp [CT.vals]) ?_
      rintro b c a' w' hw' rfl
      have h := h.go b (List.replicate c z0)
      change (match Nat.blt d C.N with | true => _ | false => False) at h
      split at h
      · rename_i hd
        have hfit := ha.put hd (.b (.one (.sl d b 0 0 sz (n :: l).length ((n :: l).length + (List.replicate c z0).length))))
        refine ⟨_, _, ?_, hw', h⟩
        simpa [TV.val, BV.val, SC.val] using hfit
      · exact h.elim
  · rename_i key b sz' len cap
    split at h
    · rename_i b' e' s' L hg
      obtain ⟨⟨p1, p2⟩, rfl, rfl, rfl, rfl, hL, hp1, hcap, h⟩ := h
      dsimp only at hL hp1 h
      obtain ⟨new, hK, hnwf, hsrc⟩ := srcRows_ok h hw
      obtain ⟨⟨hb1, hb2⟩, h⟩ := hK
      have hi := hw.is _ _ _ hg
      have hLwf : ∀ r ∈ L, r.length = sz' := hi.wf
      have hp1wf : ∀ r ∈ p1, r.length = sz' := fun r hr => hLwf r (by rw [hL]; simp [hr])
      have hp2wf : ∀ r ∈ p2, r.length = sz' := fun r hr => hLwf r (by rw [hL]; simp [hr])
      have hLl : L.length = len + p2.length := by rw [hL]; simp [hp1]
      have f1 : (flat p1).length = len * sz' := by rw [flat_length sz' p1 hp1wf, hp1]
      have f2 : (flat p2).length = p2.length * sz' := flat_length sz' p2 hp2wf
      have fn : (flat new).length = new.length * sz' := flat_length sz' new hnwf
      by_cases hle : len + new.length ≤ cap
      · obtain ⟨lo, hi', hh, hf, _⟩ := hi
        have hnp : new.length * sz' ≤ p2.length * sz' := Nat.mul_le_mul_right _ (by omega)
        obtain ⟨w', hr, hb, e1, e2, e3, e4, e5⟩ := run_storeCells (P := C.P) (b := b) (o := len * sz') (flat new) 0 w (flat L) (by
            intro v hv
            obtain ⟨r, _, hv⟩ := List.mem_flatMap.1 hv
            obtain ⟨c, _, rfl⟩ := List.mem_map.1 hv
            exact c.oneCell)
          (by simpa [CT.vals] using hh) (by simpa [CT.vals] using hf) (by rw [hL, flat_append, List.length_append, f1, f2, fn]; omega)
        have hov : over (flat L) (len * sz' + 0) (flat new) = flat (p1 ++ new ++ p2.drop new.length) := by
          rw [hL, flat_append, Nat.add_zero, ← f1, over_append _ _ _ (by rw [fn, f2]; exact hnp), fn, flat_drop hp2wf, flat_append, flat_append]
        rw [hov] at hb
        have hwf2 : (CT.rows sz' (p1 ++ new ++ p2.drop new.length)).wf := fun r hr => by
          rcases List.mem_append.1 hr with hr | hr
          · rcases List.mem_append.1 hr with hr | hr
            · exact hp1wf r hr
            · exact hnwf r hr
          · exact hp2wf r (List.mem_of_mem_drop hr)
        have hlen2 : (flat (p1 ++ new ++ p2.drop new.length)).length = (flat L).length := by rw [← hov, over_length]
        have hfz : hi' ≤ lo ∨ (CT.rows sz' (p1 ++ new ++ p2.drop new.length)).vals.length ≤ lo := by
          rcases hf with hf | hf
          · exact .inl hf
          · right
            change (flat _).length ≤ lo
            rw [hlen2]; exact hf
        have hw' : Rep C ((key, b, .full e' (.rows sz' (p1 ++ new ++ p2.drop new.length))) :: H) w' :=
          hw.write (hb' := .full e' (.rows sz' (p1 ++ new ++ p2.drop new.length))) hg rfl ⟨lo, hi', hb, hfz, hwf2⟩ e1 e2 e3 (by omega) (fun c _ hc => e5 c hc)
        have hw2 := hw'.rekey (d := d) (k := key) (by rw [hget_cons, if_pos rfl]) rfl
        simp only [hdel, Nat.beq_refl] at hw2
        refine ⟨_, w', run_append_in (w' := w') ht (hsrc w hw).1 ((hsrc w hw).2 _ (Nat.le_refl _)) hle ?_, ?_⟩
        · simp only [Nat.zero_mul, Nat.add_zero, add_addr, Nat.zero_add]
          simpa using hr
        · have h := h.go b (p2.drop new.length)
          split at h
          · rename_i hd
            have hfit := ha.put hd (.b (.one (.sl d b 0 0 sz' (len + new.length) (len + new.length + (p2.drop new.length).length))))
            refine ⟨_, _, ?_, hw2, h⟩
            have : len + new.length + (p2.drop new.length).length = cap := by simp; omega
            rw [this] at hfit ⊢
            simpa [TV.val, BV.val, SC.val] using hfit
          · exact h.elim
      · refine run_append_grow (T := T) (d := d) (K := K) (a := a) ht hb0 hsrc (base := some ⟨b, 0 + 0 * sz', none⟩) (len := len) (cap := cap) (old := flat p1) (fun w hw => ?_) (by omega) hb1 hb2 hzr hw
          (c0 := fun c => .rows sz' (p1 ++ new ++ List.replicate c z0)) (fun c r hr => by
            rcases List.mem_append.1 hr with hr | hr
            · rcases List.mem_append.1 hr with hr | hr
              · exact hp1wf r hr
              · exact hnwf r hr
            · exact hrep c r hr) (fun c => by rw [zeroB_rows hz (hzr w)]; simp [CT.vals]) ?_
        · simp only [Builtin.firstCells, Nat.zero_mul, Nat.add_zero]
          refine run_loadCells f1 fun j v hv => ?_
          have hj : j < (flat p1).length := (List.getElem?_eq_some_iff.1 hv).1
          have := full_cell (n := j) (v := v) (hw.is _ _ _ hg) (by
            change (flat L)[j]? = some v
            rw [hL, flat_append, List.getElem?_append_left hj]; exact hv)
          rw [Nat.zero_add, this]
        · rintro b2 c a' w' hw' rfl
          have h := h.go b2 (List.replicate c z0)
          split at h
          · rename_i hd
            have hfit := ha.put hd (.b (.one (.sl d b2 0 0 sz' (len + new.length) (len + new.length + (List.replicate c z0).length))))
            refine ⟨_, _, ?_, hw'.sub (H' := (d, b2, .full e' (.rows sz' (p1 ++ new ++ List.replicate c z0))) :: hdel H key) (fun t x hx => ?_), h⟩
            · simpa [TV.val, BV.val, SC.val] using hfit
            · rw [hget_cons] at hx ⊢
              split
              · rename_i e; rw [if_pos e] at hx; exact hx
              · rename_i e; rw [if_neg e, hget_del] at hx; split at hx; · cases hx
                · exact hx
          · exact h.elim
    · exact h.elim
  · exact h.elim

/-! ### 'copy' into a row of numbers -/
def mcopy (P : Program) (H : Heap) (k : IntKind) (dst x : SC) (K : Int → Heap → Prop) : Prop :=
  match dst with
  | .sl key b 0 o 1 len cap => (match hget H key with
    | some (b', .full e (.ints k' L)) => srcInts P H k x fun src => Chk (b = b' ∧ k' = k ∧ o + len ≤ L.length)
        (K (min src.length len : Nat) ((key, b, .full e (.ints k (L.take o ++ src.take (min src.length len) ++ L.drop (o + min src.length len)))) :: H))
    | _ => False)
  | _ => False

theorem mcopy_ok {C : Ctx} {H : Heap} {dt xt ty e : TypeId} {k : IntKind} {dst x : SC} {K : Int → Heap → Prop} {w : World} (hdt : C.P.underlying dt = some (.slice e)) (hsz : sizB C.P e = some 1)
    (h : mcopy C.P H k dst x K) (hw : Rep C H w) :
    ∃ n w' H', (Builtin.copy_ #[dt, xt] ty #[dst.val, x.val]).run C.P w = .ok (.int .i64 n) w' ∧ Rep C H' w' ∧ K n H' := by
  unfold mcopy at h
  split at h
  · rename_i key b o len cap
    split at h
    · rename_i b' e' k' L hg
      obtain ⟨src, hK, hsrc⟩ := srcInts_ok h
      obtain ⟨⟨rfl, rfl, hl⟩, hK⟩ := hK
      obtain ⟨hlen, hfirst⟩ := hsrc w hw
      have hf := hfirst (min src.length len) (Nat.min_le_left _ _)
      obtain ⟨lo, hi', hh, hfz, _⟩ := hw.is _ _ _ hg
      have hn : min src.length len ≤ len := Nat.min_le_right _ _
      have htk : (src.take (min src.length len)).length = min src.length len := by rw [List.length_take]; omega
      obtain ⟨w', hr, hb, e1, e2, e3, e4, e5⟩ := run_storeCells (P := C.P) (b := b) (o := o) ((src.take (min src.length len)).map (Value.int k')) 0 w (L.map (Value.int k'))
        (by intro v hv; simp only [List.mem_map] at hv; obtain ⟨n, _, rfl⟩ := hv; rfl) (by simpa [CT.vals] using hh) (by simpa [CT.vals] using hfz) (by rw [List.length_map, htk, List.length_map]; omega)
      have hov : over (L.map (Value.int k')) (o + 0) ((src.take (min src.length len)).map (Value.int k')) = (L.take o ++ src.take (min src.length len) ++ L.drop (o + min src.length len)).map (Value.int k') := by
        have h1 : L.map (Value.int k') = (L.take o).map (Value.int k') ++ (L.drop o).map (Value.int k') := by rw [← List.map_append, List.take_append_drop]
        have h2 : o = ((L.take o).map (Value.int k')).length := by simp; omega
        rw [Nat.add_zero]
        conv => lhs; rw [h1]; arg 2; rw [h2]
        rw [over_append _ _ _ (by rw [List.length_map, htk, List.length_map, List.length_drop]; omega)]
        simp only [List.map_append, List.length_map, htk, List.map_drop, List.drop_drop]
      rw [hov] at hb
      have hlen2 : (L.take o ++ src.take (min src.length len) ++ L.drop (o + min src.length len)).length = L.length := by
        simp only [List.length_append, htk, List.length_take, List.length_drop]; omega
      refine ⟨_, w', _, ?_, hw.write (hb' := .full e' (.ints k' (L.take o ++ src.take (min src.length len) ++ L.drop (o + min src.length len)))) hg rfl ⟨lo, hi', hb, ?_, trivial⟩ e1 e2 e3 (by omega) (fun c _ hc => e5 c hc), hK⟩
      · have hnm : Nat.min src.length len = min src.length len := rfl
        simp only [Builtin.copy_, List.getElem?_toArray, List.getElem?_cons_zero, List.getElem?_cons_succ, Sem.run_bind, run_underlying hdt, Result.andThen_ok, SC.val, sizB_run hsz, Sem.run_pure] at hlen hf ⊢
        simp only [hlen, Result.andThen_ok, hnm, hf, Nat.zero_add, Nat.mul_one]
        simp only [hr, Result.andThen_ok, goInt]
      · rcases hfz with hfz | hfz
        · exact .inl hfz
        · right; simp only [CT.vals, List.length_map] at hfz ⊢; rw [hlen2]; exact hfz
    · exact h.elim
  · exact h.elim
end Go.SX
