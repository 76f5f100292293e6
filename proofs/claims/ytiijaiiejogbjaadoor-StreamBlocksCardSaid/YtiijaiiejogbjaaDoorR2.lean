/- The document's quarter round. Printed by gen_r2.py. -/
import Derived.Test.YtiijaiiejogbjaaDoorR1
set_option linter.unusedVariables false
set_option linter.unusedSimpArgs false
set_option maxRecDepth 10000
namespace Go.Proofs.YtiijaiiejogbjaaDoor.Str
open Go Go.SX Go.Chacha

def stepA (l : List Int) (a b : Nat) : List Int := l.set (0 + (a : Int).toNat) ((l.getD (0 + (a : Int).toNat) 0 + l.getD (0 + (b : Int).toNat) 0).tmod 4294967296)
def stepR (l : List Int) (d a n : Nat) : List Int := l.set (0 + (d : Int).toNat) (rotl (xorI (l.getD (0 + (d : Int).toNat) 0) (l.getD (0 + (a : Int).toNat) 0)) n)
def W16 (l : List Int) : Prop := ∀ i, i < 16 → 0 ≤ l.getD i 0 ∧ l.getD i 0 < 4294967296
theorem W16.set {l : List Int} (h : W16 l) (i : Nat) {x : Int} (hx : 0 ≤ x ∧ x < 4294967296) : W16 (l.set i x) := by
  intro j hj
  rw [getD_set]
  split
  · exact hx
  · exact h j hj
theorem stepA_eq {l : List Int} (h : W16 l) {a b : Nat} (ha : a < 16) (hb : b < 16) : stepA l a b = l.set a (add32 (l.getD a 0) (l.getD b 0)) := by
  unfold stepA
  rw [show 0 + (a : Int).toNat = a by omega, show 0 + (b : Int).toNat = b by omega]
  have h1 := h a ha
  have h2 := h b hb
  rw [Int.tmod_eq_emod_of_nonneg (by omega)]; rfl
theorem stepR_eq (l : List Int) (d a n : Nat) : stepR l d a n = l.set d (rotl (xorI (l.getD d 0) (l.getD a 0)) n) := by
  unfold stepR
  rw [show 0 + (a : Int).toNat = a by omega, show 0 + (d : Int).toNat = d by omega]
theorem stepA_ok {l : List Int} (h : W16 l) {a b : Nat} (ha : a < 16) (hb : b < 16) : W16 (stepA l a b) := by rw [stepA_eq h ha hb]; exact h.set a (add32_w _ _)
theorem stepR_ok {l : List Int} (h : W16 l) {d a : Nat} (hd : d < 16) (ha : a < 16) {n : Nat} (hn : n ≤ 32) : W16 (stepR l d a n) := by rw [stepR_eq]; exact h.set d (rotl_w (xorI_w (h d hd) (h a ha)) hn)
theorem stepA_length (l : List Int) (a b : Nat) : (stepA l a b).length = l.length := List.length_set
theorem stepR_length (l : List Int) (d a n : Nat) : (stepR l d a n).length = l.length := List.length_set
theorem steps_eq {l : List Int} (h : W16 l) (r1 r2 : Nat) {a b c d : Nat} (ha : a < 16) (hb : b < 16) (hc : c < 16) (hd : d < 16) (h1 : r1 ≤ 32) (h2 : r2 ≤ 32) : stepR (stepA (stepR (stepA l a b) d a r1) c d) b c r2 = half r1 r2 l a b c d := by
  rw [stepR_eq, stepA_eq (stepR_ok (stepA_ok h ha hb) hd ha h1) hc hd, stepR_eq, stepA_eq h ha hb]; rfl
theorem leftx {x y : Int} (hx : 0 ≤ x ∧ x < 4294967296) (hy : 0 ≤ y ∧ y < 4294967296) {n : Nat} (hn : n ≤ 32) :
    Ctr Tryd.prog 26 [.int .i64 (ixor .i64 x y), .int .i64 n] [] fun v H' => v.val = (TV.b (.one (.int .i64 (rotl (xorI x y) n)))).val := by
  have e : ixor .i64 x y = xorI x y := ixor_i64 hx.1 (by omega) hy.1 (by omega)
  rw [e]
  exact (left (xorI_w hx hy) hn).mono fun v H' h => by rw [h.1]

theorem quarterR (T b cap : Nat) (l : List Int) (hl : 16 ≤ l.length) (hw : W16 l) (qa qb qc qd : Nat) (ha : qa < 16) (hb : qb < 16) (hc : qc < 16) (hd : qd < 16) :
    Ctr Tryd.prog 23 [(SC.sl 0 b 0 0 1 16 cap).val, .int .i64 qa, .int .i64 qb, .int .i64 qc, .int .i64 qd] [(0, b, .full T (.ints .i64 l))]
      fun v H' => v = .tup [] ∧ H' = [(0, b, .full T (.ints .i64 (qr l qa qb qc qd)))] := by
  refine Ctr.of (args := [.b (.one (.sl 0 b 0 0 1 16 cap)), .b (.one (.int .i64 qa)), .b (.one (.int .i64 qb)), .b (.one (.int .i64 qc)), .b (.one (.int .i64 qd))]) Tryd.func23 rfl (by kernel_rfl) rfl fun w0 => ?_
  have fa : 0 ≤ (qa : Int) ∧ (qa : Int) < ((16 : Nat) : Int) := by omega
  have fb : 0 ≤ (qb : Int) ∧ (qb : Int) < ((16 : Nat) : Int) := by omega
  have fc : 0 ≤ (qc : Int) ∧ (qc : Int) < ((16 : Nat) : Int) := by omega
  have fd : 0 ≤ (qd : Int) ∧ (qd : Int) < ((16 : Nat) : Int) := by omega
  have inb : ∀ {m : List Int} {q : Nat}, 16 ≤ m.length → q < 16 → 0 + (q : Int).toNat < m.length := fun h1 h2 => by omega
  let l1 := stepA l qa qb
  have hw1 : W16 l1 := stepA_ok hw ha hb
  have hl1 : 16 ≤ l1.length := by rw [stepA_length]; exact hl
  refine Draw.tailQ 12 (by kernel_rfl) (by kernel_rfl) ?_
  refine Chk.mk rfl ?_
  refine Chk.mk fa ?_
  refine Chk.mk rfl ?_
  refine Chk.mk (inb hl ha) ?_
  refine Chk.mk rfl ?_
  refine Chk.mk fb ?_
  refine Chk.mk rfl ?_
  refine Chk.mk (inb hl hb) ?_
  have wa := hw (0 + (qa : Int).toNat) (by omega)
  have wb := hw (0 + (qb : Int).toNat) (by omega)
  refine Wr.i64 (show -9223372036854775808 ≤ l.getD (0 + (qa : Int).toNat) 0 + l.getD (0 + (qb : Int).toNat) 0 ∧ l.getD (0 + (qa : Int).toNat) 0 + l.getD (0 + (qb : Int).toNat) 0 ≤ 9223372036854775807 by omega) ?_
  refine Chk.mk (by omega) ?_
  refine Chk.mk rfl ?_
  refine Chk.mk fa ?_
  refine Chk.mk ⟨rfl, rfl⟩ ?_
  refine Chk.mk ⟨rfl, inb hl ha⟩ ?_
  let l2 := stepR l1 qd qa 16
  have hw2 : W16 l2 := stepR_ok hw1 hd ha (by omega)
  have hl2 : 16 ≤ l2.length := by rw [stepR_length]; exact hl1
  refine Draw.tailQ 12 (by kernel_rfl) (by kernel_rfl) ?_
  refine Chk.mk rfl ?_
  refine Chk.mk fd ?_
  refine Chk.mk rfl ?_
  refine Chk.mk (inb hl1 hd) ?_
  refine Chk.mk rfl ?_
  refine Chk.mk fa ?_
  refine Chk.mk rfl ?_
  refine Chk.mk (inb hl1 ha) ?_
  refine CallQ.by (.b (.one (.int .i64 (rotl (xorI (l1.getD (0 + (qd : Int).toNat) 0) (l1.getD (0 + (qa : Int).toNat) 0)) 16)))) [] (leftx (hw1 (0 + (qd : Int).toNat) (by omega)) (hw1 (0 + (qa : Int).toNat) (by omega)) (n := 16) (by omega)) (fun k => rfl) trivial ?_
  refine Chk.mk rfl ?_
  refine Chk.mk fd ?_
  refine Chk.mk ⟨rfl, rfl⟩ ?_
  refine Chk.mk ⟨rfl, inb hl1 hd⟩ ?_
  let l3 := stepA l2 qc qd
  have hw3 : W16 l3 := stepA_ok hw2 hc hd
  have hl3 : 16 ≤ l3.length := by rw [stepA_length]; exact hl2
  refine Draw.tailQ 12 (by kernel_rfl) (by kernel_rfl) ?_
  refine Chk.mk rfl ?_
  refine Chk.mk fc ?_
  refine Chk.mk rfl ?_
  refine Chk.mk (inb hl2 hc) ?_
  refine Chk.mk rfl ?_
  refine Chk.mk fd ?_
  refine Chk.mk rfl ?_
  refine Chk.mk (inb hl2 hd) ?_
  have wc := hw2 (0 + (qc : Int).toNat) (by omega)
  have wd := hw2 (0 + (qd : Int).toNat) (by omega)
  refine Wr.i64 (show -9223372036854775808 ≤ l2.getD (0 + (qc : Int).toNat) 0 + l2.getD (0 + (qd : Int).toNat) 0 ∧ l2.getD (0 + (qc : Int).toNat) 0 + l2.getD (0 + (qd : Int).toNat) 0 ≤ 9223372036854775807 by omega) ?_
  refine Chk.mk (by omega) ?_
  refine Chk.mk rfl ?_
  refine Chk.mk fc ?_
  refine Chk.mk ⟨rfl, rfl⟩ ?_
  refine Chk.mk ⟨rfl, inb hl2 hc⟩ ?_
  let l4 := stepR l3 qb qc 12
  have hw4 : W16 l4 := stepR_ok hw3 hb hc (by omega)
  have hl4 : 16 ≤ l4.length := by rw [stepR_length]; exact hl3
  refine Draw.tailQ 12 (by kernel_rfl) (by kernel_rfl) ?_
  refine Chk.mk rfl ?_
  refine Chk.mk fb ?_
  refine Chk.mk rfl ?_
  refine Chk.mk (inb hl3 hb) ?_
  refine Chk.mk rfl ?_
  refine Chk.mk fc ?_
  refine Chk.mk rfl ?_
  refine Chk.mk (inb hl3 hc) ?_
  refine CallQ.by (.b (.one (.int .i64 (rotl (xorI (l3.getD (0 + (qb : Int).toNat) 0) (l3.getD (0 + (qc : Int).toNat) 0)) 12)))) [] (leftx (hw3 (0 + (qb : Int).toNat) (by omega)) (hw3 (0 + (qc : Int).toNat) (by omega)) (n := 12) (by omega)) (fun k => rfl) trivial ?_
  refine Chk.mk rfl ?_
  refine Chk.mk fb ?_
  refine Chk.mk ⟨rfl, rfl⟩ ?_
  refine Chk.mk ⟨rfl, inb hl3 hb⟩ ?_
  let l5 := stepA l4 qa qb
  have hw5 : W16 l5 := stepA_ok hw4 ha hb
  have hl5 : 16 ≤ l5.length := by rw [stepA_length]; exact hl4
  refine Draw.tailQ 12 (by kernel_rfl) (by kernel_rfl) ?_
  refine Chk.mk rfl ?_
  refine Chk.mk fa ?_
  refine Chk.mk rfl ?_
  refine Chk.mk (inb hl4 ha) ?_
  refine Chk.mk rfl ?_
  refine Chk.mk fb ?_
  refine Chk.mk rfl ?_
  refine Chk.mk (inb hl4 hb) ?_
  have wa := hw4 (0 + (qa : Int).toNat) (by omega)
  have wb := hw4 (0 + (qb : Int).toNat) (by omega)
  refine Wr.i64 (show -9223372036854775808 ≤ l4.getD (0 + (qa : Int).toNat) 0 + l4.getD (0 + (qb : Int).toNat) 0 ∧ l4.getD (0 + (qa : Int).toNat) 0 + l4.getD (0 + (qb : Int).toNat) 0 ≤ 9223372036854775807 by omega) ?_
  refine Chk.mk (by omega) ?_
  refine Chk.mk rfl ?_
  refine Chk.mk fa ?_
  refine Chk.mk ⟨rfl, rfl⟩ ?_
  refine Chk.mk ⟨rfl, inb hl4 ha⟩ ?_
  let l6 := stepR l5 qd qa 8
  have hw6 : W16 l6 := stepR_ok hw5 hd ha (by omega)
  have hl6 : 16 ≤ l6.length := by rw [stepR_length]; exact hl5
  refine Draw.tailQ 12 (by kernel_rfl) (by kernel_rfl) ?_
  refine Chk.mk rfl ?_
  refine Chk.mk fd ?_
  refine Chk.mk rfl ?_
  refine Chk.mk (inb hl5 hd) ?_
  refine Chk.mk rfl ?_
  refine Chk.mk fa ?_
  refine Chk.mk rfl ?_
  refine Chk.mk (inb hl5 ha) ?_
  refine CallQ.by (.b (.one (.int .i64 (rotl (xorI (l5.getD (0 + (qd : Int).toNat) 0) (l5.getD (0 + (qa : Int).toNat) 0)) 8)))) [] (leftx (hw5 (0 + (qd : Int).toNat) (by omega)) (hw5 (0 + (qa : Int).toNat) (by omega)) (n := 8) (by omega)) (fun k => rfl) trivial ?_
  refine Chk.mk rfl ?_
  refine Chk.mk fd ?_
  refine Chk.mk ⟨rfl, rfl⟩ ?_
  refine Chk.mk ⟨rfl, inb hl5 hd⟩ ?_
  let l7 := stepA l6 qc qd
  have hw7 : W16 l7 := stepA_ok hw6 hc hd
  have hl7 : 16 ≤ l7.length := by rw [stepA_length]; exact hl6
  refine Draw.tailQ 12 (by kernel_rfl) (by kernel_rfl) ?_
  refine Chk.mk rfl ?_
  refine Chk.mk fc ?_
  refine Chk.mk rfl ?_
  refine Chk.mk (inb hl6 hc) ?_
  refine Chk.mk rfl ?_
  refine Chk.mk fd ?_
  refine Chk.mk rfl ?_
  refine Chk.mk (inb hl6 hd) ?_
  have wc := hw6 (0 + (qc : Int).toNat) (by omega)
  have wd := hw6 (0 + (qd : Int).toNat) (by omega)
  refine Wr.i64 (show -9223372036854775808 ≤ l6.getD (0 + (qc : Int).toNat) 0 + l6.getD (0 + (qd : Int).toNat) 0 ∧ l6.getD (0 + (qc : Int).toNat) 0 + l6.getD (0 + (qd : Int).toNat) 0 ≤ 9223372036854775807 by omega) ?_
  refine Chk.mk (by omega) ?_
  refine Chk.mk rfl ?_
  refine Chk.mk fc ?_
  refine Chk.mk ⟨rfl, rfl⟩ ?_
  refine Chk.mk ⟨rfl, inb hl6 hc⟩ ?_
  let l8 := stepR l7 qb qc 7
  have hw8 : W16 l8 := stepR_ok hw7 hb hc (by omega)
  have hl8 : 16 ≤ l8.length := by rw [stepR_length]; exact hl7
  refine Draw.tailQ 12 (by kernel_rfl) (by kernel_rfl) ?_
  refine Chk.mk rfl ?_
  refine Chk.mk fb ?_
  refine Chk.mk rfl ?_
  refine Chk.mk (inb hl7 hb) ?_
  refine Chk.mk rfl ?_
  refine Chk.mk fc ?_
  refine Chk.mk rfl ?_
  refine Chk.mk (inb hl7 hc) ?_
  refine CallQ.by (.b (.one (.int .i64 (rotl (xorI (l7.getD (0 + (qb : Int).toNat) 0) (l7.getD (0 + (qc : Int).toNat) 0)) 7)))) [] (leftx (hw7 (0 + (qb : Int).toNat) (by omega)) (hw7 (0 + (qc : Int).toNat) (by omega)) (n := 7) (by omega)) (fun k => rfl) trivial ?_
  refine Chk.mk rfl ?_
  refine Chk.mk fb ?_
  refine Chk.mk ⟨rfl, rfl⟩ ?_
  refine Chk.mk ⟨rfl, inb hl7 hb⟩ ?_
  refine ⟨[(0, b, .full T (.ints .i64 l8))], ⟨rfl, trivial⟩, rfl, ?_⟩
  have e : l8 = qr l qa qb qc qd := by
    show stepR (stepA (stepR (stepA l4 qa qb) qd qa 8) qc qd) qb qc 7 = _
    rw [steps_eq hw4 8 7 ha hb hc hd (by omega) (by omega)]
    show half 8 7 (stepR (stepA (stepR (stepA l qa qb) qd qa 16) qc qd) qb qc 12) qa qb qc qd = _
    rw [steps_eq hw 16 12 ha hb hc hd (by omega) (by omega)]; rfl
  rw [e]
theorem half_append {l t : List Int} (r1 r2 : Nat) {a b c d : Nat} (hl : l.length = 16) (ha : a < 16) (hb : b < 16) (hc : c < 16) (hd : d < 16) : half r1 r2 (l ++ t) a b c d = half r1 r2 l a b c d ++ t := by
  have g : ∀ {m : List Int} {i : Nat}, m.length = 16 → i < 16 → (m ++ t).getD i 0 = m.getD i 0 := fun hm hi => by
    simp only [List.getD_eq_getElem?_getD, List.getElem?_append_left (hm.symm ▸ hi)]
  have s : ∀ {m : List Int} {i : Nat} {x : Int}, m.length = 16 → i < 16 → (m ++ t).set i x = m.set i x ++ t := fun hm hi => List.set_append_left _ _ (hm.symm ▸ hi)
  unfold half
  simp only [g hl ha, g hl hb, s hl ha]
  have h1 : (l.set a (add32 (l.getD a 0) (l.getD b 0))).length = 16 := by rw [List.length_set]; exact hl
  generalize l.set a (add32 (l.getD a 0) (l.getD b 0)) = m at h1 ⊢
  simp only [g h1 hd, g h1 ha, s h1 hd]
  have h2 : (m.set d (rotl (xorI (m.getD d 0) (m.getD a 0)) r1)).length = 16 := by rw [List.length_set]; exact h1
  generalize m.set d (rotl (xorI (m.getD d 0) (m.getD a 0)) r1) = m2 at h2 ⊢
  simp only [g h2 hc, g h2 hd, s h2 hc]
  have h3 : (m2.set c (add32 (m2.getD c 0) (m2.getD d 0))).length = 16 := by rw [List.length_set]; exact h2
  generalize m2.set c (add32 (m2.getD c 0) (m2.getD d 0)) = m3 at h3 ⊢
  simp only [g h3 hb, g h3 hc, s h3 hb]
theorem qr_append {l t : List Int} {a b c d : Nat} (hl : l.length = 16) (ha : a < 16) (hb : b < 16) (hc : c < 16) (hd : d < 16) : qr (l ++ t) a b c d = qr l a b c d ++ t := by
  unfold qr
  rw [half_append 16 12 hl ha hb hc hd, half_append 8 7 (by rw [half_length]; exact hl) ha hb hc hd]
theorem W16.of {l t : List Int} (hl : l.length = 16) (h : Words l) : W16 (l ++ t) := by
  intro i hi
  simp only [List.getD_eq_getElem?_getD, List.getElem?_append_left (hl.symm ▸ hi)]
  simpa only [List.getD_eq_getElem?_getD] using h i
end Go.Proofs.YtiijaiiejogbjaaDoor.Str
