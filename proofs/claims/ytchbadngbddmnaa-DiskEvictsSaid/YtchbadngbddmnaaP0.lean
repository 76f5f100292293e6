/- The laws of the disk, plainly: what is read, what is thrown out, what a crash leaves. -/
import Derived.Test.YtchbadngbddmnaaM2
set_option linter.unusedVariables false
set_option linter.unusedSimpArgs false
set_option maxRecDepth 10000
set_option maxHeartbeats 4000000
namespace Go.Proofs.Ytchbadngbddmnaa
open Go Go.SY
theorem putP_get (P : List Str) (x : OpT) (h : 0 ≤ x.2.1 ∧ x.2.1 < P.length) (q : Nat) : (putP P x).getD q [] = if x.2.1 = (q : Int) then x.2.2 else P.getD q [] := by
  unfold putP
  rw [List.getD_eq_getElem?_getD, List.getD_eq_getElem?_getD, List.getElem?_set]
  by_cases e : x.2.1 = (q : Int)
  · rw [if_pos e, if_pos (by omega), if_pos (by omega)]; rfl
  · rw [if_neg e, if_neg (by omega)]
/-- What is read, once more is written. -/
theorem read_put (most : Nat) (d : DS) (x : OpT) (hq : QOk d.P d.Q) (q : Nat) :
    lastR q ((putD most d x).P.getD q []) (putD most d x).Q = if x.2.1 = (q : Int) then x.2.2 else lastR q (d.P.getD q []) d.Q := by
  obtain ⟨P, Q, l, m, c, S, V, n⟩ := d
  unfold putD
  cases Q with
  | nil => rfl
  | cons y r =>
    dsimp only
    split
    · show lastR q _ ((y :: r) ++ [x]) = _
      unfold lastR
      rw [List.foldl_append]; rfl
    · have hy := hq y (List.mem_cons_self)
      show lastR q ((putP P y).getD q []) (r ++ [x]) = _
      rw [putP_get P y hy]
      unfold lastR
      rw [List.foldl_append]; rfl
theorem read_all (Q : List OpT) : ∀ (P : List Str), QOk P Q → ∀ q : Nat, (allP P Q).getD q [] = lastR q (P.getD q []) Q := by
  induction Q with
  | nil => intro P _ q; rfl
  | cons y r ih =>
    intro P h q
    have hy := h y (List.mem_cons_self)
    show (allP (putP P y) r).getD q [] = _
    rw [ih (putP P y) (fun z hz => by rw [putP_length]; exact h z (List.mem_cons_of_mem _ hz)) q, putP_get P y hy]
    rfl
/-- A disk that never crashes, as its reader sees it. -/
structure Sees (k : Nat) (d : DS) (W : List Str) : Prop where
  c : d.c = false
  l : d.l = -1
  p : d.P.length = 8
  n : d.n = k
  v : d.V.length = k
  w : W.length = 8
  r : ∀ q : Nat, q < 8 → W.getD q [] = lastR q (d.P.getD q []) d.Q
theorem putD_same (most : Nat) (d : DS) (x : OpT) : (putD most d x).c = d.c ∧ (putD most d x).l = d.l ∧ (putD most d x).n = d.n ∧ (putD most d x).V = d.V ∧ (putD most d x).P.length = d.P.length := by
  unfold putD; split
  · exact ⟨rfl, rfl, rfl, rfl, rfl⟩
  · split
    · exact ⟨rfl, rfl, rfl, rfl, rfl⟩
    · exact ⟨rfl, rfl, rfl, rfl, putP_length _ _⟩
theorem Sees.write {n : Nat} {d : DS} {W : List Str} (h : Sees n d W) (hq : QOk d.P d.Q) (p : Nat) (hp : p < 8) (s : Str) (hs : s.length = 256) :
    (writeD 3 d p s).2 = 0 ∧ Sees (n + 1) (writeD 3 d p s).1 (W.set p s) := by
  have e : writeD 3 d p s = (putD 3 (goD d (1, p, s)) (1, p, s), 0) := by
    unfold writeD
    rw [if_neg (by rw [h.c]; decide), if_neg (not_not_intro ⟨⟨by omega, by rw [h.p]; omega⟩, hs⟩), if_neg (by rw [h.l]; decide)]
  rw [e]
  obtain ⟨e1, e2, e3, e4, e5⟩ := putD_same 3 (goD d (1, p, s)) (1, p, s)
  refine ⟨rfl, e1.trans h.c, e2.trans ?_, e5.trans h.p, e3.trans ?_, ?_, ?_, fun q hq8 => ?_⟩
  · show max (-1) (d.l - 1) = -1
    rw [h.l]; decide
  · show d.n + 1 = _
    rw [h.n]; omega
  · rw [e4]; show (d.V ++ [_]).length = _
    rw [List.length_append, h.v]; rfl
  · rw [List.length_set]; exact h.w
  · dsimp only
    rw [read_put 3 (goD d (1, p, s)) (1, p, s) hq q]
    rw [List.getD_eq_getElem?_getD, List.getElem?_set]
    by_cases e : p = q
    · rw [if_pos e, if_pos (by rw [h.w]; exact hp), if_pos (by show (p : Int) = q; omega)]; rfl
    · rw [if_neg e, if_neg (by show ¬ (p : Int) = q; omega), ← List.getD_eq_getElem?_getD]; exact h.r q hq8
theorem Sees.flush {n : Nat} {d : DS} {W : List Str} (h : Sees n d W) (hq : QOk d.P d.Q) (hal : ∀ (Q : List OpT) (P : List Str), (allP P Q).length = P.length) :
    (flushD d).2 = 0 ∧ (flushD d).1.Q = [] ∧ Sees (n + 1) (flushD d).1 W := by
  have e : flushD d = ({ goD d (2, 0, []) with P := allP d.P d.Q, Q := [] }, 0) := by
    unfold flushD
    rw [if_neg (by rw [h.c]; decide), if_neg (by rw [h.l]; decide)]
  rw [e]
  refine ⟨rfl, rfl, h.c, ?_, ?_, ?_, ?_, h.w, fun q hq8 => ?_⟩
  · show max (-1) (d.l - 1) = -1
    rw [h.l]; decide
  · show (allP d.P d.Q).length = 8
    rw [hal]; exact h.p
  · show d.n + 1 = _
    rw [h.n]; omega
  · show (d.V ++ [_]).length = _
    rw [List.length_append, h.v]; rfl
  · show _ = lastR q ((allP d.P d.Q).getD q []) []
    rw [read_all d.Q d.P hq q]; exact h.r q hq8
theorem Sees.read {n : Nat} {d : DS} {W : List Str} (h : Sees n d W) (q : Nat) (hq : q < 8) : readD d q = (W.getD q [], 0) := by
  unfold readD
  rw [if_neg (by rw [h.c]; decide), if_neg (not_not_intro (show inP d.P q from ⟨by omega, by rw [h.p]; omega⟩)), h.r q hq]; rfl
/-- Swapped twice it is as it was. -/
theorem swap_len (d : DS) (p q : Int) : (swapD d p q).1.P.length = d.P.length := by
  unfold swapD; split
  · simp
  · rfl
theorem swap_twice (d : DS) (p q : Int) : swapD (swapD d p q).1 p q = (d, (swapD d p q).2) := by
  by_cases h : inP d.P p ∧ inP d.P q
  · have e : swapD d p q = ({ d with P := (d.P.set p.toNat (d.P.getD q.toNat [])).set q.toNat (d.P.getD p.toNat []) }, true) := if_pos h
    have h2 : inP (swapD d p q).1.P p ∧ inP (swapD d p q).1.P q := by
      unfold inP; rw [swap_len]; exact h
    have e2 : swapD (swapD d p q).1 p q = _ := if_pos h2
    rw [e2, e]
    obtain ⟨P, Q, l, m, c, S, V, n⟩ := d
    dsimp only at h ⊢
    obtain ⟨⟨h1, h2⟩, h3, h4⟩ := h
    congr 2
    have hp : p.toNat < P.length := by omega
    have hq : q.toNat < P.length := by omega
    apply List.ext_getElem? 
    intro i
    simp only [List.getD_eq_getElem?_getD, List.getElem?_set, List.length_set]
    by_cases a : q.toNat = i <;> by_cases b : p.toNat = i
    · have : p.toNat = q.toNat := by omega
      simp [a, b, this, hp, hq]
      subst a; simp [hq]
    · subst a
      simp [b, hq]
      by_cases c : q.toNat = p.toNat <;> simp_all
    · subst b
      simp [a, hp, hq]
    · simp [a, b]
  · have e : swapD d p q = (d, false) := if_neg h
    rw [e]; exact e
theorem allP_snoc (P : List Str) (Q : List OpT) (x : OpT) : allP P (Q ++ [x]) = putP (allP P Q) x := by
  unfold allP; rw [List.foldl_append]; rfl
/-- A disk of one cache, behind writes alone. -/
def evD (c : Nat) (Z : List Str) (V : List OpT) : DS := ⟨allP Z (V.take (V.length - c)), V.drop (V.length - c), -1, 0, false, [], V, V.length⟩
theorem evD_write (c : Nat) (hc : 1 ≤ c) (Z : List Str) (V : List OpT) (hal : ∀ (Q : List OpT) (P : List Str), (allP P Q).length = P.length) (p : Nat) (hp : p < Z.length) (s : Str) (hs : s.length = 256) :
    writeD c (evD c Z V) p s = (evD c Z (V ++ [(1, (p : Int), s)]), 0) := by
  have e : writeD c (evD c Z V) p s = (putD c (goD (evD c Z V) (1, p, s)) (1, p, s), 0) := by
    unfold writeD
    rw [if_neg (by show ¬ false = true; decide), if_neg (not_not_intro ⟨⟨by omega, by show (p : Int) < ((allP Z (V.take (V.length - c))).length : Nat); rw [hal]; omega⟩, hs⟩), if_neg (by show ¬ (-1 : Int) = 0; decide)]
  rw [e]
  congr 1
  unfold goD evD
  rw [show max (-1) ((-1 : Int) - 1) = -1 from by decide]
  have hn : ((V.length : Int) + 1) = ((V ++ [(1, (p : Int), s)]).length : Nat) := by rw [List.length_append, List.length_singleton]; omega
  rw [← hn]
  have hl : (V ++ [((1 : Int), (p : Int), s)]).length = V.length + 1 := by simp
  rw [hl]
  by_cases h : V.length < c
  · rw [show V.length - c = 0 by omega, show V.length + 1 - c = 0 by omega]
    unfold putD
    cases V with
    | nil => rfl
    | cons y r =>
      have h2 : r.length + 1 < c := by simp only [List.length_cons] at h; omega
      show (if r.length + 1 < c then (⟨_, _, _, _, _, _, _, _⟩ : DS) else _) = _
      rw [if_pos h2]
      rfl
  · obtain ⟨k, hk⟩ : ∃ k, V.length - c = k := ⟨_, rfl⟩
    have hk1 : V.length + 1 - c = k + 1 := by omega
    have hkl : k < V.length := by omega
    rw [hk, hk1, List.drop_eq_getElem_cons hkl]
    unfold putD
    dsimp only
    rw [if_neg (by rw [List.length_drop]; omega), List.take_append_of_le_length (by omega), List.take_succ_eq_append_getElem hkl, allP_snoc, List.drop_append_of_le_length (by omega)]
theorem evD_Q (c : Nat) (Z : List Str) (V : List OpT) : (evD c Z V).Q.length = min V.length c := by
  show (V.drop _).length = _
  rw [List.length_drop]; omega
theorem crashP_snoc (m : BitVec 64) (x : OpT) : ∀ (Q : List OpT) (i : Nat) (P : List Str), crashP m i P (Q ++ [x]) = if m.getLsbD (i + Q.length) then putP (crashP m i P Q) x else crashP m i P Q := by
  intro Q
  induction Q with
  | nil => intro i P; rfl
  | cons y q ih =>
    intro i P
    show crashP m (i + 1) _ (q ++ [x]) = _
    rw [ih]
    rw [show i + 1 + q.length = i + (y :: q).length by simp; omega]
    rfl
/-- A disk that is to crash behind k writes more. -/
def crD (st : Nat) (m : BitVec 64) (W : List Str) (V0 : List OpT) (U : List OpT) : DS :=
  if U.length ≤ st then ⟨W, U, (st : Int) - U.length, m, false, [], V0 ++ U, ((V0 ++ U).length : Nat)⟩
  else ⟨crashP m 0 W (U.take st), [], -1, m, true, [], V0 ++ U.take st, ((V0 ++ U.take st).length : Nat)⟩
theorem crD_write (st : Nat) (m : BitVec 64) (W : List Str) (V0 U : List OpT) (hst : st ≤ 15) (p : Nat) (hp : p < W.length) (s : Str) (hs : s.length = 256) :
    writeD 200 (crD st m W V0 U) p s = (crD st m W V0 (U ++ [(1, (p : Int), s)]), if U.length < st then 0 else 11) := by
  have hl : (U ++ [((1 : Int), (p : Int), s)]).length = U.length + 1 := by simp
  by_cases h : U.length < st
  · have e1 : crD st m W V0 U = ⟨W, U, (st : Int) - U.length, m, false, [], V0 ++ U, ((V0 ++ U).length : Nat)⟩ := if_pos (by omega)
    have e2 : crD st m W V0 (U ++ [(1, (p : Int), s)]) = ⟨W, U ++ [(1, (p : Int), s)], (st : Int) - (U ++ [((1 : Int), (p : Int), s)]).length, m, false, [], V0 ++ (U ++ [(1, (p : Int), s)]), ((V0 ++ (U ++ [((1 : Int), (p : Int), s)])).length : Nat)⟩ := if_pos (by omega)
    rw [e1, e2, if_pos h]
    unfold writeD
    rw [if_neg (by show ¬ false = true; decide), if_neg (not_not_intro ⟨⟨by omega, by show (p : Int) < (W.length : Nat); omega⟩, hs⟩), if_neg (by show ¬ (st : Int) - U.length = 0; omega)]
    congr 1
    unfold goD
    dsimp only
    rw [show max (-1) ((st : Int) - U.length - 1) = (st : Int) - (U ++ [((1 : Int), (p : Int), s)]).length by rw [hl]; omega, List.append_assoc,
      show (((V0 ++ U).length : Nat) : Int) + 1 = ((V0 ++ (U ++ [((1 : Int), (p : Int), s)])).length : Nat) by simp only [List.length_append, List.length_singleton]; omega]
    unfold putD
    cases U with
    | nil => rfl
    | cons y r =>
      dsimp only
      rw [if_pos (by simp only [List.length_cons] at h; omega)]
  · rw [if_neg h]
    have e2 : crD st m W V0 (U ++ [(1, (p : Int), s)]) = ⟨crashP m 0 W (U.take st), [], -1, m, true, [], V0 ++ U.take st, ((V0 ++ U.take st).length : Nat)⟩ := by
      unfold crD
      rw [if_neg (by omega), List.take_append_of_le_length (by omega)]
    rw [e2]
    by_cases h2 : U.length = st
    · have e1 : crD st m W V0 U = ⟨W, U, (st : Int) - U.length, m, false, [], V0 ++ U, ((V0 ++ U).length : Nat)⟩ := if_pos (by omega)
      rw [e1]
      unfold writeD
      rw [if_neg (by show ¬ false = true; decide), if_neg (not_not_intro ⟨⟨by omega, by show (p : Int) < (W.length : Nat); omega⟩, hs⟩), if_pos (by show (st : Int) - U.length = 0; omega)]
      unfold crashD
      dsimp only
      rw [List.take_of_length_le (by omega)]
    · have e1 : crD st m W V0 U = _ := if_neg (by omega)
      rw [e1]
      rfl
end Go.Proofs.Ytchbadngbddmnaa
