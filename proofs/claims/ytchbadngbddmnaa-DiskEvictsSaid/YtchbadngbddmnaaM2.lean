/- The laws of the disk: a call, plainly. -/
import Derived.Test.YtchbadngbddmnaaM1
import Derived.Test.YtchbadngbddmnaaK8
import Derived.Test.YtchbadngbddmnaaL3
import Derived.Test.YtchbadngbddmnaaL4
import Derived.Test.YtchbadngbddmnaaL5
import Derived.Test.YtchbadngbddmnaaL6
set_option linter.unusedVariables false
set_option linter.unusedSimpArgs false
set_option maxRecDepth 10000
set_option maxHeartbeats 4000000
namespace Go.Proofs.Ytchbadngbddmnaa
open Go Go.SY
seal sx sxOps

def saveD (d : DS) : DS := if d.S.length = 16 then d else { d with S := d.S ++ [d.P] }
def backD (d : DS) (i : Int) : DS := if 0 ≤ i ∧ i < d.S.length then { d with P := d.S.getD i.toNat [] } else d
def armD (d : DS) (s : Int) (m : BitVec 64) : DS := { d with l := max (-1) s, m := m }
def overD (d : DS) (p : Int) (s : Str) : DS := { d with P := (overR d.P p s).2 }
def doD (most : Nat) (d : DS) (a : ActT) : DS :=
  if a.1 = 0 then (writeD most d a.2.1 (pageR (a.2.2.2.2.take 20))).1
  else if a.1 = 1 then (flushD d).1
  else if a.1 = 2 then d
  else if a.1 = 3 then armD d a.2.2.1 a.2.2.2.1
  else if a.1 = 4 then startD d
  else if a.1 = 5 then overD d a.2.1 (pageR (a.2.2.2.2.take 20))
  else if a.1 = 6 then (swapD d a.2.1 a.2.2.1).1
  else if a.1 = 7 then saveD d
  else if a.1 = 8 then backD d a.2.2.1
  else (writeD most d a.2.1 (a.2.2.2.2.take 20)).1
structure DK (most k : Nat) (d : DS) : Prop where
  q : QOk d.P d.Q
  ql : d.Q.length ≤ most
  ml : 1 ≤ most ∧ most ≤ 300
  l : -1 ≤ d.l ∧ d.l ≤ 9223372036854775807
  v : d.V.length ≤ k
  n : 0 ≤ d.n ∧ d.n ≤ k
  p : d.P.length ≤ 10000
  s : ∀ x ∈ d.S, x.length = d.P.length
  sl : d.S.length ≤ 16
theorem DK.ok {most k : Nat} {d : DS} (h : DK most k d) (hk : k ≤ 4000) : DOk most d :=
  ⟨h.q, h.ql, h.ml, h.l, by have := h.v; omega, ⟨h.n.1, by have := h.n.2; omega⟩, h.p⟩
theorem DK.mono {most k k' : Nat} {d : DS} (h : DK most k d) (hk : k ≤ k') : DK most k' d :=
  ⟨h.q, h.ql, h.ml, h.l, by have := h.v; omega, ⟨h.n.1, by have := h.n.2; omega⟩, h.p, h.s, h.sl⟩
theorem QOk.len {P P' : List Str} {Q : List OpT} (h : QOk P Q) (e : P'.length = P.length) : QOk P' Q := fun y hy => by rw [e]; exact h y hy
theorem DK.crash {most k : Nat} {d : DS} (h : DK most k d) : DK most k (crashD d) :=
  ⟨fun y hy => (by cases hy), by simp [crashD], h.ml, by simp [crashD], h.v, h.n, by simp only [crashD, crashP_length]; exact h.p,
   fun x hx => by simp only [crashD, crashP_length]; exact h.s x hx, h.sl⟩
theorem DK.go {most k : Nat} {d : DS} (h : DK most k d) (x : OpT) : DK most (k + 1) (goD d x) :=
  ⟨h.q, h.ql, h.ml, by have := h.l; simp only [goD]; omega, by have := h.v; simp only [goD, List.length_append, List.length_singleton]; omega, by have := h.n; simp only [goD]; omega, h.p, h.s, h.sl⟩
theorem allP_length (Q : List OpT) : ∀ P : List Str, (allP P Q).length = P.length := by
  induction Q with
  | nil => intro P; rfl
  | cons x Q ih => intro P; show (allP (putP P x) Q).length = _; rw [ih, putP_length]
theorem DK.write {most k : Nat} {d : DS} (h : DK most k d) (p : Int) (s : Str) : DK most (k + 1) (writeD most d p s).1 := by
  unfold writeD
  split
  · exact h.mono (by omega)
  split
  · exact h.mono (by omega)
  rename_i hin
  have hin : inP d.P p ∧ s.length = 256 := Classical.not_not.1 hin
  split
  · exact h.crash.mono (by omega)
  have hg := h.go (1, p, s)
  have hx : 0 ≤ p ∧ p < (goD d (1, p, s)).P.length := hin.1
  unfold putD
  split
  · rename_i e
    exact ⟨fun y hy => (by rcases List.mem_singleton.1 hy with rfl; exact hx), by have := h.ml.1; simpa using this, hg.ml, hg.l, hg.v, hg.n, hg.p, hg.s, hg.sl⟩
  · rename_i y r e
    have hq := hg.q
    have hql := hg.ql
    rw [e] at hq hql
    dsimp only
    split
    · rename_i hr
      refine ⟨fun z hz => ?_, by simp only [List.length_cons, List.length_append, List.cons_append, List.length_nil]; omega, hg.ml, hg.l, hg.v, hg.n, hg.p, hg.s, hg.sl⟩
      rcases List.mem_append.1 hz with hz | hz
      · exact hq z hz
      · rcases List.mem_singleton.1 hz with rfl; exact hx
    · rename_i hr
      refine ⟨fun z hz => ?_, by simp only [List.length_append, List.length_cons, List.length_nil] at hql ⊢; omega, hg.ml, hg.l, hg.v, hg.n, by rw [putP_length]; exact hg.p, fun z hz => by rw [putP_length]; exact hg.s z hz, hg.sl⟩
      rw [putP_length]
      rcases List.mem_append.1 hz with hz | hz
      · exact hq.tail z hz
      · rcases List.mem_singleton.1 hz with rfl; exact hx
theorem DK.flush {most k : Nat} {d : DS} (h : DK most k d) : DK most (k + 1) (flushD d).1 := by
  unfold flushD
  split
  · exact h.mono (by omega)
  split
  · exact h.crash.mono (by omega)
  have hg := h.go (2, 0, [])
  exact ⟨fun y hy => (by cases hy), by simp, hg.ml, hg.l, hg.v, hg.n, by dsimp only; rw [allP_length]; exact h.p, fun x hx => by dsimp only; rw [allP_length]; exact h.s x hx, hg.sl⟩
theorem writeD_S (most : Nat) (d : DS) (p : Int) (s : Str) : (writeD most d p s).1.S = d.S := by
  unfold writeD
  split; rfl
  split; rfl
  split; rfl
  unfold putD goD
  split
  · rfl
  · split <;> rfl
theorem flushD_S (d : DS) : (flushD d).1.S = d.S := by
  unfold flushD
  split; rfl
  split <;> rfl
theorem DK.setP {most k : Nat} {d : DS} (h : DK most k d) {P : List Str} (e : P.length = d.P.length) : DK most k { d with P := P } :=
  ⟨h.q.len e, h.ql, h.ml, h.l, h.v, h.n, by rw [show ({ d with P := P } : DS).P = P from rfl, e]; exact h.p, fun x hx => by rw [show ({ d with P := P } : DS).P = P from rfl, e]; exact h.s x hx, h.sl⟩
theorem overR_length (P : List Str) (p : Int) (s : Str) : (overR P p s).2.length = P.length := by
  unfold overR; split
  · exact putP_length _ _
  · rfl
theorem doD_ok {most k : Nat} {d : DS} (h : DK most k d) (a : ActT) (ha : a.2.2.1 ≤ 9223372036854775807) : DK most (k + 1) (doD most d a) := by
  unfold doD
  split; exact h.write _ _
  split; exact h.flush
  split; exact h.mono (by omega)
  split; exact ⟨h.q, h.ql, h.ml, by simp only [armD]; omega, (h.mono (Nat.le_succ k)).v, (h.mono (Nat.le_succ k)).n, h.p, h.s, h.sl⟩
  split; exact ⟨fun y hy => (by cases hy), by simp [startD], h.ml, by simp [startD], (h.mono (Nat.le_succ k)).v, (h.mono (Nat.le_succ k)).n, h.p, h.s, h.sl⟩
  split; exact (h.mono (Nat.le_succ k)).setP (overR_length _ _ _)
  split
  · unfold swapD; split
    · exact (h.mono (Nat.le_succ k)).setP (by simp)
    · exact h.mono (by omega)
  split
  · unfold saveD; split
    · exact h.mono (by omega)
    · rename_i h16
      have := h.sl
      exact ⟨h.q, h.ql, h.ml, h.l, (h.mono (Nat.le_succ k)).v, (h.mono (Nat.le_succ k)).n, h.p, fun x hx => (by
        rcases List.mem_append.1 hx with hx | hx
        · exact h.s x hx
        · rcases List.mem_singleton.1 hx with rfl; rfl), by simp only [List.length_append, List.length_singleton]; omega⟩
  split
  · unfold backD; split
    · rename_i hi
      refine (h.mono (Nat.le_succ k)).setP (h.s _ ?_)
      have : a.2.2.1.toNat < d.S.length := by omega
      rw [List.getD_eq_getElem?_getD, List.getElem?_eq_getElem this]; exact List.getElem_mem this
    · exact h.mono (by omega)
  exact h.write _ _
/-- Where the program's disk lies; where the document's. -/
structure PX where
  pg : SV
  cb : Nat
  sv : SV
  vw : SV
  zs : List SV
structure QX where
  p : SV
  q : SV
  sv : SV
  vw : SV
  zs : List SV
abbrev pqAll (b : Nat) (most : Nat) (d : DS) (x : PX) (y : QX) : Heap :=
  [(800, b, .var 66 [.c (.lst 801 x.pg), .c (.ch 802 x.cb), .c (.int .i64 d.l), .c (.w64 d.m), .c (.bool d.c), .c (.lst 803 x.sv), .c (.lst 804 x.vw), .c (.int .i64 d.n)]),
   (801, x.pg.blk, .own 9 (.sc .str) x.pg d.P), (802, x.cb, .sem (chanS most (.st opS) d.Q)), (803, x.sv.blk, .own 29 (.st slS) x.sv x.zs), (804, x.vw.blk, .own 68 (.st opS) x.vw d.V),
   (805, 0, .sem (viewsS (.sc .str) x.zs d.S)), rP y.p d.P, rQ y.q d.Q, rV y.vw d.V, rS y.sv y.zs, rG y.zs d.S]
abbrev qA (most : Nat) (d : DS) (y : QX) : List Sg := rB most y.p y.q y.sv y.vw d.l d.m d.c d.n
/-- What Do's contract says. -/
abbrev DoC (b most : Nat) (d d' : DS) (x : PX) (y : QX) (a : ActT) : Prop :=
  Ctr R 24 [vp 800 b, va (qA most d y), va (actA a)] (pqAll b most d x y) (fun _ : PX × QX => True) (fun z => .tup [.agg (qA most d' z.2), .one (.bool true)]) (fun z => pqAll b most d' z.1 z.2)
end Go.Proofs.Ytchbadngbddmnaa
