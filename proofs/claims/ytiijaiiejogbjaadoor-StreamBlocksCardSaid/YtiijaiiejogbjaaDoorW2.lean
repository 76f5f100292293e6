/- A quarter round of package stream. -/
import Derived.Test.YtiijaiiejogbjaaDoorW1
set_option linter.unusedVariables false
set_option linter.unusedSimpArgs false
set_option maxRecDepth 10000
namespace Go.Proofs.YtiijaiiejogbjaaDoor.Str
open Go Go.SX Go.Chacha

theorem rotx {x y : Int} (hx : 0 ≤ x ∧ x < 4294967296) (hy : 0 ≤ y ∧ y < 4294967296) {k : Nat} {kk : Int} (hk : k < 32) (hkk : kk = k) :
    Ctr Tryd.prog 25 [.int .u32 (ixor .u32 x y), .int .i64 kk] [] fun v H' => v.val = (TV.b (.one (.int .u32 (rotl (xorI x y) k)))).val := by
  have e : ixor .u32 x y = xorI x y := ixor_nat rfl hx.1 (by simp only [IntKind.bits]; omega) hy.1 (by simp only [IntKind.bits]; omega)
  rw [e, hkk]
  exact (rot (xorI_w hx hy) hk).mono fun v H' h => by rw [h.1]

theorem quarter (T b : Nat) (l : List Int) (hl : l.length = 16) (hw : Words l) (qa qb qc qd : Nat) (ha : qa < 16) (hb : qb < 16) (hc : qc < 16) (hd : qd < 16) :
    Ctr Tryd.prog 21 [(SC.ptr ⟨0, b, .lit 0⟩).val, (BV.seq .i64 [(qa : Int), qb, qc, qd]).val] [(0, b, .full T (.ints .u32 l))]
      fun v H' => v = .tup [] ∧ H' = [(0, b, .full T (.ints .u32 (qr l qa qb qc qd)))] := by
  refine Ctr.of (args := [.b (.one (.ptr ⟨0, b, .lit 0⟩)), .b (.seq .i64 [(qa : Int), qb, qc, qd])]) Tryd.func21 rfl (by kernel_rfl) rfl fun w0 => ?_
  have fa : 0 ≤ (qa : Int) ∧ (qa : Int) < ((16 : Nat) : Int) := by omega
  have fb : 0 ≤ (qb : Int) ∧ (qb : Int) < ((16 : Nat) : Int) := by omega
  have fc : 0 ≤ (qc : Int) ∧ (qc : Int) < ((16 : Nat) : Int) := by omega
  have fd : 0 ≤ (qd : Int) ∧ (qd : Int) < ((16 : Nat) : Int) := by omega
  refine ⟨fun b1 => ?_⟩
  refine Draw.quiet (by kernel_rfl) (by kernel_rfl) ?_
  repeat (first | refine Chk.mk rfl ?_ | refine Chk.mk (by omega) ?_ | refine Chk.mk (Nat.le_of_ble_eq_true rfl) ?_ | refine Chk.mk ⟨rfl, Nat.le_of_ble_eq_true rfl⟩ ?_ | refine Chk.mk ⟨rfl, rfl⟩ ?_ | refine Chk.mk fa ?_ | refine Chk.mk fb ?_ | refine Chk.mk fc ?_ | refine Chk.mk fd ?_ | refine Wr.i64 (by omega) ?_ | refine Br.dt (by omega) ?_ | refine Br.df (by omega) ?_)
  conv => whnf
  refine LoopG.of (fun x : Nat × List Int => ([(33, .b (.one (.int .i64 x.1))), (4, .b (.one (.ptr ⟨0, b, .el 0 qa 1 0⟩))), (5, .b (.one (.ptr ⟨0, b, .el 0 qb 1 0⟩))), (6, .b (.one (.ptr ⟨0, b, .el 0 qc 1 0⟩))), (7, .b (.one (.ptr ⟨0, b, .el 0 qd 1 0⟩))), (32, .b (.seq .i64 [16, 12, 8, 7]))], [(0, b, .full T (.ints .u32 x.2))])) (fun x => Words x.2 ∧ x.2.length = 16 ∧ (x = (0, l) ∨ x = (1, half 16 12 l qa qb qc qd) ∨ x = (2, qr l qa qb qc qd))) (fun x => 2 - x.1) (0, l) ?_ ?_
  · exact ⟨⟨hw, hl, Or.inl rfl⟩, ⟨rfl, rfl, rfl, rfl, rfl, rfl, trivial⟩, ⟨rfl, trivial⟩⟩
  · rintro ⟨n, m⟩ ⟨hwm, hlm, hx⟩
    dsimp only at hwm hlm
    refine Br.by (fun h => ?_) (fun h => ?_)
    · have hn : (n : Int) < 2 := h
      obtain ⟨r1, r2, hr1, hr2, e0, e1, e2, hnext⟩ : ∃ r1 r2 : Nat, r1 < 32 ∧ r2 < 32 ∧ (([16, 12, 8, 7] : List Int).drop ((n : Int).toNat * 2)).take 2 = [(r1 : Int), r2] ∧ n < 2 ∧ n < 2 ∧
          ((n + 1, half r1 r2 m qa qb qc qd) = (0, l) ∨ (n + 1, half r1 r2 m qa qb qc qd) = (1, half 16 12 l qa qb qc qd) ∨ (n + 1, half r1 r2 m qa qb qc qd) = (2, qr l qa qb qc qd)) := by
        rcases hx with hx | hx | hx <;> cases hx
        · exact ⟨16, 12, by omega, by omega, rfl, by omega, by omega, Or.inr (Or.inl rfl)⟩
        · exact ⟨8, 7, by omega, by omega, rfl, by omega, by omega, Or.inr (Or.inr rfl)⟩
        · omega
      let l1 := m.set qa (add32 (m.getD qa 0) (m.getD qb 0))
      have hw1 : Words l1 := hwm.add qa qa qb
      have hl1 : l1.length = 16 := by rw [List.length_set]; exact hlm
      let l2 := l1.set qd (rotl (xorI (l1.getD qd 0) (l1.getD qa 0)) r1)
      have hw2 : Words l2 := hw1.rot qd qd qa (by omega)
      have hl2 : l2.length = 16 := by rw [List.length_set]; exact hl1
      let l3 := l2.set qc (add32 (l2.getD qc 0) (l2.getD qd 0))
      have hw3 : Words l3 := hw2.add qc qc qd
      have hl3 : l3.length = 16 := by rw [List.length_set]; exact hl2
      have e0l : ((([16, 12, 8, 7] : List Int).drop ((n : Int).toNat * 2)).take 2).length = 2 := by rw [e0]; rfl
      have len2 : ∀ {l : List Int} {a b : Int} {i : Nat}, l = [a, b] → i < 2 → i < l.length := fun h hi => by rw [h]; exact hi
      have inb : ∀ {m : List Int} {q : Nat}, m.length = 16 → q < 16 → q < m.length := fun h1 h2 => by rw [h1]; exact h2
      refine Chk.mk ⟨by omega, by omega⟩ ?_
      refine ⟨fun b2 => ?_⟩
      refine Chk.mk ⟨rfl, congrArg (fun l : List Int => (BV.seq .i64 l).cells.length) e0⟩ ?_
      refine Chk.mk ⟨rfl, e0l⟩ ?_
      refine Draw.tailQ 8 (by kernel_rfl) (by kernel_rfl) ?_
      repeat (refine Chk.mk rfl ?_)
      refine Chk.mk (inb hlm ha) ?_
      repeat (refine Chk.mk rfl ?_)
      refine Chk.mk (inb hlm hb) ?_
      refine ⟨?_⟩
      refine Chk.mk ⟨rfl, rfl⟩ ?_
      refine Chk.mk ⟨rfl, inb hlm ha⟩ ?_
      refine Draw.tailQ 12 (by kernel_rfl) (by kernel_rfl) ?_
      repeat (refine Chk.mk rfl ?_)
      refine Chk.mk (inb hl1 hd) ?_
      repeat (refine Chk.mk rfl ?_)
      refine Chk.mk (inb hl1 ha) ?_
      refine Chk.mk (by omega) ?_
      repeat (refine Chk.mk rfl ?_)
      refine Chk.mk (len2 e0 (i := 0) (by omega)) ?_
      refine CallQ.by (.b (.one (.int .u32 (rotl (xorI (l1.getD qd 0) (l1.getD qa 0)) r1)))) [] (rotx (hw1 qd) (hw1 qa) (k := r1) hr1 (congrArg (fun l => List.getD l 0 0) e0)) (fun k => rfl) trivial ?_
      refine Chk.mk ⟨rfl, rfl⟩ ?_
      refine Chk.mk ⟨rfl, inb hl1 hd⟩ ?_
      refine Draw.tailQ 8 (by kernel_rfl) (by kernel_rfl) ?_
      repeat (refine Chk.mk rfl ?_)
      refine Chk.mk (inb hl2 hc) ?_
      repeat (refine Chk.mk rfl ?_)
      refine Chk.mk (inb hl2 hd) ?_
      refine ⟨?_⟩
      refine Chk.mk ⟨rfl, rfl⟩ ?_
      refine Chk.mk ⟨rfl, inb hl2 hc⟩ ?_
      refine Draw.tailQ 12 (by kernel_rfl) (by kernel_rfl) ?_
      repeat (refine Chk.mk rfl ?_)
      refine Chk.mk (inb hl3 hb) ?_
      repeat (refine Chk.mk rfl ?_)
      refine Chk.mk (inb hl3 hc) ?_
      refine Chk.mk (by omega) ?_
      repeat (refine Chk.mk rfl ?_)
      refine Chk.mk (len2 e0 (i := 1) (by omega)) ?_
      refine CallQ.by (.b (.one (.int .u32 (rotl (xorI (l3.getD qb 0) (l3.getD qc 0)) r2)))) [] (rotx (hw3 qb) (hw3 qc) (k := r2) hr2 (congrArg (fun l => List.getD l 1 0) e0)) (fun k => rfl) trivial ?_
      refine Chk.mk ⟨rfl, rfl⟩ ?_
      refine Chk.mk ⟨rfl, inb hl3 hb⟩ ?_
      refine Wr.i64 (by omega) ?_
      refine ⟨(n + 1, half r1 r2 m qa qb qc qd), ⟨half_words (by omega) (by omega) hwm qa qb qc qd, by rw [half_length]; exact hlm, hnext⟩, ?_, ⟨rfl, rfl, rfl, rfl, rfl, rfl, trivial⟩, ⟨rfl, trivial⟩⟩
      dsimp only
      omega
    · have hn : ¬ (n : Int) < 2 := h
      rcases hx with hx | hx | hx <;> cases hx
      · omega
      · omega
      · exact ⟨[(0, b, .full T (.ints .u32 (qr l qa qb qc qd)))], ⟨rfl, trivial⟩, rfl, rfl⟩
end Go.Proofs.YtiijaiiejogbjaaDoor.Str
