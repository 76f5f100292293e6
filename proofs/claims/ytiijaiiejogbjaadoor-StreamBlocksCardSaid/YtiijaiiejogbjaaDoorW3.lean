/- The beginning of a block of package stream. -/
import Derived.Test.YtiijaiiejogbjaaDoorW1
set_option linter.unusedVariables false
set_option linter.unusedSimpArgs false
set_option maxRecDepth 10000
namespace Go.Proofs.YtiijaiiejogbjaaDoor.Str
open Go Go.SX Go.Chacha

def pre (k : List Int) (j : Nat) : List Int := begin4 ++ keyWords k j ++ List.replicate (12 - j) 0
def pre2 (k : List Int) (c : Int) (n : List Int) (j : Nat) : List Int := begin4 ++ keyWords k 8 ++ [c] ++ keyWords n j ++ List.replicate (3 - j) 0
theorem pre_length (k : List Int) (j : Nat) (hj : j ≤ 12) : (pre k j).length = 16 := by simp [pre, begin4, keyWords_length]; omega
theorem pre2_length (k : List Int) (c : Int) (n : List Int) (j : Nat) (hj : j ≤ 3) : (pre2 k c n j).length = 16 := by simp [pre2, begin4, keyWords_length]; omega
theorem set_mid {a b : List Int} {x y : Int} {i : Nat} (h : i = a.length) : (a ++ x :: b).set i y = a ++ y :: b := by
  subst h; simp
theorem pre_step (k : List Int) (j : Nat) (hj : j < 8) : (pre k j).set (4 + j) (word k (4 * j)) = pre k (j + 1) := by
  unfold pre
  obtain ⟨m, hm⟩ : ∃ m, 12 - j = m + 1 := ⟨11 - j, by omega⟩
  rw [hm, List.replicate_succ, set_mid (by simp only [begin4, keyWords_length, List.length_append, List.length_cons, List.length_nil]), keyWords_succ, show 12 - (j + 1) = m by omega]
  simp
theorem pre_mid (k : List Int) (c : Int) (n : List Int) : (pre k 8).set 12 c = pre2 k c n 0 := by
  unfold pre pre2
  rw [show 12 - 8 = 3 + 1 by rfl, List.replicate_succ, set_mid (by simp [begin4, keyWords_length])]
  simp [keyWords]
theorem pre2_step (k : List Int) (c : Int) (n : List Int) (j : Nat) (hj : j < 3) : (pre2 k c n j).set (13 + j) (word n (4 * j)) = pre2 k c n (j + 1) := by
  simp only [pre2, ← List.append_assoc]
  obtain ⟨m, hm⟩ : ∃ m, 3 - j = m + 1 := ⟨2 - j, by omega⟩
  rw [hm, List.replicate_succ, set_mid (by simp [begin4, keyWords_length]; omega), keyWords_succ n j, show 3 - (j + 1) = m by omega]
  simp [List.append_assoc]
theorem pre2_end (k : List Int) (c : Int) (n : List Int) : pre2 k c n 3 = Chacha.start k c n := by simp [pre2, Chacha.start]

theorem first (k n : List Int) (c : Int) (hkl : k.length = 32) (hnl : n.length = 12) (hk : Bytes k) (hn : Bytes n) (hc : 0 ≤ c ∧ c < 4294967296) :
    Ctr Tryd.prog 20 [(BV.seq .u8 k).val, .int .u32 c, (BV.seq .u8 n).val] [(501, 1, .seg 0 (.ints .u32 begin4))]
      fun v H' => v = .b (.seq .u32 (Chacha.start k c n)) ∧ H' = [] := by
  refine Ctr.of (args := [.b (.seq .u8 k), .b (.one (.int .u32 c)), .b (.seq .u8 n)]) Tryd.func20 rfl (by kernel_rfl) rfl fun w0 => ?_
  conv => whnf
  refine ⟨fun b1 => ?_⟩
  refine ⟨fun b2 => ?_⟩
  refine ⟨fun b3 => ?_⟩
  refine ⟨fun b4 => ?_⟩
  conv => whnf
  refine Draw.tailQ 2 (by kernel_rfl) (by kernel_rfl) ?_
  repeat (refine Chk.mk rfl ?_)
  refine Chk.mk ⟨rfl, rfl, rfl, Nat.le_of_ble_eq_true rfl⟩ ?_
  refine Chk.mk ⟨rfl, rfl, Nat.le_of_ble_eq_true rfl⟩ ?_
  refine LoopG.of (fun j : Nat => ([(13, .b (.one (.int .i64 j))), (7, .b (.one (.ptr ⟨7, b4, .lit 0⟩))), (6, .b (.one (.ptr ⟨6, b3, .lit 0⟩))), (5, .b (.one (.ptr ⟨5, b2, .lit 0⟩))), (3, .b (.one (.ptr ⟨3, b1, .lit 0⟩))), (1, .b (.one (.int .u32 c)))], [(7, b4, .full 46 (.ints .u32 (pre k j))), (6, b3, .full 46 (.ints .u32 (List.replicate 16 0))), (5, b2, .full 26 (.ints .u8 n)), (3, b1, .full 23 (.ints .u8 k))])) (fun j => j ≤ 8) (fun j => 8 - j) 0 ?_ ?_
  · exact ⟨by omega, ⟨rfl, rfl, rfl, rfl, rfl, rfl, trivial⟩, ⟨rfl, rfl, rfl, rfl, trivial⟩⟩
  · intro j hj
    refine Br.by (fun h => ?_) (fun h => ?_)
    · have hj : (j : Int) < 8 := h
      refine Wr.i64 (by omega) ?_
      refine Wr.i64 (by omega) ?_
      refine Chk.mk (by omega) ?_
      refine ⟨fun o ho => ?_⟩
      obtain rfl : o = 4 * j := by omega
      refine CallG.by [3] (number b1 (4 * j) _ _ k (by omega) (by omega) hk) ⟨⟨rfl, HBle.ints, rfl⟩, trivial⟩ ?_
      rintro v H' ⟨rfl, rfl⟩
      refine ⟨rfl, rfl, ?_⟩
      refine Chk.mk ⟨by omega, by omega⟩ ?_
      refine Chk.mk ⟨rfl, rfl⟩ ?_
      have hpl := pre_length k j (by omega)
      refine Chk.mk ⟨rfl, by omega⟩ ?_
      refine Wr.i64 (by omega) ?_
      have e : (pre k j).set ((4 : Int) + j).toNat (word k (4 * j)) = pre k (j + 1) := by
        rw [show ((4 : Int) + j).toNat = 4 + j by omega]; exact pre_step k j (by omega)
      refine ⟨j + 1, by omega, (by show 8 - (j + 1) < 8 - j; omega), ⟨rfl, rfl, rfl, rfl, rfl, rfl, trivial⟩, ⟨congrArg (fun l => some (b4, HB.full 46 (.ints .u32 l))) e, rfl, rfl, rfl, trivial⟩⟩
    · have hj : ¬ (j : Int) < 8 := h
      obtain rfl : j = 8 := by omega
      refine Chk.mk ⟨by omega, by omega⟩ ?_
      refine Chk.mk ⟨rfl, rfl⟩ ?_
      have hpl := pre_length k 8 (by omega)
      refine Chk.mk ⟨rfl, by omega⟩ ?_
      refine LoopG.of (fun j : Nat => ([(26, .b (.one (.int .i64 j))), (7, .b (.one (.ptr ⟨7, b4, .lit 0⟩))), (6, .b (.one (.ptr ⟨6, b3, .lit 0⟩))), (5, .b (.one (.ptr ⟨5, b2, .lit 0⟩)))], [(7, b4, .full 46 (.ints .u32 (pre2 k c n j))), (6, b3, .full 46 (.ints .u32 (List.replicate 16 0))), (5, b2, .full 26 (.ints .u8 n))])) (fun j => j ≤ 3) (fun j => 3 - j) 0 ?_ ?_
      · exact ⟨by omega, ⟨rfl, rfl, rfl, rfl, trivial⟩, ⟨congrArg (fun l => some (b4, HB.full 46 (.ints .u32 l))) (pre_mid k c n), rfl, rfl, trivial⟩⟩
      · intro j hj
        refine Br.by (fun h => ?_) (fun h => ?_)
        · have hj : (j : Int) < 3 := h
          refine Wr.i64 (by omega) ?_
          refine Wr.i64 (by omega) ?_
          refine Chk.mk (by omega) ?_
          refine ⟨fun o ho => ?_⟩
          obtain rfl : o = 4 * j := by omega
          refine CallG.by [5] (number b2 (4 * j) _ _ n (by omega) (by omega) hn) ⟨⟨rfl, HBle.ints, rfl⟩, trivial⟩ ?_
          rintro v H' ⟨rfl, rfl⟩
          refine ⟨rfl, rfl, ?_⟩
          refine Chk.mk ⟨by omega, by omega⟩ ?_
          refine Chk.mk ⟨rfl, rfl⟩ ?_
          have hpl := pre2_length k c n j (by omega)
          refine Chk.mk ⟨rfl, by omega⟩ ?_
          refine Wr.i64 (by omega) ?_
          have e : (pre2 k c n j).set ((13 : Int) + j).toNat (word n (4 * j)) = pre2 k c n (j + 1) := by
            rw [show ((13 : Int) + j).toNat = 13 + j by omega]; exact pre2_step k c n j (by omega)
          refine ⟨j + 1, by omega, (by show 3 - (j + 1) < 3 - j; omega), ⟨rfl, rfl, rfl, rfl, trivial⟩, ⟨congrArg (fun l => some (b4, HB.full 46 (.ints .u32 l))) e, rfl, rfl, trivial⟩⟩
        · have hj : ¬ (j : Int) < 3 := h
          obtain rfl : j = 3 := by omega
          have hl := pre2_length k c n 3 (by omega)
          repeat (refine Chk.mk rfl ?_)
          refine Chk.mk ⟨rfl, (List.length_map ..).trans hl⟩ ?_
          refine Chk.mk ⟨rfl, hl⟩ ?_
          repeat (refine Chk.mk rfl ?_)
          exact ⟨[], trivial, congrArg (fun l => TV.b (.seq .u32 l)) (pre2_end k c n), rfl⟩
end Go.Proofs.YtiijaiiejogbjaaDoor.Str
