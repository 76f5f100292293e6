/- Keys and nonces as texts. Printed by gen_r4.py. -/
import Derived.Test.YtiijaiiejogbjaaDoorR3
import Derived.Test.YtiijaiiejogbjaaDoorW8
set_option linter.unusedVariables false
set_option linter.unusedSimpArgs false
set_option maxRecDepth 10000
namespace Go.Proofs.YtiijaiiejogbjaaDoor.Str
open Go Go.SX Go.Chacha
def rowAt (key : Nat) : Nat × Nat × List Int → SC
  | (0, _, _) => .nilsl
  | (i + 1, b, post) => .sl key b 0 0 1 (i + 1) (i + 1 + post.length)
def heapAt (key : Nat) (k : List Int) : Nat × Nat × List Int → Heap
  | (0, _, _) => []
  | (i + 1, b, post) => [(key, b, .full 5 (.ints .u8 (k.take (i + 1) ++ post)))]
theorem take_succ' (k : List Int) {i : Nat} (h : i < k.length) : k.take i ++ [k.getD i 0] = k.take (i + 1) := by
  rw [List.take_add_one, gd_lt h, List.getElem?_eq_getElem h]; rfl

theorem keyText (k : List Int) (hk : k.length = 32) (hb : Bytes k) :
    Ctr Tryd.prog 11 [(BV.seq .u8 k).val] [] fun v H' => v = .b (.one (.str (bytesOf k))) ∧ H' = [] := by
  refine Ctr.of (args := [.b (.seq .u8 k)]) Tryd.func11 rfl (by kernel_rfl) rfl fun w0 => ?_
  refine ⟨fun b1 => ?_⟩
  refine Chk.mk rfl ?_
  refine Chk.mk hk ?_
  refine LoopG.of (fun x : Nat × Nat × List Int => ([(7, .b (.one (.int .i64 x.1))), (6, .b (.seq .u8 k)), (3, .b (.one (rowAt 13 x)))], heapAt 13 k x)) (fun x => x.1 ≤ 32) (fun x => 32 - x.1) (0, 0, []) ?_ ?_
  · exact ⟨Nat.zero_le _, ⟨rfl, rfl, rfl, trivial⟩, trivial⟩
  · rintro ⟨i, b, post⟩ hi
    have hi : i ≤ 32 := hi
    cases i with
    | zero =>
      refine Br.by (fun h => ?_) (fun h => absurd (show ((0 : Nat) : Int) < 32 by omega) h)
      refine Chk.mk ⟨by omega, by omega, hk⟩ ?_
      repeat (first | refine Chk.mk ⟨rfl, Nat.le_of_ble_eq_true rfl⟩ ?_)
      refine ⟨fun b2 => ?_⟩
      refine Chk.mk rfl ?_
      refine Chk.mk ⟨rfl, rfl, rfl, Nat.le_of_ble_eq_true rfl⟩ ?_
      refine Chk.mk (show (2 * 1 + 192) * (0 + 1) ≤ 281474976710656 ∧ 1 < 9223372036854775808 by omega) ?_
      refine ⟨fun b3 => ?_⟩
      intro post2
      refine Wr.i64 (by omega) ?_
      refine ⟨(0 + 1, b3, post2), by show 0 + 1 ≤ 32; omega, (by show 32 - (0 + 1) < 32 - 0; omega), ⟨rfl, rfl, rfl, trivial⟩, ⟨?_, trivial⟩⟩
      exact congrArg (fun l => some (b3, HB.full 5 (.ints .u8 (l ++ post2)))) (take_succ' k (i := 0) (by omega))
    | succ i =>
      refine Br.by (fun h => ?_) (fun h => ?_)
      · have hi : ((i + 1 : Nat) : Int) < 32 := h
        refine Chk.mk ⟨by omega, by omega, hk⟩ ?_
        repeat (first | refine Chk.mk ⟨rfl, Nat.le_of_ble_eq_true rfl⟩ ?_)
        refine ⟨fun b2 => ?_⟩
        refine Chk.mk rfl ?_
        refine ⟨(k.take (i + 1), post), rfl, rfl, rfl, rfl, ?_, ?_, ?_⟩
        · show (k.take (i + 1)).length = i + 1
          rw [List.length_take]; omega
        · show i + 1 + post.length = (k.take (i + 1) ++ post).length
          rw [List.length_append, List.length_take]; omega
        refine Chk.mk ⟨rfl, rfl, rfl, Nat.le_of_ble_eq_true rfl⟩ ?_
        refine Chk.mk (show (2 * (i + 1 + 1) + 192) * (0 + 1) ≤ 281474976710656 ∧ i + 1 + 1 < 9223372036854775808 by omega) ?_
        refine ⟨fun b3 => ?_⟩
        intro post2
        refine Wr.i64 (by omega) ?_
        refine ⟨(i + 1 + 1, b3, post2), by show i + 1 + 1 ≤ 32; omega, (by show 32 - (i + 1 + 1) < 32 - (i + 1); omega), ⟨rfl, rfl, rfl, trivial⟩, ⟨?_, trivial⟩⟩
        exact congrArg (fun l => some (b3, HB.full 5 (.ints .u8 (l ++ post2)))) (take_succ' k (by omega))
      · have hi : ¬ ((i + 1 : Nat) : Int) < 32 := h
        obtain rfl : i = 31 := by omega
        refine Chk.mk ⟨rfl, rfl, show 0 + (31 + 1) ≤ (k.take (31 + 1) ++ post).length by rw [List.length_append, List.length_take]; omega⟩ ?_
        refine ⟨[], trivial, ?_, rfl⟩
        refine congrArg (fun l => TV.b (.one (.str (bytesOf l)))) ?_
        show ((k.take (31 + 1) ++ post).drop 0).take (31 + 1) = k
        rw [List.drop_zero, List.take_append_of_le_length (by rw [List.length_take]; omega), List.take_take, Nat.min_self, List.take_of_length_le (by omega)]

theorem nonceText (k : List Int) (hk : k.length = 12) (hb : Bytes k) :
    Ctr Tryd.prog 12 [(BV.seq .u8 k).val] [] fun v H' => v = .b (.one (.str (bytesOf k))) ∧ H' = [] := by
  refine Ctr.of (args := [.b (.seq .u8 k)]) Tryd.func12 rfl (by kernel_rfl) rfl fun w0 => ?_
  refine ⟨fun b1 => ?_⟩
  refine Chk.mk rfl ?_
  refine Chk.mk hk ?_
  refine LoopG.of (fun x : Nat × Nat × List Int => ([(7, .b (.one (.int .i64 x.1))), (6, .b (.seq .u8 k)), (3, .b (.one (rowAt 13 x)))], heapAt 13 k x)) (fun x => x.1 ≤ 12) (fun x => 12 - x.1) (0, 0, []) ?_ ?_
  · exact ⟨Nat.zero_le _, ⟨rfl, rfl, rfl, trivial⟩, trivial⟩
  · rintro ⟨i, b, post⟩ hi
    have hi : i ≤ 12 := hi
    cases i with
    | zero =>
      refine Br.by (fun h => ?_) (fun h => absurd (show ((0 : Nat) : Int) < 12 by omega) h)
      refine Chk.mk ⟨by omega, by omega, hk⟩ ?_
      repeat (first | refine Chk.mk ⟨rfl, Nat.le_of_ble_eq_true rfl⟩ ?_)
      refine ⟨fun b2 => ?_⟩
      refine Chk.mk rfl ?_
      refine Chk.mk ⟨rfl, rfl, rfl, Nat.le_of_ble_eq_true rfl⟩ ?_
      refine Chk.mk (show (2 * 1 + 192) * (0 + 1) ≤ 281474976710656 ∧ 1 < 9223372036854775808 by omega) ?_
      refine ⟨fun b3 => ?_⟩
      intro post2
      refine Wr.i64 (by omega) ?_
      refine ⟨(0 + 1, b3, post2), by show 0 + 1 ≤ 12; omega, (by show 12 - (0 + 1) < 12 - 0; omega), ⟨rfl, rfl, rfl, trivial⟩, ⟨?_, trivial⟩⟩
      exact congrArg (fun l => some (b3, HB.full 5 (.ints .u8 (l ++ post2)))) (take_succ' k (i := 0) (by omega))
    | succ i =>
      refine Br.by (fun h => ?_) (fun h => ?_)
      · have hi : ((i + 1 : Nat) : Int) < 12 := h
        refine Chk.mk ⟨by omega, by omega, hk⟩ ?_
        repeat (first | refine Chk.mk ⟨rfl, Nat.le_of_ble_eq_true rfl⟩ ?_)
        refine ⟨fun b2 => ?_⟩
        refine Chk.mk rfl ?_
        refine ⟨(k.take (i + 1), post), rfl, rfl, rfl, rfl, ?_, ?_, ?_⟩
        · show (k.take (i + 1)).length = i + 1
          rw [List.length_take]; omega
        · show i + 1 + post.length = (k.take (i + 1) ++ post).length
          rw [List.length_append, List.length_take]; omega
        refine Chk.mk ⟨rfl, rfl, rfl, Nat.le_of_ble_eq_true rfl⟩ ?_
        refine Chk.mk (show (2 * (i + 1 + 1) + 192) * (0 + 1) ≤ 281474976710656 ∧ i + 1 + 1 < 9223372036854775808 by omega) ?_
        refine ⟨fun b3 => ?_⟩
        intro post2
        refine Wr.i64 (by omega) ?_
        refine ⟨(i + 1 + 1, b3, post2), by show i + 1 + 1 ≤ 12; omega, (by show 12 - (i + 1 + 1) < 12 - (i + 1); omega), ⟨rfl, rfl, rfl, trivial⟩, ⟨?_, trivial⟩⟩
        exact congrArg (fun l => some (b3, HB.full 5 (.ints .u8 (l ++ post2)))) (take_succ' k (by omega))
      · have hi : ¬ ((i + 1 : Nat) : Int) < 12 := h
        obtain rfl : i = 11 := by omega
        refine Chk.mk ⟨rfl, rfl, show 0 + (11 + 1) ≤ (k.take (11 + 1) ++ post).length by rw [List.length_append, List.length_take]; omega⟩ ?_
        refine ⟨[], trivial, ?_, rfl⟩
        refine congrArg (fun l => TV.b (.one (.str (bytesOf l)))) ?_
        show ((k.take (11 + 1) ++ post).drop 0).take (11 + 1) = k
        rw [List.drop_zero, List.take_append_of_le_length (by rw [List.length_take]; omega), List.take_take, Nat.min_self, List.take_of_length_le (by omega)]
end Go.Proofs.YtiijaiiejogbjaaDoor.Str
