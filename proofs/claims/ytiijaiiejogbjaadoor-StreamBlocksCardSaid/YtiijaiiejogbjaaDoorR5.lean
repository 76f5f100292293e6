/- The law StreamBlocks. -/
import Derived.Test.YtiijaiiejogbjaaDoorR4
set_option linter.unusedVariables false
set_option linter.unusedSimpArgs false
set_option maxRecDepth 10000
namespace Go.Proofs.YtiijaiiejogbjaaDoor.Str
open Go Go.SX Go.Chacha

theorem nums_bytesOf {l : List Int} (h : ∀ x ∈ l, 0 ≤ x ∧ x < 256) : numsOf (bytesOf l) = l := by
  induction l with
  | nil => rfl
  | cons x l ih =>
    have hx := h x (List.mem_cons_self ..)
    show ((UInt8.ofNat x.toNat).toNat : Int) :: numsOf (bytesOf l) = x :: l
    rw [ih fun y hy => h y (List.mem_cons_of_mem _ hy)]
    congr 1
    rw [UInt8.toNat_ofNat', Nat.mod_eq_of_lt (by omega)]
    omega
theorem PlaceOk.keyMem {f : Nat → Int} (h : PlaceOk f) : ∀ x ∈ keyOfPlace f, 0 ≤ x ∧ x < 256 := by
  intro x hx
  simp only [keyOfPlace, List.mem_map, List.mem_range] at hx
  obtain ⟨i, hi, rfl⟩ := hx
  exact h.bytes i (by omega)
theorem PlaceOk.nonceMem {f : Nat → Int} (h : PlaceOk f) : ∀ x ∈ nonceOfPlace f, 0 ≤ x ∧ x < 256 := by
  intro x hx
  simp only [nonceOfPlace, List.mem_map, List.mem_range] at hx
  obtain ⟨i, hi, rfl⟩ := hx
  exact h.bytes (33 + i) (by omega)
/-- The document's block, of a place. -/
theorem blockP (f : Nat → Int) (hf : PlaceOk f) :
    Ctr Tryd.prog 10 [(SC.str (bytesOf (keyOfPlace f))).val, .int .i64 (f 32), (SC.str (bytesOf (nonceOfPlace f))).val] [] fun v H' => v = .b (.one (.str (bytesOf (Chacha.block (keyOfPlace f) (f 32) (nonceOfPlace f))))) ∧ H' = [] := by
  have := blockR (bytesOf (keyOfPlace f)) (bytesOf (nonceOfPlace f)) (f 32) (by simp [bytesOf, keyOfPlace]) (by simp [bytesOf, nonceOfPlace]) hf.ctr
  rw [nums_bytesOf hf.keyMem, nums_bytesOf hf.nonceMem] at this
  exact this
theorem Ctr.q {P : Program} {f : FuncId} {args : List Value} {G : Heap} {v : TV} (h : Ctr P f args G fun u H' => u = v ∧ H' = []) : Ctr P f args G fun u _ => u.val = v.val := h.mono fun u H' h => by rw [h.1]

theorem lawBlocks (f : Nat → Int) (hf : PlaceOk f) :
    Ctr Tryd.prog 3 [(BV.agg (place f)).val] [(500, 0, .seg 0 (.ints .i64 quartersL)), (501, 1, .seg 0 (.ints .u32 begin4))] fun v H' => v = .b (.one (.bool true)) ∧ H' = [] := by
  refine Ctr.of (args := [.b (.agg (place f))]) Tryd.func3 rfl (by kernel_rfl) rfl fun w0 => ?_
  conv => whnf
  refine ⟨fun b1 => ?_⟩
  refine CallG.by [500, 501] awake ⟨⟨rfl, HBle.refl _, rfl⟩, ⟨rfl, HBle.refl _, rfl⟩, trivial⟩ ?_
  rintro v H' ⟨rfl, rfl⟩
  refine ⟨rfl, rfl, ?_⟩
  refine Br.false' rfl ?_
  repeat (first | refine Chk.mk rfl ?_ | refine Chk.mk (Nat.le_of_ble_eq_true rfl) ?_)
  let B := Chacha.block (keyOfPlace f) (f 32) (nonceOfPlace f)
  have hB : B.length = 64 := block_length _ _ _
  refine CallG.by [500, 501] (block (keyOfPlace f) (nonceOfPlace f) (f 32) rfl rfl hf.key hf.nonce hf.ctr) ⟨⟨rfl, HBle.refl _, rfl⟩, ⟨rfl, HBle.refl _, rfl⟩, trivial⟩ ?_
  rintro v H' ⟨rfl, rfl⟩
  refine ⟨rfl, rfl, ?_⟩
  refine LoopG.of (fun x : Nat × Nat × List Int => ([(15, .b (.one (.int .i64 x.1))), (14, .b (.seq .u8 B)), (1, .b (.one (.ptr ⟨1, b1, .lit 0⟩))), (3, .b (.one (rowAt 21 x)))], (1, b1, .full 28 (.cells (place f))) :: heapAt 21 B x)) (fun x => x.1 ≤ 64) (fun x => 64 - x.1) (0, 0, []) ?_ ?_
  · exact ⟨Nat.zero_le _, ⟨rfl, rfl, rfl, rfl, trivial⟩, ⟨rfl, trivial⟩⟩
  · rintro ⟨i, b, post⟩ hi
    have hi : i ≤ 64 := hi
    cases i with
    | zero =>
      refine Br.by (fun h => ?_) (fun h => absurd (show ((0 : Nat) : Int) < 64 by omega) h)
      refine Chk.mk ⟨by omega, by omega, hB⟩ ?_
      repeat (first | refine Chk.mk ⟨rfl, Nat.le_of_ble_eq_true rfl⟩ ?_)
      refine ⟨fun b2 => ?_⟩
      refine Chk.mk rfl ?_
      refine Chk.mk ⟨rfl, rfl, rfl, Nat.le_of_ble_eq_true rfl⟩ ?_
      refine Chk.mk (show (2 * 1 + 192) * (0 + 1) ≤ 281474976710656 ∧ 1 < 9223372036854775808 by omega) ?_
      refine ⟨fun b3 => ?_⟩
      intro post2
      refine Wr.i64 (by omega) ?_
      refine ⟨(0 + 1, b3, post2), by show 0 + 1 ≤ 64; omega, (by show 64 - (0 + 1) < 64 - 0; omega), ⟨rfl, rfl, rfl, rfl, trivial⟩, ⟨rfl, ?_, trivial⟩⟩
      exact congrArg (fun l => some (b3, HB.full 5 (.ints .u8 (l ++ post2)))) (take_succ' B (i := 0) (by omega))
    | succ i =>
      refine Br.by (fun h => ?_) (fun h => ?_)
      · have hi : ((i + 1 : Nat) : Int) < 64 := h
        refine Chk.mk ⟨by omega, by omega, hB⟩ ?_
        repeat (first | refine Chk.mk ⟨rfl, Nat.le_of_ble_eq_true rfl⟩ ?_)
        refine ⟨fun b2 => ?_⟩
        refine Chk.mk rfl ?_
        refine ⟨(B.take (i + 1), post), rfl, rfl, rfl, rfl, ?_, ?_, ?_⟩
        · show (B.take (i + 1)).length = i + 1
          rw [List.length_take]; omega
        · show i + 1 + post.length = (B.take (i + 1) ++ post).length
          rw [List.length_append, List.length_take]; omega
        refine Chk.mk ⟨rfl, rfl, rfl, Nat.le_of_ble_eq_true rfl⟩ ?_
        refine Chk.mk (show (2 * (i + 1 + 1) + 192) * (0 + 1) ≤ 281474976710656 ∧ i + 1 + 1 < 9223372036854775808 by omega) ?_
        refine ⟨fun b3 => ?_⟩
        intro post2
        refine Wr.i64 (by omega) ?_
        refine ⟨(i + 1 + 1, b3, post2), by show i + 1 + 1 ≤ 64; omega, (by show 64 - (i + 1 + 1) < 64 - (i + 1); omega), ⟨rfl, rfl, rfl, rfl, trivial⟩, ⟨rfl, ?_, trivial⟩⟩
        exact congrArg (fun l => some (b3, HB.full 5 (.ints .u8 (l ++ post2)))) (take_succ' B (by omega))
      · have hi : ¬ ((i + 1 : Nat) : Int) < 64 := h
        obtain rfl : i = 63 := by omega
        refine Draw.tailQ 12 (by kernel_rfl) (by kernel_rfl) ?_
        refine Chk.mk ⟨rfl, rfl, show 0 + (63 + 1) ≤ (B.take (63 + 1) ++ post).length by rw [List.length_append, List.length_take]; omega⟩ ?_
        repeat (first | refine Chk.mk rfl ?_ | refine Chk.mk (Nat.le_of_ble_eq_true rfl) ?_)
        have hc := hf.ctr
        refine CallQ.by (.b (.one (.str (bytesOf (keyOfPlace f))))) [] (Ctr.q (keyText (keyOfPlace f) rfl hf.key)) (fun k => rfl) trivial ?_
        repeat (first | refine Chk.mk rfl ?_ | refine Chk.mk (Nat.le_of_ble_eq_true rfl) ?_)
        refine Wr.i64 (show -9223372036854775808 ≤ f 32 ∧ f 32 ≤ 9223372036854775807 by omega) ?_
        repeat (first | refine Chk.mk rfl ?_ | refine Chk.mk (Nat.le_of_ble_eq_true rfl) ?_)
        refine CallQ.by (.b (.one (.str (bytesOf (nonceOfPlace f))))) [] (Ctr.q (nonceText (nonceOfPlace f) rfl hf.nonce)) (fun k => rfl) trivial ?_
        refine CallQ.by (.b (.one (.str (bytesOf B)))) [] (Ctr.q (blockP f hf)) (fun k => rfl) trivial ?_
        refine ⟨[], trivial, ?_, rfl⟩
        refine congrArg (fun b => TV.b (.one (.bool b))) (decide_eq_true ?_)
        show bytesOf (((B.take (63 + 1) ++ post).drop 0).take (63 + 1)) = bytesOf B
        rw [List.drop_zero, List.take_append_of_le_length (by rw [List.length_take]; omega), List.take_take, Nat.min_self, List.take_of_length_le (by omega)]
end Go.Proofs.YtiijaiiejogbjaaDoor.Str
