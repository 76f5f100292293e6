/- The fixed fact. -/
import Derived.Test.YtiijaiiejogbjaaDoorW6
import Derived.KernelRfl
set_option linter.unusedVariables false
set_option linter.unusedSimpArgs false
set_option maxRecDepth 10000
namespace Go.Proofs.YtiijaiiejogbjaaDoor.Str
open Go Go.SX Go.Chacha

def keyS (i : Nat) : List UInt8 := (List.range i).map UInt8.ofNat
def wakeK : List Int := fitI (numsOf (keyS 32)) 32
def wakeN : List Int := fitI (numsOf [0, 0, 0, 9, 0, 0, 0, 74, 0, 0, 0, 0]) 12
def wakeB : List Int := Chacha.block wakeK 1 wakeN
theorem wake : wakeB.getD 0 0 = 16 ∧ wakeB.getD 1 0 = 241 ∧ wakeB.getD 2 0 = 231 ∧ wakeB.getD 7 0 = 21 ∧ wakeB.getD 63 0 = 78 := by decide +kernel

theorem bytes_one (i : Nat) : bytesOf (List.take 1 (List.drop 0 [(i : Int)])) = [UInt8.ofNat i] := by
  simp [bytesOf]
theorem wakeX : ∃ X : List Int, X.length = 64 ∧ (X.getD 0 0 = 16 ∧ X.getD 1 0 = 241 ∧ X.getD 2 0 = 231 ∧ X.getD 7 0 = 21 ∧ X.getD 63 0 = 78) ∧
    Ctr Tryd.prog 9 [(BV.seq .u8 (fitI (numsOf (keyS 32)) 32)).val, .int .u32 1, (BV.seq .u8 (fitI (numsOf [0, 0, 0, 9, 0, 0, 0, 74, 0, 0, 0, 0]) 12)).val] [(500, 0, .seg 0 (.ints .i64 quartersL)), (501, 1, .seg 0 (.ints .u32 begin4))]
      fun v H' => v = .b (.seq .u8 X) ∧ H' = [] :=
  ⟨wakeB, block_length _ _ _, wake, block wakeK wakeN 1 (fitI_length _ _) (fitI_length _ _) (fitI_bytes _ _) (fitI_bytes _ _) ⟨by decide, by decide⟩⟩

theorem awake : Ctr Tryd.prog 8 [] [(500, 0, .seg 0 (.ints .i64 quartersL)), (501, 1, .seg 0 (.ints .u32 begin4))] fun v H' => v = .b (.one (.bool true)) ∧ H' = [] := by
  refine Ctr.of (args := []) Tryd.func8 rfl (by kernel_rfl) rfl fun w0 => ?_
  refine LoopG.of (fun i : Nat => ([(4, .b (.one (.int .i64 i))), (1, .b (.one (.str (keyS i))))], [(500, 0, .seg 0 (.ints .i64 quartersL)), (501, 1, .seg 0 (.ints .u32 begin4))])) (fun i => i ≤ 32) (fun i => 32 - i) 0 ?_ ?_
  · exact ⟨by omega, ⟨rfl, rfl, trivial⟩, ⟨rfl, rfl, trivial⟩⟩
  · intro i hi
    refine Br.by (fun h => ?_) (fun h => ?_)
    · have hi : (i : Int) < 32 := h
      refine Wr.u8 (by omega) ?_
      refine Chk.mk ⟨rfl, Nat.le_of_ble_eq_true rfl⟩ ?_
      refine Chk.mk ⟨rfl, Nat.le_of_ble_eq_true rfl⟩ ?_
      refine ⟨fun b1 => ?_⟩
      refine Chk.mk ⟨rfl, rfl, Nat.le_of_ble_eq_true rfl⟩ ?_
      have e1 : bytesOf (List.take 1 (List.drop 0 [(i : Int)])) = [UInt8.ofNat i] := bytes_one i
      have e2 : (keyS i).length = i := by simp [keyS]
      refine Chk.mk (by rw [e1, e2, List.length_singleton]; omega) ?_
      refine Wr.i64 (by omega) ?_
      refine ⟨i + 1, by omega, (by show 32 - (i + 1) < 32 - i; omega), ⟨rfl, ?_, trivial⟩, ⟨rfl, rfl, trivial⟩⟩
      refine congrArg (fun l => some (TV.b (.one (.str l)))) ?_
      show keyS i ++ bytesOf (List.take 1 (List.drop 0 [(i : Int)])) = keyS (i + 1)
      rw [e1]
      simp [keyS, List.range_succ]
    · have hi : ¬ (i : Int) < 32 := h
      obtain rfl : i = 32 := by omega
      refine CallG.by [] (keyOf (keyS 32)) trivial ?_
      rintro v H' ⟨rfl, rfl⟩
      refine ⟨rfl, rfl, ?_⟩
      refine CallG.by [] (nonceOf [0, 0, 0, 9, 0, 0, 0, 74, 0, 0, 0, 0]) trivial ?_
      rintro v H' ⟨rfl, rfl⟩
      refine ⟨rfl, rfl, ?_⟩
      obtain ⟨X, hX, ⟨w1, w2, w3, w4, w5⟩, hc⟩ := wakeX
      refine CallG.by [500, 501] hc ⟨⟨rfl, HBle.refl _, rfl⟩, ⟨rfl, HBle.refl _, rfl⟩, trivial⟩ ?_
      rintro v H' ⟨rfl, rfl⟩
      refine ⟨rfl, rfl, ?_⟩
      refine ⟨fun b4 => ?_⟩
      refine Chk.mk ⟨rfl, (List.length_map ..).trans hX⟩ ?_
      refine Chk.mk ⟨rfl, hX⟩ ?_
      have l0 : 0 < X.length := by omega
      have l1 : 1 < X.length := by omega
      have l2 : 2 < X.length := by omega
      have l7 : 7 < X.length := by omega
      have l63 : 63 < X.length := by omega
      repeat (first | refine Br.dt w1 ?_ | refine Br.dt w2 ?_ | refine Br.dt w3 ?_ | refine Br.dt w4 ?_ | refine Br.dt w5 ?_ | refine Chk.mk rfl ?_ | refine Chk.mk ⟨by omega, by omega⟩ ?_ | refine Chk.mk l0 ?_ | refine Chk.mk l1 ?_ | refine Chk.mk l2 ?_ | refine Chk.mk l7 ?_ | refine Chk.mk l63 ?_)
      exact ⟨[], trivial, congrArg (fun b => TV.b (.one (.bool b))) (decide_eq_true w5), rfl⟩
end Go.Proofs.YtiijaiiejogbjaaDoor.Str
