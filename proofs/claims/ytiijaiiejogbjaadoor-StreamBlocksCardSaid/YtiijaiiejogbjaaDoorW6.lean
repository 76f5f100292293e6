/- Keys, nonces, bytes. -/
import Derived.Test.YtiijaiiejogbjaaDoorW5
set_option linter.unusedVariables false
set_option linter.unusedSimpArgs false
set_option maxRecDepth 10000
namespace Go.Proofs.YtiijaiiejogbjaaDoor.Str
open Go Go.SX Go.Chacha

def fitI (l : List Int) (n : Nat) : List Int := (l ++ List.replicate n 0).take n
theorem fitI_length (l : List Int) (n : Nat) : (fitI l n).length = n := by simp [fitI]

theorem fit_eq (l : List Int) (n : Nat) : (List.replicate n (0 : Int)).take 0 ++ l.take (min l.length n) ++ (List.replicate n (0 : Int)).drop (0 + min l.length n) = fitI l n := by
  unfold fitI
  rw [List.take_zero, List.nil_append, Nat.zero_add, List.drop_replicate, List.take_append, List.take_replicate]
  congr 1
  · by_cases h : l.length ≤ n
    · rw [Nat.min_eq_left h, List.take_of_length_le (Nat.le_refl _), List.take_of_length_le h]
    · rw [Nat.min_eq_right (by omega)]
  · congr 1
    omega

theorem keyOf (s : List UInt8) :
    Ctr Tryd.prog 16 [(SC.str s).val] [] fun v H' => v = .b (.seq .u8 (fitI (numsOf s) 32)) ∧ H' = [] := by
  refine Ctr.of (args := [.b (.one (.str s))]) Tryd.func16 rfl (by kernel_rfl) rfl fun w0 => ?_
  refine ⟨fun b1 => ?_⟩
  refine ⟨fun b2 => ?_⟩
  repeat (refine Chk.mk rfl ?_)
  refine Chk.mk ⟨rfl, rfl, Nat.le_of_ble_eq_true rfl⟩ ?_
  have e : (List.replicate 32 (0 : Int)).take 0 ++ (numsOf s).take (min (numsOf s).length 32) ++ (List.replicate 32 (0 : Int)).drop (0 + min (numsOf s).length 32) = fitI (numsOf s) 32 := fit_eq (numsOf s) 32
  have hl : ((List.replicate 32 (0 : Int)).take 0 ++ (numsOf s).take (min (numsOf s).length 32) ++ (List.replicate 32 (0 : Int)).drop (0 + min (numsOf s).length 32)).length = 32 := by rw [e]; exact fitI_length _ _
  refine Chk.mk rfl ?_
  refine Chk.mk hl ?_
  refine Chk.mk ⟨rfl, (List.length_map ..).trans hl⟩ ?_
  refine Chk.mk ⟨rfl, hl⟩ ?_
  refine Chk.mk rfl ?_
  refine Chk.mk hl ?_
  exact ⟨[], trivial, congrArg (fun l => TV.b (.seq .u8 l)) e, rfl⟩
theorem nonceOf (s : List UInt8) :
    Ctr Tryd.prog 17 [(SC.str s).val] [] fun v H' => v = .b (.seq .u8 (fitI (numsOf s) 12)) ∧ H' = [] := by
  refine Ctr.of (args := [.b (.one (.str s))]) Tryd.func17 rfl (by kernel_rfl) rfl fun w0 => ?_
  refine ⟨fun b1 => ?_⟩
  refine ⟨fun b2 => ?_⟩
  repeat (refine Chk.mk rfl ?_)
  refine Chk.mk ⟨rfl, rfl, Nat.le_of_ble_eq_true rfl⟩ ?_
  have e : (List.replicate 12 (0 : Int)).take 0 ++ (numsOf s).take (min (numsOf s).length 12) ++ (List.replicate 12 (0 : Int)).drop (0 + min (numsOf s).length 12) = fitI (numsOf s) 12 := fit_eq (numsOf s) 12
  have hl : ((List.replicate 12 (0 : Int)).take 0 ++ (numsOf s).take (min (numsOf s).length 12) ++ (List.replicate 12 (0 : Int)).drop (0 + min (numsOf s).length 12)).length = 12 := by rw [e]; exact fitI_length _ _
  refine Chk.mk rfl ?_
  refine Chk.mk hl ?_
  refine Chk.mk ⟨rfl, (List.length_map ..).trans hl⟩ ?_
  refine Chk.mk ⟨rfl, hl⟩ ?_
  refine Chk.mk rfl ?_
  refine Chk.mk hl ?_
  exact ⟨[], trivial, congrArg (fun l => TV.b (.seq .u8 l)) e, rfl⟩
theorem fitI_bytes (s : List UInt8) (n : Nat) : Bytes (fitI (numsOf s) n) := by
  refine bytes_of fun x hx => ?_
  have hx := List.mem_of_mem_take hx
  rcases List.mem_append.1 hx with hx | hx
  · simp only [numsOf, List.mem_map] at hx
    obtain ⟨b, _, rfl⟩ := hx
    have := b.toNat_lt
    omega
  · have := List.eq_of_mem_replicate hx
    omega
theorem nums_zero (m : Nat) : numsOf (bytesOf (List.replicate m 0)) = List.replicate m 0 := by
  induction m with
  | zero => rfl
  | succ m ih =>
    rw [List.replicate_succ]
    show (0 : Int) :: numsOf (bytesOf (List.replicate m 0)) = _
    rw [ih]
theorem xorz (k n : List Int) (c : Int) (z : List UInt8) (m : Nat) (hm : m ≤ 65536) (hz : z = bytesOf (List.replicate m 0)) (hkl : k.length = 32) (hnl : n.length = 12) (hk : Bytes k) (hn : Bytes n) (hc : 0 ≤ c ∧ c < 4294967296) :
    Ctr Tryd.prog 14 [(BV.seq .u8 k).val, .int .u32 c, (BV.seq .u8 n).val, (SC.str z).val] [(500, 0, .seg 0 (.ints .i64 quartersL)), (501, 1, .seg 0 (.ints .u32 begin4))]
      fun v H' => v = .b (.one (.str (bytesOf (xored k c n (List.replicate m 0))))) ∧ H' = [] := by
  have h : numsOf z = List.replicate m 0 := by rw [hz, nums_zero]
  have := xor k n c z (by rw [← nums_length, h, List.length_replicate]; omega) hkl hnl hk hn hc
  rw [h] at this
  exact this
set_option maxHeartbeats 4000000 in
theorem bytes (k n : List Int) (c : Int) (m : Int) (hm : 0 ≤ m ∧ m ≤ 65536) (hkl : k.length = 32) (hnl : n.length = 12) (hk : Bytes k) (hn : Bytes n) (hc : 0 ≤ c ∧ c < 4294967296) :
    Ctr Tryd.prog 18 [(BV.seq .u8 k).val, .int .u32 c, (BV.seq .u8 n).val, .int .i64 m] [(500, 0, .seg 0 (.ints .i64 quartersL)), (501, 1, .seg 0 (.ints .u32 begin4))]
      fun v H' => v = .b (.one (.str (bytesOf (xored k c n (List.replicate m.toNat 0))))) ∧ H' = [] := by
  refine Ctr.of (args := [.b (.seq .u8 k), .b (.one (.int .u32 c)), .b (.seq .u8 n), .b (.one (.int .i64 m))]) Tryd.func18 rfl (by kernel_rfl) rfl fun w0 => ?_
  refine ⟨fun b1 => ?_⟩
  refine ⟨fun b2 => ?_⟩
  refine Draw.cut (fun _ : Unit => ([(8, .b (.one (.str (bytesOf (xored k c n (List.replicate m.toNat 0))))))], [])) ?_ (fun _ => ?_)
  rotate_left
  · exact ⟨[], trivial, rfl, rfl⟩
  refine Draw.sched ((.one 1 (.one 3 (.one 4 (.one 5 (.alt 0 (.alt 2 (.alt 6 (.alt 7 (.alt 8 (.one 9 .done) .fin) .fin) .fin) (.alt 6 (.alt 2 (.alt 7 (.alt 8 (.one 9 .done) .fin) .fin) (.alt 7 (.alt 2 (.alt 8 (.one 9 .done) .fin) .fin) .fin)) .fin)) (.alt 2 (.alt 0 (.alt 6 (.alt 7 (.alt 8 (.one 9 .done) .fin) .fin) .fin) (.alt 6 (.alt 0 (.alt 7 (.alt 8 (.one 9 .done) .fin) .fin) (.alt 7 (.alt 0 (.alt 8 (.one 9 .done) .fin) .fin) .fin)) .fin)) (.alt 6 (.alt 0 (.alt 2 (.alt 7 (.alt 8 (.one 9 .done) .fin) .fin) (.alt 7 (.alt 2 (.alt 8 (.one 9 .done) .fin) .fin) .fin)) (.alt 2 (.alt 0 (.alt 7 (.alt 8 (.one 9 .done) .fin) .fin) (.alt 7 (.alt 0 (.alt 8 (.one 9 .done) .fin) .fin) .fin)) (.alt 7 (.alt 0 (.alt 2 (.alt 8 (.one 9 .done) .fin) .fin) (.alt 2 (.alt 0 (.alt 8 (.one 9 .done) .fin) .fin) .fin)) .fin))) .fin)))))))) (by kernel_rfl) (by kernel_rfl) ?_
  have hE : (if (if 65536 < m then 65536 else m) > 0 then (if 65536 < m then 65536 else m) else 0) = m := by
    have h1 : ¬ 65536 < m := by omega
    rw [if_neg h1]
    split <;> omega
  have mk : (0 ≤ (if (if 65536 < m then 65536 else m) > 0 then (if 65536 < m then 65536 else m) else 0)) ∧ ((if (if 65536 < m then 65536 else m) > 0 then (if 65536 < m then 65536 else m) else 0) ≤ (if (if 65536 < m then 65536 else m) > 0 then (if 65536 < m then 65536 else m) else 0)) ∧ ((1 : Nat) : Int) * (if (if 65536 < m then 65536 else m) > 0 then (if 65536 < m then 65536 else m) else 0) ≤ 281474976710656 ∧ (if (if 65536 < m then 65536 else m) > 0 then (if 65536 < m then 65536 else m) else 0) < 9223372036854775808 := by
    rw [hE]; omega
  have hlen : 0 + (if (if 65536 < m then 65536 else m) > 0 then (if 65536 < m then 65536 else m) else 0).toNat ≤ (List.replicate (if (if 65536 < m then 65536 else m) > 0 then (if 65536 < m then 65536 else m) else 0).toNat (0 : Int)).length := by
    rw [List.length_replicate]; omega
  have hz : bytesOf (List.take (if (if 65536 < m then 65536 else m) > 0 then (if 65536 < m then 65536 else m) else 0).toNat (List.drop 0 (List.replicate (if (if 65536 < m then 65536 else m) > 0 then (if 65536 < m then 65536 else m) else 0).toNat (0 : Int)))) = bytesOf (List.replicate m.toNat 0) := by
    rw [hE, List.drop_zero, List.take_of_length_le (by rw [List.length_replicate]; omega)]
  repeat' (first | exact trivial | refine And.intro ?_ ?_ | refine Chk.mk rfl ?_ | refine Chk.mk hkl ?_ | refine Chk.mk hnl ?_ | refine Chk.mk ⟨rfl, mk⟩ ?_ | refine New.mk fun b => ?_ | refine Chk.mk ⟨rfl, rfl, hlen⟩ ?_ | (refine CallG.by [500, 501] (xorz k n c _ m.toNat (by omega) hz hkl hnl hk hn hc) ⟨⟨rfl, HBle.refl _, rfl⟩, ⟨rfl, HBle.refl _, rfl⟩, trivial⟩ ?_; rintro v H' ⟨rfl, rfl⟩; refine ⟨rfl, rfl, ?_⟩; exact ⟨(), ⟨rfl, trivial⟩, trivial⟩))
end Go.Proofs.YtiijaiiejogbjaaDoor.Str
