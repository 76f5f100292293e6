/- Texts xored by package stream. -/
import Derived.Test.YtiijaiiejogbjaaDoorW4
set_option linter.unusedVariables false
set_option linter.unusedSimpArgs false
set_option maxRecDepth 10000
namespace Go.Proofs.YtiijaiiejogbjaaDoor.Str
open Go Go.SX Go.Chacha

theorem block' {kv nv : Value} {cv : Int} (k n : List Int) (c : Int) (hkv : kv = (BV.seq .u8 k).val) (hnv : nv = (BV.seq .u8 n).val) (hcv : cv = c) (hkl : k.length = 32) (hnl : n.length = 12) (hk : Bytes k) (hn : Bytes n) (hc : 0 ≤ c ∧ c < 4294967296) :
    Ctr Tryd.prog 9 [kv, .int .u32 cv, nv] [(500, 0, .seg 0 (.ints .i64 quartersL)), (501, 1, .seg 0 (.ints .u32 begin4))]
      fun v H' => v = .b (.seq .u8 (Chacha.block k c n)) ∧ H' = [] := by
  subst hkv hnv hcv; exact block k n cv hkl hnl hk hn hc

def mix (k : List Int) (c : Int) (n : List Int) (l : List Int) (p : Nat) : List Int := l.mapIdx fun i b => if i < p then xorI b (streamAt k c n i) else b
theorem mix_zero (k : List Int) (c : Int) (n l : List Int) : mix k c n l 0 = l := by
  refine List.ext_getElem? fun i => ?_
  simp [mix, List.getElem?_mapIdx]
theorem mix_end (k : List Int) (c : Int) (n l : List Int) {p : Nat} (hp : l.length ≤ p) : mix k c n l p = xored k c n l := by
  refine List.ext_getElem? fun i => ?_
  simp only [mix, xored, List.getElem?_mapIdx]
  by_cases hi : i < l.length
  · simp [List.getElem?_eq_getElem hi, show i < p by omega]
  · simp [List.getElem?_eq_none (Nat.not_lt.1 hi)]
theorem mix_length (k : List Int) (c : Int) (n l : List Int) (p : Nat) : (mix k c n l p).length = l.length := by simp [mix]
theorem mix_get (k : List Int) (c : Int) (n l t : List Int) {p : Nat} (hp : p < l.length) : (mix k c n l p ++ t).getD p 0 = l.getD p 0 := by
  rw [List.getD_eq_getElem?_getD, List.getElem?_append_left (show p < (mix k c n l p).length by rw [mix_length]; exact hp)]
  simp [mix, List.getElem?_mapIdx, hp]
theorem mix_step (k : List Int) (c : Int) (n l t : List Int) {p : Nat} (hp : p < l.length) : (mix k c n l p ++ t).set p (xorI (l.getD p 0) (streamAt k c n p)) = mix k c n l (p + 1) ++ t := by
  rw [List.set_append_left _ _ (by rw [mix_length]; exact hp)]
  congr 1
  refine List.ext_getElem? fun i => ?_
  simp only [mix, List.getElem?_set, List.getElem?_mapIdx, List.length_mapIdx]
  by_cases h : p = i
  · subst h
    simp [hp, List.getD_eq_getElem?_getD]
  · simp only [h, if_false]
    by_cases hi : i < l.length
    · simp only [List.getElem?_eq_getElem hi, Option.map_some]
      by_cases h2 : i < p
      · simp [h2, show i < p + 1 by omega]
      · simp [h2, show ¬ i < p + 1 by omega]
    · simp [List.getElem?_eq_none (Nat.not_lt.1 hi)]
theorem nums_bytes (s : List UInt8) : Bytes (numsOf s) := by
  refine bytes_of fun x hx => ?_
  simp only [numsOf, List.mem_map] at hx
  obtain ⟨b, _, rfl⟩ := hx
  have := b.toNat_lt
  omega
theorem nums_length (s : List UInt8) : (numsOf s).length = s.length := by simp [numsOf]
theorem xor_u8 {a b : Int} (ha : 0 ≤ a ∧ a < 256) (hb : 0 ≤ b ∧ b < 256) : ixor .u8 a b = xorI a b :=
  ixor_nat rfl ha.1 (by simp only [IntKind.bits]; omega) hb.1 (by simp only [IntKind.bits]; omega)

theorem xor (k n : List Int) (c : Int) (s : List UInt8) (hs : s.length ≤ 4611686018427387904) (hkl : k.length = 32) (hnl : n.length = 12) (hk : Bytes k) (hn : Bytes n) (hc : 0 ≤ c ∧ c < 4294967296) :
    Ctr Tryd.prog 14 [(BV.seq .u8 k).val, .int .u32 c, (BV.seq .u8 n).val, (SC.str s).val] [(500, 0, .seg 0 (.ints .i64 quartersL)), (501, 1, .seg 0 (.ints .u32 begin4))]
      fun v H' => v = .b (.one (.str (bytesOf (xored k c n (numsOf s))))) ∧ H' = [] := by
  refine Ctr.of (args := [.b (.seq .u8 k), .b (.one (.int .u32 c)), .b (.seq .u8 n), .b (.one (.str s))]) Tryd.func14 rfl (by kernel_rfl) rfl fun w0 => ?_
  refine ⟨fun b1 => ?_⟩
  refine ⟨fun b2 => ?_⟩
  refine ⟨fun b3 => ?_⟩
  intro spare
  have hN : (numsOf s).length = s.length := nums_length s
  let t := List.replicate spare (0 : Int)
  refine LoopG.of (fun q : Nat => ([(10, .b (.one (.int .i64 ((64 * q : Nat) : Int)))), (1, .b (.one (.int .u32 ((c + q) % 4294967296)))), (9, .b (.one (.sl 14 b3 0 0 1 s.length (s.length + spare)))), (4, .b (.one (.ptr ⟨4, b1, .lit 0⟩))), (6, .b (.one (.ptr ⟨6, b2, .lit 0⟩)))], [(14, b3, .full 5 (.ints .u8 (mix k c n (numsOf s) (64 * q) ++ t))), (4, b1, .full 23 (.ints .u8 k)), (6, b2, .full 26 (.ints .u8 n)), (500, 0, .seg 0 (.ints .i64 quartersL)), (501, 1, .seg 0 (.ints .u32 begin4))])) (fun q => 64 * q < s.length + 64) (fun q => s.length + 64 - 64 * q) 0 ?_ ?_
  · refine ⟨by omega, ⟨rfl, ?_, rfl, rfl, rfl, trivial⟩, ⟨?_, rfl, rfl, rfl, rfl, trivial⟩⟩
    · exact congrArg (fun z => some (TV.b (.one (.int .u32 z)))) (by omega : c = (c + ((0 : Nat) : Int)) % 4294967296)
    · exact congrArg (fun l => some (b3, HB.full 5 (.ints .u8 (l ++ t)))) (mix_zero k c n (numsOf s)).symm
  · intro q hq
    refine Br.by (fun h => ?_) (fun h => ?_)
    · have hat : ((64 * q : Nat) : Int) < s.length := h
      repeat (refine Chk.mk rfl ?_)
      refine Chk.mk hkl ?_
      repeat (refine Chk.mk rfl ?_)
      refine Chk.mk hnl ?_
      refine CallG.by [500, 501] (block k n ((c + q) % 4294967296) hkl hnl hk hn (by omega)) ⟨⟨rfl, HBle.refl _, rfl⟩, ⟨rfl, HBle.refl _, rfl⟩, trivial⟩ ?_
      rintro v H' ⟨rfl, rfl⟩
      refine ⟨rfl, rfl, ?_⟩
      let X := Chacha.block k ((c + q) % 4294967296) n
      have hX : X.length = 64 := block_length ..
      have hXb : Bytes X := block_bytes _ _ _
      refine ⟨fun b4 => ?_⟩
      refine Chk.mk ⟨rfl, (List.length_map ..).trans hX⟩ ?_
      refine Chk.mk ⟨rfl, hX⟩ ?_
      refine LoopG.of (fun p : Nat => ([(12, .b (.one (.int .i64 p))), (10, .b (.one (.int .i64 ((64 * q : Nat) : Int)))), (1, .b (.one (.int .u32 ((c + q) % 4294967296)))), (9, .b (.one (.sl 14 b3 0 0 1 s.length (s.length + spare)))), (4, .b (.one (.ptr ⟨4, b1, .lit 0⟩))), (6, .b (.one (.ptr ⟨6, b2, .lit 0⟩))), (11, .b (.one (.ptr ⟨11, b4, .lit 0⟩)))], [(11, b4, .full 31 (.ints .u8 X)), (14, b3, .full 5 (.ints .u8 (mix k c n (numsOf s) p ++ t))), (4, b1, .full 23 (.ints .u8 k)), (6, b2, .full 26 (.ints .u8 n)), (500, 0, .seg 0 (.ints .i64 quartersL)), (501, 1, .seg 0 (.ints .u32 begin4))])) (fun p => 64 * q ≤ p ∧ p ≤ s.length ∧ p ≤ 64 * q + 64) (fun p => s.length - p) (64 * q) ?_ ?_
      · exact ⟨by omega, ⟨rfl, rfl, rfl, rfl, rfl, rfl, rfl, trivial⟩, ⟨rfl, rfl, rfl, rfl, rfl, rfl, trivial⟩⟩
      · intro p hp
        refine Wr.i64 (by omega) ?_
        refine Br.by (fun h => ?_) (fun h => ?_)
        · have hp1 : p < s.length ∧ p < 64 * q + 64 := by
            split at h <;> omega
          have hlen : (mix k c n (numsOf s) p ++ t).length = s.length + t.length := by rw [List.length_append, mix_length, hN]
          refine Draw.tailQ 11 (by kernel_rfl) (by kernel_rfl) ?_
          refine Chk.mk rfl ?_
          refine Chk.mk ⟨by omega, by omega⟩ ?_
          refine Chk.mk rfl ?_
          refine Chk.mk (show 0 + (p : Int).toNat < (mix k c n (numsOf s) p ++ t).length by omega) ?_
          refine Wr.i64 (by omega) ?_
          refine Chk.mk ⟨by omega, by omega⟩ ?_
          refine Chk.mk rfl ?_
          refine Chk.mk (show ((p : Int) - ((64 * q : Nat) : Int)).toNat < X.length by omega) ?_
          refine Chk.mk rfl ?_
          refine Chk.mk ⟨by omega, by omega⟩ ?_
          refine Chk.mk ⟨rfl, rfl⟩ ?_
          refine Chk.mk ⟨rfl, show 0 + (p : Int).toNat < (mix k c n (numsOf s) p ++ t).length by omega⟩ ?_
          refine Wr.i64 (by omega) ?_
          have e : (mix k c n (numsOf s) p ++ t).set (0 + (p : Int).toNat) (ixor .u8 ((mix k c n (numsOf s) p ++ t).getD (0 + (p : Int).toNat) 0) (X.getD ((p : Int) - ((64 * q : Nat) : Int)).toNat 0)) = mix k c n (numsOf s) (p + 1) ++ t := by
            have hd : p / 64 = q := by omega
            have hm : p % 64 = p - 64 * q := by omega
            have hst : streamAt k c n p = X.getD (p - 64 * q) 0 := by unfold streamAt; rw [hd, hm]
            rw [show 0 + (p : Int).toNat = p by omega, show ((p : Int) - ((64 * q : Nat) : Int)).toNat = p - 64 * q by omega, mix_get k c n (numsOf s) t (by omega), ← hst,
              xor_u8 (nums_bytes s p) (streamAt_b k c n p), mix_step k c n (numsOf s) t (by omega)]
          exact ⟨p + 1, ⟨by omega, by omega, by omega⟩, (by show s.length - (p + 1) < s.length - p; omega), ⟨rfl, rfl, rfl, rfl, rfl, rfl, rfl, trivial⟩, ⟨rfl, congrArg (fun l => some (b3, HB.full 5 (.ints .u8 l))) e, rfl, rfl, rfl, rfl, trivial⟩⟩
        · have hp1 : p = s.length ∨ p = 64 * q + 64 := by
            split at h <;> omega
          have e : mix k c n (numsOf s) p = mix k c n (numsOf s) (64 * (q + 1)) := by
            by_cases hp2 : p = 64 * q + 64
            · rw [hp2]; rfl
            · rw [mix_end k c n (numsOf s) (by omega), mix_end k c n (numsOf s) (by omega)]
          refine ⟨?_⟩
          refine Wr.i64 (by omega) ?_
          refine ⟨q + 1, by omega, (by show s.length + 64 - 64 * (q + 1) < s.length + 64 - 64 * q; omega), ⟨?_, ?_, rfl, rfl, rfl, trivial⟩, ⟨?_, rfl, rfl, rfl, rfl, trivial⟩⟩
          · exact congrArg (fun z => some (TV.b (.one (.int .i64 z)))) (by omega : ((64 * q : Nat) : Int) + 64 = ((64 * (q + 1) : Nat) : Int))
          · exact congrArg (fun z => some (TV.b (.one (.int .u32 z)))) (show ((c + q) % 4294967296 + 1) % 4294967296 = (c + ((q + 1 : Nat) : Int)) % 4294967296 by omega)
          · exact congrArg (fun l => some (b3, HB.full 5 (.ints .u8 (l ++ t)))) e
    · have hat : ¬ ((64 * q : Nat) : Int) < s.length := h
      refine Chk.mk ⟨rfl, rfl, ?_⟩ ?_
      · rw [List.length_append, mix_length]; omega
      refine ⟨[], trivial, ?_, rfl⟩
      rw [mix_end k c n (numsOf s) (by omega)]
      have e : ((xored k c n (numsOf s) ++ t).drop 0).take s.length = xored k c n (numsOf s) := by
        rw [List.drop_zero, List.take_append_of_le_length (by simp [xored, hN]), List.take_of_length_le (by simp [xored, hN])]
      exact congrArg (fun l => TV.b (.one (.str (bytesOf l)))) e
end Go.Proofs.YtiijaiiejogbjaaDoor.Str
