/- The document's SHA-256: numbers. -/
import Derived.Test.YtpmnfciojbmgdaaDoorW8
set_option linter.unusedVariables false
set_option linter.unusedSimpArgs false
set_option maxRecDepth 10000
namespace Go.Proofs.YtpmnfciojbmgdaaDoor
open Go Go.SY Go.Sha

theorem wrap_small (n : Nat) (h : n < 4294967296) : IntKind.i64.wrap (n : Int) = n := wrap_i64 (by omega)
theorem ofInt64 (a : BitVec 32) : BitVec.ofInt IntKind.i64.bits (a.toNat : Int) = a.setWidth 64 := bv_conv a
theorem ixor_nat (a b : BitVec 32) : ixor .i64 a.toNat b.toNat = ((a ^^^ b).toNat : Int) := by
  have e : (BitVec.ofInt IntKind.i64.bits (a.toNat : Int) ^^^ BitVec.ofInt IntKind.i64.bits (b.toNat : Int)).toNat = (a ^^^ b).toNat := by
    rw [ofInt64, ofInt64]
    show (a.setWidth 64 ^^^ b.setWidth 64).toNat = _
    rw [← BitVec.setWidth_xor, BitVec.toNat_setWidth, Nat.mod_eq_of_lt (Nat.lt_trans (a ^^^ b).isLt (by decide))]
  unfold ixor
  rw [e]; exact wrap_small _ (a ^^^ b).isLt
theorem iand_nat (a b : BitVec 32) : iand .i64 a.toNat b.toNat = ((a &&& b).toNat : Int) := by
  have e : (BitVec.ofInt IntKind.i64.bits (a.toNat : Int) &&& BitVec.ofInt IntKind.i64.bits (b.toNat : Int)).toNat = (a &&& b).toNat := by
    rw [ofInt64, ofInt64]
    show (a.setWidth 64 &&& b.setWidth 64).toNat = _
    rw [← BitVec.setWidth_and, BitVec.toNat_setWidth, Nat.mod_eq_of_lt (Nat.lt_trans (a &&& b).isLt (by decide))]
  unfold iand
  rw [e]; exact wrap_small _ (a &&& b).isLt
theorem not_nat (e : BitVec 32) : (4294967295 : Int) - (e.toNat : Int) = ((~~~e).toNat : Int) := by
  have := e.isLt
  rw [BitVec.toNat_not]; omega
theorem nums_get (h : List (BitVec 32)) (i : Nat) : (nums h).getD i (0 : Int) = ((h.getD i 0).toNat : Int) := by
  unfold nums
  simp only [List.getD_eq_getElem?_getD, List.getElem?_map]
  cases h[i]? <;> rfl
theorem nums_length (h : List (BitVec 32)) : (nums h).length = h.length := List.length_map _
theorem tmod_nat (a b : Nat) : Int.tmod (a : Int) (b : Int) = ((a % b : Nat) : Int) := rfl
theorem tdiv_nat (a b : Nat) : Int.tdiv (a : Int) (b : Int) = ((a / b : Nat) : Int) := rfl
theorem or4 (a b c d : Nat) (hb : b < 256) (hc : c < 256) (hd : d < 256) : ((a <<< 24 ||| b <<< 16) ||| c <<< 8) ||| d = ((a * 256 + b) * 256 + c) * 256 + d := by
  have e1 : a <<< 24 ||| b <<< 16 = (a * 256 + b) <<< 16 := by
    rw [show a <<< 24 = (a <<< 8) <<< 16 by rw [← Nat.shiftLeft_add], ← Nat.shiftLeft_or_distrib, ← Nat.shiftLeft_add_eq_or_of_lt (by omega : b < 2 ^ 8), Nat.shiftLeft_eq a 8]
  have e2 : (a * 256 + b) <<< 16 ||| c <<< 8 = ((a * 256 + b) * 256 + c) <<< 8 := by
    rw [show (a * 256 + b) <<< 16 = ((a * 256 + b) <<< 8) <<< 8 by rw [← Nat.shiftLeft_add], ← Nat.shiftLeft_or_distrib, ← Nat.shiftLeft_add_eq_or_of_lt (by omega : c < 2 ^ 8), Nat.shiftLeft_eq (a * 256 + b) 8]
  rw [e1, e2, ← Nat.shiftLeft_add_eq_or_of_lt (by omega : d < 2 ^ 8), Nat.shiftLeft_eq]
theorem word_nat (b : List UInt8) (t : Nat) :
    (word b t).toNat = (((b.getD (4 * t) 0).toNat * 256 + (b.getD (4 * t + 1) 0).toNat) * 256 + (b.getD (4 * t + 2) 0).toNat) * 256 + (b.getD (4 * t + 3) 0).toNat := by
  have e : ∀ (x : UInt8) (s : Nat), s ≤ 24 → (x.toBitVec.setWidth 32 <<< s).toNat = x.toNat <<< s := by
    intro x s hs
    have hx : x.toNat < 256 := x.toNat_lt
    rw [BitVec.toNat_shiftLeft, BitVec.toNat_setWidth]
    have h1 : x.toBitVec.toNat % 2 ^ 32 = x.toNat := Nat.mod_eq_of_lt (Nat.lt_trans hx (by decide))
    rw [h1]
    apply Nat.mod_eq_of_lt
    rw [Nat.shiftLeft_eq]
    calc x.toNat * 2 ^ s ≤ 255 * 2 ^ 24 := Nat.mul_le_mul (by omega) (Nat.pow_le_pow_right (by omega) hs)
      _ < 2 ^ 32 := by decide
  have e0 : ∀ (x : UInt8), (x.toBitVec.setWidth 32).toNat = x.toNat := by
    intro x
    have hx : x.toNat < 256 := x.toNat_lt
    rw [BitVec.toNat_setWidth]; exact Nat.mod_eq_of_lt (Nat.lt_trans hx (by decide))
  unfold word
  rw [BitVec.toNat_or, BitVec.toNat_or, BitVec.toNat_or, e _ 24 (by omega), e _ 16 (by omega), e _ 8 (by omega), e0]
  exact or4 _ _ _ _ (UInt8.toNat_lt _) (UInt8.toNat_lt _) (UInt8.toNat_lt _)
theorem bits8_get (N j : Nat) (hj : j < 8) : (bits8 N).drop (8 - (j + 1)) = UInt8.ofNat (N / 256 ^ j) :: (bits8 N).drop (8 - j) := by
  match j, hj with
  | 0, _ | 1, _ | 2, _ | 3, _ | 4, _ | 5, _ | 6, _ | 7, _ => rfl
theorem byte_int (N : Nat) : (⟨BitVec.ofInt 8 (N : Int)⟩ : UInt8) = UInt8.ofNat N := by
  apply UInt8.toNat_inj.1
  rw [UInt8.toNat_ofNat']
  show (BitVec.ofInt 8 (N : Int)).toNat = _
  rw [BitVec.toNat_ofInt]; omega
theorem byte_mod (N : Nat) : (⟨BitVec.ofInt 8 (Int.tmod (N : Int) 256)⟩ : UInt8) = UInt8.ofNat N := by
  rw [show Int.tmod (N : Int) 256 = ((N % 256 : Nat) : Int) from rfl, byte_int]
  apply UInt8.toNat_inj.1
  rw [UInt8.toNat_ofNat', UInt8.toNat_ofNat']; omega
theorem padded_mod (m : List UInt8) : (padded m).length % 64 = 0 := by
  have := padded_length m; omega
def blk (m : List UInt8) (j : Nat) : List UInt8 := ((padded m).drop (64 * j)).take 64
theorem blk_length (m : List UInt8) (j : Nat) (h : 64 * j < (padded m).length) : (blk m j).length = 64 := by
  have := padded_mod m
  unfold blk; rw [List.length_take, List.length_drop]; omega
theorem part_get (m : List UInt8) (j i r : Nat) (hi : i < 16) (hr : r < 4) : (((padded m).take (64 * j + 4 * i + 4)).drop (64 * j + 4 * i)).getD r 0 = (blk m j).getD (4 * i + r) 0 := by
  unfold blk
  simp only [List.getD_eq_getElem?_getD, List.getElem?_drop, List.getElem?_take]
  rw [if_pos (by omega), if_pos (by omega), show 64 * j + 4 * i + r = 64 * j + (4 * i + r) by omega]
theorem words_succ (b : List UInt8) (t : Nat) : Sha.words b (t + 1) = Sha.words b t ++ [if t < 16 then word b t else next (Sha.words b t) t] := rfl
theorem words_get (b : List UInt8) (t : Nat) : ∀ n i, i < n → n ≤ t → (Sha.words b t).getD i 0 = (Sha.words b n).getD i 0 := by
  intro n i hi hn
  induction t with
  | zero => have : n = 0 := by omega
            subst this; rfl
  | succ t ih =>
    by_cases e : n = t + 1
    · rw [e]
    · rw [← ih (by omega), words_succ]
      simp only [List.getD_eq_getElem?_getD]
      rw [List.getElem?_append_left (by rw [words_length]; omega)]
theorem nums_words (m : List UInt8) (j i : Nat) (hi : i < 16) (p : List UInt8) (hp : p = ((padded m).take (64 * j + 4 * i + 4)).drop (64 * j + 4 * i)) (e : Int) (he : e = (((((p.getD 0 0).toNat * 256 + (p.getD 1 0).toNat) * 256 + (p.getD 2 0).toNat) * 256 + (p.getD 3 0).toNat : Nat) : Int)) :
    nums (Sha.words (blk m j) i) ++ [e] = nums (Sha.words (blk m j) (i + 1)) := by
  rw [words_succ, if_pos hi, he, hp, part_get _ _ _ 0 hi (by omega), part_get _ _ _ 1 hi (by omega), part_get _ _ _ 2 hi (by omega), part_get _ _ _ 3 hi (by omega)]
  unfold nums
  rw [List.map_append, Nat.add_zero, ← word_nat]; rfl
theorem nums_next (t : Nat) (ht : ¬ t < 16) (b : List UInt8) (e : Int) (he : e = ((next (Sha.words b t) t).toNat : Int)) : nums (Sha.words b t) ++ [e] = nums (Sha.words b (t + 1)) := by
  rw [words_succ, if_neg ht, he]; unfold nums; rw [List.map_append]; rfl
/-- A sum taken at the end modulo 2^32. -/
theorem sum_nat (z : BitVec 32) (e : Int) (n : Nat) (he : e = (n : Int)) (hz : z.toNat = n % 4294967296) : Int.tmod e 4294967296 = (z.toNat : Int) := by
  rw [he, hz]; rfl
theorem x_nat (v7 s c k w : BitVec 32) : (v7 + s + c + k + w).toNat = (v7.toNat + s.toNat + c.toNat + k.toNat + w.toNat) % 4294967296 := by
  rw [BitVec.toNat_add, BitVec.toNat_add, BitVec.toNat_add, BitVec.toNat_add]; omega
theorem next_nat (w : List (BitVec 32)) (t : Nat) (A B C D : BitVec 32) (h : next w t = A + B + C + D) (e : Int) (he : e = (A.toNat : Int) + B.toNat + C.toNat + D.toNat) : Int.tmod e 4294967296 = ((next w t).toNat : Int) := by
  have e1 : e = ((A.toNat + B.toNat + C.toNat + D.toNat : Nat) : Int) := by rw [he]; simp
  rw [e1, h]
  show (((A.toNat + B.toNat + C.toNat + D.toNat) % 4294967296 : Nat) : Int) = _
  congr 1
  rw [BitVec.toNat_add, BitVec.toNat_add, BitVec.toNat_add]; omega
theorem a7 (a b c d e f g : BitVec 32) : Int.tmod ((a.toNat : Int) + b.toNat + c.toNat + d.toNat + e.toNat + ((f.toNat : Int) + g.toNat)) 4294967296 = ((a + b + c + d + e + (f + g)).toNat : Int) :=
  sum_nat _ _ (a.toNat + b.toNat + c.toNat + d.toNat + e.toNat + (f.toNat + g.toNat)) (by simp only [Int.natCast_add]) (by simp only [BitVec.toNat_add]; omega)
theorem a6 (a b c d e f : BitVec 32) : Int.tmod ((f.toNat : Int) + ((a.toNat : Int) + b.toNat + c.toNat + d.toNat + e.toNat)) 4294967296 = ((f + (a + b + c + d + e)).toNat : Int) :=
  sum_nat _ _ (f.toNat + (a.toNat + b.toNat + c.toNat + d.toNat + e.toNat)) (by simp only [Int.natCast_add]) (by simp only [BitVec.toNat_add]; omega)
theorem a2 (a b : BitVec 32) : Int.tmod ((a.toNat : Int) + b.toNat) 4294967296 = ((a + b).toNat : Int) :=
  sum_nat _ _ (a.toNat + b.toNat) (by simp only [Int.natCast_add]) (by simp only [BitVec.toNat_add])
theorem stir_0 (v : List (BitVec 32)) (k w v0 v1 v2 v4 v5 v6 v7 : BitVec 32) (z0 : v0 = v.getD 0 0) (z1 : v1 = v.getD 1 0) (z2 : v2 = v.getD 2 0) (z4 : v4 = v.getD 4 0) (z5 : v5 = v.getD 5 0) (z6 : v6 = v.getD 6 0) (z7 : v7 = v.getD 7 0) :
    Int.tmod ((v7.toNat : Int) + (right v4 6 ^^^ right v4 11 ^^^ right v4 25).toNat + (v4 &&& v5 ^^^ ~~~v4 &&& v6).toNat + k.toNat + w.toNat + (((right v0 2 ^^^ right v0 13 ^^^ right v0 22).toNat : Int) + (v0 &&& v1 ^^^ v0 &&& v2 ^^^ v1 &&& v2).toNat)) 4294967296 = (((stir v k w).getD 0 0).toNat : Int) := by
  subst z0 z1 z2 z4 z5 z6 z7
  exact a7 _ _ _ _ _ _ _
theorem stir_4 (v : List (BitVec 32)) (k w v3 v4 v5 v6 v7 : BitVec 32) (z3 : v3 = v.getD 3 0) (z4 : v4 = v.getD 4 0) (z5 : v5 = v.getD 5 0) (z6 : v6 = v.getD 6 0) (z7 : v7 = v.getD 7 0) :
    Int.tmod ((v3.toNat : Int) + ((v7.toNat : Int) + (right v4 6 ^^^ right v4 11 ^^^ right v4 25).toNat + (v4 &&& v5 ^^^ ~~~v4 &&& v6).toNat + k.toNat + w.toNat)) 4294967296 = (((stir v k w).getD 4 0).toNat : Int) := by
  subst z3 z4 z5 z6 z7
  exact a6 _ _ _ _ _ _
theorem nums_sums (h v : List (BitVec 32)) (hh : h.length = 8) (hv : v.length = 8) (i : Nat) (hi : i < 8) :
    (nums (sums h v i)).set i (Int.tmod ((nums (sums h v i)).getD i (0 : Int) + (nums v).getD i (0 : Int)) 4294967296) = nums (sums h v (i + 1)) := by
  rw [nums_get, nums_get, a2, ← sums_set h v hh hv i hi]
  unfold nums
  rw [List.map_set]
theorem eight (v : List (BitVec 32)) (hv : v.length = 8) : ([((v.getD 0 0).toNat : Int), ((v.getD 1 0).toNat : Int), ((v.getD 2 0).toNat : Int), ((v.getD 3 0).toNat : Int), ((v.getD 4 0).toNat : Int), ((v.getD 5 0).toNat : Int), ((v.getD 6 0).toNat : Int), ((v.getD 7 0).toNat : Int)] : List Int) = nums v := by
  match v, hv with
  | [a0, a1, a2, a3, a4, a5, a6, a7], _ => rfl
theorem byte_of (x : BitVec 32) (s : Nat) : (⟨(x >>> s).setWidth 8⟩ : UInt8) = UInt8.ofNat (x.toNat / 2 ^ s) := by
  apply UInt8.toNat_inj.1
  rw [UInt8.toNat_ofNat']
  show ((x >>> s).setWidth 8).toNat = _
  rw [BitVec.toNat_setWidth, BitVec.toNat_ushiftRight, Nat.shiftRight_eq_div_pow]
theorem ser_step (h : List (BitVec 32)) (i : Nat) (hi : i < h.length) (x : Int) (hx : x = ((h.getD i 0).toNat : Int)) :
    ser (h.take i) ++ [(⟨BitVec.ofInt 8 (Int.tdiv x 16777216)⟩ : UInt8), ⟨BitVec.ofInt 8 (Int.tmod (Int.tdiv x 65536) 256)⟩, ⟨BitVec.ofInt 8 (Int.tmod (Int.tdiv x 256) 256)⟩, ⟨BitVec.ofInt 8 (Int.tmod x 256)⟩] = ser (h.take (i + 1)) := by
  rw [List.take_succ_eq_append_getElem hi, show h[i] = h.getD i 0 from (gd_lt hi).symm, hx]
  generalize h.getD i 0 = y
  unfold ser
  rw [List.flatMap_append]
  congr 1
  show _ = [(⟨(y >>> 24).setWidth 8⟩ : UInt8), ⟨(y >>> 16).setWidth 8⟩, ⟨(y >>> 8).setWidth 8⟩, ⟨y.setWidth 8⟩]
  rw [show (⟨y.setWidth 8⟩ : UInt8) = ⟨(y >>> 0).setWidth 8⟩ from by simp, byte_of, byte_of, byte_of, byte_of]
  rw [show Int.tdiv (y.toNat : Int) 16777216 = ((y.toNat / 16777216 : Nat) : Int) from rfl, show Int.tdiv (y.toNat : Int) 65536 = ((y.toNat / 65536 : Nat) : Int) from rfl, show Int.tdiv (y.toNat : Int) 256 = ((y.toNat / 256 : Nat) : Int) from rfl]
  rw [byte_int, byte_mod, byte_mod, byte_mod]
  simp
end Go.Proofs.YtpmnfciojbmgdaaDoor
