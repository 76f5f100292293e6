/- A sum with a key, plainly. -/
import Derived.Test.YtlhmdknfkbcdjaaDoorW6
set_option linter.unusedVariables false
set_option linter.unusedSimpArgs false
set_option maxRecDepth 10000
namespace Go.Proofs.YtlhmdknfkbcdjaaDoor
open Go Go.SY Go.Sha

theorem sum_length (m : List UInt8) : (Sha.sum m).length = 32 := by unfold Sha.sum; rw [ser_length, chain_length]
/-- A key as short as it is used. -/
def hkey (k : List UInt8) : List UInt8 := if 64 < k.length then Sha.sum k else k
theorem hkey_length (k : List UInt8) : (hkey k).length ≤ 64 := by
  unfold hkey; split
  · rw [sum_length]; omega
  · omega
def kfit (s : List UInt8) (n : Nat) : List UInt8 := s.take n ++ List.replicate (n - s.length) 0
theorem kfit_length (s : List UInt8) (n : Nat) : (kfit s n).length = n := by simp [kfit]; omega
theorem kfit_of2 (s : List UInt8) (n : Nat) : List.take (List.replicate n (0 : UInt8)).length s ++ List.drop s.length (List.replicate n (0 : UInt8)) = kfit s n := by
  rw [List.length_replicate, List.drop_replicate]; rfl
def bx (c x : UInt8) : UInt8 := ⟨x.toBitVec ^^^ c.toBitVec⟩
def xpad (k : List UInt8) (c : UInt8) : List UInt8 := (kfit (hkey k) 64).map (bx c)
theorem xpad_length (k : List UInt8) (c : UInt8) : (xpad k c).length = 64 := by rw [xpad, List.length_map, kfit_length]
def mac (k m : List UInt8) : List UInt8 := Sha.sum (xpad k 92 ++ Sha.sum (xpad k 54 ++ m))
theorem mac_length (k m : List UInt8) : (mac k m).length = 32 := sum_length _
theorem map_set (f : UInt8 → UInt8) (l : List UInt8) (i : Nat) (h : i < l.length) :
    ((l.take i).map f ++ l.drop i).set i (f (((l.take i).map f ++ l.drop i).getD i 0)) = (l.take (i + 1)).map f ++ l.drop (i + 1) := by
  have hl : ((l.take i).map f).length = i := by rw [List.length_map, List.length_take]; omega
  have e : ((l.take i).map f ++ l.drop i).getD i 0 = l[i] := by
    rw [List.getD_eq_getElem?_getD, List.getElem?_append_right (by omega), hl, Nat.sub_self, List.getElem?_drop, Nat.add_zero, List.getElem?_eq_getElem h]; rfl
  rw [e, List.set_append_right _ _ (by omega), hl, Nat.sub_self, List.take_succ_eq_append_getElem h, List.map_append, List.drop_eq_getElem_cons h, List.set_cons_zero, List.append_assoc]; rfl
def cbyte (i : Nat) : UInt8 := ⟨BitVec.ofInt 8 ((i + 1 : Nat) : Int)⟩
theorem cbyte_succ (i : Nat) : (⟨(cbyte i).toBitVec + 1⟩ : UInt8) = cbyte (i + 1) := by
  show (⟨BitVec.ofInt 8 ((i + 1 : Nat) : Int) + 1⟩ : UInt8) = ⟨BitVec.ofInt 8 ((i + 1 + 1 : Nat) : Int)⟩
  rw [Int.natCast_add (i + 1) 1, BitVec.ofInt_add]; rfl
def expn (k info : List UInt8) : Nat → List UInt8 × List UInt8
  | 0 => ([], [])
  | i + 1 => let last := mac k ((expn k info i).2 ++ info ++ [cbyte i]); ((expn k info i).1 ++ last, last)
theorem expn_length (k info : List UInt8) (i : Nat) : (expn k info i).1.length = 32 * i := by
  induction i with
  | zero => rfl
  | succ i ih => simp only [expn, List.length_append, mac_length, ih]; omega
theorem expn_last (k info : List UInt8) (i : Nat) : (expn k info i).2.length ≤ 32 := by
  cases i with
  | zero => simp [expn]
  | succ i => simp only [expn, mac_length]; omega
theorem expn_take (k info : List UInt8) (i j : Nat) (h : i ≤ j) : (expn k info j).1.take (32 * i) = (expn k info i).1 := by
  induction j with
  | zero => obtain rfl : i = 0 := by omega
            rfl
  | succ j ih =>
    by_cases e : i = j + 1
    · subst e; rw [List.take_of_length_le (by rw [expn_length]; omega)]
    · have := ih (by omega)
      simp only [expn]
      rw [List.take_append_of_le_length (by rw [expn_length]; omega), this]
def expands (k info : List UInt8) (n : Nat) : List UInt8 := (expn k info ((n + 31) / 32)).1.take n
theorem expands_length (k info : List UInt8) (n : Nat) : (expands k info n).length = n := by
  unfold expands; rw [List.length_take, expn_length]; omega
theorem expands_take (k info : List UInt8) (n m : Nat) (h : n ≤ m) : (expands k info m).take n = expands k info n := by
  unfold expands
  rw [List.take_take, Nat.min_eq_left h, ← expn_take k info ((n + 31) / 32) ((m + 31) / 32) (by omega), List.take_take, Nat.min_eq_left (by omega)]
/-- Two bytes' differences, put together. -/
def orx (a b : List UInt8) : Nat → UInt8
  | 0 => 0
  | i + 1 => ⟨(orx a b i).toBitVec ||| ((a.getD i 0).toBitVec ^^^ (b.getD i 0).toBitVec)⟩
theorem or_zero (x y : BitVec 8) : x ||| y = 0 ↔ x = 0 ∧ y = 0 := by
  constructor
  · intro h
    constructor
    · apply BitVec.eq_of_getLsbD_eq; intro i hi
      have := congrArg (·.getLsbD i) h
      simp only [BitVec.getLsbD_or] at this
      revert this; cases x.getLsbD i <;> simp
    · apply BitVec.eq_of_getLsbD_eq; intro i hi
      have := congrArg (·.getLsbD i) h
      simp only [BitVec.getLsbD_or] at this
      revert this; cases x.getLsbD i <;> cases y.getLsbD i <;> simp
  · rintro ⟨rfl, rfl⟩; rfl
theorem xor_zero (x y : BitVec 8) : x ^^^ y = 0 ↔ x = y := by
  constructor
  · intro h
    have : x ^^^ y ^^^ y = 0 ^^^ y := by rw [h]
    rw [BitVec.xor_assoc, BitVec.xor_self, BitVec.xor_zero] at this; rw [this]; exact BitVec.zero_xor
  · rintro rfl; exact BitVec.xor_self
theorem orx_zero (a b : List UInt8) (n : Nat) : (orx a b n).toBitVec = 0 ↔ ∀ i, i < n → a.getD i 0 = b.getD i 0 := by
  induction n with
  | zero => exact ⟨fun _ i h => absurd h (Nat.not_lt_zero i), fun _ => rfl⟩
  | succ n ih =>
    show (orx a b n).toBitVec ||| ((a.getD n 0).toBitVec ^^^ (b.getD n 0).toBitVec) = 0 ↔ _
    rw [or_zero, xor_zero, ih]
    constructor
    · rintro ⟨h1, h2⟩ i hi
      rcases Nat.lt_or_eq_of_le (Nat.le_of_lt_succ hi) with h | h
      · exact h1 i h
      · subst h; exact UInt8.toBitVec_inj.1 h2
    · intro h
      exact ⟨fun i hi => h i (by omega), by rw [h n (by omega)]⟩
theorem orx_eq (a b : List UInt8) (ha : a.length = 32) (hb : b.length = 32) : (orx a b 32).toBitVec = 0 ↔ a = b := by
  rw [orx_zero]
  constructor
  · intro h
    apply List.ext_getElem (by omega)
    intro i h1 h2
    have := h i (by omega)
    rwa [gd_lt h1, gd_lt h2] at this
  · rintro rfl i _; rfl
end Go.Proofs.YtlhmdknfkbcdjaaDoor
