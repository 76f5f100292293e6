/- ChaCha20 over lists of numbers: what both the program and the document's answer come to. No program in sight. -/
import Derived.Test.YtiijaiiejogbjaaDoorSxTail
set_option linter.unusedSimpArgs false
set_option linter.unusedVariables false
namespace Go.Chacha
open Go.SX

def add32 (x y : Int) : Int := (x + y) % 4294967296
def xorI (x y : Int) : Int := ((x.toNat ^^^ y.toNat : Nat) : Int)
def rotl (x : Int) (n : Nat) : Int := (x * 2 ^ n) % 4294967296 + x / 2 ^ (32 - n)
def Words (l : List Int) : Prop := ∀ i, 0 ≤ l.getD i 0 ∧ l.getD i 0 < 4294967296
def Bytes (l : List Int) : Prop := ∀ i, 0 ≤ l.getD i 0 ∧ l.getD i 0 < 256

theorem getD_set (l : List Int) (i j : Nat) (x : Int) : (l.set i x).getD j 0 = if i = j ∧ i < l.length then x else l.getD j 0 := by
  simp only [List.getD_eq_getElem?_getD, List.getElem?_set]
  by_cases h : i = j
  · subst h
    by_cases h2 : i < l.length
    · simp [h2]
    · simp [h2]
  · simp [h]
theorem Words.set {l : List Int} (h : Words l) (i : Nat) {x : Int} (h0 : 0 ≤ x) (h1 : x < 4294967296) : Words (l.set i x) := by
  intro j
  rw [getD_set]
  split
  · exact ⟨h0, h1⟩
  · exact h j

theorem add32_w (x y : Int) : 0 ≤ add32 x y ∧ add32 x y < 4294967296 := by unfold add32; omega
theorem xorI_w {x y : Int} (hx : 0 ≤ x ∧ x < 4294967296) (hy : 0 ≤ y ∧ y < 4294967296) : 0 ≤ xorI x y ∧ xorI x y < 4294967296 := by
  unfold xorI
  have := Nat.xor_lt_two_pow (n := 32) (x := x.toNat) (y := y.toNat) (by omega) (by omega)
  omega
theorem rotl_w {x : Int} (hx : 0 ≤ x ∧ x < 4294967296) {n : Nat} (hn : n ≤ 32) : 0 ≤ rotl x n ∧ rotl x n < 4294967296 := by
  unfold rotl
  obtain ⟨m, hm⟩ : ∃ m, n + m = 32 := ⟨32 - n, by omega⟩
  have e : 32 - n = m := by omega
  rw [e]
  have hp : (2 : Int) ^ n * 2 ^ m = 4294967296 := by rw [← Int.pow_add, hm]; rfl
  have h2n : (0 : Int) < 2 ^ n := Int.pow_pos (by omega)
  have h2m : (0 : Int) < 2 ^ m := Int.pow_pos (by omega)
  -- x = q * 2^m + r
  have hq : x / 2 ^ m < 2 ^ n := (Int.ediv_lt_iff_lt_mul h2m).2 (by rw [hp]; exact hx.2)
  have hq0 : 0 ≤ x / 2 ^ m := Int.ediv_nonneg hx.1 (by omega)
  have hdm : x * 2 ^ n = (x % 2 ^ m) * 2 ^ n + 4294967296 * (x / 2 ^ m) := by
    have h1 : x = 2 ^ m * (x / 2 ^ m) + x % 2 ^ m := (Int.mul_ediv_add_emod x (2 ^ m)).symm
    calc x * 2 ^ n = (2 ^ m * (x / 2 ^ m) + x % 2 ^ m) * 2 ^ n := by rw [← h1]
      _ = (x % 2 ^ m) * 2 ^ n + (2 ^ n * 2 ^ m) * (x / 2 ^ m) := by rw [Int.add_mul, Int.mul_comm (2 ^ m) (x / 2 ^ m), Int.mul_assoc, Int.mul_comm (2 ^ m) (2 ^ n), Int.mul_comm (x / 2 ^ m), Int.add_comm]
      _ = _ := by rw [hp]
  rw [hdm, Int.add_mul_emod_self_left]
  have hr : x % 2 ^ m < 2 ^ m := Int.emod_lt_of_pos _ h2m
  have hr0 : 0 ≤ x % 2 ^ m := Int.emod_nonneg _ (by omega)
  have hlt : (x % 2 ^ m) * 2 ^ n ≤ (2 ^ m - 1) * 2 ^ n := Int.mul_le_mul_of_nonneg_right (by omega) (by omega)
  have he : ((2 : Int) ^ m - 1) * 2 ^ n = 4294967296 - 2 ^ n := by rw [Int.sub_mul, Int.mul_comm (2 ^ m), hp, Int.one_mul]
  have h0 : 0 ≤ (x % 2 ^ m) * 2 ^ n := Int.mul_nonneg hr0 (by omega)
  rw [Int.emod_eq_of_lt h0 (by omega)]
  omega

/-- Half a quarter round. -/
def half (r1 r2 : Nat) (l : List Int) (a b c d : Nat) : List Int :=
  let l1 := l.set a (add32 (l.getD a 0) (l.getD b 0))
  let l2 := l1.set d (rotl (xorI (l1.getD d 0) (l1.getD a 0)) r1)
  let l3 := l2.set c (add32 (l2.getD c 0) (l2.getD d 0))
  l3.set b (rotl (xorI (l3.getD b 0) (l3.getD c 0)) r2)
theorem half_length (r1 r2 : Nat) (l : List Int) (a b c d : Nat) : (half r1 r2 l a b c d).length = l.length := by simp [half]
theorem Words.rot {l : List Int} (h : Words l) (i j k : Nat) {n : Nat} (hn : n ≤ 32) : Words (l.set i (rotl (xorI (l.getD j 0) (l.getD k 0)) n)) := by
  have := rotl_w (xorI_w (h j) (h k)) hn
  exact h.set i this.1 this.2
theorem Words.add {l : List Int} (h : Words l) (i j k : Nat) : Words (l.set i (add32 (l.getD j 0) (l.getD k 0))) := by
  have := add32_w (l.getD j 0) (l.getD k 0)
  exact h.set i this.1 this.2
theorem half_words {r1 r2 : Nat} (h1 : r1 ≤ 32) (h2 : r2 ≤ 32) {l : List Int} (h : Words l) (a b c d : Nat) : Words (half r1 r2 l a b c d) := by
  unfold half
  exact (((h.add a a b).rot d d a h1).add c c d).rot b b c h2
def qr (l : List Int) (a b c d : Nat) : List Int := half 8 7 (half 16 12 l a b c d) a b c d
theorem qr_length (l : List Int) (a b c d : Nat) : (qr l a b c d).length = l.length := by simp [qr, half_length]
theorem qr_words {l : List Int} (h : Words l) (a b c d : Nat) : Words (qr l a b c d) := half_words (by omega) (by omega) (half_words (by omega) (by omega) h a b c d) a b c d

/-- The first n quarter rounds of a round. -/
def part (n : Nat) (l : List Int) : List Int :=
  let l := if 0 < n then qr l 0 4 8 12 else l
  let l := if 1 < n then qr l 1 5 9 13 else l
  let l := if 2 < n then qr l 2 6 10 14 else l
  let l := if 3 < n then qr l 3 7 11 15 else l
  let l := if 4 < n then qr l 0 5 10 15 else l
  let l := if 5 < n then qr l 1 6 11 12 else l
  let l := if 6 < n then qr l 2 7 8 13 else l
  if 7 < n then qr l 3 4 9 14 else l
theorem part_ok (n : Nat) {l : List Int} (h : Words l) : Words (part n l) ∧ (part n l).length = l.length := by
  unfold part
  have key : ∀ (p : Prop) [Decidable p] (l : List Int) (a b c d : Nat) (m : Nat), (Words l ∧ l.length = m) → Words (if p then qr l a b c d else l) ∧ (if p then qr l a b c d else l).length = m := by
    intro p _ l a b c d m h
    split
    · exact ⟨qr_words h.1 a b c d, by rw [qr_length]; exact h.2⟩
    · exact h
  refine key _ _ _ _ _ _ _ (key _ _ _ _ _ _ _ (key _ _ _ _ _ _ _ (key _ _ _ _ _ _ _ (key _ _ _ _ _ _ _ (key _ _ _ _ _ _ _ (key _ _ _ _ _ _ _ (key _ _ _ _ _ _ _ ⟨h, rfl⟩)))))))
def rounds : Nat → List Int → List Int
  | 0, l => l
  | n + 1, l => part 8 (rounds n l)
theorem rounds_ok (n : Nat) {l : List Int} (h : Words l) : Words (rounds n l) ∧ (rounds n l).length = l.length := by
  induction n with
  | zero => exact ⟨h, rfl⟩
  | succ n ih => exact ⟨(part_ok 8 ih.1).1, (part_ok 8 ih.1).2.trans ih.2⟩

def word (l : List Int) (i : Nat) : Int := l.getD i 0 + 256 * l.getD (i + 1) 0 + 65536 * l.getD (i + 2) 0 + 16777216 * l.getD (i + 3) 0
theorem word_w {l : List Int} (h : Bytes l) (i : Nat) : 0 ≤ word l i ∧ word l i < 4294967296 := by
  have h0 := h i; have h1 := h (i + 1); have h2 := h (i + 2); have h3 := h (i + 3)
  unfold word; omega
def begin4 : List Int := [1634760805, 857760878, 2036477234, 1797285236]
def keyWords (k : List Int) (n : Nat) : List Int := (List.range n).map fun i => word k (4 * i)
def start (k : List Int) (c : Int) (n : List Int) : List Int := begin4 ++ keyWords k 8 ++ [c] ++ keyWords n 3
theorem keyWords_succ (k : List Int) (n : Nat) : keyWords k (n + 1) = keyWords k n ++ [word k (4 * n)] := by simp [keyWords, List.range_succ]
theorem keyWords_length (k : List Int) (n : Nat) : (keyWords k n).length = n := by simp [keyWords]
theorem words_of {l : List Int} (h : ∀ x ∈ l, 0 ≤ x ∧ x < 4294967296) : Words l := by
  intro i
  by_cases hi : i < l.length
  · rw [gd_lt hi]; exact h _ (List.getElem_mem hi)
  · rw [gd_ge (by omega)]; omega
theorem start_words {k n : List Int} {c : Int} (hk : Bytes k) (hn : Bytes n) (hc : 0 ≤ c ∧ c < 4294967296) : Words (start k c n) := by
  refine words_of fun x hx => ?_
  simp only [start, List.mem_append, List.mem_singleton, keyWords, List.mem_map, begin4, List.mem_cons, List.not_mem_nil, or_false] at hx
  rcases hx with ((hx | ⟨i, _, rfl⟩) | rfl) | ⟨i, _, rfl⟩
  · omega
  · exact word_w hk _
  · exact hc
  · exact word_w hn _
theorem start_length (k : List Int) (c : Int) (n : List Int) : (start k c n).length = 16 := by simp [start, keyWords_length, begin4]

def le4 (v : Int) : List Int := [v % 256, v / 256 % 256, v / 65536 % 256, v / 16777216 % 256]
def serial (y x : List Int) (m : Nat) : List Int := (List.range m).flatMap fun i => le4 (add32 (y.getD i 0) (x.getD i 0))
theorem serial_succ (y x : List Int) (m : Nat) : serial y x (m + 1) = serial y x m ++ le4 (add32 (y.getD m 0) (x.getD m 0)) := by simp [serial, List.range_succ]
theorem serial_length (y x : List Int) (m : Nat) : (serial y x m).length = 4 * m := by
  induction m with
  | zero => rfl
  | succ m ih => rw [serial_succ, List.length_append, ih]; simp [le4]; omega
theorem bytes_of {l : List Int} (h : ∀ x ∈ l, 0 ≤ x ∧ x < 256) : Bytes l := by
  intro i
  by_cases hi : i < l.length
  · rw [gd_lt hi]; exact h _ (List.getElem_mem hi)
  · rw [gd_ge (by omega)]; omega
theorem serial_mem (y x : List Int) (m : Nat) : ∀ b ∈ serial y x m, 0 ≤ b ∧ b < 256 := by
  intro b hb
  simp only [serial, List.mem_flatMap, le4, List.mem_cons, List.not_mem_nil, or_false] at hb
  obtain ⟨i, _, rfl | rfl | rfl | rfl⟩ := hb <;> omega
/-- A block. -/
def block (k : List Int) (c : Int) (n : List Int) : List Int := serial (rounds 10 (start k c n)) (start k c n) 16
theorem block_length (k : List Int) (c : Int) (n : List Int) : (block k c n).length = 64 := serial_length _ _ 16
theorem block_mem (k : List Int) (c : Int) (n : List Int) : ∀ b ∈ block k c n, 0 ≤ b ∧ b < 256 := serial_mem _ _ _
theorem block_bytes (k : List Int) (c : Int) (n : List Int) : Bytes (block k c n) := bytes_of (block_mem k c n)

/-- The stream's byte at a place. -/
def streamAt (k : List Int) (c : Int) (n : List Int) (i : Nat) : Int := (block k ((c + (i / 64 : Nat)) % 4294967296) n).getD (i % 64) 0
theorem streamAt_b (k : List Int) (c : Int) (n : List Int) (i : Nat) : 0 ≤ streamAt k c n i ∧ streamAt k c n i < 256 := block_bytes _ _ _ _
def xored (k : List Int) (c : Int) (n : List Int) (l : List Int) : List Int := l.mapIdx fun i b => xorI b (streamAt k c n i)
end Go.Chacha
