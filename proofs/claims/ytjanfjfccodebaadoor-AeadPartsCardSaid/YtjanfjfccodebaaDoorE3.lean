/- The laws of aead: the fixed fact; AeadParts, AeadSeals, AeadOpens. -/
import Derived.Test.YtjanfjfccodebaaDoorE2
import Derived.Test.YtjanfjfccodebaaDoorWL
set_option linter.unusedVariables false
set_option linter.unusedSimpArgs false
set_option maxRecDepth 10000
set_option maxHeartbeats 1000000
namespace Go.Proofs.YtjanfjfccodebaaDoor
open Go Go.SY Go.Poly Go.Cha
seal sx sxOps

abbrev vplace (k : List UInt8) (c : BitVec 32) (n : List UInt8) : TV := va [.arr .u8 32 k, .c (.w32 c), .arr .u8 12 n]
def seqB (i : Nat) : List UInt8 := (List.range i).map fun (j : Nat) => (⟨BitVec.ofInt 8 (128 + (j : Int))⟩ : UInt8)
theorem seqB_succ (i : Nat) : seqB (i + 1) = seqB i ++ [⟨BitVec.ofInt 8 (128 + (i : Int))⟩] := by simp [seqB, List.range_succ]
theorem seqB_length (i : Nat) : (seqB i).length = i := by simp [seqB]
def an : List UInt8 := [7, 0, 0, 0, 64, 65, 66, 67, 68, 69, 70, 71]
def aad : List UInt8 := [80, 81, 82, 83, 192, 193, 194, 195, 196, 197, 198, 199]
def apl : List UInt8 := [76, 97, 100, 105, 101, 115, 32, 97, 110, 100, 32, 71, 101, 110, 116, 108, 101, 109, 101, 110, 32, 111, 102, 32, 116, 104, 101, 32, 99, 108, 97, 115, 115, 32, 111, 102, 32, 39, 57, 57, 58, 32, 73, 102, 32, 73, 32, 99, 111, 117, 108, 100, 32, 111, 102, 102, 101] ++ [114, 32, 121, 111, 117, 32, 111, 110, 108, 121, 32, 111, 110, 101, 32, 116, 105, 112, 32, 102, 111, 114, 32, 116, 104, 101, 32, 102, 117, 116, 117, 114, 101, 44, 32, 115, 117, 110, 115, 99, 114, 101, 101, 110, 32, 119, 111, 117, 108, 100, 32, 98, 101, 32, 105, 116, 46]
def akey : List UInt8 := (List.range 32).map fun j => UInt8.ofNat (128 + j)
theorem akey_eq : fit (seqB 32) 32 = akey := by decide +kernel
theorem an_eq : fit an 12 = an := by decide +kernel
/-- A list of bytes, each a numeral before it is used. -/
def forceU {α : Type} : List UInt8 → (List UInt8 → α) → α
  | [], f => f []
  | x :: l, f => strictN x.toNat fun n => forceU l fun r => f (UInt8.ofNat n :: r)
theorem forceU_eq {α : Type} : ∀ (l : List UInt8) (f : List UInt8 → α), forceU l f = f l
  | [], _ => rfl
  | x :: l, f => by simp only [forceU]; rw [strictN_eq, forceU_eq l, UInt8.ofNat_toNat]
theorem xored_two (k : List UInt8) (n s : List UInt8) (b1 b2 : List UInt8) (h1 : block k 1 n = b1) (h2 : block k 2 n = b2) (hs : s.length ≤ 128) :
    xored k 1 n s = s.mapIdx fun i b => b ^^^ (if i < 64 then b1.getD i 0 else b2.getD (i - 64) 0) := by
  apply List.ext_getElem (by simp [xored])
  intro i hi1 hi2
  have hi : i < s.length := by rw [xored_length] at hi1; exact hi1
  simp only [xored, List.getElem_mapIdx]
  congr 1
  unfold streamAt
  by_cases h : i < 64
  · rw [if_pos h, show i / 64 = 0 by omega, show i % 64 = i by omega, ← h1]; rfl
  · rw [if_neg h, show i / 64 = 1 by omega, show i % 64 = i - 64 by omega, ← h2]; rfl
def B0 : List UInt8 := blockE akey 0 an
def B1 : List UInt8 := blockE akey 1 an
def B2 : List UInt8 := blockE akey 2 an
def actE : List UInt8 := forceU B1 fun b1 => forceU B2 fun b2 => forceU (apl.mapIdx fun i b => b ^^^ (if i < 64 then b1.getD i 0 else b2.getD (i - 64) 0)) id
theorem actE_eq : xored akey 1 an apl = actE := by
  unfold actE
  rw [forceU_eq, forceU_eq, forceU_eq]
  exact xored_two akey an apl B1 B2 (blockE_eq _ _ _).symm (blockE_eq _ _ _).symm (by decide +kernel)
def sealE : List UInt8 := forceU actE fun c => forceU (B0.take 32) fun k => forceU (tagOf k (tagged aad c)) fun t => c ++ t
theorem sealE_eq : sealA akey an aad apl = sealE := by
  unfold sealE sealA tagA
  rw [forceU_eq, forceU_eq, forceU_eq, actE_eq, ← blockE_eq]
  rfl
theorem fact : sealE.length = 130 ∧ sealE.take 8 = [211, 26, 141, 52, 100, 142, 96, 219] ∧ sealE.drop 114 = [26, 225, 11, 89, 79, 9, 226, 106, 126, 144, 46, 203, 208, 96, 6, 145] := by decide +kernel
end Go.Proofs.YtjanfjfccodebaaDoor
