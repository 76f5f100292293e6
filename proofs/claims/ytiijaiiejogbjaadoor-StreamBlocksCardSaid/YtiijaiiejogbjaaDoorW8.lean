/- A place: a key, a counter, a nonce. -/
import Derived.Test.YtiijaiiejogbjaaDoorW7
set_option linter.unusedVariables false
set_option linter.unusedSimpArgs false
set_option maxRecDepth 10000
namespace Go.Proofs.YtiijaiiejogbjaaDoor.Str
open Go Go.SX Go.Chacha

def place (f : Nat → Int) : List SC := (List.range 32).map (fun i => SC.int .u8 (f i)) ++ [SC.int .u32 (f 32)] ++ (List.range 12).map (fun i => SC.int .u8 (f (33 + i)))
def keyOfPlace (f : Nat → Int) : List Int := (List.range 32).map f
def nonceOfPlace (f : Nat → Int) : List Int := (List.range 12).map fun i => f (33 + i)
structure PlaceOk (f : Nat → Int) : Prop where
  bytes : ∀ i, i ≠ 32 → 0 ≤ f i ∧ f i < 256
  ctr : 0 ≤ f 32 ∧ f 32 < 4294967296
theorem PlaceOk.key {f : Nat → Int} (h : PlaceOk f) : Bytes (keyOfPlace f) := by
  refine bytes_of fun x hx => ?_
  simp only [keyOfPlace, List.mem_map, List.mem_range] at hx
  obtain ⟨i, hi, rfl⟩ := hx
  exact h.bytes i (by omega)
theorem PlaceOk.nonce {f : Nat → Int} (h : PlaceOk f) : Bytes (nonceOfPlace f) := by
  refine bytes_of fun x hx => ?_
  simp only [nonceOfPlace, List.mem_map, List.mem_range] at hx
  obtain ⟨i, hi, rfl⟩ := hx
  exact h.bytes (33 + i) (by omega)

end Go.Proofs.YtiijaiiejogbjaaDoor.Str
