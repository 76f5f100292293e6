/- The program, and what the elements of its slices are: sums are 32 bytes. -/
import Derived.Test.YtlhmdknfkbcdjaaDoorProg
import Derived.Test.YtlhmdknfkbcdjaaDoorSy4
namespace Go.Proofs.YtlhmdknfkbcdjaaDoor
open Go Go.SY
def sumDec : List Sg → Option (List UInt8)
  | [] => none
  | g :: l => (match g, l with
    | .arr .u8 n L, [] => (match Nat.beq n 32 with | true => some L | false => none)
    | _, _ => none)
theorem sumDec_ok (l : List Sg) (x : List UInt8) (h : sumDec l = some x) : [Sg.arr .u8 32 x] = l := by
  cases l with
  | nil => cases h
  | cons g l =>
    cases g with
    | c y => simp [sumDec] at h
    | arr s n L =>
      cases l with
      | cons _ _ => cases s <;> simp [sumDec] at h
      | nil =>
        cases s with
        | u8 =>
          change (match Nat.beq n 32 with | true => some L | false => none) = some x at h
          cases hn : Nat.beq n 32 with
          | true => rw [hn] at h; cases Nat.eq_of_beq_eq_true hn; cases h; rfl
          | false => rw [hn] at h; cases h
        | _ => simp [sumDec] at h
def sumS : EncS := ⟨List UInt8, 32, fun x => [.arr .u8 32 x], List.replicate 32 0, sumDec, fun _ => rfl, sumDec_ok⟩
noncomputable def R : Pr := ⟨Tryd.prog, fun e => match Nat.beq e 24 with | true => some (.st sumS) | false => none⟩
end Go.Proofs.YtlhmdknfkbcdjaaDoor
