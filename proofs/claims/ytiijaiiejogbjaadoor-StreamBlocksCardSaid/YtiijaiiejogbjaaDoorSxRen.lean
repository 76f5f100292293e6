/- A loop, its keys named anew. -/
import Derived.Test.YtiijaiiejogbjaaDoorSxTail
set_option linter.unusedSimpArgs false
set_option linter.unusedVariables false
namespace Go.SX

def tren (l : List (Nat × Nat)) : Tm → Tm
  | [] => []
  | (t, v) :: r => (t, v.ren l) :: tren l r
theorem tren_get (l : List (Nat × Nat)) : ∀ (T : Tm) (t : Nat) (v : TV), tget (tren l T) t = some v → ∃ u, tget T t = some u ∧ v = u.ren l := by
  intro T
  induction T with
  | nil => intro t v h; cases h
  | cons e r ih =>
    obtain ⟨k, u⟩ := e
    intro t v h
    unfold tren at h
    rw [tget_cons] at h
    rw [tget_cons]
    split at h
    · rename_i e; rw [if_pos e]; cases h; exact ⟨u, rfl, rfl⟩
    · rename_i e; rw [if_neg e]; exact ih t v h
theorem Fits.ren {C : Ctx} {T : Tm} {a : Act} (h : Fits C T a) (l : List (Nat × Nat)) : Fits C (tren l T) a := by
  refine ⟨fun t v ht => ?_, h.size, h.defers⟩
  obtain ⟨u, hu, rfl⟩ := tren_get l T t v ht
  rw [TV.ren_val]
  exact h.tmps t u hu

theorem LoopG.ren {C : Ctx} {body : Code} {T : Tm} {H : Heap} {Q : Ex → Tm → Heap → Prop} (l : List (Nat × Nat)) (T1 : Tm) (H1 : Heap) (hT : TSub T T1) (hH : HSub H H1) (ho : once H1 = true)
    (h : LoopG C body (tren l T1) (hren l H1) Q) : LoopG C body T H Q :=
  ⟨fun a w ha hw => h.go a w ((ha.sub hT).ren l) ((hw.sub hH.get).ren l ho)⟩
end Go.SX
