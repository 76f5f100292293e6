/- 'append' and 'copy'. -/
import Derived.Test.YtiijaiiejogbjaaDoorSxMop
set_option linter.unusedSimpArgs false
set_option linter.unusedVariables false
namespace Go.SX

def bytB (P : Program) (t : TypeId) : Option Nat :=
  match P.info? t with
  | some i => some i.bytes
  | none => none

structure AppT (P : Program) (st xt e : TypeId) (size bytes : Nat) : Prop where
  st : P.underlying st = some (.slice e)
  xt : (∃ e', P.underlying xt = some (.slice e')) ∨ P.underlying xt = some .string
  info : ∃ i, P.info? e = some i ∧ i.size = size ∧ i.bytes = bytes

theorem zeroCells_len (z : Array Value) (n : Nat) : (Builtin.zeroCells z n).size = n * z.size := by simp [Builtin.zeroCells]

theorem run_append_in {P : Program} {st xt ty e : TypeId} {size bytes n : Nat} (ht : AppT P st xt e size bytes) {w w' : World} {base : Option Addr} {len cap : Nat} {x : Value}
    (hn : (Builtin.lenOf x).run P w = .ok n w) {new : Array Value} (hf : (Builtin.firstCells size n x).run P w = .ok new w) (hle : len + n ≤ cap)
    (hs : (match base with | some a => storeCells (a.add (len * size)) new.toList | none => pure () : Sem Unit).run P w = .ok () w') :
    (Builtin.append_ #[st, xt] ty #[.slice base len cap, x]).run P w = .ok (.slice base (len + n) cap) w' := by
  obtain ⟨hst, hxt, i, hi, rfl, rfl⟩ := ht
  have hsz : (sizeOf e).run P w = .ok i.size w := sizeOf_run hi
  rcases hxt with ⟨e', hd⟩ | hd <;> cases base
  all_goals first
    | (simp only [Sem.run_pure, Result.ok.injEq, true_and] at hs
       subst hs
       simp [Builtin.append_, run_underlying hst, run_underlying hd, hsz, hn, hle, hf]; done)
    | (simp [Builtin.append_, run_underlying hst, run_underlying hd, hsz, hn, hle, hf, hs]; done)

theorem run_append_new {P : Program} {st xt ty e : TypeId} {size bytes n : Nat} (ht : AppT P st xt e size bytes) {w : World} {base : Option Addr} {len cap : Nat} {x : Value}
    (hn : (Builtin.lenOf x).run P w = .ok n w) {new old : Array Value} (hf : ∀ w' : World, w' = { w with drawn := w.drawn + 1 } → (Builtin.firstCells size n x).run P w' = .ok new w')
    (ho : ∀ w' : World, w' = { w with drawn := w.drawn + 1 } → (Builtin.firstCells size len (.slice base len cap)).run P w' = .ok old w')
    (hgt : cap < len + n) (hb : (2 * (len + n) + 192) * bytes ≤ 281474976710656) (hi64 : len + n < 9223372036854775808) {z : Value} (hz : ∀ w, (zeroValue e).run P w = .ok z w) (hb0 : bytes ≠ 0) :
    ∃ c, len + n ≤ c ∧ (Builtin.append_ #[st, xt] ty #[.slice base len cap, x]).run P w =
      .ok (.slice (some ⟨w.heap.size, 0, none⟩) (len + n) c) (({ w with drawn := w.drawn + 1 } : World).alloc (.cells (old ++ new ++ Builtin.zeroCells z.cells (c - (len + n))) e)) := by
  obtain ⟨hst, hxt, i, hi, rfl, rfl⟩ := ht
  have hsz : (sizeOf e).run P w = .ok i.size w := sizeOf_run hi
  have hti : ∀ w, (typeInfo e).run P w = .ok i w := fun w => by simp [typeInfo, hi]
  have hcap : Builtin.nextslicecap (len + n) cap * i.bytes ≤ 2 ^ 48 := by
    have h1 := Nat.mul_le_mul_right i.bytes (growCap_le hgt)
    omega
  refine ⟨len + n + w.tape w.drawn (.appendCap (len + n) cap e) % (2 ^ 63 - (len + n)), by omega, ?_⟩
  have hns : ¬ len + n ≤ cap := by omega
  have hc2 : ¬ Builtin.nextslicecap (len + n) cap * i.bytes > 2 ^ 48 := by omega
  rcases hxt with ⟨e', hd⟩ | hd
  all_goals
    simp only [Builtin.append_, List.getElem?_toArray, List.getElem?_cons_zero, List.getElem?_cons_succ, Sem.run_bind, run_underlying hst, Result.andThen_ok, hsz, Sem.run_pure, run_underlying hd, Bool.false_eq_true, if_false,
      hn, if_neg hns, hti, hb0, or_self, and_false, if_neg hc2, run_choose, Question.forced, Question.cut, run_askRoom, ho _ rfl, hf _ rfl, Bool.not_false, if_true, hz, newRow, run_newObj]
    rfl
end Go.SX
