/- One operation that leaves memory alone. -/
import Derived.Test.YtiijaiiejogbjaaDoorSxQuiet2
set_option linter.unusedSimpArgs false
set_option linter.unusedVariables false
namespace Go.SX

def ev1s (T : Tm) : List Operand → Option (List SC)
  | [] => some []
  | x :: l => match ev1 T x, ev1s T l with
    | some c, some r => some (c :: r)
    | _, _ => none
theorem ev1s_ok {C : Ctx} {T : Tm} {a : Act} (h : Fits C T a) : ∀ {l : List Operand} {r : List SC}, ev1s T l = some r → l.map a.eval = r.map SC.val := by
  intro l
  induction l with
  | nil => intro r h; cases h; rfl
  | cons x l ih =>
    intro r hr
    unfold ev1s at hr
    split at hr
    · rename_i c r' h1 h2
      cases hr
      simp [ev1_ok h h1, ih h2]
    · cases hr

def ptsOf : List SC → Option (List Pt)
  | [] => some []
  | .ptr p :: l => (match ptsOf l with | some r => some (p :: r) | none => none)
  | _ => none
theorem ptsOf_ok : ∀ {l : List SC} {r : List Pt}, ptsOf l = some r → l.map SC.val = r.map Pt.value := by
  intro l
  induction l with
  | nil => intro r h; cases h; rfl
  | cons c l ih =>
    intro r h
    cases c <;> simp only [ptsOf] at h <;> try (cases h; done)
    split at h
    · rename_i r' hr; cases h; simp [SC.val, ih hr]
    · cases h

def qmm (mx : Bool) (k : IntKind) (x : Int) : List SC → (Int → Prop) → Prop
  | [], K => K x
  | .int _ y :: l, K => (match mx with
    | true => qmm mx k (if y > x then y else x) l K
    | false => qmm mx k (if y < x then y else x) l K)
  | _, _ => False
theorem qmax_ok {P : Program} {k : IntKind} : ∀ {l : List SC} {x : Int} {K : Int → Prop}, qmm true k x l K →
    ∃ v, K v ∧ ∀ w, ((l.map SC.val).foldlM Builtin.max2 (.int k x)).run P w = .ok (.int k v) w := by
  intro l
  induction l with
  | nil => intro x K h; exact ⟨x, h, fun w => rfl⟩
  | cons c l ih =>
    intro x K h
    cases c <;> simp only [qmm] at h
    obtain ⟨v, hv, hr⟩ := ih h
    refine ⟨v, hv, fun w => ?_⟩
    simp only [List.map_cons, SC.val, List.foldlM_cons, Builtin.max2, Sem.run_bind, Sem.run_pure, Result.andThen_ok]
    exact hr w
theorem qmin_ok {P : Program} {k : IntKind} : ∀ {l : List SC} {x : Int} {K : Int → Prop}, qmm false k x l K →
    ∃ v, K v ∧ ∀ w, ((l.map SC.val).foldlM Builtin.min2 (.int k x)).run P w = .ok (.int k v) w := by
  intro l
  induction l with
  | nil => intro x K h; exact ⟨x, h, fun w => rfl⟩
  | cons c l ih =>
    intro x K h
    cases c <;> simp only [qmm] at h
    obtain ⟨v, hv, hr⟩ := ih h
    refine ⟨v, hv, fun w => ?_⟩
    simp only [List.map_cons, SC.val, List.foldlM_cons, Builtin.min2, Sem.run_bind, Sem.run_pure, Result.andThen_ok]
    exact hr w

def qlen (P : Program) (t : TypeId) (x : BV) (K : Int → Prop) : Prop :=
  match P.underlying t, x with
  | some .string, .one (.str s) => K s.length
  | some (.slice _), .one (.sl _ _ _ _ _ len _) => K len
  | some (.slice _), .one .nilsl => K 0
  | some (.array n _), _ => K n
  | some (.map _ _), .one .nilmp => K 0
  | _, _ => False
theorem qlen_ok {P : Program} {t ty : TypeId} {x : BV} {K : Int → Prop} (h : qlen P t x K) : ∃ n, K n ∧ ∀ w, (Builtin.len_ #[t] ty #[x.val]).run P w = .ok (.int .i64 n) w := by
  unfold qlen at h
  split at h
  · rename_i s hu
    refine ⟨_, h, fun w => ?_⟩
    have : (⟨⟨s⟩⟩ : ByteArray).size = s.length := rfl
    simp [Builtin.len_, run_underlying hu, BV.val, SC.val, goInt, this]
  · rename_i hu; exact ⟨_, h, fun w => by simp [Builtin.len_, run_underlying hu, BV.val, SC.val, goInt]⟩
  · rename_i hu; exact ⟨_, h, fun w => by simp [Builtin.len_, run_underlying hu, BV.val, SC.val, goInt]⟩
  · rename_i hu; exact ⟨_, h, fun w => by simp [Builtin.len_, run_underlying hu, goInt]⟩
  · rename_i hu; exact ⟨_, h, fun w => by simp [Builtin.len_, run_underlying hu, BV.val, SC.val, goInt]⟩
  · exact h.elim

/-- All of them. -/
def qop (P : Program) (T : Tm) (H : Heap) (o : Oper) (K : TV → Prop) : Prop :=
  match o.op with
  | .move x => (match ev T x with | some v => K v | none => False)
  | .assign x => (match ev T x with | some v => K v | none => False)
  | .pick c a b => (match ev1 T c, ev T a, ev T b with
    | some (.bool t), some u, some v => Br t (K u) (K v)
    | _, _, _ => False)
  | .load t x => (match ev1 T x with | some c => qload P H t c fun v => K (.b v) | none => False)
  | .nilCheck x => (match ev1 T x with
    | some (.ptr p) => K (.b (.one (.ptr p)))
    | some (.fn (.func f) a b) => K (.b (.one (.fn (.func f) a b)))
    | some (.fn (.yield l) a b) => K (.b (.one (.fn (.yield l) a b)))
    | _ => False)
  | .binOp op t x y _ => (match ev1 T x, ev1 T y with
    | some c, some d => qbin P op t c d fun v => K (.b (.one v))
    | _, _ => False)
  | .unOp op _ x => (match ev1 T x with | some c => qun op c fun v => K (.b (.one v)) | none => False)
  | .convert s d x => (match ev1 T x with | some c => qconv P H s d c fun v => K (.b (.one v)) | none => False)
  | .makeFunc f first caps => (match ev1s T first.toList, ev1s T caps.toList with
    | some a, some b => (match ptsOf a, ptsOf b with
      | some a, some b => K (.b (.one (.fn f a b)))
      | _, _ => False)
    | _, _ => False)
  | .slice t x lo hi none => (match ev1 T x, evo T lo, evo T hi with
    | some c, some l, some h => qslice P t c l h fun v => K (.b (.one v))
    | _, _, _ => False)
  | .fieldAddr t x f => (match ev1 T x with | some c => qfieldAddr P t c f fun v => K (.b (.one v)) | none => False)
  | .field t x f => (match evb T x with | some v => qfield P t v f fun v => K (.b v) | none => False)
  | .indexAddr t x i => (match ev1 T x, ev1 T i with
    | some c, some (.int _ n) => qindexAddr P t c n fun v => K (.b (.one v))
    | _, _ => False)
  | .index t x i => (match evb T x, ev1 T i with
    | some v, some (.int _ n) => qindex P t v n fun v => K (.b v)
    | _, _ => False)
  | .extract x i => (match ev T x with
    | some (.tup l) => (match lget l i with | some v => K (.b v) | none => False)
    | _ => False)
  | .build t parts => (match evParts T parts.toList with
    | some ps => qbuild P t ps fun v => K (.b v)
    | none => False)
  | .call c => (match c.callee, c.args.toList, c.argTypes.toList with
    | .builtin .len, [x], [t] => (match evb T x with | some v => qlen P t v fun n => K (.b (.one (.int .i64 n))) | none => False)
    | .builtin .max, x :: l, _ => (match ev1 T x, ev1s T l with
      | some (.int k n), some cs => qmm true k n cs fun z => K (.b (.one (.int k z)))
      | _, _ => False)
    | .builtin .min, x :: l, _ => (match ev1 T x, ev1s T l with
      | some (.int k n), some cs => qmm false k n cs fun z => K (.b (.one (.int k z)))
      | _, _ => False)
    | _, _, _ => False)
  | _ => False

theorem arr_of {α : Type} {x : Array α} {l : List α} (h : x.toList = l) : x = l.toArray := by rw [← h]

theorem qop_ok {P : Program} {T : Tm} {H : Heap} {o : Oper} {K : TV → Prop} (h : qop P T H o K) (hw1 : HWf H) :
    ∃ v, K v ∧ ∀ C a w, Fits C T a → Rep C H w → (execOp a.eval o).run P w = .ok (.value v.val) w := by
  unfold qop at h
  split at h
  · rename_i x ho
    split at h
    · rename_i v hv; exact ⟨v, h, fun C a w ha hw => by simp [execOp, ho, ev_ok ha hv]⟩
    · exact h.elim
  · rename_i x ho
    split at h
    · rename_i v hv; exact ⟨v, h, fun C a w ha hw => by simp [execOp, ho, ev_ok ha hv]⟩
    · exact h.elim
  · rename_i c x y ho
    split at h
    · rename_i t u v hc hx hy
      cases t with
      | true => exact ⟨_, h.t rfl, fun C a w ha hw => by have e : a.eval c = Value.bool _ := ev1_ok ha hc; simp [execOp, ho, e, ev_ok ha hx, asBool]⟩
      | false => exact ⟨_, h.f rfl, fun C a w ha hw => by have e : a.eval c = Value.bool _ := ev1_ok ha hc; simp [execOp, ho, e, ev_ok ha hy, asBool]⟩
    · exact h.elim
  · rename_i t x ho
    split at h
    · rename_i c hc
      obtain ⟨v, hv, hr⟩ := qload_ok h hw1
      exact ⟨_, hv, fun C a w ha hw => by simp only [execOp, ho, ev1_ok ha hc, Sem.run_bind, hr C w hw, Result.andThen_ok, Sem.run_pure]; rfl⟩
    · exact h.elim
  · rename_i x ho
    split at h
    · rename_i p hc; refine ⟨_, h, fun C a w ha hw => ?_⟩; simp [execOp, ho, ev1_ok ha hc, SC.val, Pt.value, TV.val, BV.val]
    · rename_i f A B hc; refine ⟨_, h, fun C a w ha hw => ?_⟩; simp [execOp, ho, ev1_ok ha hc, SC.val, Pt.value, TV.val, BV.val]
    · rename_i f A B hc; refine ⟨_, h, fun C a w ha hw => ?_⟩; simp [execOp, ho, ev1_ok ha hc, SC.val, Pt.value, TV.val, BV.val]
    · exact h.elim
  · rename_i op t x y yt ho
    split at h
    · rename_i c d hc hd
      obtain ⟨v, hv, hr⟩ := qbin_ok h x y
      refine ⟨_, hv, fun C a w ha hw => ?_⟩
      have := hr w
      simp only [execOp, ho, ev1_ok ha hc, ev1_ok ha hd, Sem.run_bind] at this ⊢
      rw [this]; rfl
    · exact h.elim
  · rename_i op t x ho
    split at h
    · rename_i c hc
      obtain ⟨v, hv, hr⟩ := qun_ok (P := P) h
      exact ⟨_, hv, fun C a w ha hw => by simp only [execOp, ho, ev1_ok ha hc, Sem.run_bind, hr, Result.andThen_ok, Sem.run_pure]; rfl⟩
    · exact h.elim
  · rename_i s d x ho
    split at h
    · rename_i c hc
      obtain ⟨v, hv, hr⟩ := qconv_ok h
      exact ⟨_, hv, fun C a w ha hw => by simp only [execOp, ho, ev1_ok ha hc, Sem.run_bind, hr C w hw, Result.andThen_ok, Sem.run_pure]; rfl⟩
    · exact h.elim
  · rename_i f first caps ho
    split at h
    · rename_i A B hA hB
      split at h
      · rename_i A' B' hA' hB'
        refine ⟨_, h, fun C a w ha hw => ?_⟩
        have e1 : first.map a.eval = (A'.map Pt.value).toArray := arr_of (by rw [Array.toList_map, ev1s_ok ha hA, ptsOf_ok hA'])
        have e2 : caps.map a.eval = (B'.map Pt.value).toArray := arr_of (by rw [Array.toList_map, ev1s_ok ha hB, ptsOf_ok hB'])
        simp only [execOp, ho, e1, e2, Instr.makeFunc, Sem.run_bind, Sem.run_pure, Result.andThen_ok]; rfl
      · exact h.elim
    · exact h.elim
  · rename_i t x lo hi ho
    split at h
    · rename_i c l h' hc hl hh
      obtain ⟨v, hv, hr⟩ := qslice_ok h
      refine ⟨_, hv, fun C a w ha hw => ?_⟩
      have key : ∀ {x : Option Operand} {l : Option Int}, evo T x = some l → ∃ k : IntKind, x.map a.eval = l.map (Value.int k) := by
        intro x l hx
        cases x with
        | none => cases hx; exact ⟨.i64, rfl⟩
        | some x =>
          simp only [evo] at hx
          split at hx
          · rename_i k n hk; cases hx; exact ⟨k, by simp [ev1_ok ha hk, SC.val]⟩
          · cases hx
      obtain ⟨k1, e1⟩ := key hl
      obtain ⟨k2, e2⟩ := key hh
      simp only [execOp, ho, ev1_ok ha hc, Sem.run_bind, e1, e2, Option.map_none, hr, Result.andThen_ok, Sem.run_pure]; rfl
    · exact h.elim
  · rename_i t x f ho
    split at h
    · rename_i c hc
      obtain ⟨v, hv, hr⟩ := qfieldAddr_ok h
      exact ⟨_, hv, fun C a w ha hw => by simp only [execOp, ho, ev1_ok ha hc, Sem.run_bind, hr, Result.andThen_ok, Sem.run_pure]; rfl⟩
    · exact h.elim
  · rename_i t x f ho
    split at h
    · rename_i c hc
      obtain ⟨v, hv, hr⟩ := qfield_ok h
      exact ⟨_, hv, fun C a w ha hw => by simp only [execOp, ho, evb_ok ha hc, Sem.run_bind, hr, Result.andThen_ok, Sem.run_pure]; rfl⟩
    · exact h.elim
  · rename_i t x i ho
    split at h
    · rename_i c k n hc hn
      obtain ⟨v, hv, hr⟩ := qindexAddr_ok h
      exact ⟨_, hv, fun C a w ha hw => by have e : a.eval i = .int k n := ev1_ok ha hn; simp only [execOp, ho, ev1_ok ha hc, e, Sem.run_bind, hr, Result.andThen_ok, Sem.run_pure]; rfl⟩
    · exact h.elim
  · rename_i t x i ho
    split at h
    · rename_i c k n hc hn
      obtain ⟨v, hv, hr⟩ := qindex_ok h
      exact ⟨_, hv, fun C a w ha hw => by have e : a.eval i = .int k n := ev1_ok ha hn; simp only [execOp, ho, evb_ok ha hc, e, Sem.run_bind, hr, Result.andThen_ok, Sem.run_pure]; rfl⟩
    · exact h.elim
  · rename_i x i ho
    split at h
    · rename_i l hl
      split at h
      · rename_i v hv
        rw [lget_eq] at hv
        refine ⟨_, h, fun C a w ha hw => ?_⟩
        simp [execOp, ho, ev_ok ha hl, TV.val, Instr.extract, hv]
      · exact h.elim
    · exact h.elim
  · rename_i t parts ho
    split at h
    · rename_i ps hps
      obtain ⟨v, hv, hr⟩ := qbuild_ok h
      refine ⟨_, hv, fun C a w ha hw => ?_⟩
      have := hr w (parts.map fun (i, x) => (i, a.eval x)) (by rw [Array.toList_map, ← evParts_ok ha hps])
      simp only [execOp, ho, Sem.run_bind, this, Result.andThen_ok, Sem.run_pure]; rfl
    · exact h.elim
  · rename_i c ho
    split at h
    · rename_i x t hc hx ht
      split at h
      · rename_i v hv
        obtain ⟨n, hn, hr⟩ := qlen_ok (ty := o.type) h
        refine ⟨_, hn, fun C a w ha hw => ?_⟩
        have e1 : c.args.map a.eval = #[v.val] := arr_of (by rw [Array.toList_map, hx]; simp [evb_ok ha hv])
        have e2 : c.argTypes = #[t] := arr_of ht
        simp only [execOp, ho, resolve, hc, e1, e2, Sem.run_bind, Sem.run_pure, Result.andThen_ok, invoke, builtin, hr]; rfl
      · exact h.elim
    · rename_i x l hc hx
      split at h
      · rename_i k n cs hk hcs
        obtain ⟨z, hz, hr⟩ := qmax_ok (P := P) h
        refine ⟨_, hz, fun C a w ha hw => ?_⟩
        have e1 : c.args.map a.eval = (Value.int k n :: cs.map SC.val).toArray := arr_of (by rw [Array.toList_map, hx, List.map_cons, ev1s_ok ha hcs, ev1_ok ha hk]; rfl)
        simp only [execOp, ho, resolve, hc, e1, Sem.run_bind, Sem.run_pure, Result.andThen_ok, invoke, builtin, Builtin.max_, hr]; rfl
      · exact h.elim
    · rename_i x l hc hx
      split at h
      · rename_i k n cs hk hcs
        obtain ⟨z, hz, hr⟩ := qmin_ok (P := P) h
        refine ⟨_, hz, fun C a w ha hw => ?_⟩
        have e1 : c.args.map a.eval = (Value.int k n :: cs.map SC.val).toArray := arr_of (by rw [Array.toList_map, hx, List.map_cons, ev1s_ok ha hcs, ev1_ok ha hk]; rfl)
        simp only [execOp, ho, resolve, hc, e1, Sem.run_bind, Sem.run_pure, Result.andThen_ok, invoke, builtin, Builtin.min_, hr]; rfl
      · exact h.elim
    · exact h.elim
  · exact h.elim
end Go.SX
