/- Regions that draw their order, loops, contracts, results. -/
import Derived.Test.YtiijaiiejogbjaaDoorSxCode
set_option linter.unusedSimpArgs false
set_option linter.unusedVariables false
namespace Go.SX

/-! ### Regions that draw -/
/-- A call that leaves all that is known as it is, and hands back one value. -/
structure CallQ (C : Ctx) (f : FuncId) (args : List Value) (T : Tm) (H : Heap) (K : TV → Prop) : Prop where
  fn : ∃ fn, C.P.funcs[f]? = some fn ∧ (fn.name == "runtime.NumGoroutine") = false ∧ fn.body.isNone = false
  go : ∃ v, K v ∧ ∀ w, Rep C H w → Calls C.P f args.toArray w fun e w' => e = .returned (TV.val v) ∧ Rep C H w'

def putQ (N : Nat) (dst : Option Nat) (v : TV) (T : Tm) (K : Tm → Prop) : Prop :=
  match dst with
  | some d => (match Nat.blt d N with | true => K ((d, v) :: T) | false => False)
  | none => K T
theorem putQ_ok {C : Ctx} {dst : Option Nat} {v : TV} {T : Tm} {K : Tm → Prop} {a : Act} (h : putQ C.N dst v T K) (ha : Fits C T a) : ∃ T', Fits C T' (a.put dst v.val) ∧ K T' := by
  unfold putQ at h
  split at h
  · split at h
    · rename_i hd; exact ⟨_, ha.put hd v, h⟩
    · exact h.elim
  · exact ⟨_, ha, h⟩

def sxQop (C : Ctx) (T : Tm) (H : Heap) (o : Oper) (K : TV → Prop) : Prop :=
  match isQ C.P o, o.op with
  | true, _ => qop C.P T H o K
  | false, .call c => (match c.callee with
    | .value f => (match ev1 T f, evAll T c.args.toList with
      | some (.fn (.func g) first caps), some l => CallQ C g (argsOf first caps l) T H K
      | _, _ => False)
    | _ => False)
  | false, _ => False

theorem sxQop_ok {C : Ctx} {T : Tm} {H : Heap} {o : Oper} {K : TV → Prop} (h : sxQop C T H o K) {w1 : World} (hw1 : Rep C H w1) :
    ∃ v, K v ∧ ∀ a w, Fits C T a → Rep C H w → o.quietAt C.P a (Rep C H) w v.val := by
  unfold sxQop at h
  split at h
  · obtain ⟨v, hv, hr⟩ := qop_ok h hw1.hwf
    exact ⟨v, hv, fun a w ha hw => by unfold Oper.quietAt; rw [hr C a w ha hw]; exact ⟨rfl, rfl⟩⟩
  · rename_i c _ ho
    split at h
    · rename_i f hc
      split at h
      · rename_i g first caps l hf hl
        obtain ⟨⟨fn, hfn, hname, hbody⟩, v, hv, hgo⟩ := h
        refine ⟨v, hv, fun a w ha hw => ?_⟩
        have e0 : a.eval f = .func (.func g) (first.map Pt.value).toArray (caps.map Pt.value).toArray := ev1_ok ha hf
        have e1 : c.args.map a.eval = (l.map TV.val).toArray := arr_of (by rw [Array.toList_map, evAll_ok ha hl])
        have hr : (execOp a.eval o).run C.P w = .ok (.enter g (argsOf first caps l).toArray) w := by
          simp only [execOp, ho, resolve, hc, e0, e1, Deferred.ofValue, Sem.run_bind, Sem.run_pure, Result.andThen_ok, invoke, callFunc, run_program, hfn, hname, hbody, Bool.false_eq_true, if_false]
          simp [argsOf]
        unfold Oper.quietAt
        rw [hr]
        exact ⟨rfl, hgo w hw⟩
      · exact h.elim
    · exact h.elim
  · exact h.elim

def sxQ (C : Ctx) (all : List Oper) : List Oper → Tm → Heap → (Tm → Prop) → Prop
  | [], T, _, K => K T
  | o :: r, T, H, K => sxGuard all T o (sxQop C T H o fun v => putQ C.N o.dst v T fun T' => sxQ C all r T' H K) (putQ C.N o.dst (.tup []) T fun T' => sxQ C all r T' H K)

theorem sxQ_ok {C : Ctx} {all : List Oper} {H : Heap} {w1 : World} (hw1 : Rep C H w1) : ∀ {l : List Oper} {T : Tm} {K : Tm → Prop}, sxQ C all l T H K → ∀ {a : Act}, Fits C T a →
    wpQuiet C.P all.toArray (Rep C H) (fun a' => ∃ T', Fits C T' a' ∧ K T') l a := by
  intro l
  induction l with
  | nil => intro T K h a ha; exact ⟨T, ha, h⟩
  | cons o r ih =>
    intro T K h a ha
    unfold sxQ at h
    unfold wpQuiet
    rcases sxGuard_ok h ha with ⟨hg, h⟩ | ⟨hg, h⟩
    · rw [if_pos hg]
      obtain ⟨v, hv, hr⟩ := sxQop_ok h hw1
      obtain ⟨T', ha', hK⟩ := putQ_ok hv ha
      exact ⟨v.val, fun w hw => hr a w ha hw, ih hK ha'⟩
    · rw [if_neg (by simp [hg])]
      obtain ⟨T', ha', hK⟩ := putQ_ok (v := .tup []) h ha
      exact ih hK ha'

/-- All operations only look. -/
theorem Draw.quiet {C : Ctx} {id : Nat} {ops : List Oper} {T : Tm} {H : Heap} {Q : Ex → Tm → Heap → Prop} (hm : C.P.follows .mixedOrders = true) (hB : Region.lexB .any ops.toArray = true)
    (h : sxQ C ops ops T H fun T' => Q .normal T' H) : Draw C id ops T H Q := by
  refine ⟨fun a w ha hw => ?_⟩
  refine wp_region_quiet (C := Rep C H) hm hB (hw.drew _) ?_
  have := sxQ_ok hw h ha
  have mono : ∀ (l : List Oper) (a : Act), wpQuiet C.P ops.toArray (Rep C H) (fun a' => ∃ T', Fits C T' a' ∧ Q .normal T' H) l a →
      wpQuiet C.P ops.toArray (Rep C H) (fun a' => ∀ w', Rep C H w' → QK C Q .normal a' w') l a := by
    intro l
    induction l with
    | nil => rintro a ⟨T', ha', hQ⟩ w' hw'; exact ⟨T', H, ha', hw', hQ⟩
    | cons o r ih =>
      intro a h
      unfold wpQuiet at h ⊢
      split
      · rename_i hg; rw [if_pos hg] at h; exact Oper.quiet_mono ih h
      · rename_i hg; rw [if_neg hg] at h; exact ih _ h
  exact mono _ _ (by simpa using this)

/-! ### Loops -/
def TSub (T : Tm) : Tm → Prop
  | [] => True
  | (t, v) :: r => tget T t = some v ∧ TSub T r
def HSub (H : Heap) : Heap → Prop
  | [] => True
  | (k, b, hb) :: r => hget H k = some (b, hb) ∧ HSub H r
theorem TSub.get {T : Tm} : ∀ {T' : Tm}, TSub T T' → ∀ t v, tget T' t = some v → tget T t = some v := by
  intro T'
  induction T' with
  | nil => intro _ t v h; cases h
  | cons e r ih =>
    obtain ⟨k, u⟩ := e
    rintro ⟨h1, h2⟩ t v h
    rw [tget_cons] at h
    split at h
    · rename_i e; subst e; cases h; exact h1
    · exact ih h2 t v h
theorem HSub.get {H : Heap} : ∀ {H' : Heap}, HSub H H' → ∀ t x, hget H' t = some x → hget H t = some x := by
  intro H'
  induction H' with
  | nil => intro _ t v h; cases h
  | cons e r ih =>
    obtain ⟨k, b, hb⟩ := e
    rintro ⟨h1, h2⟩ t v h
    rw [hget_cons] at h
    split at h
    · rename_i e; subst e; cases h; exact h1
    · exact ih h2 t v h
theorem Fits.sub {C : Ctx} {T T' : Tm} {a : Act} (h : Fits C T a) (hs : TSub T T') : Fits C T' a := ⟨fun t v ht => h.tmps t v (hs.get t v ht), h.size, h.defers⟩

/-- What a round asks. -/
def roundQ {α : Type} (st : α → Tm × Heap) (I : α → Prop) (μ : α → Nat) (x : α) (Q : Ex → Tm → Heap → Prop) : Ex → Tm → Heap → Prop
  | .normal, T, H => ∃ y, I y ∧ μ y < μ x ∧ TSub T (st y).1 ∧ HSub H (st y).2
  | e, T, H => Q e T H

theorem LoopG.of {C : Ctx} {body : Code} {T : Tm} {H : Heap} {Q : Ex → Tm → Heap → Prop} {α : Type} (st : α → Tm × Heap) (I : α → Prop) (μ : α → Nat) (x0 : α)
    (h0 : I x0 ∧ TSub T (st x0).1 ∧ HSub H (st x0).2)
    (round : ∀ x, I x → sx C body (st x).1 (st x).2 (roundQ st I μ x Q)) : LoopG C body T H Q := by
  refine ⟨fun a w ha hw => ?_⟩
  let Inv : α → Act → World → Prop := fun x a w => I x ∧ Fits C (st x).1 a ∧ Rep C (st x).2 w
  have key : ∀ (x : α) a w, Inv x a w → (Code.loop body).wp C.P (QK C Q) a w := by
    intro x a w hI
    refine wp_loop (fun a w => ∃ x, Inv x a w) (fun a w => Classical.epsilon fun n => ∃ x, Inv x a w ∧ μ x = n ∧ ∀ y, Inv y a w → μ x ≤ μ y) ⟨x, hI⟩ ?_
    rintro a w ⟨y, hy⟩
    -- the least measure of this state
    have least : ∀ a w, (∃ x, Inv x a w) → ∃ n x, Inv x a w ∧ μ x = n ∧ ∀ y, Inv y a w → μ x ≤ μ y := by
      intro a w
      have aux : ∀ n x, Inv x a w → μ x = n → ∃ n x, Inv x a w ∧ μ x = n ∧ ∀ y, Inv y a w → μ x ≤ μ y := by
        intro n
        induction n using Nat.strongRecOn with
        | _ n ih =>
          intro x hx hn
          by_cases hmin : ∀ y, Inv y a w → μ x ≤ μ y
          · exact ⟨_, x, hx, rfl, hmin⟩
          · obtain ⟨y, hy⟩ := Classical.not_forall.1 hmin
            obtain ⟨hy1, hy2⟩ := Classical.not_imp.1 hy
            exact ih (μ y) (by omega) y hy1 rfl
      rintro ⟨z, hz⟩
      exact aux _ z hz rfl
    obtain ⟨z, hz, hzn, hzmin⟩ := Classical.epsilon_spec (least a w ⟨y, hy⟩)
    obtain ⟨hI', ha', hw'⟩ := hz
    refine wp_mono (sx_ok (round z hI') ha' hw') fun e a2 w2 hh => ?_
    cases e with
    | normal =>
      obtain ⟨T', H', ha2, hw2, u, hu, hlt, hT, hH⟩ := hh
      have hinv : Inv u a2 w2 := ⟨hu, ha2.sub hT, hw2.sub hH.get⟩
      refine ⟨⟨u, hinv⟩, ?_⟩
      obtain ⟨v, hv, hvn, hvmin⟩ := Classical.epsilon_spec (least a2 w2 ⟨u, hinv⟩)
      rw [← hvn, ← hzn]
      exact Nat.lt_of_le_of_lt (hvmin u hinv) hlt
    | exit i => exact hh
    | ret => exact hh
    | goto l => exact hh.elim
    | panic ch => exact hh.elim
    | outgrown => exact hh.elim
  exact key x0 a w ⟨h0.1, ha.sub h0.2.1, hw.sub h0.2.2.get⟩
end Go.SX
