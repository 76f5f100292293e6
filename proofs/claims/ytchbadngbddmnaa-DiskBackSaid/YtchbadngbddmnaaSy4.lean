/- A walk engine: what a call computes, symbolically (part 4). -/
import Derived.Test.YtchbadngbddmnaaSy3
import Derived.OrdersHeld
import Derived.Conc.LoneCalls
import Derived.Conc.LoneSelectN
import Derived.ChangeArms
import Derived.ChangeSame
import Derived.OpenShut
import Derived.Carry
import Derived.RowKit
import Derived.FnData
/- A region that draws its order: first operations that only look or call quietly, in whatever order; then a chain. -/
set_option linter.unusedSimpArgs false
set_option linter.unusedVariables false
namespace Go.SY
variable {P : Program} {ops : Array Oper} {Cl : World → Prop}

/-- The head in whatever order: each operation quiet in the class, none of the tail ready before it is done. -/
def hd (P : Program) (ops : Array Oper) (Cl : World → Prop) (n : Nat) (L : Array Bool → Act → Prop) : Nat → Array Bool → Act → Prop
  | 0, listed, a => L listed a
  | f + 1, listed, a => Region.ready .any ops listed ≠ [] ∧ ∀ i ∈ Region.ready .any ops listed, i < n ∧ qOp P ops Cl i (hd P ops Cl n L f (listed.setIfInBounds i true)) a

theorem any_of_hd {n g : Nat} {L : Array Bool → Act → Prop} {Q : Exit → Act → World → Prop} (hL : ∀ listed a w, Cl w → L listed a → wpAny P .any ops Q g listed a w) :
    ∀ (f : Nat) (listed : Array Bool) (a : Act) (w : World), Cl w → hd P ops Cl n L f listed a → wpAny P .any ops Q (f + g) listed a w := by
  intro f
  induction f with
  | zero => intro listed a w hw h; rw [Nat.zero_add]; exact hL _ _ _ hw h
  | succ f ih =>
    intro listed a w hw h
    rw [show f + 1 + g = (f + g) + 1 by omega]
    exact ⟨fun h0 => absurd h0 h.1, fun i hi => wpOp_of_qOp hw (fun a' w' hw' h' => ih _ a' w' hw' h') (h.2 i hi).2⟩

theorem hd_first {n i : Nat} {oi : Oper} {v : Value} {L : Array Bool → Act → Prop} (hi : ops[i]? = some oi) (hsel : ∀ (j : Nat) (o : Oper) cs b, ops[j]? = some o → o.op ≠ .select cs b)
    (hs : Region.sinkB .any ops n = true) (hc : Region.chainB .any ops n = true) (hn : n < ops.size) (hin : i < n)
    (hdone : ∀ listed a, L listed a → ∀ j ∈ Region.ready .any ops listed, n ≤ j) :
    ∀ (f : Nat) (listed : Array Bool) (a : Act), HeadInv .any ops n listed →
      (∀ j oj, ops[j]? = some oj → j ≠ i → listed.getD j true = false → (∀ e ∈ oj.after, Region.binds .any e = true → e.on ≠ i) → oi.apart ops oj = true) →
      i ∈ Region.ready .any ops listed → YieldsIn P ops Cl oi v a →
      hd P ops Cl n L f (listed.setIfInBounds i true) (a.put oi.dst v) → hd P ops Cl n L (f + 1) listed a := by
  intro f
  induction f with
  | zero =>
    intro listed a inv _ hr hy H
    have hun := (mem_ready.1 hr).1
    refine ⟨fun h => (by rw [h] at hr; cases hr), fun j hj => ?_⟩
    have hjn : j < n := by
      rcases Nat.lt_or_ge j n with h | h
      · exact h
      · exact absurd hj (tail_waits hs hc hn inv _ i rfl hin hun j h)
    refine ⟨hjn, ?_⟩
    by_cases hji : j = i
    · subst hji; exact hy.qOp hi H
    · have := hdone _ _ H j (ready_mono hj hji)
      omega
  | succ f ih =>
    intro listed a inv hfree hr hy H
    have hun := (mem_ready.1 hr).1
    refine ⟨fun h => (by rw [h] at hr; cases hr), fun j hj => ?_⟩
    have hjn : j < n := by
      rcases Nat.lt_or_ge j n with h | h
      · exact h
      · exact absurd hj (tail_waits hs hc hn inv _ i rfl hin hun j h)
    refine ⟨hjn, ?_⟩
    by_cases hji : j = i
    · subst hji; exact hy.qOp hi H
    · have h1 := (H.2 j (ready_mono hj hji)).2
      obtain ⟨hjun, oj, hoj, hall⟩ := mem_ready.1 hj
      have hnot : ∀ e ∈ oj.after, Region.binds .any e = true → e.on ≠ i := fun e he hb heq => by
        have h1 := hall e he hb
        rw [heq, getD_both hun] at h1
        cases h1
      have h2 := qOp_put hoj (hfree j oj hoj hji hjun hnot) (fun cs b => hsel i oi cs b hi) (fun cs b => hsel j oj cs b hoj) hy h1
      have hfree' : ∀ k ok, ops[k]? = some ok → k ≠ i → (listed.setIfInBounds j true).getD k true = false →
          (∀ e ∈ ok.after, Region.binds .any e = true → e.on ≠ i) → oi.apart ops ok = true := fun k ok hk hki hun hno => by
        refine hfree k ok hk hki ?_ hno
        by_cases hjk : j = k
        · subst hjk; exact hjun
        · rw [getD_set_ne true hjk] at hun; exact hun
      refine qOp_mono (fun a' h3 => ih (listed.setIfInBounds j true) a' (inv.set hj hjn) hfree' (ready_mono hr (Ne.symm hji)) h3.1 ?_) h2
      rw [Array.setIfInBounds_comm _ _ hji]
      exact h3.2

theorem hd_lex {n g : Nat} {Lq : Act → Prop} (hsel : Region.noSelect ops = true) (hs : Region.sinkB .any ops n = true) (hc : Region.chainB .any ops n = true) (hn : n < ops.size) :
    ∀ (l : List Oper) (k : Nat) (listed : Array Bool) (a : Act), (∀ j, j < l.length → l[j]? = ops[k + j]?) → k + l.length = n → HeadInv .any ops n listed →
    Region.lexHead .any ops g l.length k listed = true → wpQuiet P ops Cl Lq l a →
    hd P ops Cl n (fun listed' a' => Region.seqB .any ops g n listed' = true ∧ Lq a') l.length listed a := by
  intro l
  induction l with
  | nil =>
    intro k listed a _ hk inv hB h
    have : k = n := by simpa using hk
    subst this
    exact ⟨by simpa [Region.lexHead] using hB, h⟩
  | cons o l ih =>
    intro k listed a hl hk inv hB h
    have h0 : ops[k]? = some o := by simpa using (hl 0 (by simp)).symm
    simp only [List.length_cons, Region.lexHead, Bool.and_eq_true] at hB
    obtain ⟨⟨hr, hf⟩, hB'⟩ := hB
    have hkn : k < n := by simp only [List.length_cons] at hk; omega
    have hr' : k ∈ Region.ready .any ops listed := by simpa using hr
    have hst : qOp P ops Cl k (wpQuiet P ops Cl Lq l) a := by unfold qOp; simp only [h0]; exact h
    obtain ⟨v, hy, hK⟩ := yieldsIn_of_qOp h0 hst
    exact hd_first h0 (Region.noSelect_spec hsel) hs hc hn hkn (fun listed' a' hL => seqB_ready hL.1) l.length listed a inv (Region.free_spec h0 hf) hr' hy
      (ih (k + 1) _ _ (fun j hj => by have := hl (j + 1) (by simp; omega); simpa [Nat.add_assoc, Nat.add_comm 1 j] using this) (by simp only [List.length_cons] at hk; omega) (inv.set hr' hkn) hB' hK)

/-- The first n operations only look, or call quietly; the others come in the text's order. -/
theorem Draw.tailQ {C : Ctx} {id : Nat} {ops : List Oper} {T : Tm} {H : Heap} {Q : Ex → Tm → Heap → Prop} (n : Nat) (hm : C.P.follows .mixedOrders = true) (hB : (calm (ops.drop n) && Region.lexTailB .any ops.toArray n) = true)
    (h : sxQ C ops (ops.take n) T H fun T' => sxOps C ops (ops.drop n) T' H (Q .normal)) : Draw C id ops T H Q := by
  refine ⟨fun a w ha hw => ?_⟩
  simp only [Region.lexTailB, Bool.and_eq_true, decide_eq_true_eq] at hB
  obtain ⟨hcl, ⟨⟨⟨hsel, hn⟩, hs⟩, hc⟩, hlex⟩ := hB
  have hn' : n < ops.length := by simpa using hn
  have htl : (ops.take n).length = n := by simp; omega
  have hdl : (ops.drop n).length = ops.toArray.size - n := by simp
  have inv0 : HeadInv .any ops.toArray n (Array.replicate ops.toArray.size false) :=
    ⟨by simp, fun j oj _ hl => (by rw [getD_replicate_false] at hl; cases hl), fun t _ ht => getD_in (by simpa using ht) (getD_replicate_false _ _)⟩
  have hq := sxQ_ok hw h ha
  have Hh := hd_lex (P := C.P) (Cl := Rep C H) (g := ops.toArray.size - n) hsel hs hc hn (ops.take n) 0 _ a (fun j hj => by
    have hj' : j < n := by rw [htl] at hj; exact hj
    simp [hj']) (by simpa using htl) inv0 (by rw [htl]; exact hlex) hq
  refine wp_region_any hm ?_
  have := any_of_hd (Q := QK C Q) (g := ops.toArray.size - n) (fun listed a' w' hw' hL => by
    obtain ⟨hseq, T', ha', hK⟩ := hL
    have := wpAny_of_seq (md := .any) (Q' := QK C Q) (ops.drop n) n listed a' w' (fun j => by simp [List.getElem?_drop]) (by rw [hdl]; exact hseq) (sxOps_ok hcl hK (fun a w hh => hh) ha' hw')
    rwa [hdl] at this) _ _ _ _ (hw.drew (w.drawn + 1)) Hh
  rw [htl, show n + (ops.toArray.size - n) = ops.toArray.size by omega] at this
  exact this

def tren (l : List (Nat × Nat)) : Tm → Tm
  | [] => []
  | (t, v) :: r => (t, v.ren l) :: tren l r
theorem tren_get (l : List (Nat × Nat)) : ∀ (T : Tm) (t : Nat) (v : TV), tget (tren l T) t = some v → ∃ u, tget T t = some u ∧ v = u.ren l := by
  intro T
  induction T with
  | nil => intro t v h; cases h
  | cons e r ih =>
    obtain ⟨k, u⟩ := e
    intro t v h
    unfold tren at h
    rw [tget_cons] at h
    rw [tget_cons]
    split at h
    · rename_i e; rw [if_pos e]; cases h; exact ⟨u, rfl, rfl⟩
    · rename_i e; rw [if_neg e]; exact ih t v h

/-! ### Orders, step by step -/
/-- In which order the operations are gone through: one that looks at no memory may be taken first; else all that may come now. -/
inductive Sched where
  | done
  | one (i : Nat) (s : Sched)
  | fin
  | alt (i : Nat) (s rest : Sched)

def isStr (P : Program) (t : TypeId) : Bool := match P.underlying t with | some .string => true | _ => false
theorem isStr_ok {P : Program} {t : TypeId} (h : isStr P t = true) : P.underlying t = some .string := by
  unfold isStr at h
  split at h
  · assumption
  · cases h
/-- Does an operation look at no memory at all? -/
def isPure (P : Program) (o : Oper) : Bool :=
  match o.op with
  | .move _ | .assign _ | .pick .. | .nilCheck _ | .binOp .. | .unOp .. | .makeFunc .. | .fieldAddr .. | .field .. | .index .. | .extract .. | .build .. => true
  | .convert s d _ => (match P.underlying s, P.underlying d with | some (.int _), some (.int _) => true | some .string, some .string => true | _, _ => false)
  | .slice t _ _ _ _ => isStr P t
  | .call c => (match c.callee, c.argTypes.toList with | .builtin .len, [t] => isStr P t | .builtin .max, _ => true | .builtin .min, _ => true | _, _ => false)
  | _ => false

def altIdx : Sched → List Nat
  | .alt i _ r => i :: altIdx r
  | _ => []
def depth : Sched → Nat
  | .done => 0
  | .one _ s => depth s + 1
  | .fin => 0
  | .alt _ s r => max (depth s + 1) (depth r)
/-- Are just these the orders? -/
def schedOk (P : Program) (ops : Array Oper) : Bool → Sched → Array Bool → Bool
  | _, .done, listed => (Region.ready .any ops listed).isEmpty
  | _, .one i s, listed => (Region.ready .any ops listed).contains i && Region.free .any ops listed i && ((ops[i]?).map (isPure P)).getD false && schedOk P ops true s (listed.setIfInBounds i true)
  | top, .fin, _ => !top
  | top, .alt i s r, listed => (!top || i :: altIdx r == Region.ready .any ops listed) && schedOk P ops true s (listed.setIfInBounds i true) && schedOk P ops false r listed

def step1 (C : Ctx) (all : List Oper) (i : Nat) (T : Tm) (H : Heap) (K : Tm → Heap → Prop) : Prop :=
  match lget all i with
  | some o => (match isComm o with | true => False | false => sxGuard all T o (sxOp C T H o K) (skipK C.N o.dst T H K))
  | none => False
def sxSched (C : Ctx) (all : List Oper) : Sched → Tm → Heap → (Tm → Heap → Prop) → Prop
  | .done, T, H, K => K T H
  | .one i s, T, H, K => step1 C all i T H fun T' H' => sxSched C all s T' H' K
  | .fin, _, _, _ => True
  | .alt i s r, T, H, K => (step1 C all i T H fun T' H' => sxSched C all s T' H' K) ∧ sxSched C all r T H K

theorem qop_pure {P : Program} {T : Tm} {H : Heap} {o : Oper} {K : TV → Prop} (hp : isPure P o = true) (h : qop P T H o K) : qop P T [] o K := by
  unfold isPure at hp
  unfold qop at h ⊢
  cases ho : o.op with
  | load t x => rw [ho] at hp; cases hp
  | indexAddr t x i => rw [ho] at hp; cases hp
  | convert s d x =>
    rw [ho] at hp
    simp only [ho] at h ⊢
    split at h
    · rename_i c hc
      unfold qconv at h ⊢
      split at h
      · exact h
      · exact h
      · rename_i e hs hd; simp only [hs, hd] at hp; cases hp
      · rename_i e hs hd; simp only [hs, hd] at hp; cases hp
      · rename_i e hs hd; simp only [hs, hd] at hp; cases hp
      · exact h
    · exact h
  | slice t x lo hi m =>
    rw [ho] at hp
    simp only [ho] at h ⊢
    have hu : P.underlying t = some .string := isStr_ok hp
    cases m with
    | some m => exact h
    | none =>
      dsimp only at h ⊢
      split at h
      · rename_i c l h' hc hl hh
        unfold qslice at h ⊢
        rw [hu] at h ⊢
        revert h
        cases c <;> exact id
      · exact h
  | call c =>
    rw [ho] at hp
    simp only [ho] at h ⊢
    split at h
    · rename_i x t hc hx ht
      dsimp only at hp
      rw [hc, ht] at hp
      have hu : P.underlying t = some .string := isStr_ok hp
      split at h
      · rename_i v hv
        unfold qlen at h ⊢
        rw [hu] at h ⊢
        revert h
        cases v with
        | one c => cases c <;> exact id
        | agg l => exact id
      · exact h
    · exact h
    · exact h
    · exact h
  | _ => first | (rw [ho] at hp; cases hp; done) | (simp only [ho] at h ⊢; exact h)

theorem isPure_isQ {P : Program} {o : Oper} (h : isPure P o = true) : isQ P o = true := by
  unfold isPure at h
  unfold isQ
  cases ho : o.op with
  | convert s d x =>
    rw [ho] at h
    dsimp only at h ⊢
    revert h
    cases P.underlying s with
    | none => intro h; cases h
    | some a => cases P.underlying d with
      | none => intro h; cases a <;> cases h
      | some b => cases a <;> cases b <;> intro h <;> first | rfl | cases h
  | call c =>
    rw [ho] at h
    dsimp only at h ⊢
    split at h
    · rename_i hc _; rw [hc]
    · rename_i hc; rw [hc]
    · rename_i hc; rw [hc]
    · cases h
  | _ => first | rfl | (rw [ho] at h; cases h)

theorem QK_panic {C : Ctx} {Q : Ex → Tm → Heap → Prop} (c : List PanicEntry) (a a' : Act) (w : World) : QK C Q (.panic c) a w → QK C Q (.panic c) a' w := fun h => h.elim

theorem step1_wpOp {C : Ctx} {all : List Oper} {i : Nat} {T : Tm} {H : Heap} {K : Tm → Heap → Prop} (h : step1 C all i T H K) {a : Act} {w : World} (ha : Fits C T a) (hw : Rep C H w) {Q : Exit → Act → World → Prop} :
    wpOp C.P all.toArray Q i (Holds C K) a w := by
  unfold step1 at h
  split at h
  · rename_i o ho
    rw [lget_eq] at ho
    unfold wpOp
    have ho' : all.toArray[i]? = some o := by simpa using ho
    simp only [ho']
    split at h
    · exact h.elim
    · rename_i hc
      rcases sxGuard_ok h ha with ⟨hg, h⟩ | ⟨hg, h⟩
      · rw [if_pos hg]; exact .inl (sxOp_ok hc h ha hw Q)
      · rw [if_neg (by simp [hg])]; exact putK_ok (v := .tup []) h trivial ha hw
  · exact h.elim

theorem sxSched_ok {C : Ctx} {all : List Oper} {Q : Ex → Tm → Heap → Prop} (hsel : Region.noSelect all.toArray = true) : ∀ {s : Sched} {top : Bool} {listed : Array Bool} {T : Tm} {H : Heap} {fuel : Nat},
    schedOk C.P all.toArray top s listed = true → sxSched C all s T H (Q .normal) → depth s ≤ fuel → ∀ {a : Act} {w : World}, Fits C T a → Rep C H w →
    (top = true → wpAny C.P .any all.toArray (QK C Q) fuel listed a w) ∧
    (top = false → ∀ i ∈ altIdx s, ∀ f, fuel = f + 1 → wpOp C.P all.toArray (QK C Q) i (wpAny C.P .any all.toArray (QK C Q) f (listed.setIfInBounds i true)) a w) := by
  intro s
  induction s with
  | done =>
    intro top listed T H fuel hok h _ a w ha hw
    have hr : Region.ready .any all.toArray listed = [] := by simpa [schedOk] using hok
    exact ⟨fun _ => wpAny_done hr ⟨T, H, ha, hw, h⟩ fuel, fun _ i hi => by simp [altIdx] at hi⟩
  | fin =>
    intro top listed T H fuel hok h _ a w ha hw
    exact ⟨fun ht => by rw [ht] at hok; simp [schedOk] at hok, fun _ i hi => by simp [altIdx] at hi⟩
  | one i s ih =>
    intro top listed T H fuel hok h hd a w ha hw
    refine ⟨fun _ => ?_, fun _ i hi => by simp [altIdx] at hi⟩
    simp only [schedOk, Bool.and_eq_true] at hok
    obtain ⟨⟨⟨h1, h2⟩, h3⟩, h4⟩ := hok
    simp only [depth] at hd
    obtain ⟨f, rfl⟩ : ∃ f, fuel = f + 1 := ⟨fuel - 1, by omega⟩
    simp only [sxSched, step1] at h
    split at h
    · rename_i o ho
      split at h
      · exact h.elim
      rw [lget_eq] at ho
      have ho' : all.toArray[i]? = some o := by simpa using ho
      have hpure : isPure C.P o = true := by simpa [ho'] using h3
      rcases sxGuard_ok h ha with ⟨hg, h⟩ | ⟨hg, h⟩
      · unfold sxOp at h
        rw [isPure_isQ hpure] at h
        have hq := qop_pure hpure h
        obtain ⟨v, hv, hvw, hr⟩ := qop_ok hq (fun k b hb hk => by cases hk) ha.twf
        obtain ⟨T', H', ha', hw', hK⟩ := putK_ok hv hvw ha hw
        refine wpAny_take ho' hsel h2 h1 (fun c a w hh => QK_panic c _ _ w hh) (v := v.val) (.inl ⟨hg, fun w2 => ?_⟩) ((ih h4 hK (by omega) ha' hw').1 rfl)
        exact hr ⟨C.R, C.N, w2, fun _ => True, fun _ => True⟩ a w2 ⟨ha.tmps, ha.wf, ha.size, ha.defers⟩ ⟨fun k b hb hk => (by cases hk), fun k k' b b' hb hb' hk => (by cases hk), fun k b hb hk => (by cases hk), fun k b hb c hk => (by cases hk), ⟨rfl, rfl, rfl, Nat.le_refl _, fun _ _ _ => rfl⟩⟩
      · obtain ⟨T', H', ha', hw', hK⟩ := putK_ok (v := .tup []) h trivial ha hw
        exact wpAny_take ho' hsel h2 h1 (fun c a w hh => QK_panic c _ _ w hh) (v := undef) (.inr ⟨hg, rfl⟩) ((ih h4 hK (by omega) ha' hw').1 rfl)
    · exact h.elim
  | alt i s r ihs ihr =>
    intro top listed T H fuel hok h hd a w ha hw
    simp only [schedOk, Bool.and_eq_true, Bool.or_eq_true, Bool.not_eq_true'] at hok
    obtain ⟨⟨h1, h2⟩, h3⟩ := hok
    simp only [depth] at hd
    obtain ⟨hs, hr⟩ := h
    have all_ : ∀ j ∈ altIdx (.alt i s r), ∀ f, fuel = f + 1 → wpOp C.P all.toArray (QK C Q) j (wpAny C.P .any all.toArray (QK C Q) f (listed.setIfInBounds j true)) a w := by
      intro j hj f hf
      rcases List.mem_cons.1 hj with rfl | hj
      · refine wpOp_mono (fun a' w' hh => ?_) (step1_wpOp hs ha hw)
        obtain ⟨T', H', ha', hw', hK⟩ := hh
        exact (ihs h2 hK (by omega) ha' hw').1 rfl
      · exact (ihr h3 hr (by omega) ha hw).2 rfl j hj f hf
    refine ⟨fun ht => ?_, fun _ => all_⟩
    subst ht
    have hrs : i :: altIdx r = Region.ready .any all.toArray listed := by simpa using h1
    obtain ⟨f, rfl⟩ : ∃ f, fuel = f + 1 := ⟨fuel - 1, by omega⟩
    exact wpAny_all hrs.symm (by simp) fun j hj => all_ j hj f rfl

/-- The orders are gone through. -/
theorem Draw.sched {C : Ctx} {id : Nat} {ops : List Oper} {T : Tm} {H : Heap} {Q : Ex → Tm → Heap → Prop} (s : Sched) (hm : C.P.follows .mixedOrders = true)
    (hB : (Region.noSelect ops.toArray && schedOk C.P ops.toArray true s (Array.replicate ops.toArray.size false) && Nat.ble (depth s) ops.toArray.size) = true)
    (h : sxSched C ops s T H (Q .normal)) : Draw C id ops T H Q := by
  simp only [Bool.and_eq_true] at hB
  refine ⟨fun a w ha hw => ?_⟩
  refine wp_region_any hm ?_
  exact (sxSched_ok hB.1.1 hB.1.2 h (Nat.le_of_ble_eq_true hB.2) ha (hw.drew (w.drawn + 1))).1 rfl

/-- Where the orders meet again: whatever came, this much is known. -/
theorem Draw.cut {C : Ctx} {id : Nat} {ops : List Oper} {T : Tm} {H : Heap} {Q : Ex → Tm → Heap → Prop} {α : Type} (st : α → Tm × Heap)
    (h : Draw C id ops T H fun e T' H' => match e with | .normal => ∃ x, tmatch T' (st x).1 (hmatch H' (st x).2 True) | _ => False)
    (hk : ∀ x, Q .normal (st x).1 (st x).2) : Draw C id ops T H Q := by
  refine ⟨fun a w ha hw => wp_mono (h.go a w ha hw) fun e a' w' hh => ?_⟩
  cases e with
  | normal =>
    obtain ⟨T', H', ha', hw', x, hT⟩ := hh
    obtain ⟨hH, hT⟩ := tmatch_ok hT
    exact ⟨_, _, ha'.match hT, hw'.match (hmatch_ok hH).2, hk x⟩
  | exit i => obtain ⟨_, _, _, _, hh⟩ := hh; exact hh.elim
  | ret => obtain ⟨_, _, _, _, hh⟩ := hh; exact hh.elim
  | goto l => exact hh.elim
  | panic ch => exact hh.elim
  | outgrown => exact hh.elim
/-- Slots and blocks that go by other names. -/
theorem LoopG.ren {C : Ctx} {body : Code} {T : Tm} {H : Heap} {Q : Ex → Tm → Heap → Prop} (l : List (Nat × Nat)) (ks hs : List Nat)
    (h : pickT T ks fun T1 => pickH H hs fun H1 => once H1 = true ∧ LoopG C body (tren l T1) (hren l H1) Q) : LoopG C body T H Q := by
  obtain ⟨T1, h, hT⟩ := pickT_ok h
  obtain ⟨H1, ⟨ho, h⟩, hH⟩ := pickH_ok h
  refine ⟨fun a w ha hw => h.go a w ?_ ((hw.sub hH).ren l ho)⟩
  refine ⟨fun t v ht => ?_, fun t v ht => ?_, ha.size, ha.defers⟩
  · obtain ⟨u, hu, rfl⟩ := tren_get l T1 t v ht
    rw [TV.ren_val]; exact ha.tmps t u (hT t u hu)
  · obtain ⟨u, hu, rfl⟩ := tren_get l T1 t v ht
    exact (TV.ren_wf l u).2 (ha.wf t u (hT t u hu))
end Go.SY

/- Orders, step by step, where part of what memory holds stays as it is: whatever only looks at that may be taken first. -/
set_option linter.unusedSimpArgs false
set_option linter.unusedVariables false
namespace Go.SY

def schedOkH (P : Program) (ops : Array Oper) : Bool → Sched → Array Bool → Bool
  | _, .done, listed => (Region.ready .any ops listed).isEmpty
  | _, .one i s, listed => (Region.ready .any ops listed).contains i && Region.free .any ops listed i && schedOkH P ops true s (listed.setIfInBounds i true)
  | top, .fin, _ => !top
  | top, .alt i s r, listed => (!top || i :: altIdx r == Region.ready .any ops listed) && schedOkH P ops true s (listed.setIfInBounds i true) && schedOkH P ops false r listed

def stepQ (C : Ctx) (all : List Oper) (i : Nat) (T : Tm) (H : Heap) (K : Tm → Prop) : Prop :=
  match lget all i with
  | some o => sxGuard all T o (qop C.P T H o fun v => putQ C.N o.dst v T K) (putQ C.N o.dst (.tup []) T K)
  | none => False
def sxHeld (C : Ctx) (all : List Oper) (H0 : Heap) : Sched → Tm → Heap → (Tm → Heap → Prop) → Prop
  | .done, T, H, K => K T H
  | .one i s, T, H, K => stepQ C all i T H0 fun T' => sxHeld C all H0 s T' H K
  | .fin, _, _, _ => True
  | .alt i s r, T, H, K => (step1 C all i T H fun T' H' => hmatch H' H0 (sxHeld C all H0 s T' H' K)) ∧ sxHeld C all H0 r T H K

theorem sxHeld_ok {C : Ctx} {all : List Oper} {H0 : Heap} {Q : Ex → Tm → Heap → Prop} (hsel : Region.noSelect all.toArray = true) : ∀ {s : Sched} {top : Bool} {listed : Array Bool} {T : Tm} {H : Heap} {fuel : Nat},
    schedOkH C.P all.toArray top s listed = true → sxHeld C all H0 s T H (Q .normal) → depth s ≤ fuel → ∀ {a : Act} {w : World}, Fits C T a → Rep C H w → Rep C H0 w →
    (top = true → wpAnyH C.P .any all.toArray (QK C Q) (Rep C H0) fuel listed a w) ∧
    (top = false → ∀ i ∈ altIdx s, ∀ f, fuel = f + 1 → wpOp C.P all.toArray (QK C Q) i (fun a' w' => Rep C H0 w' ∧ wpAnyH C.P .any all.toArray (QK C Q) (Rep C H0) f (listed.setIfInBounds i true) a' w') a w) := by
  intro s
  induction s with
  | done =>
    intro top listed T H fuel hok h _ a w ha hw hw0
    have hr : Region.ready .any all.toArray listed = [] := by simpa [schedOkH] using hok
    exact ⟨fun _ => wpAnyH_done hr ⟨T, H, ha, hw, h⟩ fuel, fun _ i hi => by simp [altIdx] at hi⟩
  | fin =>
    intro top listed T H fuel hok h _ a w ha hw hw0
    exact ⟨fun ht => by rw [ht] at hok; simp [schedOkH] at hok, fun _ i hi => by simp [altIdx] at hi⟩
  | one i s ih =>
    intro top listed T H fuel hok h hd a w ha hw hw0
    refine ⟨fun _ => ?_, fun _ i hi => by simp [altIdx] at hi⟩
    simp only [schedOkH, Bool.and_eq_true] at hok
    obtain ⟨⟨h1, h2⟩, h4⟩ := hok
    simp only [depth] at hd
    obtain ⟨f, rfl⟩ : ∃ f, fuel = f + 1 := ⟨fuel - 1, by omega⟩
    simp only [sxHeld, stepQ] at h
    split at h
    · rename_i o ho
      rw [lget_eq] at ho
      have ho' : all.toArray[i]? = some o := by simpa using ho
      rcases sxGuard_ok h ha with ⟨hg, h⟩ | ⟨hg, h⟩
      · obtain ⟨v, hv, hvw, hr⟩ := qop_ok h hw0.hwf ha.twf
        obtain ⟨T', ha', hK⟩ := putQ_ok hv hvw ha
        exact wpAnyH_take ho' hsel h2 h1 (fun c a w hh => QK_panic c _ _ w hh) (v := v.val) (.inl ⟨hg, fun w2 hS => hr C a w2 ha hS⟩) hw0 ((ih h4 hK (by omega) ha' hw hw0).1 rfl)
      · obtain ⟨T', ha', hK⟩ := putQ_ok (v := .tup []) h trivial ha
        exact wpAnyH_take ho' hsel h2 h1 (fun c a w hh => QK_panic c _ _ w hh) (v := undef) (.inr ⟨hg, rfl⟩) hw0 ((ih h4 hK (by omega) ha' hw hw0).1 rfl)
    · exact h.elim
  | alt i s r ihs ihr =>
    intro top listed T H fuel hok h hd a w ha hw hw0
    simp only [schedOkH, Bool.and_eq_true, Bool.or_eq_true, Bool.not_eq_true'] at hok
    obtain ⟨⟨h1, h2⟩, h3⟩ := hok
    simp only [depth] at hd
    obtain ⟨hs, hr⟩ := h
    have all_ : ∀ j ∈ altIdx (.alt i s r), ∀ f, fuel = f + 1 → wpOp C.P all.toArray (QK C Q) j (fun a' w' => Rep C H0 w' ∧ wpAnyH C.P .any all.toArray (QK C Q) (Rep C H0) f (listed.setIfInBounds j true) a' w') a w := by
      intro j hj f hf
      rcases List.mem_cons.1 hj with rfl | hj
      · refine wpOp_mono (fun a' w' hh => ?_) (step1_wpOp hs ha hw)
        obtain ⟨T', H', ha', hw', hK⟩ := hh
        obtain ⟨hK, he⟩ := hmatch_ok hK
        have hw0' := hw'.match he
        exact ⟨hw0', (ihs h2 hK (by omega) ha' hw' hw0').1 rfl⟩
      · exact (ihr h3 hr (by omega) ha hw hw0).2 rfl j hj f hf
    refine ⟨fun ht => ?_, fun _ => all_⟩
    subst ht
    have hrs : i :: altIdx r = Region.ready .any all.toArray listed := by simpa using h1
    obtain ⟨f, rfl⟩ : ∃ f, fuel = f + 1 := ⟨fuel - 1, by omega⟩
    exact wpAnyH_all hrs.symm (by simp) fun j hj => all_ j hj f rfl

/-- The orders are gone through; what the blocks 'hs' hold stays. -/
theorem Draw.held {C : Ctx} {id : Nat} {ops : List Oper} {T : Tm} {H : Heap} {Q : Ex → Tm → Heap → Prop} (hs : List Nat) (s : Sched) (hm : C.P.follows .mixedOrders = true)
    (hB : (Region.noSelect ops.toArray && schedOkH C.P ops.toArray true s (Array.replicate ops.toArray.size false) && Nat.ble (depth s) ops.toArray.size) = true)
    (h : pickH H hs fun H0 => sxHeld C ops H0 s T H (Q .normal)) : Draw C id ops T H Q := by
  simp only [Bool.and_eq_true] at hB
  obtain ⟨H0, h, hsub⟩ := pickH_ok h
  refine ⟨fun a w ha hw => ?_⟩
  refine wp_region_held (S := Rep C H0) hm ?_
  have hw := hw.drew (w.drawn + 1)
  exact (sxHeld_ok hB.1.1 hB.1.2 h (Nat.le_of_ble_eq_true hB.2) ha hw (hw.sub hsub)).1 rfl
/-! ### A loop whose state is of two parts -/
def roundQ2 {α β : Type} (st : α → β → Tm × Heap) (I : α → β → Prop) (μ : α → Nat) (x : α) (Q : Ex → Tm → Heap → Prop) : Ex → Tm → Heap → Prop
  | .normal, T, H => ∃ y z, I y z ∧ μ y < μ x ∧ tmatch T (st y z).1 (hmatch H (st y z).2 True)
  | e, T, H => Q e T H
theorem LoopG.two {C : Ctx} {body : Code} {T : Tm} {H : Heap} {Q : Ex → Tm → Heap → Prop} {α β : Type} (ks hs : List Nat) (upd : α → β → Tm) (updH : α → β → List (Nat × HB)) (I : α → β → Prop) (μ : α → Nat) (x0 : α) (y0 : β)
    (h : pickT T ks fun T0 => pickH H hs fun H0 => pickB H (updH x0 y0) fun bs => (I x0 y0 ∧ tmatch T (appL (upd x0 y0) T0) (hmatch H (appL (fillB bs (updH x0 y0)) H0) True)) ∧
      ∀ x y, I x y → sx C body (appL (upd x y) T0) (appL (fillB bs (updH x y)) H0) (roundQ2 (fun x y => (appL (upd x y) T0, appL (fillB bs (updH x y)) H0)) I μ x Q)) : LoopG C body T H Q := by
  obtain ⟨T0, h, _⟩ := pickT_ok h
  obtain ⟨H0, h, _⟩ := pickH_ok h
  obtain ⟨bs, h⟩ := pickB_ok h
  refine LoopG.of (fun x : α × β => (appL (upd x.1 x.2) T0, appL (fillB bs (updH x.1 x.2)) H0)) (fun x => I x.1 x.2) (fun x => μ x.1) (x0, y0) h.1 fun x hx => ?_
  have e : roundQ (fun x : α × β => (appL (upd x.1 x.2) T0, appL (fillB bs (updH x.1 x.2)) H0)) (fun x => I x.1 x.2) (fun x => μ x.1) x Q =
      roundQ2 (fun x y => (appL (upd x y) T0, appL (fillB bs (updH x y)) H0)) I μ x.1 Q := by
    funext e T H
    cases e with
    | normal => exact propext ⟨fun ⟨y, h⟩ => ⟨y.1, y.2, h⟩, fun ⟨y, z, h⟩ => ⟨(y, z), h⟩⟩
    | _ => rfl
  rw [e]
  exact h.2 x.1 x.2 hx
/-- Told anew what is known: some slots and blocks stay as they are, some are told. -/
theorem Draw.set {C : Ctx} {id : Nat} {ops : List Oper} {T : Tm} {H : Heap} {Q : Ex → Tm → Heap → Prop} (ks hs : List Nat) (upd : Tm) (updH : List (Nat × HB))
    (h : pickT T ks fun T0 => pickH H hs fun H0 => pickB H updH fun bs => tmatch T (appL upd T0) (hmatch H (appL (fillB bs updH) H0) True) ∧ Draw C id ops (appL upd T0) (appL (fillB bs updH) H0) Q) : Draw C id ops T H Q := by
  obtain ⟨T0, h, _⟩ := pickT_ok h
  obtain ⟨H0, h, _⟩ := pickH_ok h
  obtain ⟨bs, h, hk⟩ := pickB_ok h
  obtain ⟨hH, hT⟩ := tmatch_ok h
  exact ⟨fun a w ha hw => hk.go a w (ha.match hT) (hw.match (hmatch_ok hH).2)⟩
end Go.SY

/- Orders, step by step, and behind them a chain. -/
set_option linter.unusedSimpArgs false
set_option linter.unusedVariables false
namespace Go.SY
variable {P : Program} {ops : Array Oper} {S : World → Prop} {Q : Exit → Act → World → Prop}

def hdW (P : Program) (ops : Array Oper) (S : World → Prop) (Q : Exit → Act → World → Prop) (n : Nat) (L : Array Bool → Act → World → Prop) : Nat → Array Bool → Act → World → Prop
  | 0, listed, a, w => L listed a w
  | f + 1, listed, a, w => Region.ready .any ops listed ≠ [] ∧ ∀ i ∈ Region.ready .any ops listed, i < n ∧ wpOp P ops Q i (fun a' w' => S w' ∧ hdW P ops S Q n L f (listed.setIfInBounds i true) a' w') a w

theorem any_of_hdW {n g : Nat} {L : Array Bool → Act → World → Prop} (hL : ∀ listed a w, L listed a w → wpAny P .any ops Q g listed a w) :
    ∀ (f : Nat) (listed : Array Bool) (a : Act) (w : World), hdW P ops S Q n L f listed a w → wpAny P .any ops Q (f + g) listed a w := by
  intro f
  induction f with
  | zero => intro listed a w h; rw [Nat.zero_add]; exact hL _ _ _ h
  | succ f ih =>
    intro listed a w h
    rw [show f + 1 + g = (f + g) + 1 by omega]
    exact ⟨fun h0 => absurd h0 h.1, fun i hi => wpOp_mono (fun a' w' h' => ih _ a' w' h'.2) (h.2 i hi).2⟩

theorem hdW_first {n i : Nat} {oi : Oper} {v : Value} {L : Array Bool → Act → World → Prop} (hi : ops[i]? = some oi) (hsel : ∀ (j : Nat) (o : Oper) cs b, ops[j]? = some o → o.op ≠ .select cs b)
    (hs : Region.sinkB .any ops n = true) (hc : Region.chainB .any ops n = true) (hn : n < ops.size) (hin : i < n)
    (hdone : ∀ listed a w, L listed a w → ∀ j ∈ Region.ready .any ops listed, n ≤ j)
    (hQ : ∀ c a w, Q (.panic c) (a.put oi.dst v) w → Q (.panic c) a w) :
    ∀ (f : Nat) (listed : Array Bool) (a : Act) (w : World), HeadInv .any ops n listed →
      (∀ j oj, ops[j]? = some oj → j ≠ i → listed.getD j true = false → (∀ e ∈ oj.after, Region.binds .any e = true → e.on ≠ i) → oi.apart ops oj = true) →
      i ∈ Region.ready .any ops listed → YieldsIf P ops S oi v a → S w →
      hdW P ops S Q n L f (listed.setIfInBounds i true) (a.put oi.dst v) w → hdW P ops S Q n L (f + 1) listed a w := by
  intro f
  induction f with
  | zero =>
    intro listed a w inv _ hr hy hS H
    have hun := (mem_ready.1 hr).1
    refine ⟨fun h => (by rw [h] at hr; cases hr), fun j hj => ?_⟩
    have hjn : j < n := by
      rcases Nat.lt_or_ge j n with h | h
      · exact h
      · exact absurd hj (tail_waits hs hc hn inv _ i rfl hin hun j h)
    refine ⟨hjn, ?_⟩
    by_cases hji : j = i
    · subst hji; exact hy.wpOp hi hS ⟨hS, H⟩
    · have := hdone _ _ _ H j (ready_mono hj hji)
      omega
  | succ f ih =>
    intro listed a w inv hfree hr hy hS H
    have hun := (mem_ready.1 hr).1
    refine ⟨fun h => (by rw [h] at hr; cases hr), fun j hj => ?_⟩
    have hjn : j < n := by
      rcases Nat.lt_or_ge j n with h | h
      · exact h
      · exact absurd hj (tail_waits hs hc hn inv _ i rfl hin hun j h)
    refine ⟨hjn, ?_⟩
    by_cases hji : j = i
    · subst hji; exact hy.wpOp hi hS ⟨hS, H⟩
    · have h1 := (H.2 j (ready_mono hj hji)).2
      obtain ⟨hjun, oj, hoj, hall⟩ := mem_ready.1 hj
      have hnot : ∀ e ∈ oj.after, Region.binds .any e = true → e.on ≠ i := fun e he hb heq => by
        have h1 := hall e he hb
        rw [heq, getD_both hun] at h1
        cases h1
      have h2 := wpOp_putIf hoj (hfree j oj hoj hji hjun hnot) (fun cs b => hsel i oi cs b hi) (fun cs b => hsel j oj cs b hoj) hQ hy h1
      have hfree' : ∀ k ok, ops[k]? = some ok → k ≠ i → (listed.setIfInBounds j true).getD k true = false →
          (∀ e ∈ ok.after, Region.binds .any e = true → e.on ≠ i) → oi.apart ops ok = true := fun k ok hk hki hun hno => by
        refine hfree k ok hk hki ?_ hno
        by_cases hjk : j = k
        · subst hjk; exact hjun
        · rw [getD_set_ne true hjk] at hun; exact hun
      refine wpOp_mono (fun a' w' h3 => ⟨h3.2.1, ih (listed.setIfInBounds j true) a' w' (inv.set hj hjn) hfree' (ready_mono hr (Ne.symm hji)) h3.1 h3.2.1 ?_⟩) h2
      rw [Array.setIfInBounds_comm _ _ hji]
      exact h3.2.2

def schedOkT (P : Program) (ops : Array Oper) (n : Nat) : Nat → Bool → Sched → Array Bool → Bool
  | 0, _, .done, listed => Region.seqB .any ops (ops.size - n) n listed
  | f + 1, _, .one i s, listed => (Region.ready .any ops listed).contains i && Region.free .any ops listed i && Nat.blt i n && schedOkT P ops n f true s (listed.setIfInBounds i true)
  | _, top, .fin, _ => !top
  | f + 1, top, .alt i s r, listed => (!top || i :: altIdx r == Region.ready .any ops listed) && Nat.blt i n && schedOkT P ops n f true s (listed.setIfInBounds i true) && schedOkT P ops n (f + 1) false r listed
  | _, _, _, _ => false

def LT (C : Ctx) (all : List Oper) (n : Nat) (Q : Ex → Tm → Heap → Prop) (listed : Array Bool) (a : Act) (w : World) : Prop :=
  Region.seqB .any all.toArray (all.toArray.size - n) n listed = true ∧ ∃ T H, Fits C T a ∧ Rep C H w ∧ sxOps C all (all.drop n) T H (Q .normal)

theorem sxHeldT_ok {C : Ctx} {all : List Oper} {H0 : Heap} {n : Nat} {Q : Ex → Tm → Heap → Prop} (hsel : Region.noSelect all.toArray = true)
    (hs : Region.sinkB .any all.toArray n = true) (hc : Region.chainB .any all.toArray n = true) (hn : n < all.toArray.size) : ∀ {s : Sched} {f : Nat} {top : Bool} {listed : Array Bool} {T : Tm} {H : Heap},
    schedOkT C.P all.toArray n f top s listed = true → sxHeld C all H0 s T H (fun T' H' => sxOps C all (all.drop n) T' H' (Q .normal)) → HeadInv .any all.toArray n listed → ∀ {a : Act} {w : World}, Fits C T a → Rep C H w → Rep C H0 w →
    (top = true → hdW C.P all.toArray (Rep C H0) (QK C Q) n (LT C all n Q) f listed a w) ∧
    (top = false → (∀ i ∈ altIdx s, i ∈ Region.ready .any all.toArray listed) → ∀ i ∈ altIdx s, ∀ g, f = g + 1 → i < n ∧ wpOp C.P all.toArray (QK C Q) i (fun a' w' => Rep C H0 w' ∧ hdW C.P all.toArray (Rep C H0) (QK C Q) n (LT C all n Q) g (listed.setIfInBounds i true) a' w') a w) := by
  intro s
  induction s with
  | done =>
    intro f top listed T H hok h inv a w ha hw hw0
    cases f with
    | zero => exact ⟨fun _ => ⟨by simpa [schedOkT] using hok, T, H, ha, hw, h⟩, fun _ _ i hi => by simp [altIdx] at hi⟩
    | succ f => simp [schedOkT] at hok
  | fin =>
    intro f top listed T H hok h inv a w ha hw hw0
    exact ⟨fun ht => by rw [ht] at hok; cases f <;> simp [schedOkT] at hok, fun _ _ i hi => by simp [altIdx] at hi⟩
  | one i s ih =>
    intro f top listed T H hok h inv a w ha hw hw0
    refine ⟨fun _ => ?_, fun _ _ i hi => by simp [altIdx] at hi⟩
    cases f with
    | zero => simp [schedOkT] at hok
    | succ f =>
      simp only [schedOkT, Bool.and_eq_true] at hok
      obtain ⟨⟨⟨h1, h2⟩, h3⟩, h4⟩ := hok
      have hin : i < n := by simpa using h3
      have hir : i ∈ Region.ready .any all.toArray listed := by simpa using h1
      simp only [sxHeld, stepQ] at h
      split at h
      · rename_i o ho
        rw [lget_eq] at ho
        have ho' : all.toArray[i]? = some o := by simpa using ho
        have hd : ∀ listed a w, LT C all n Q listed a w → ∀ j ∈ Region.ready .any all.toArray listed, n ≤ j := fun listed a w hL => seqB_ready hL.1
        rcases sxGuard_ok h ha with ⟨hg, h⟩ | ⟨hg, h⟩
        · obtain ⟨v, hv, hvw, hr⟩ := qop_ok h hw0.hwf ha.twf
          obtain ⟨T', ha', hK⟩ := putQ_ok hv hvw ha
          exact hdW_first ho' (Region.noSelect_spec hsel) hs hc hn hin hd (fun c a w hh => QK_panic c _ _ w hh) f listed a w inv (Region.free_spec ho' h2) hir (v := v.val) (.inl ⟨hg, fun w2 hS => hr C a w2 ha hS⟩) hw0 ((ih h4 hK (inv.set hir hin) ha' hw hw0).1 rfl)
        · obtain ⟨T', ha', hK⟩ := putQ_ok (v := .tup []) h trivial ha
          exact hdW_first ho' (Region.noSelect_spec hsel) hs hc hn hin hd (fun c a w hh => QK_panic c _ _ w hh) f listed a w inv (Region.free_spec ho' h2) hir (v := undef) (.inr ⟨hg, rfl⟩) hw0 ((ih h4 hK (inv.set hir hin) ha' hw hw0).1 rfl)
      · exact h.elim
  | alt i s r ihs ihr =>
    intro f top listed T H hok h inv a w ha hw hw0
    cases f with
    | zero => simp [schedOkT] at hok
    | succ f =>
      simp only [schedOkT, Bool.and_eq_true, Bool.or_eq_true, Bool.not_eq_true'] at hok
      obtain ⟨⟨⟨h1, h0⟩, h2⟩, h3⟩ := hok
      have hin : i < n := by simpa using h0
      obtain ⟨hst, hr⟩ := h
      have all_ : (∀ j ∈ altIdx (.alt i s r), j ∈ Region.ready .any all.toArray listed) → ∀ j ∈ altIdx (.alt i s r), ∀ g, f + 1 = g + 1 → j < n ∧ wpOp C.P all.toArray (QK C Q) j (fun a' w' => Rep C H0 w' ∧ hdW C.P all.toArray (Rep C H0) (QK C Q) n (LT C all n Q) g (listed.setIfInBounds j true) a' w') a w := by
        intro hir j hj g hg
        obtain rfl : f = g := by omega
        rcases List.mem_cons.1 hj with rfl | hj
        · refine ⟨hin, wpOp_mono (fun a' w' hh => ?_) (step1_wpOp hst ha hw)⟩
          obtain ⟨T', H', ha', hw', hK⟩ := hh
          obtain ⟨hK, he⟩ := hmatch_ok hK
          have hw0' := hw'.match he
          exact ⟨hw0', (ihs h2 hK (inv.set (hir j (List.mem_cons_self ..)) hin) ha' hw' hw0').1 rfl⟩
        · exact (ihr h3 hr inv ha hw hw0).2 rfl (fun j hj => hir j (List.mem_cons_of_mem _ hj)) j hj f rfl
      refine ⟨fun ht => ?_, fun _ hir => all_ hir⟩
      subst ht
      have hrs : i :: altIdx r = Region.ready .any all.toArray listed := by simpa using h1
      refine ⟨fun h => (by rw [h] at hrs; cases hrs), fun j hj => ?_⟩
      exact all_ (fun j hj => by rw [← hrs]; exact hj) j (by rw [← hrs] at hj; exact hj) f rfl

/-- The first n operations in whatever order, the blocks 'hs' stay as they are through them; the others come in the text's order. -/
theorem Draw.heldT {C : Ctx} {id : Nat} {ops : List Oper} {T : Tm} {H : Heap} {Q : Ex → Tm → Heap → Prop} (hs : List Nat) (n : Nat) (s : Sched) (hm : C.P.follows .mixedOrders = true)
    (hB : (calm (ops.drop n) && (Region.noSelect ops.toArray && Region.sinkB .any ops.toArray n && Region.chainB .any ops.toArray n && Nat.blt n ops.toArray.size && schedOkT C.P ops.toArray n n true s (Array.replicate ops.toArray.size false))) = true)
    (h : pickH H hs fun H0 => sxHeld C ops H0 s T H fun T' H' => sxOps C ops (ops.drop n) T' H' (Q .normal)) : Draw C id ops T H Q := by
  simp only [Bool.and_eq_true] at hB
  obtain ⟨hcl, ⟨⟨⟨hsel, hsk⟩, hc⟩, hn⟩, hok⟩ := hB
  have hn : n < ops.toArray.size := by simpa using hn
  have hdl : (ops.drop n).length = ops.toArray.size - n := by simp
  obtain ⟨H0, h, hsub⟩ := pickH_ok h
  refine ⟨fun a w ha hw => ?_⟩
  refine wp_region_any hm ?_
  have hw := hw.drew (w.drawn + 1)
  have inv0 : HeadInv .any ops.toArray n (Array.replicate ops.toArray.size false) :=
    ⟨by simp, fun j oj _ hl => (by rw [getD_replicate_false] at hl; cases hl), fun t _ ht => getD_in (by simpa using ht) (getD_replicate_false _ _)⟩
  have Hh := (sxHeldT_ok hsel hsk hc hn hok h inv0 ha hw (hw.sub hsub)).1 rfl
  have := any_of_hdW (Q := QK C Q) (g := ops.toArray.size - n) (fun listed a' w' hL => by
    obtain ⟨hseq, T', H', ha', hw', hK⟩ := hL
    have := wpAny_of_seq (md := .any) (Q' := QK C Q) (ops.drop n) n listed a' w' (fun j => by simp [List.getElem?_drop]) (by rw [hdl]; exact hseq) (sxOps_ok hcl hK (fun a w hh => hh) ha' hw')
    rwa [hdl] at this) _ _ _ _ Hh
  rw [show n + (ops.toArray.size - n) = ops.toArray.size by omega] at this
  exact this
end Go.SY

/- Numbers: what wraps, bits; steps of a goal. -/
set_option linter.unusedSimpArgs false
set_option linter.unusedVariables false
namespace Go.SY

theorem wrap_i64 {e : Int} (h : -9223372036854775808 ≤ e ∧ e ≤ 9223372036854775807) : IntKind.i64.wrap e = e := IntWalk.i64_in _ h
theorem wrap_u {k : IntKind} (hk : k.signed = false) {e : Int} (h : 0 ≤ e ∧ e < 2 ^ k.bits) : k.wrap e = e := by
  unfold IntKind.wrap
  simp only [hk, Bool.false_and, Bool.false_eq_true, if_false]
  exact Int.emod_eq_of_lt h.1 h.2
theorem wrap_u8 {e : Int} (h : 0 ≤ e ∧ e ≤ 255) : IntKind.u8.wrap e = e := wrap_u rfl ⟨h.1, by have := h.2; simp [IntKind.bits]; omega⟩
theorem wrap_u32 {e : Int} (h : 0 ≤ e ∧ e ≤ 4294967295) : IntKind.u32.wrap e = e := wrap_u rfl ⟨h.1, by have := h.2; simp [IntKind.bits]; omega⟩
theorem wrap_u64 {e : Int} (h : 0 ≤ e ∧ e ≤ 18446744073709551615) : IntKind.u64.wrap e = e := wrap_u rfl ⟨h.1, by have := h.2; simp [IntKind.bits]; omega⟩

theorem Wr.i64 {e : Int} {K : Int → Prop} (h : -9223372036854775808 ≤ e ∧ e ≤ 9223372036854775807) (hK : K e) : Wr .i64 e K := ⟨by rw [wrap_i64 h]; exact hK⟩
theorem Wr.u8 {e : Int} {K : Int → Prop} (h : 0 ≤ e ∧ e ≤ 255) (hK : K e) : Wr .u8 e K := ⟨by rw [wrap_u8 h]; exact hK⟩
theorem Wr.u32 {e : Int} {K : Int → Prop} (h : 0 ≤ e ∧ e ≤ 4294967295) (hK : K e) : Wr .u32 e K := ⟨by rw [wrap_u32 h]; exact hK⟩
theorem Wr.u64 {e : Int} {K : Int → Prop} (h : 0 ≤ e ∧ e ≤ 18446744073709551615) (hK : K e) : Wr .u64 e K := ⟨by rw [wrap_u64 h]; exact hK⟩

theorem Br.true' {b : Bool} {A B : Prop} (h : b = true) (hA : A) : Br b A B := ⟨fun _ => hA, fun h' => by rw [h] at h'; cases h'⟩
theorem Br.false' {b : Bool} {A B : Prop} (h : b = false) (hB : B) : Br b A B := ⟨fun h' => (by rw [h] at h'; cases h'), fun _ => hB⟩
theorem Br.dt {p : Prop} [Decidable p] {A B : Prop} (h : p) (hA : A) : Br (decide p) A B := Br.true' (decide_eq_true h) hA
theorem Br.df {p : Prop} [Decidable p] {A B : Prop} (h : ¬ p) (hB : B) : Br (decide p) A B := Br.false' (decide_eq_false h) hB
/-- Both ways. -/
theorem Br.by {p : Prop} [Decidable p] {A B : Prop} (hA : p → A) (hB : ¬ p → B) : Br (decide p) A B := ⟨fun h => hA (of_decide_eq_true h), fun h => hB (of_decide_eq_false h)⟩

/-! ### Bits of numbers that are not below 0 -/
theorem bv_nat {k : IntKind} {a : Int} (h0 : 0 ≤ a) (h : a < 2 ^ k.bits) : (BitVec.ofInt k.bits a).toNat = a.toNat := by
  rw [BitVec.toNat_ofInt, Int.emod_eq_of_lt h0 (by exact_mod_cast h)]
theorem wrap_nat {k : IntKind} (hk : k.signed = false) {n : Nat} (h : n < 2 ^ k.bits) : k.wrap (n : Int) = n := wrap_u hk ⟨by omega, by exact_mod_cast h⟩
theorem wrap_nat_i64 {n : Nat} (h : n < 2 ^ 63) : IntKind.i64.wrap (n : Int) = n := wrap_i64 ⟨by omega, by omega⟩

theorem toNat_lt {k : IntKind} {a : Int} (ha : 0 ≤ a) (ha' : a < 2 ^ k.bits) : a.toNat < 2 ^ k.bits := by
  have h2 : (a.toNat : Int) < (2 ^ k.bits : Nat) := by rw [Int.toNat_of_nonneg ha]; exact_mod_cast ha'
  exact_mod_cast h2
theorem iand_nat {k : IntKind} (hk : k.signed = false) {a b : Int} (ha : 0 ≤ a) (ha' : a < 2 ^ k.bits) (hb : 0 ≤ b) (hb' : b < 2 ^ k.bits) : iand k a b = ((a.toNat &&& b.toNat : Nat) : Int) := by
  unfold iand
  rw [BitVec.toNat_and, bv_nat ha ha', bv_nat hb hb']
  exact wrap_nat hk (Nat.lt_of_le_of_lt Nat.and_le_left (toNat_lt ha ha'))
theorem ior_nat {k : IntKind} (hk : k.signed = false) {a b : Int} (ha : 0 ≤ a) (ha' : a < 2 ^ k.bits) (hb : 0 ≤ b) (hb' : b < 2 ^ k.bits) : ior k a b = ((a.toNat ||| b.toNat : Nat) : Int) := by
  unfold ior
  rw [BitVec.toNat_or, bv_nat ha ha', bv_nat hb hb']
  exact wrap_nat hk (Nat.or_lt_two_pow (toNat_lt ha ha') (toNat_lt hb hb'))
theorem ixor_nat {k : IntKind} (hk : k.signed = false) {a b : Int} (ha : 0 ≤ a) (ha' : a < 2 ^ k.bits) (hb : 0 ≤ b) (hb' : b < 2 ^ k.bits) : ixor k a b = ((a.toNat ^^^ b.toNat : Nat) : Int) := by
  unfold ixor
  rw [BitVec.toNat_xor, bv_nat ha ha', bv_nat hb hb']
  exact wrap_nat hk (Nat.xor_lt_two_pow (toNat_lt ha ha') (toNat_lt hb hb'))
theorem iand_i64 {a b : Int} (ha : 0 ≤ a) (ha' : a < 2 ^ 63) (hb : 0 ≤ b) (hb' : b < 2 ^ 63) : iand .i64 a b = ((a.toNat &&& b.toNat : Nat) : Int) := by
  unfold iand
  rw [BitVec.toNat_and, bv_nat ha (by simp [IntKind.bits]; omega), bv_nat hb (by simp [IntKind.bits]; omega)]
  exact wrap_nat_i64 (Nat.lt_of_le_of_lt Nat.and_le_left (by omega))
theorem ior_i64 {a b : Int} (ha : 0 ≤ a) (ha' : a < 2 ^ 63) (hb : 0 ≤ b) (hb' : b < 2 ^ 63) : ior .i64 a b = ((a.toNat ||| b.toNat : Nat) : Int) := by
  unfold ior
  rw [BitVec.toNat_or, bv_nat ha (by simp [IntKind.bits]; omega), bv_nat hb (by simp [IntKind.bits]; omega)]
  exact wrap_nat_i64 (Nat.or_lt_two_pow (by omega) (by omega))
theorem ixor_i64 {a b : Int} (ha : 0 ≤ a) (ha' : a < 2 ^ 63) (hb : 0 ≤ b) (hb' : b < 2 ^ 63) : ixor .i64 a b = ((a.toNat ^^^ b.toNat : Nat) : Int) := by
  unfold ixor
  rw [BitVec.toNat_xor, bv_nat ha (by simp [IntKind.bits]; omega), bv_nat hb (by simp [IntKind.bits]; omega)]
  exact wrap_nat_i64 (Nat.xor_lt_two_pow (by omega) (by omega))
/-- '&' by a mask of the low n bits: also of a number below 0. -/
theorem iand_mask (n : Nat) (hn : n ≤ 62) (a : Int) : iand .i64 a (2 ^ n - 1 : Nat) = a % (2 ^ n : Nat) := by
  unfold iand
  have hp : 2 ^ n ≤ 2 ^ 62 := Nat.pow_le_pow_right (by omega) hn
  have hp0 : 0 < 2 ^ n := Nat.pow_pos (by omega)
  rw [BitVec.toNat_and, bv_nat (k := .i64) (a := ((2 ^ n - 1 : Nat) : Int)) (by omega) (by simp only [IntKind.bits]; omega)]
  rw [BitVec.toNat_ofInt, Int.toNat_natCast, Nat.and_two_pow_sub_one_eq_mod]
  have h1 : ((a % ((2 ^ IntKind.i64.bits : Nat) : Int)).toNat % 2 ^ n : Nat) = (a % (2 ^ n : Nat)).toNat := by
    have hd : ((2 ^ n : Nat) : Int) ∣ ((2 ^ IntKind.i64.bits : Nat) : Int) := by
      refine Int.natCast_dvd_natCast.2 (Nat.pow_dvd_pow 2 (by simp [IntKind.bits]; omega))
    have h2 : 0 ≤ a % ((2 ^ IntKind.i64.bits : Nat) : Int) := Int.emod_nonneg _ (by simp [IntKind.bits])
    have h3 : ((a % ((2 ^ IntKind.i64.bits : Nat) : Int)).toNat % 2 ^ n : Nat) = ((a % ((2 ^ IntKind.i64.bits : Nat) : Int)) % (2 ^ n : Nat)).toNat := by
      have := Int.toNat_emod h2 (show (0 : Int) ≤ ((2 ^ n : Nat) : Int) by omega)
      rw [Int.toNat_natCast] at this
      exact this.symm
    rw [h3, Int.emod_emod_of_dvd _ hd]
  rw [h1]
  have h4 : 0 ≤ a % ((2 ^ n : Nat) : Int) := Int.emod_nonneg _ (by omega)
  have h5 : a % ((2 ^ n : Nat) : Int) < ((2 ^ n : Nat) : Int) := Int.emod_lt_of_pos _ (by omega)
  rw [Int.toNat_of_nonneg h4]
  exact wrap_i64 ⟨by omega, by omega⟩

theorem ishr_lit {k : IntKind} {a : Int} {n : Nat} (hn : n ≤ k.bits) : ishr k a n = a / 2 ^ n := by
  unfold ishr
  rw [Int.toNat_natCast, Nat.min_eq_left hn, Int.fdiv_eq_ediv_of_nonneg _ (by exact_mod_cast Nat.zero_le _)]
theorem ishl_lit {k : IntKind} {a : Int} {n : Nat} (hn : n ≤ k.bits) : ishl k a n = k.wrap (a * 2 ^ n) := by
  unfold ishl
  rw [Int.toNat_natCast, Nat.min_eq_left hn]

/-- What is put beside what is below it. -/
theorem or_add {a b n : Nat} (ha : a < 2 ^ n) : a ||| b * 2 ^ n = a + b * 2 ^ n := by
  rw [Nat.or_comm, Nat.mul_comm, ← Nat.two_pow_add_eq_or_of_lt ha b, Nat.add_comm]


/-! ### Steps -/
theorem Wr.fit {e : Int} {K : Int → Prop} (h : -9223372036854775808 ≤ e ∧ e ≤ 9223372036854775807) (hK : K e) : Wr .i64 e K := Wr.i64 h hK
/-- A test whose answer is known. -/
theorem Br.tt {b : Bool} {A B : Prop} (h : b = true) (hA : A) : Br b A B := Br.true' h hA
theorem Br.ff {b : Bool} {A B : Prop} (h : b = false) (hB : B) : Br b A B := Br.false' h hB
theorem Br.nt {p : Prop} [Decidable p] {A B : Prop} (h : ¬ p) (hA : A) : Br (!decide p) A B := Br.true' (by simp [h]) hA
theorem Br.nf {p : Prop} [Decidable p] {A B : Prop} (h : p) (hB : B) : Br (!decide p) A B := Br.false' (by simp [h]) hB
/-- Both ways of a 'not'. -/
theorem Br.byn {p : Prop} [Decidable p] {A B : Prop} (hA : ¬ p → A) (hB : p → B) : Br (!decide p) A B := ⟨fun h => hA (by simpa using h), fun h => hB (by simpa using h)⟩
/-- Both ways of any test. -/
theorem Br.any {b : Bool} {A B : Prop} (hA : b = true → A) (hB : b = false → B) : Br b A B := ⟨hA, hB⟩
theorem gd_lt {α : Type} {l : List α} {i : Nat} {d : α} (h : i < l.length) : l.getD i d = l[i] := by simp [List.getD, h]
theorem gd_ge {α : Type} {l : List α} {i : Nat} {d : α} (h : l.length ≤ i) : l.getD i d = d := by simp [List.getD, List.getElem?_eq_none h]
/-- A number that the text names. -/
theorem NatOf.lit {n : Nat} {K : Nat → Prop} (h : K (@OfNat.ofNat Nat n (instOfNatNat n))) : NatOf (@OfNat.ofNat Int n instOfNat) K := ⟨n, rfl, h⟩
/-- A whole number that is a count. -/
theorem Wr.nat {e : Int} {K : Int → Prop} (m : Nat) (h : e = (m : Int)) (hm : m ≤ 9223372036854775807) (hK : K (m : Int)) : Wr .i64 e K := by
  subst h; exact Wr.i64 (by omega) hK
end Go.SY

/- Short forms of the call rules. -/
set_option linter.unusedSimpArgs false
set_option linter.unusedVariables false
namespace Go.SY
/-- A call of a contract that tells nothing of memory. -/
theorem CallG.p {C : Ctx} {f : FuncId} {args : List TV} {T : Tm} {H : Heap} {K : TV → Heap → Prop} {args' : List TV} {G : Heap} {v : TV} (l : List (Nat × Nat))
    (hs : CtrP C.R f args' G v) (ha : aren l args' = args) (ho : (once G && once (hren l G) && (once ([] : Heap) && once (hren l []))) = true)
    (h : hmatch H (hren l G) (K (v.ren l) (mergeG (hren l G) (hren l []) H))) : CallG C f args T H K := CallG.one (H' := []) l hs ha ho h
/-- A call of a contract that chooses. -/
theorem CallG.x {C : Ctx} {f : FuncId} {args : List TV} {T : Tm} {H : Heap} {K : TV → Heap → Prop} {args' : List TV} {G : Heap} {X : Type} {v : X → TV} {H' : X → Heap} (l : List (Nat × Nat))
    (hs : Ctr C.R f args' G (fun _ => True) v H') (ha : aren l args' = args) (ho : (once G && once (hren l G)) = true) (ho2 : ∀ x, (once (H' x) && once (hren l (H' x))) = true)
    (h : hmatch H (hren l G) (∀ x, K ((v x).ren l) (mergeG (hren l G) (hren l (H' x)) H))) : CallG C f args T H K := by
  subst ha
  rw [Bool.and_eq_true] at ho
  obtain ⟨h, he⟩ := hmatch_ok h
  refine ⟨.inl ⟨hs.fn, fun a w ha hw hargs => ?_⟩⟩
  have hg : Rep (ctxOf C.R 0 (hren l G) w) (hren l G) w := match_rep he hw
  have hg' : Rep (ctxOf C.R 0 G w) G w := (hg.back l ho.2).frame (FG.ren ho.1 ho.2) (KG.ren ho.1 ho.2)
  rw [aren_val]
  refine (hs.go w hg' (aren_wf hargs)).mono ?_
  rintro e w' ⟨x, hI, he', hvw, hw'⟩
  have hK := h x
  have ho2 := ho2 x
  rw [Bool.and_eq_true] at ho2
  have hw3 : Rep (ctxOf C.R 0 (hren l G) w) (hren l (H' x)) w' := (hw'.ren l ho2.1).frame (fun b => (FG.ren ho.1 ho.2 b).symm) (fun b => (KG.ren ho.1 ho.2 b).symm)
  exact ⟨(v x).ren l, _, by rw [he', TV.ren_val], (TV.ren_wf l _).2 hvw, merge_rep he ho2.2 hw hw3, hK⟩
/-- The same, of those that it tells more of. -/
theorem CallG.xi {C : Ctx} {f : FuncId} {args : List TV} {T : Tm} {H : Heap} {K : TV → Heap → Prop} {args' : List TV} {G : Heap} {X : Type} {I : X → Prop} {v : X → TV} {H' : X → Heap} (l : List (Nat × Nat))
    (hs : Ctr C.R f args' G I v H') (ha : aren l args' = args) (ho : (once G && once (hren l G)) = true) (ho2 : ∀ x, (once (H' x) && once (hren l (H' x))) = true)
    (h : hmatch H (hren l G) (∀ x, I x → K ((v x).ren l) (mergeG (hren l G) (hren l (H' x)) H))) : CallG C f args T H K := by
  subst ha
  rw [Bool.and_eq_true] at ho
  obtain ⟨h, he⟩ := hmatch_ok h
  refine ⟨.inl ⟨hs.fn, fun a w ha hw hargs => ?_⟩⟩
  have hg : Rep (ctxOf C.R 0 (hren l G) w) (hren l G) w := match_rep he hw
  have hg' : Rep (ctxOf C.R 0 G w) G w := (hg.back l ho.2).frame (FG.ren ho.1 ho.2) (KG.ren ho.1 ho.2)
  rw [aren_val]
  refine (hs.go w hg' (aren_wf hargs)).mono ?_
  rintro e w' ⟨x, hI, he', hvw, hw'⟩
  have hK := h x hI
  have ho2 := ho2 x
  rw [Bool.and_eq_true] at ho2
  have hw3 : Rep (ctxOf C.R 0 (hren l G) w) (hren l (H' x)) w' := (hw'.ren l ho2.1).frame (fun b => (FG.ren ho.1 ho.2 b).symm) (fun b => (KG.ren ho.1 ho.2 b).symm)
  exact ⟨(v x).ren l, _, by rw [he', TV.ren_val], (TV.ren_wf l _).2 hvw, merge_rep he ho2.2 hw hw3, hK⟩
/-! ### A loop whose state is of three parts -/
def roundQ3 {α β γ : Type} (st : α → β → γ → Tm × Heap) (I : α → β → γ → Prop) (μ : α → Nat) (x : α) (Q : Ex → Tm → Heap → Prop) : Ex → Tm → Heap → Prop
  | .normal, T, H => ∃ y z u, I y z u ∧ μ y < μ x ∧ tmatch T (st y z u).1 (hmatch H (st y z u).2 True)
  | e, T, H => Q e T H
theorem LoopG.three {C : Ctx} {body : Code} {T : Tm} {H : Heap} {Q : Ex → Tm → Heap → Prop} {α β γ : Type} (ks hs : List Nat) (upd : α → β → γ → Tm) (updH : α → β → γ → List (Nat × HB)) (I : α → β → γ → Prop) (μ : α → Nat) (x0 : α) (y0 : β) (z0 : γ)
    (h : pickT T ks fun T0 => pickH H hs fun H0 => pickB H (updH x0 y0 z0) fun bs => (I x0 y0 z0 ∧ tmatch T (appL (upd x0 y0 z0) T0) (hmatch H (appL (fillB bs (updH x0 y0 z0)) H0) True)) ∧
      ∀ x y z, I x y z → sx C body (appL (upd x y z) T0) (appL (fillB bs (updH x y z)) H0) (roundQ3 (fun x y z => (appL (upd x y z) T0, appL (fillB bs (updH x y z)) H0)) I μ x Q)) : LoopG C body T H Q := by
  obtain ⟨T0, h, _⟩ := pickT_ok h
  obtain ⟨H0, h, _⟩ := pickH_ok h
  obtain ⟨bs, h⟩ := pickB_ok h
  refine LoopG.of (fun x : α × β × γ => (appL (upd x.1 x.2.1 x.2.2) T0, appL (fillB bs (updH x.1 x.2.1 x.2.2)) H0)) (fun x => I x.1 x.2.1 x.2.2) (fun x => μ x.1) (x0, y0, z0) h.1 fun x hx => ?_
  have e : roundQ (fun x : α × β × γ => (appL (upd x.1 x.2.1 x.2.2) T0, appL (fillB bs (updH x.1 x.2.1 x.2.2)) H0)) (fun x => I x.1 x.2.1 x.2.2) (fun x => μ x.1) x Q =
      roundQ3 (fun x y z => (appL (upd x y z) T0, appL (fillB bs (updH x y z)) H0)) I μ x.1 Q := by
    funext e T H
    cases e with
    | normal => exact propext ⟨fun ⟨y, h⟩ => ⟨y.1, y.2.1, y.2.2, h⟩, fun ⟨y, z, u, h⟩ => ⟨(y, z, u), h⟩⟩
    | _ => rfl
  rw [e]
  exact h.2 x.1 x.2.1 x.2.2 hx
end Go.SY

/- Steps of a goal, each with the tactic that settles its condition. -/
set_option linter.unusedSimpArgs false
set_option linter.unusedVariables false
namespace Go.SY
theorem k1 {p K : Prop} (k : K) (h : p := by first | with_reducible rfl | omega | exact (rfl : (_ : Nat) = _) | exact (rfl : (_ : SV) = _) | exact ⟨rfl, rfl⟩ | with_reducible assumption | (simp only [List.length_set, List.length_append, List.length_replicate, List.length_take, List.length_drop, List.length_map, List.length_cons, List.length_nil] at *; omega)) : Chk p K := ⟨h, k⟩
theorem k2 {e : Int} {K : Int → Prop} (k : K e) (h : -9223372036854775808 ≤ e ∧ e ≤ 9223372036854775807 := by omega) : Wr .i64 e K := Wr.i64 h k
theorem k3 {n : Int} {K : Nat → Prop} (k : K n.toNat) (h0 : 0 ≤ n := by omega) : NatOf n K := NatOf.any h0 k
theorem k4 {E : Enc} {x x' : SV} {L L' : List E.α} {K : Prop} (k : K) (hx : x' = x := by first | with_reducible rfl | omega | exact (rfl : (_ : SV) = _)) (h : L' = L := by with_reducible first | rfl | assumption) : OwnM (E' := E) x' L' x L K := OwnM.same hx h k
theorem kn {E : Enc} {x x' : SV} {L L' : List E.α} {K : Prop} (k : K) (hx : x' = x := by first | with_reducible rfl | omega | exact (rfl : (_ : SV) = _)) (h : L' = L := by with_reducible first | rfl | assumption) : OwnS (E' := E) x' L' x L K := OwnS.same hx h k
theorem k5 {b : Bool} {K : Prop} (k : K) (h : b = true := by kernel_rfl) : KChk b K := ⟨h, k⟩
theorem k6 {p : Prop} {inst : Decidable p} {A B : Prop} (k : A) (h : p := by first | omega | with_reducible assumption | with_reducible rfl) : Br (decide p) A B := Br.dt h k
theorem k7 {p : Prop} {inst : Decidable p} {A B : Prop} (k : B) (h : ¬ p := by first | omega | with_reducible assumption) : Br (decide p) A B := Br.df h k
theorem k8 {p : Prop} {inst : Decidable p} {A B : Prop} (k : A) (h : ¬ p := by first | omega | with_reducible assumption) : Br (!decide p) A B := Br.nt h k
theorem k9 {p : Prop} {inst : Decidable p} {A B : Prop} (k : B) (h : p := by first | omega | with_reducible assumption | with_reducible rfl) : Br (!decide p) A B := Br.nf h k
theorem ka {A B : Prop} (k : A) : Br true A B := Br.tt rfl k
theorem kb {A B : Prop} (k : B) : Br false A B := Br.ff rfl k
theorem kc {b : Bool} {A B : Prop} (k : A) (h : b = true := by with_reducible assumption) : Br b A B := Br.tt h k
theorem kd {b : Bool} {A B : Prop} (k : B) (h : b = false := by with_reducible assumption) : Br b A B := Br.ff h k
theorem kl {A B : Prop} (k : B) : Br (!true) A B := Br.ff rfl k
theorem km {A B : Prop} (k : A) : Br (!false) A B := Br.tt rfl k
theorem ke {α : Type} {K : α → Prop} (k : ∀ b, K b) : New K := ⟨k⟩
theorem kf {m : Nat} {K : Nat → Prop} (k : K m) : NatOf (m : Int) K := NatOf.cast k
theorem kg {n : Nat} {K : Nat → Prop} (k : K (@OfNat.ofNat Nat n (instOfNatNat n))) : NatOf (@OfNat.ofNat Int n instOfNat) K := NatOf.lit k
/-- The end of a state's check: what the two sides are is left. -/
theorem kh {p K : Prop} (h : p) (k : K) : Chk p K := ⟨h, k⟩
theorem Jt {C : Ctx} {c : Operand} {x y : Code} {T : Tm} {H : Heap} {Q : Ex → Tm → Heap → Prop} (h : match ev1 T c with | some (.bool b) => Br b (sx C x T H Q) (sx C y T H Q) | _ => False) : CondG C c x y T H Q := CondG.split h
theorem Ju {E : Enc} {L : List E.α} {K : List E.α → Prop} (h : K L) : Same L E K := Same.rfl h
theorem Jv : True := ⟨⟩
end Go.SY

/- One step of the code at a time, each by a lemma: what is behind the step is boxed, so that the kernel looks at nothing but the step. -/
namespace Go.SY
open Go
structure Sx (C : Ctx) (c : Code) (T : Tm) (H : Heap) (Q : Ex → Tm → Heap → Prop) : Prop where
  go : sx C c T H Q
structure SxO (C : Ctx) (all r : List Oper) (T : Tm) (H : Heap) (K : Tm → Heap → Prop) : Prop where
  go : sxOps C all r T H K
structure SeqK (C : Ctx) (b : Code) (Q : Ex → Tm → Heap → Prop) (e : Ex) (T : Tm) (H : Heap) : Prop where
  go : (match e with | .normal => sx C b T H Q | .ret => Q .ret T H | .exit i => Q (.exit i) T H)
structure BlkK (i : Nat) (Q : Ex → Tm → Heap → Prop) (e : Ex) (T : Tm) (H : Heap) : Prop where
  go : (match e with | .normal => Q .normal T H | .ret => Q .ret T H | .exit j => (match Nat.beq j i with | true => Q .normal T H | false => Q (.exit j) T H))
variable {C : Ctx} {T : Tm} {H : Heap} {Q : Ex → Tm → Heap → Prop}
theorem SeqK.eq (C : Ctx) (b : Code) (Q : Ex → Tm → Heap → Prop) : SeqK C b Q = fun e T' H' => match e with | .normal => sx C b T' H' Q | .ret => Q .ret T' H' | .exit i => Q (.exit i) T' H' :=
  funext fun e => funext fun T => funext fun H => propext ⟨fun h => h.go, fun h => ⟨h⟩⟩
theorem BlkK.eq (i : Nat) (Q : Ex → Tm → Heap → Prop) : BlkK i Q = fun e T' H' => match e with | .normal => Q .normal T' H' | .ret => Q .ret T' H' | .exit j => (match Nat.beq j i with | true => Q .normal T' H' | false => Q (.exit j) T' H') :=
  funext fun e => funext fun T => funext fun H => propext ⟨fun h => h.go, fun h => ⟨h⟩⟩
theorem SxO.eq (C : Ctx) (all r : List Oper) (K : Tm → Heap → Prop) : (fun T H => SxO C all r T H K) = fun T H => sxOps C all r T H K :=
  funext fun T => funext fun H => propext ⟨fun h => h.go, fun h => ⟨h⟩⟩
theorem SeqK.normal {b : Code} (h : Sx C b T H Q) : SeqK C b Q .normal T H := ⟨h.go⟩
theorem SeqK.ret {b : Code} (h : Q .ret T H) : SeqK C b Q .ret T H := ⟨h⟩
theorem SeqK.exit {b : Code} {i : Nat} (h : Q (.exit i) T H) : SeqK C b Q (.exit i) T H := ⟨h⟩
theorem BlkK.normal {i : Nat} (h : Q .normal T H) : BlkK i Q .normal T H := ⟨h⟩
theorem BlkK.ret {i : Nat} (h : Q .ret T H) : BlkK i Q .ret T H := ⟨h⟩
theorem BlkK.hit {i j : Nat} (h : (match Nat.beq j i with | true => Q .normal T H | false => Q (.exit j) T H)) : BlkK i Q (.exit j) T H := ⟨h⟩
theorem Sx.seq {a b : Code} (h : Sx C a T H (SeqK C b Q)) : Sx C (.seq a b) T H Q := ⟨by have := h.go; rw [SeqK.eq] at this; unfold sx; exact this⟩
theorem Sx.block {i : Nat} {x : Code} (h : Sx C x T H (BlkK i Q)) : Sx C (.block i x) T H Q := ⟨by have := h.go; rw [BlkK.eq] at this; unfold sx; exact this⟩
theorem Sx.reg {i : Nat} {ops : Array Oper} (h : SxO C ops.toList ops.toList T H (Q .normal)) : Sx C (.region i ops false) T H Q := ⟨by unfold sx; exact h.go⟩
theorem Sx.draw {i : Nat} {ops : Array Oper} (h : Draw C i ops.toList T H Q) : Sx C (.region i ops true) T H Q := ⟨by unfold sx; exact h⟩
theorem Sx.cond {c : Operand} {x y : Code} (h : CondG C c x y T H Q) : Sx C (.cond c x y) T H Q := ⟨by unfold sx; exact h⟩
theorem Sx.loop {x : Code} (h : LoopG C x T H Q) : Sx C (.loop x) T H Q := ⟨by unfold sx; exact h⟩
theorem Sx.ret (h : Q .ret T H) : Sx C .ret T H Q := ⟨by unfold sx; exact h⟩
theorem Sx.exit {i : Nat} (h : Q (.exit i) T H) : Sx C (.exit i) T H Q := ⟨by unfold sx; exact h⟩
theorem Sx.skip (h : Q .normal T H) : Sx C .skip T H Q := ⟨by unfold sx; exact h⟩
theorem Sx.label {l : Nat} (h : Q .normal T H) : Sx C (.label l) T H Q := ⟨by unfold sx; exact h⟩
theorem SxO.nil {all : List Oper} {K : Tm → Heap → Prop} (h : K T H) : SxO C all [] T H K := ⟨by unfold sxOps; exact h⟩
theorem SxO.cons {all : List Oper} {o : Oper} {r : List Oper} {K : Tm → Heap → Prop} (h : sxGuard all T o (sxOp C T H o fun T' H' => SxO C all r T' H' K) (skipK C.N o.dst T H fun T' H' => SxO C all r T' H' K)) : SxO C all (o :: r) T H K :=
  ⟨by rw [SxO.eq] at h; unfold sxOps; exact h⟩
theorem SxO.step {all l : List Oper} {o : Oper} {r : List Oper} {K : Tm → Heap → Prop} (e : l = o :: r) (h : sxGuard all T o (sxOp C T H o fun T' H' => SxO C all r T' H' K) (skipK C.N o.dst T H fun T' H' => SxO C all r T' H' K)) : sxOps C all l T H K := by
  subst e; exact (SxO.cons h).go
theorem Ja {c : Code} (h : Sx C c T H Q) : sx C c T H Q := h.go
theorem Jb {a b : Code} (h : Sx C a T H (SeqK C b Q)) : Sx C (.seq a b) T H Q := Sx.seq h
theorem Jc {i : Nat} {ops : Array Oper} (h : SxO C ops.toList ops.toList T H (Q .normal)) : Sx C (.region i ops false) T H Q := Sx.reg h
theorem Jd {all : List Oper} {o : Oper} {r : List Oper} {K : Tm → Heap → Prop} (h : sxGuard all T o (sxOp C T H o fun T' H' => SxO C all r T' H' K) (skipK C.N o.dst T H fun T' H' => SxO C all r T' H' K)) : SxO C all (o :: r) T H K := SxO.cons h
theorem Je {all : List Oper} {K : Tm → Heap → Prop} (h : K T H) : SxO C all [] T H K := SxO.nil h
theorem Jf {b : Code} (h : Sx C b T H Q) : SeqK C b Q .normal T H := SeqK.normal h
theorem Jg {b : Code} (h : Q .ret T H) : SeqK C b Q .ret T H := SeqK.ret h
theorem Jh {b : Code} {i : Nat} (h : Q (.exit i) T H) : SeqK C b Q (.exit i) T H := SeqK.exit h
theorem Ji {i : Nat} (h : Q .normal T H) : BlkK i Q .normal T H := BlkK.normal h
theorem Jj {i : Nat} (h : Q .ret T H) : BlkK i Q .ret T H := BlkK.ret h
theorem Jk {i j : Nat} (h : (match Nat.beq j i with | true => Q .normal T H | false => Q (.exit j) T H)) : BlkK i Q (.exit j) T H := BlkK.hit h
theorem Jl {c : Operand} {x y : Code} (h : CondG C c x y T H Q) : Sx C (.cond c x y) T H Q := Sx.cond h
theorem Jm {i : Nat} {x : Code} (h : Sx C x T H (BlkK i Q)) : Sx C (.block i x) T H Q := Sx.block h
theorem Jn {x : Code} (h : LoopG C x T H Q) : Sx C (.loop x) T H Q := Sx.loop h
theorem Jo {i : Nat} {ops : Array Oper} (h : Draw C i ops.toList T H Q) : Sx C (.region i ops true) T H Q := Sx.draw h
theorem Jp (h : Q .ret T H) : Sx C .ret T H Q := Sx.ret h
theorem Jq {i : Nat} (h : Q (.exit i) T H) : Sx C (.exit i) T H Q := Sx.exit h
theorem Jr (h : Q .normal T H) : Sx C .skip T H Q := Sx.skip h
theorem Js {l : Nat} (h : Q .normal T H) : Sx C (.label l) T H Q := Sx.label h
end Go.SY

/- Loops whose state is of four parts. -/
set_option linter.unusedSimpArgs false
set_option linter.unusedVariables false
namespace Go.SY
def roundQ4 {α β γ δ : Type} (st : α → β → γ → δ → Tm × Heap) (I : α → β → γ → δ → Prop) (μ : α → Nat) (x : α) (Q : Ex → Tm → Heap → Prop) : Ex → Tm → Heap → Prop
  | .normal, T, H => ∃ y z u v, I y z u v ∧ μ y < μ x ∧ tmatch T (st y z u v).1 (hmatch H (st y z u v).2 True)
  | e, T, H => Q e T H
theorem LoopG.four {C : Ctx} {body : Code} {T : Tm} {H : Heap} {Q : Ex → Tm → Heap → Prop} {α β γ δ : Type} (ks hs : List Nat) (upd : α → β → γ → δ → Tm) (updH : α → β → γ → δ → List (Nat × HB)) (I : α → β → γ → δ → Prop) (μ : α → Nat) (x0 : α) (y0 : β) (z0 : γ) (u0 : δ)
    (h : pickT T ks fun T0 => pickH H hs fun H0 => pickB H (updH x0 y0 z0 u0) fun bs => (I x0 y0 z0 u0 ∧ tmatch T (appL (upd x0 y0 z0 u0) T0) (hmatch H (appL (fillB bs (updH x0 y0 z0 u0)) H0) True)) ∧
      ∀ x y z u, I x y z u → sx C body (appL (upd x y z u) T0) (appL (fillB bs (updH x y z u)) H0) (roundQ4 (fun x y z u => (appL (upd x y z u) T0, appL (fillB bs (updH x y z u)) H0)) I μ x Q)) : LoopG C body T H Q := by
  obtain ⟨T0, h, _⟩ := pickT_ok h
  obtain ⟨H0, h, _⟩ := pickH_ok h
  obtain ⟨bs, h⟩ := pickB_ok h
  refine LoopG.of (fun x : α × β × γ × δ => (appL (upd x.1 x.2.1 x.2.2.1 x.2.2.2) T0, appL (fillB bs (updH x.1 x.2.1 x.2.2.1 x.2.2.2)) H0)) (fun x => I x.1 x.2.1 x.2.2.1 x.2.2.2) (fun x => μ x.1) (x0, y0, z0, u0) h.1 fun x hx => ?_
  have e : roundQ (fun x : α × β × γ × δ => (appL (upd x.1 x.2.1 x.2.2.1 x.2.2.2) T0, appL (fillB bs (updH x.1 x.2.1 x.2.2.1 x.2.2.2)) H0)) (fun x => I x.1 x.2.1 x.2.2.1 x.2.2.2) (fun x => μ x.1) x Q =
      roundQ4 (fun x y z u => (appL (upd x y z u) T0, appL (fillB bs (updH x y z u)) H0)) I μ x.1 Q := by
    funext e T H
    cases e with
    | normal => exact propext ⟨fun ⟨y, h⟩ => ⟨y.1, y.2.1, y.2.2.1, y.2.2.2, h⟩, fun ⟨y, z, u, v, h⟩ => ⟨(y, z, u, v), h⟩⟩
    | _ => rfl
  rw [e]
  exact h.2 x.1 x.2.1 x.2.2.1 x.2.2.2 hx
/-- The default of a whole number's element, as the walk spells it. -/
abbrev id0 : Int := (Enc.sc (Sk.int IntKind.i64)).dflt
end Go.SY

/- Where ways meet again, told by three. -/
set_option linter.unusedSimpArgs false
set_option linter.unusedVariables false
namespace Go.SY
def joinQ3 {β γ δ : Type} (st : β → γ → δ → Tm × Heap) (I : β → γ → δ → Prop) (Q : Ex → Tm → Heap → Prop) : Ex → Tm → Heap → Prop
  | .normal, T, H => ∃ y z u, I y z u ∧ tmatch T (st y z u).1 (hmatch H (st y z u).2 True)
  | e, T, H => Q e T H
theorem CondG.join3 {C : Ctx} {c : Operand} {x y : Code} {T : Tm} {H : Heap} {Q : Ex → Tm → Heap → Prop} {β γ δ : Type} (ks hs : List Nat) (upd : β → γ → δ → Tm) (updH : β → γ → δ → List (Nat × HB)) (I : β → γ → δ → Prop) (y0 : β) (z0 : γ) (u0 : δ)
    (h : pickT T ks fun T0 => pickH H hs fun H0 => pickB H (updH y0 z0 u0) fun bs => CondG C c x y T H (joinQ3 (fun y z u => (appL (upd y z u) T0, appL (fillB bs (updH y z u)) H0)) I Q) ∧
      ∀ y z u, I y z u → Q .normal (appL (upd y z u) T0) (appL (fillB bs (updH y z u)) H0)) : CondG C c x y T H Q := by
  obtain ⟨T0, h, _⟩ := pickT_ok h
  obtain ⟨H0, h, _⟩ := pickH_ok h
  obtain ⟨bs, h, hk⟩ := pickB_ok h
  refine ⟨fun a w ha hw => wp_mono (h.go a w ha hw) fun e a' w' hh => ?_⟩
  cases e with
  | normal =>
    obtain ⟨T', H', ha', hw', y, z, u, hx, hT⟩ := hh
    obtain ⟨hH, hT⟩ := tmatch_ok hT
    exact ⟨_, _, ha'.match hT, hw'.match (hmatch_ok hH).2, hk y z u hx⟩
  | exit i => exact hh
  | ret => exact hh
  | goto l => exact hh.elim
  | panic ch => exact hh.elim
  | outgrown => exact hh.elim
end Go.SY

/- Calls that hand back looks at rows; what is known told otherwise ahead of a step. -/
set_option linter.unusedSimpArgs false
set_option linter.unusedVariables false
namespace Go.SY
/-- A call: what its contract tells of memory, looks too, is known behind it. -/
theorem CallG.v {C : Ctx} {f : FuncId} {args : List TV} {T : Tm} {H : Heap} {K : TV → Heap → Prop} {args' : List TV} {G : Heap} {X : Type} {I : X → Prop} {v : X → TV} {H' : X → Heap} (l : List (Nat × Nat))
    (hs : Ctr C.R f args' G I v H') (ha : aren l args' = args) (ho : (once G && once (hren l G)) = true) (ho2 : ∀ x, (once (H' x) && once (hren l (H' x))) = true)
    (h : hmatch H (hren l G) (∀ x, I x → K ((v x).ren l) (mergeV (hren l G) (hren l (H' x)) H))) : CallG C f args T H K := by
  subst ha
  rw [Bool.and_eq_true] at ho
  obtain ⟨h, he⟩ := hmatch_ok h
  refine ⟨.inl ⟨hs.fn, fun a w ha hw hargs => ?_⟩⟩
  have hg : Rep (ctxOf C.R 0 (hren l G) w) (hren l G) w := match_rep he hw
  have hg' : Rep (ctxOf C.R 0 G w) G w := (hg.back l ho.2).frame (FG.ren ho.1 ho.2) (KG.ren ho.1 ho.2)
  rw [aren_val]
  refine (hs.go w hg' (aren_wf hargs)).mono ?_
  rintro e w' ⟨x, hI, he', hvw, hw'⟩
  have hK := h x hI
  have ho2 := ho2 x
  rw [Bool.and_eq_true] at ho2
  have hw3 : Rep (ctxOf C.R 0 (hren l G) w) (hren l (H' x)) w' := (hw'.ren l ho2.1).frame (fun b => (FG.ren ho.1 ho.2 b).symm) (fun b => (KG.ren ho.1 ho.2 b).symm)
  exact ⟨(v x).ren l, _, by rw [he', TV.ren_val], (TV.ren_wf l _).2 hvw, merge_repV he ho.2 hw hw3, hK⟩
/-- The same, where an argument is only equal to the contract's. -/
theorem CallG.va {C : Ctx} {f : FuncId} {args : List TV} {T : Tm} {H : Heap} {K : TV → Heap → Prop} {args' : List TV} {G : Heap} {X : Type} {I : X → Prop} {v : X → TV} {H' : X → Heap} (l : List (Nat × Nat))
    (hs : Ctr C.R f args' G I v H') (ho : (once G && once (hren l G)) = true) (ho2 : ∀ x, (once (H' x) && once (hren l (H' x))) = true)
    (h : amatch (aren l args') args (hmatch H (hren l G) (∀ x, I x → K ((v x).ren l) (mergeV (hren l G) (hren l (H' x)) H)))) : CallG C f args T H K := by
  rw [Bool.and_eq_true] at ho
  obtain ⟨h, hv, hwf⟩ := amatch_ok h
  obtain ⟨h, he⟩ := hmatch_ok h
  refine ⟨.inl ⟨hs.fn, fun a w ha hw hargs => ?_⟩⟩
  have hg : Rep (ctxOf C.R 0 (hren l G) w) (hren l G) w := match_rep he hw
  have hg' : Rep (ctxOf C.R 0 G w) G w := (hg.back l ho.2).frame (FG.ren ho.1 ho.2) (KG.ren ho.1 ho.2)
  have hw2 : ∀ v ∈ args', v.wf := aren_wf (hwf hargs)
  rw [aren_val] at hv
  rw [hv]
  refine (hs.go w hg' hw2).mono ?_
  rintro e w' ⟨x, hI, he', hvw, hw'⟩
  have hK := h x hI
  have ho2 := ho2 x
  rw [Bool.and_eq_true] at ho2
  have hw3 : Rep (ctxOf C.R 0 (hren l G) w) (hren l (H' x)) w' := (hw'.ren l ho2.1).frame (fun b => (FG.ren ho.1 ho.2 b).symm) (fun b => (KG.ren ho.1 ho.2 b).symm)
  exact ⟨(v x).ren l, _, by rw [he', TV.ren_val], (TV.ren_wf l _).2 hvw, merge_repV he ho.2 hw hw3, hK⟩

/-- What the memory that is handed in tells may be taken. -/
theorem Ctr.told {R : Pr} {f : FuncId} {args : List TV} {G : Heap} {α : Type} {I : α → Prop} {v : α → TV} {H' : α → Heap} {p : Prop} (hfn : FnOk R.P f) (hp : ∀ w, Rep (ctxOf R 0 G w) G w → p) (h : p → Ctr R f args G I v H') : Ctr R f args G I v H' :=
  ⟨hfn, fun w hw ha => (h (hp w hw)).2 w hw ha⟩

/-! ### What is known, told otherwise -/
def Ghost (H H2 : Heap) : Prop := ∀ (C : Ctx) (w : World), Rep C H w → Rep C H2 w
theorem Ghost.m {H H2 : Heap} (h : hmatch H H2 True) : Ghost H H2 := fun _ _ hw => hw.match (hmatch_ok h).2
theorem Ghost.trans {H H2 H3 : Heap} (h : Ghost H H2) (h' : Ghost H2 H3) : Ghost H H3 := fun C w hw => h' C w (h C w hw)
theorem CallG.ghost {C : Ctx} {f : FuncId} {args : List TV} {T : Tm} {H H2 : Heap} {K : TV → Heap → Prop} (hg : Ghost H H2) (h : CallG C f args T H2 K) : CallG C f args T H K := by
  obtain ⟨h⟩ := h
  rcases h with ⟨hf, h⟩ | ⟨fn, e, h1, h2, h3, h4, h5, h⟩
  · exact ⟨.inl ⟨hf, fun a w ha hw hv => h a w ha (hg C w hw) hv⟩⟩
  · exact ⟨.inr ⟨fn, e, h1, h2, h3, h4, h5, fun w hw hv => h w (hg C w hw) hv⟩⟩
theorem LoopG.ghost {C : Ctx} {body : Code} {T : Tm} {H H2 : Heap} {Q : Ex → Tm → Heap → Prop} (hg : Ghost H H2) (h : LoopG C body T H2 Q) : LoopG C body T H Q :=
  ⟨fun a w ha hw => h.go a w ha (hg C w hw)⟩
theorem CondG.ghost {C : Ctx} {c : Operand} {x y : Code} {T : Tm} {H H2 : Heap} {Q : Ex → Tm → Heap → Prop} (hg : Ghost H H2) (h : CondG C c x y T H2 Q) : CondG C c x y T H Q :=
  ⟨fun a w ha hw => h.go a w ha (hg C w hw)⟩
theorem Draw.ghost {C : Ctx} {i : Nat} {ops : List Oper} {T : Tm} {H H2 : Heap} {Q : Ex → Tm → Heap → Prop} (hg : Ghost H H2) (h : Draw C i ops T H2 Q) : Draw C i ops T H Q :=
  ⟨fun a w ha hw => h.go a w ha (hg C w hw)⟩
theorem OpG.ghost {C : Ctx} {o : Oper} {T : Tm} {H H2 : Heap} {K : Tm → Heap → Prop} (hg : Ghost H H2) (h : OpG C o T H2 K) : OpG C o T H K :=
  ⟨fun a w ha hw => h.go a w ha (hg C w hw)⟩
theorem Fin.ghost {X : Type} {H H2 : Heap} {I : X → Prop} {v : X → TV} {H' : X → Heap} {u : TV} (hg : Ghost H H2) (h : Fin H2 I v H' u) : Fin H I v H' u := by
  obtain ⟨x, hI, e, hw, hr⟩ := h.go
  exact ⟨x, hI, e, hw, fun C w h => hr C w (hg C w h)⟩
/-- The slots told otherwise, ahead of a loop. -/
theorem LoopG.slots {C : Ctx} {body : Code} {T T2 : Tm} {H : Heap} {Q : Ex → Tm → Heap → Prop} (hT : ∀ a, Fits C T a → Fits C T2 a) (h : LoopG C body T2 H Q) : LoopG C body T H Q :=
  ⟨fun a w ha hw => h.go a w (hT a ha) hw⟩
/-- A row is known by a second name, and looked at alone from here on. -/
theorem Ghost.alias {H : Heap} {k d : Nat} {E : Enc} {x : SV} {L : List E.α} (h : hmatch H [(k, x.blk, .view E x L)] True) (hd : hget H d = none) : Ghost H ((d, x.blk, .view E x L) :: (k, x.blk, .view E x L) :: H) := by
  intro C w hw
  obtain ⟨_, he⟩ := hmatch_ok h
  have hk := he k x.blk (.view E x L) (by rw [hget_cons, if_pos rfl])
  have hi : (HB.view E x L).Is w x.blk := hk.is hw
  have hrd : ∀ c, (HB.view E x L).rd x.blk c → ∃ b' hb', hget H k = some (b', hb') ∧ hb'.rd b' c := fun c hc => hk.rd hw hc
  have get : ∀ t c y, hget ((d, x.blk, .view E x L) :: (k, x.blk, .view E x L) :: H) t = some (c, y) → ((t = d ∨ t = k) ∧ c = x.blk ∧ y = .view E x L) ∨ (t ≠ d ∧ t ≠ k ∧ hget H t = some (c, y)) := by
    intro t c y ht
    rw [hget_cons] at ht
    split at ht
    · rename_i e; cases ht; exact .inl ⟨.inl e.symm, rfl, rfl⟩
    · rename_i n1
      rw [hget_cons] at ht
      split at ht
      · rename_i e; cases ht; exact .inl ⟨.inr e.symm, rfl, rfl⟩
      · rename_i n2; exact .inr ⟨Ne.symm n1, Ne.symm n2, ht⟩
  refine ⟨fun t c y ht => ?_, fun t t' c c' y y' ht ht' hne hr o1 o2 => ?_, fun t c y ht hr o1 => ?_, fun t c y e ht hc => ?_, hw.frm⟩
  · rcases get t c y ht with ⟨_, rfl, rfl⟩ | ⟨_, _, h⟩
    · exact hi
    · exact hw.is t c y h
  · rcases get t c y ht with ⟨_, rfl, rfl⟩ | ⟨n1, n2, h1⟩
    · cases hr
    · rcases get t' c' y' ht' with ⟨_, rfl, rfl⟩ | ⟨_, _, h2⟩
      · obtain ⟨b', hb', hg, hc⟩ := hrd c o2
        exact hw.apart t k c b' y hb' h1 hg n2 hr o1 hc
      · exact hw.apart t t' c c' y y' h1 h2 hne hr o1 o2
  · rcases get t c y ht with ⟨_, rfl, rfl⟩ | ⟨_, _, h⟩
    · cases hr
    · exact hw.own t c y h hr o1
  · rcases get t c y ht with ⟨_, rfl, rfl⟩ | ⟨_, _, h⟩
    · obtain ⟨b', hb', hg, hc⟩ := hrd e hc
      exact hw.known k b' hb' e hg hc
    · exact hw.known t c y e h hc
/-- The whole state told anew, ahead of a loop, a test, a drawn region. -/
theorem LoopG.anew {C : Ctx} {body : Code} {T : Tm} {H : Heap} {Q : Ex → Tm → Heap → Prop} (upd : Tm) (updH : List (Nat × HB))
    (h : pickB H updH fun bs => tmatch T upd (hmatch H (fillB bs updH) True) ∧ LoopG C body upd (fillB bs updH) Q) : LoopG C body T H Q := by
  obtain ⟨bs, h, hk⟩ := pickB_ok h
  obtain ⟨hH, hT⟩ := tmatch_ok h
  exact ⟨fun a w ha hw => hk.go a w (ha.match hT) (hw.match (hmatch_ok hH).2)⟩
theorem Draw.anew {C : Ctx} {id : Nat} {ops : List Oper} {T : Tm} {H : Heap} {Q : Ex → Tm → Heap → Prop} (upd : Tm) (updH : List (Nat × HB))
    (h : pickB H updH fun bs => tmatch T upd (hmatch H (fillB bs updH) True) ∧ Draw C id ops upd (fillB bs updH) Q) : Draw C id ops T H Q := by
  obtain ⟨bs, h, hk⟩ := pickB_ok h
  obtain ⟨hH, hT⟩ := tmatch_ok h
  exact ⟨fun a w ha hw => hk.go a w (ha.match hT) (hw.match (hmatch_ok hH).2)⟩
theorem CondG.anew {C : Ctx} {c : Operand} {x y : Code} {T : Tm} {H : Heap} {Q : Ex → Tm → Heap → Prop} (upd : Tm) (updH : List (Nat × HB))
    (h : pickB H updH fun bs => tmatch T upd (hmatch H (fillB bs updH) True) ∧ CondG C c x y upd (fillB bs updH) Q) : CondG C c x y T H Q := by
  obtain ⟨bs, h, hk⟩ := pickB_ok h
  obtain ⟨hH, hT⟩ := tmatch_ok h
  exact ⟨fun a w ha hw => hk.go a w (ha.match hT) (hw.match (hmatch_ok hH).2)⟩
/-- What is shown once, and used at several ends. -/
theorem twice1 {α : Type} {I X : α → Prop} {G : Prop} (main : (∀ a, I a → X a) → G) (tail : ∀ a, I a → X a) : G := main tail
theorem twice2 {α β : Type} {I X : α → β → Prop} {G : Prop} (main : (∀ a b, I a b → X a b) → G) (tail : ∀ a b, I a b → X a b) : G := main tail
theorem twice3 {α β γ : Type} {I X : α → β → γ → Prop} {G : Prop} (main : (∀ a b c, I a b c → X a b c) → G) (tail : ∀ a b c, I a b c → X a b c) : G := main tail
theorem twice4 {α β γ δ : Type} {I X : α → β → γ → δ → Prop} {G : Prop} (main : (∀ a b c d, I a b c d → X a b c d) → G) (tail : ∀ a b c d, I a b c d → X a b c d) : G := main tail
/-- A variable's cells by other names. -/
theorem Ghost.vren {H : Heap} {k b : Nat} {T : TypeId} {l : List Sg} (r : List (Nat × Nat)) (h : hget H k = some (b, .var T l)) : Ghost H ((k, b, .var T (sren r l)) :: H) := by
  intro C w hw
  have hi : (HB.var T (sren r l)).Is w b := (HB.ren_is r (.var T l) w b).2 (hw.is _ _ _ h)
  have get : ∀ t c y, hget ((k, b, .var T (sren r l)) :: H) t = some (c, y) → (t = k ∧ c = b ∧ y = .var T (sren r l)) ∨ (t ≠ k ∧ hget H t = some (c, y)) := by
    intro t c y ht
    rw [hget_cons] at ht
    split at ht
    · rename_i e; cases ht; exact .inl ⟨e.symm, rfl, rfl⟩
    · rename_i n1; exact .inr ⟨Ne.symm n1, ht⟩
  refine ⟨fun t c y ht => ?_, fun t t' c c' y y' ht ht' hne hr o1 o2 => ?_, fun t c y ht hr o1 => ?_, fun t c y e ht hc => ?_, hw.frm⟩
  · rcases get t c y ht with ⟨rfl, rfl, rfl⟩ | ⟨_, h⟩
    · exact hi
    · exact hw.is t c y h
  · rcases get t c y ht with ⟨rfl, rfl, rfl⟩ | ⟨n1, h1⟩ <;> rcases get t' c' y' ht' with ⟨e1, rfl, rfl⟩ | ⟨_, h2⟩
    · exact (hne e1.symm).elim
    · exact hw.apart _ t' c c' _ y' h h2 hne rfl trivial o2
    · subst e1; exact hw.apart t _ c c' y _ h1 h hne hr o1 o2
    · exact hw.apart t t' c c' y y' h1 h2 hne hr o1 o2
  · rcases get t c y ht with ⟨rfl, rfl, rfl⟩ | ⟨_, h1⟩
    · exact hw.own _ _ _ h rfl trivial
    · exact hw.own t c y h1 hr o1
  · rcases get t c y ht with ⟨rfl, rfl, rfl⟩ | ⟨_, h1⟩
    · exact hw.known _ _ _ _ h hc
    · exact hw.known t c y e h1 hc
theorem CommG.ghost {C : Ctx} {o : Oper} {T : Tm} {H H2 : Heap} {K : Tm → Heap → Prop} (hg : Ghost H H2) (h : CommG C o T H2 K) : CommG C o T H K :=
  ⟨fun a w ha hw => h.go a w ha (hg C w hw)⟩

/-! ### A drawn region, by all its orders -/
def ordersGo (ops : Array Oper) : Nat → Array Bool → List Nat → List (List Nat)
  | 0, _, acc => [acc.reverse]
  | f + 1, listed, acc => (match Region.ready .any ops listed with
    | [] => [acc.reverse]
    | i :: r => (i :: r).flatMap fun j => ordersGo ops f (listed.setIfInBounds j true) (j :: acc))
theorem ordersGo_mem (ops : Array Oper) : ∀ (f t : Nat) (listed : Array Bool) (acc : List Nat), Region.linearise.go .any ops f t listed acc ∈ ordersGo ops f listed acc := by
  intro f
  induction f with
  | zero => intro t listed acc; simp [Region.linearise.go, ordersGo]
  | succ f ih =>
    intro t listed acc
    have hrd : Region.ready .any ops listed = (List.range ops.size).filter fun i => !listed.getD i true && ((ops[i]?).map (·.after.all fun e => !Region.binds .any e || listed.getD e.on false)).getD false := rfl
    unfold Region.linearise.go ordersGo
    rw [← hrd]
    clear hrd
    generalize Region.ready .any ops listed = rs
    cases rs with
    | nil => simp
    | cons j r =>
      have hlt : t % (j :: r).length < (j :: r).length := Nat.mod_lt _ (by simp)
      dsimp only
      rw [List.getElem?_eq_getElem hlt]
      exact List.mem_flatMap.2 ⟨_, List.getElem_mem hlt, ih _ _ _⟩
def sxAll (C : Ctx) (all : List Oper) (K : Tm → Heap → Prop) (T : Tm) (H : Heap) : List (List Nat) → Prop
  | [] => True
  | l :: r => sxIdx C all l T H K ∧ sxAll C all K T H r
theorem sxAll_get {C : Ctx} {all : List Oper} {K : Tm → Heap → Prop} {T : Tm} {H : Heap} : ∀ {L : List (List Nat)}, sxAll C all K T H L → ∀ l ∈ L, sxIdx C all l T H K := by
  intro L
  induction L with
  | nil => intro _ l hl; cases hl
  | cons x L ih => intro h l hl; rcases List.mem_cons.1 hl with rfl | hl
                   · exact h.1
                   · exact ih h.2 l hl
/-- Communications too may stand in it. -/
theorem Draw.orders {C : Ctx} {id : Nat} {ops : List Oper} {T : Tm} {H : Heap} {Q : Ex → Tm → Heap → Prop} (L : List (List Nat)) (hm : C.P.follows .mixedOrders = true)
    (hL : ordersGo ops.toArray ops.toArray.size (Array.replicate ops.toArray.size false) [] = L) (h : sxAll C ops (Q .normal) T H L) : Draw C id ops T H Q := by
  refine ⟨fun a w ha hw => ArrI.draw (Q := QK C Q) fun t => ?_⟩
  have e : Region.schedule (C.P.follows .mixedOrders) ops.toArray t ∈ L := by
    rw [← hL]
    unfold Region.schedule
    rw [hm]
    exact ordersGo_mem _ _ _ _ _
  exact sxIdx_arr (sxAll_get h _ e) ha (hw.drew _)

/-! ### Rows of rows: what the elements look at -/
abbrev viewsS (E : Enc) (zs : List SV) (S : List (List E.α)) : SemH where
  rw := false
  occ := True
  rd := fun _ c => ∃ i, i < zs.length ∧ (HB.view E (zs.getD i .nil) (S.getD i [])).rd (zs.getD i .nil).blk c
  Is := fun w _ => zs.length = S.length ∧ ∀ i, i < zs.length → (HB.view E (zs.getD i .nil) (S.getD i [])).Is w (zs.getD i .nil).blk
  self := fun b h => by cases h
  one := fun h => by cases h
  lt := fun w b c h ⟨i, hi, hc⟩ => (h.2 i hi).rlt hc
  kept := fun w w' b h hs hk => ⟨h.1, fun i hi => (h.2 i hi).of_block hs fun c hc => hk c ⟨i, hi, hc⟩⟩
/-- One thing more that is only looked at, and that others look at already. -/
theorem Ghost.add {H : Heap} (k b : Nat) (hb : HB) (hro : hb.isRw = false) (hi : ∀ (C : Ctx) (w : World), Rep C H w → hb.Is w b)
    (hrd : ∀ c, hb.rd b c → ∃ k' b' hb', hget H k' = some (b', hb') ∧ hb'.isRw = false ∧ hb'.rd b' c) : Ghost H ((k, b, hb) :: H) := by
  intro C w hw
  have get : ∀ t c y, hget ((k, b, hb) :: H) t = some (c, y) → (t = k ∧ c = b ∧ y = hb) ∨ (t ≠ k ∧ hget H t = some (c, y)) := by
    intro t c y ht
    rw [hget_cons] at ht
    split at ht
    · rename_i e; cases ht; exact .inl ⟨e.symm, rfl, rfl⟩
    · rename_i n1; exact .inr ⟨Ne.symm n1, ht⟩
  refine ⟨fun t c y ht => ?_, fun t t' c c' y y' ht ht' hne hr o1 o2 => ?_, fun t c y ht hr o1 => ?_, fun t c y e ht hc => ?_, hw.frm⟩
  · rcases get t c y ht with ⟨rfl, rfl, rfl⟩ | ⟨_, h⟩
    · exact hi C w hw
    · exact hw.is t c y h
  · rcases get t c y ht with ⟨rfl, rfl, rfl⟩ | ⟨n1, h1⟩
    · rw [hro] at hr; cases hr
    · rcases get t' c' y' ht' with ⟨e1, rfl, rfl⟩ | ⟨_, h2⟩
      · obtain ⟨k', b', hb', hg, hro', hc⟩ := hrd c o2
        have : t ≠ k' := fun e => by subst e; rw [h1] at hg; cases hg; rw [hro'] at hr; cases hr
        exact hw.apart t k' c b' y hb' h1 hg this hr o1 hc
      · exact hw.apart t t' c c' y y' h1 h2 hne hr o1 o2
  · rcases get t c y ht with ⟨rfl, rfl, rfl⟩ | ⟨_, h⟩
    · rw [hro] at hr; cases hr
    · exact hw.own t c y h hr o1
  · rcases get t c y ht with ⟨rfl, rfl, rfl⟩ | ⟨_, h⟩
    · obtain ⟨k', b', hb', hg, _, hc'⟩ := hrd e hc
      exact hw.known k' b' hb' e hg hc'
    · exact hw.known t c y e h hc
theorem Ghost.none {H : Heap} (g : Nat) (E : Enc) : Ghost H ((g, 0, .sem (viewsS E [] [])) :: H) :=
  Ghost.add g 0 _ rfl (fun _ _ _ => ⟨rfl, fun i hi => by simp at hi⟩) (fun c ⟨i, hi, _⟩ => by simp at hi)
/-- An element looked at. -/
theorem Ghost.el {H : Heap} {g b d : Nat} {E : Enc} {zs : List SV} {S : List (List E.α)} (i : Nat) (hg : hget H g = some (b, .sem (viewsS E zs S))) (hi : i < zs.length) :
    Ghost H ((d, (zs.getD i .nil).blk, .view E (zs.getD i .nil) (S.getD i [])) :: H) :=
  Ghost.add d _ _ rfl (fun C w hw => (hw.is _ _ _ hg).2 i hi) (fun c hc => ⟨g, b, _, hg, rfl, i, hi, hc⟩)
/-- A row is only looked at from here on. -/
theorem Ghost.look {H : Heap} {k : Nat} {E : Enc} {x : SV} {L : List E.α} (h : hmatch H [(k, x.blk, .view E x L)] True) : Ghost H ((k, x.blk, .view E x L) :: H) := by
  intro C w hw
  obtain ⟨_, he⟩ := hmatch_ok h
  refine hw.match fun t c y ht => ?_
  rw [hget_cons] at ht
  split at ht
  · rename_i e; subst e; cases ht; exact he k x.blk (.view E x L) (by rw [hget_cons, if_pos rfl])
  · exact .inr ⟨c, y, ht, fun w h => h, fun h => h, fun w _ h => ⟨h, rfl⟩, fun w _ c h => h⟩
/-- An element more. -/
theorem Ghost.snoc {H : Heap} {g b k : Nat} {E : Enc} {zs : List SV} {S : List (List E.α)} {z : SV} {L : List E.α} (hg : hget H g = some (b, .sem (viewsS E zs S))) (hk : hget H k = some (z.blk, .view E z L)) :
    Ghost H ((g, 0, .sem (viewsS E (zs ++ [z]) (S ++ [L]))) :: H) := by
  by_cases hln : zs.length = S.length
  · have g1 : ∀ i, i < zs.length → (zs ++ [z]).getD i .nil = zs.getD i .nil ∧ (S ++ [L]).getD i [] = S.getD i [] := fun i hi => by
      simp [List.getD_eq_getElem?_getD, List.getElem?_append_left hi, List.getElem?_append_left (show i < S.length by omega)]
    have g2 : (zs ++ [z]).getD zs.length .nil = z ∧ (S ++ [L]).getD zs.length [] = L := by
      simp [List.getD_eq_getElem?_getD, hln]
    refine Ghost.add g 0 _ rfl (fun C w hw => ⟨by simp [hln], fun i hi => ?_⟩) (fun c ⟨i, hi, hc⟩ => ?_)
    · by_cases h : i < zs.length
      · rw [(g1 i h).1, (g1 i h).2]; exact (hw.is _ _ _ hg).2 i h
      · have : i = zs.length := by simp at hi; omega
        subst this
        rw [g2.1, g2.2]; exact hw.is _ _ _ hk
    · by_cases h : i < zs.length
      · rw [(g1 i h).1, (g1 i h).2] at hc; exact ⟨g, b, _, hg, rfl, i, h, hc⟩
      · have : i = zs.length := by simp at hi; omega
        subst this
        rw [g2.1, g2.2] at hc; exact ⟨k, _, _, hk, rfl, hc⟩
  · intro C w hw
    exact (hln (hw.is _ _ _ hg).1).elim
theorem viewsS_len {C : Ctx} {H : Heap} {w : World} (hw : Rep C H w) {g b : Nat} {E : Enc} {zs : List SV} {S : List (List E.α)} (hg : hget H g = some (b, .sem (viewsS E zs S))) : zs.length = S.length := (hw.is _ _ _ hg).1
end Go.SY

/- Channels in one goroutine, where nothing waits. -/
set_option linter.unusedSimpArgs false
set_option linter.unusedVariables false
namespace Go.SY
def Enc.bv : (E : Enc) → E.α → BV
  | .sc s, x => .one (s.enc x)
  | .st e, x => .agg (e.enc x)
theorem Enc.bv_sg (E : Enc) (x : E.α) : (E.bv x).sg = E.enc x := by cases E <;> rfl
def Enc.bvals (E : Enc) (L : List E.α) : Array Value := (L.map fun x => (E.bv x).val).toArray
theorem Enc.bvals_size (E : Enc) (L : List E.α) : (E.bvals L).size = L.length := by simp [Enc.bvals]
theorem Enc.bvals_push (E : Enc) (L : List E.α) (x : E.α) : (E.bvals L).push (E.bv x).val = E.bvals (L ++ [x]) := by simp [Enc.bvals]
theorem Enc.bvals_head (E : Enc) (L : List E.α) (x : E.α) : (E.bvals (x :: L)).getD 0 undef = (E.bv x).val := by simp [Enc.bvals, Array.getD]
theorem Enc.bvals_tail (E : Enc) (L : List E.α) (x : E.α) : (E.bvals (x :: L)).extract 1 (E.bvals (x :: L)).size = E.bvals L := by
  apply Array.toList_inj.1
  simp only [Enc.bvals, List.map_cons, Array.toList_extract, List.extract_eq_take_drop, List.size_toArray, List.length_cons, List.length_map, List.drop_succ_cons, List.drop_zero]
  exact List.take_of_length_le (by simp)
/-- An open channel with room for cap, in which L waits. -/
abbrev chanS (cap : Nat) (E : Enc) (L : List E.α) : SemH where
  rw := true
  occ := True
  rd := fun b c => c = b
  Is := fun w b => E.wf L ∧ ∃ s r, w.heap[b]? = some (.chan cap (E.bvals L) false s r false)
  self := fun b _ _ => rfl
  one := fun _ b c h => ⟨h, trivial⟩
  lt := fun w b c h hc => by
    obtain ⟨_, s, r, h⟩ := h
    subst hc; exact (Array.getElem?_eq_some_iff.1 h).1
  kept := fun w w' b h _ hk => by
    obtain ⟨h0, s, r, h⟩ := h
    exact ⟨h0, s, r, (hk b rfl).trans h⟩
  ln := some L.length
  lnOk := fun n w b hn h => by
    obtain ⟨_, s, r, h⟩ := h
    cases hn
    exact ⟨cap, _, _, s, r, h, E.bvals_size L⟩

theorem setChan_rep {C : Ctx} {H : Heap} {w : World} (hw : Rep C H w) {k b cap : Nat} {E : Enc} {L L' : List E.α} (hH : hget H k = some (b, .sem (chanS cap E L))) (hwf : E.wf L') (s r : Nat) :
    Rep C ((k, b, .sem (chanS cap E L')) :: H) (w.setChan b cap (E.bvals L') false s r false) := by
  have hlt := (hw.is _ _ _ hH).lt rfl trivial
  refine hw.write (hb' := .sem (chanS cap E L')) hH rfl trivial ⟨hwf, s, r, Conc.heap_setChan w b cap _ false s r false hlt⟩ rfl rfl rfl (Nat.le_of_eq (Conc.size_setChan ..).symm) (fun c _ hc => ?_) rfl
  simp only [World.setChan]
  rw [Array.getElem?_setIfInBounds_ne (Ne.symm hc)]

section
variable {P : Program} {o : Oper} {a : Act} {w : World} {cases : Array CommCase} {blocking : Bool} {shape : CommShape}
/-- The machine's step at a communication. -/
theorem comm_step {ops : Array Oper} {i : Nat} {rest : List Nat} {b : Frame} {k : List Item} {cs : List Frame} (ho : ops[i]? = some o) (hwn : Region.wanted o (yielded ops a.tmps) = true) (hr : (execOp a.eval o).run P w = .ok (.comm cases blocking shape) w) :
    ∃ es, stepG P true (Conc.G (b.at a (.inRegion ops (i :: rest) :: k)) cs) w = .comm (Conc.G (b.at a (.inRegion ops (i :: rest) :: k)) cs) cases blocking shape w es := by
  have hg := stepG_op (P := P) (b := b) (k := k) (cs := cs) (w := w) (rest := rest) ho hwn
  show ∃ es, stepG P true { frame := b.at a (.inRegion ops (i :: rest) :: k), callers := cs, status := .running, dying := none } w = _
  rw [hg]
  simp only [stepG.apply, Sem.runT_eq, hr]
  exact ⟨_, rfl⟩
theorem OpS.of_step {next : Act → World → Prop} {v : Value} {w' : World} (hr : (execOp a.eval o).run P w = .ok (.comm cases blocking shape) w)
    (hs : ∀ fr cs es, stepG P true (Conc.G fr cs) w = .comm (Conc.G fr cs) cases blocking shape w es → step P (Conc.solo (Conc.G fr cs) w) = .next (Conc.solo (Conc.G (fr.finish v) cs) w'))
    (h : next (a.put o.dst v) w') : OpS P o a w next := by
  intro ops i rest b k cs ho hwn
  obtain ⟨es, he⟩ := comm_step (b := b) (rest := rest) (k := k) (cs := cs) ho hwn hr
  refine ⟨_, _, h, .one ?_⟩
  have hfin : (b.at a (.inRegion ops (i :: rest) :: k)).finish v = b.at (a.put o.dst v) (.inRegion ops rest :: k) := by
    rw [Frame.finish_at, ho]; rfl
  rw [← hfin]
  exact hs _ _ _ he
end

/-- A send with room. -/
theorem CommG.send {C : Ctx} {o : Oper} {T : Tm} {H : Heap} {K : Tm → Heap → Prop} {ch x : Operand} {k b cap : Nat} {E : Enc} {L : List E.α} {v : BV} (e : E.α) (ho : o.op = .send ch x) (hd : o.dst = none)
    (hch : ev1 T ch = some (.ch k b)) (hx : evb T x = some v) (hv : v = E.bv e) (hH : hget H k = some (b, .sem (chanS cap E L))) (hroom : L.length < cap)
    (h : K T ((k, b, .sem (chanS cap E (L ++ [e]))) :: H)) : CommG C o T H K := by
  subst hv
  refine ⟨fun a w ha hw => ?_⟩
  obtain ⟨hwf, s, r, hc⟩ := hw.is _ _ _ hH
  have e1 : a.eval ch = .chan (some b) := ev1_ok ha hch
  have e2 : a.eval x = (E.bv e).val := evb_ok ha hx
  have hwe : swf (E.enc e) := by have := evb_wf ha hx; unfold BV.wf at this; rwa [E.bv_sg] at this
  refine OpS.of_step (v := undef) (w' := w.setChan b cap (E.bvals (L ++ [e])) false (s + 1) r false) (cases := #[Conc.scase b (E.bv e).val (.tuple #[])]) (blocking := true) (shape := .send) ?_ (fun fr cs es he => ?_) ?_
  · simp only [execOp, ho, e1, e2, Sem.run_pure]; rfl
  · have := Conc.step_lone_send_room he hc (by rw [E.bvals_size]; exact hroom)
    rw [E.bvals_push] at this
    exact this
  · rw [hd]
    exact ⟨_, _, ha, setChan_rep hw hH (Enc.wf_append hwf fun y hy => by rcases List.mem_singleton.1 hy with rfl; exact hwe) _ _, h⟩
/-- A receive from what is there. -/
theorem CommG.recv {C : Ctx} {o : Oper} {T : Tm} {H : Heap} {K : Tm → Heap → Prop} {ch : Operand} {t te : TypeId} {dir : ChanDir} {k b cap d : Nat} {E : Enc} {L : List E.α} {e : E.α} {z : Value} (ho : o.op = .recv t ch false) (hd : o.dst = some d) (hlt : Nat.blt d C.N = true)
    (ht : C.P.underlying t = some (.chan dir te)) (hz : (C.P.info? te).map (fun i => i.zero) = some (some z))
    (hch : ev1 T ch = some (.ch k b)) (hH : hget H k = some (b, .sem (chanS cap E (e :: L))))
    (h : K ((d, .b (E.bv e)) :: T) ((k, b, .sem (chanS cap E L)) :: H)) : CommG C o T H K := by
  refine ⟨fun a w ha hw => ?_⟩
  obtain ⟨hwf, s, r, hc⟩ := hw.is _ _ _ hH
  have e1 : a.eval ch = .chan (some b) := ev1_ok ha hch
  have hwe : swf (E.enc e) := hwf e (List.mem_cons_self ..)
  obtain ⟨inf, hi, hz⟩ := Option.map_eq_some_iff.1 hz
  refine OpS.of_step (v := (E.bv e).val) (w' := w.setChan b cap (E.bvals L) false s (r + 1) false) (cases := #[Conc.rcase b z]) (blocking := true) (shape := .recv false) ?_ (fun fr cs es he => ?_) ?_
  · simp [execOp, ho, e1, run_underlying ht, zeroValue, typeInfo, hi, hz, Conc.rcase]
  · have := Conc.step_lone_recv_buf false he hc (by rw [E.bvals_size]; simp)
    rw [E.bvals_head, E.bvals_tail] at this
    exact this
  · rw [hd]
    exact ⟨_, _, ha.put hlt (show TV.wf (.b (E.bv e)) by show BV.wf _; unfold BV.wf; rw [E.bv_sg]; exact hwe), setChan_rep hw hH (fun y hy => hwf y (List.mem_cons_of_mem _ hy)) _ _, h⟩
section
variable {C : Ctx} {o : Oper} {T : Tm} {H : Heap} {K : Tm → Heap → Prop} {ch x : Operand} {te : TypeId} {k b cap d : Nat} {E : Enc} {L : List E.α}
theorem sel_run {a : Act} {w : World} {s : SelectCase} {z : Value} (ho : o.op = .select #[s] false) (hz : (C.P.info? s.elem).map (fun i => i.zero) = some (some z)) :
    (execOp a.eval o).run C.P w = .ok (.comm #[{ chan := a.eval s.chan, send := s.send.map a.eval, zero := z }] false .select) w := by
  obtain ⟨inf, hi, hz⟩ := Option.map_eq_some_iff.1 hz
  have h1 : (zeroValue s.elem).run C.P w = .ok z w := by simp [zeroValue, typeInfo, hi, hz]
  simp [execOp, ho, h1]
/-- A select of one receive: something is there. -/
theorem CommG.selRecv {e : E.α} {z : Value} (ho : o.op = .select #[⟨ch, none, te⟩] false) (hd : o.dst = some d) (hlt : Nat.blt d C.N = true)
    (hz : (C.P.info? te).map (fun i => i.zero) = some (some z)) (hch : ev1 T ch = some (.ch k b)) (hH : hget H k = some (b, .sem (chanS cap E (e :: L))))
    (h : K ((d, .tup [.one (.int .i64 0), .one (.bool true), E.bv e]) :: T) ((k, b, .sem (chanS cap E L)) :: H)) : CommG C o T H K := by
  refine ⟨fun a w ha hw => ?_⟩
  obtain ⟨hwf, s, r, hc⟩ := hw.is _ _ _ hH
  have e1 : a.eval ch = .chan (some b) := ev1_ok ha hch
  have hwe : swf (E.enc e) := hwf e (List.mem_cons_self ..)
  have hr := sel_run (C := C) (a := a) (w := w) ho hz
  refine OpS.of_step (v := (TV.tup [.one (.int .i64 0), .one (.bool true), E.bv e]).val) (w' := w.setChan b cap (E.bvals L) false s (r + 1) false) hr (fun fr cs es he => ?_) ?_
  · dsimp only at he
    rw [e1] at he
    have := Conc.step_lone_sel_recv_buf (k := 0) (z := z) he rfl (fun m c' hm hc' => by rcases m with _ | m; exact absurd rfl hm; simp at hc') hc (by rw [E.bvals_size]; simp)
    rw [E.bvals_head, E.bvals_tail] at this
    simpa [commResult, TV.val, BV.val, SC.val, goInt, Conc.rcase] using this
  · rw [hd]
    refine ⟨_, _, ha.put hlt ?_, setChan_rep hw hH (fun y hy => hwf y (List.mem_cons_of_mem _ hy)) _ _, h⟩
    exact ⟨bone_wf _, bone_wf _, (show BV.wf _ by unfold BV.wf; rw [E.bv_sg]; exact hwe), trivial⟩
/-- A select of one receive: nothing is there. -/
theorem CommG.selNone {z : BV} (hzw : z.wf) (ho : o.op = .select #[⟨ch, none, te⟩] false) (hd : o.dst = some d) (hlt : Nat.blt d C.N = true)
    (hz : (C.P.info? te).map (fun i => i.zero) = some (some z.val)) (hch : ev1 T ch = some (.ch k b)) (hH : hget H k = some (b, .sem (chanS cap E [])))
    (h : K ((d, .tup [.one (.int .i64 (-1)), .one (.bool false), z]) :: T) H) : CommG C o T H K := by
  refine ⟨fun a w ha hw => ?_⟩
  obtain ⟨hwf, s, r, hc⟩ := hw.is _ _ _ hH
  have e1 : a.eval ch = .chan (some b) := ev1_ok ha hch
  have hr := sel_run (C := C) (a := a) (w := w) ho hz
  refine OpS.of_step (v := (TV.tup [.one (.int .i64 (-1)), .one (.bool false), z]).val) (w' := w) hr (fun fr cs es he => ?_) ?_
  · dsimp only at he
    rw [e1] at he
    have := Conc.step_lone_sel_default he (fun cc hcc => by
      have : cc = Conc.rcase b z.val := by simpa [Conc.rcase] using hcc
      subst this
      exact Conc.noWay_recv hc)
    simpa [commResult, TV.val, BV.val, SC.val, goInt, Conc.rcase] using this
  · rw [hd]
    exact ⟨_, _, ha.put hlt ⟨bone_wf _, bone_wf _, hzw, trivial⟩, hw, h⟩
/-- A select of one send: there is room. -/
theorem CommG.selSend {e : E.α} {z : Value} {v : BV} (ho : o.op = .select #[⟨ch, some x, te⟩] false) (hd : o.dst = some d) (hlt : Nat.blt d C.N = true)
    (hz : (C.P.info? te).map (fun i => i.zero) = some (some z)) (hch : ev1 T ch = some (.ch k b)) (hx : evb T x = some v) (hv : v = E.bv e) (hH : hget H k = some (b, .sem (chanS cap E L))) (hroom : L.length < cap)
    (h : K ((d, .tup [.one (.int .i64 0), .one (.bool false)]) :: T) ((k, b, .sem (chanS cap E (L ++ [e]))) :: H)) : CommG C o T H K := by
  subst hv
  refine ⟨fun a w ha hw => ?_⟩
  obtain ⟨hwf, s, r, hc⟩ := hw.is _ _ _ hH
  have e1 : a.eval ch = .chan (some b) := ev1_ok ha hch
  have e2 : a.eval x = (E.bv e).val := evb_ok ha hx
  have hwe : swf (E.enc e) := by have := evb_wf ha hx; unfold BV.wf at this; rwa [E.bv_sg] at this
  have hr := sel_run (C := C) (a := a) (w := w) ho hz
  refine OpS.of_step (v := (TV.tup [.one (.int .i64 0), .one (.bool false)]).val) (w' := w.setChan b cap (E.bvals (L ++ [e])) false (s + 1) r false) hr (fun fr cs es he => ?_) ?_
  · dsimp only at he
    rw [e1, Option.map_some, e2] at he
    have := Conc.step_lone_sel_send_room (k := 0) (z := z) he rfl (fun m c' hm hc' => by rcases m with _ | m; exact absurd rfl hm; simp at hc') hc (by rw [E.bvals_size]; exact hroom)
    rw [E.bvals_push] at this
    simpa [commResult, TV.val, BV.val, SC.val, goInt, Conc.scase] using this
  · rw [hd]
    exact ⟨_, _, ha.put hlt ⟨bone_wf _, bone_wf _, trivial⟩, setChan_rep hw hH (Enc.wf_append hwf fun y hy => by rcases List.mem_singleton.1 hy with rfl; exact hwe) _ _, h⟩
/-- A select of one send: there is none. -/
theorem CommG.selFull {z : Value} {v : BV} (ho : o.op = .select #[⟨ch, some x, te⟩] false) (hd : o.dst = some d) (hlt : Nat.blt d C.N = true)
    (hz : (C.P.info? te).map (fun i => i.zero) = some (some z)) (hch : ev1 T ch = some (.ch k b)) (hx : evb T x = some v) (hH : hget H k = some (b, .sem (chanS cap E L))) (hfull : cap ≤ L.length)
    (h : K ((d, .tup [.one (.int .i64 (-1)), .one (.bool false)]) :: T) H) : CommG C o T H K := by
  refine ⟨fun a w ha hw => ?_⟩
  obtain ⟨hwf, s, r, hc⟩ := hw.is _ _ _ hH
  have e1 : a.eval ch = .chan (some b) := ev1_ok ha hch
  have e2 : a.eval x = v.val := evb_ok ha hx
  have hr := sel_run (C := C) (a := a) (w := w) ho hz
  refine OpS.of_step (v := (TV.tup [.one (.int .i64 (-1)), .one (.bool false)]).val) (w' := w) hr (fun fr cs es he => ?_) ?_
  · dsimp only at he
    rw [e1, Option.map_some, e2] at he
    have := Conc.step_lone_sel_default he (fun cc hcc => by
      have : cc = Conc.scase b v.val z := by simpa [Conc.scase] using hcc
      subst this
      exact Conc.noWay_send hc (by rw [E.bvals_size]; exact hfull))
    simpa [commResult, TV.val, BV.val, SC.val, goInt, Conc.scase] using this
  · rw [hd]
    exact ⟨_, _, ha.put hlt ⟨bone_wf _, bone_wf _, trivial⟩, hw, h⟩
end
/-- A new channel. -/
theorem OpG.makeChan {C : Ctx} {o : Oper} {T : Tm} {H : Heap} {K : Tm → Heap → Prop} {x : Operand} {t te : TypeId} {dir : ChanDir} {d : Nat} {n : Int} {by_ : Nat} (E : Enc) (ho : o.op = .makeChan t x) (hd : o.dst = some d) (hlt : Nat.blt d C.N = true)
    (ht : C.P.underlying t = some (.chan dir te)) (hb : bytB C.P te = some by_) (hx : ev1 T x = some (.int .i64 n)) (hn : 0 ≤ n ∧ n ≤ 9223372036854775807 ∧ (by_ : Int) * n ≤ 281474976710544)
    (h : ∀ b : Nat, K ((d, .b (.one (.ch d b))) :: T) ((d, b, .sem (chanS n.toNat E [])) :: H)) : OpG C o T H K := by
  refine ⟨fun a w ha hw Q => ?_⟩
  have e1 : a.eval x = .int .i64 n := ev1_ok ha hx
  unfold bytB at hb
  cases hi : C.P.info? te with
  | none => rw [hi] at hb; cases hb
  | some inf =>
    rw [hi] at hb
    obtain rfl : inf.bytes = by_ := Option.some.inj hb
    obtain ⟨h0, h1, h2⟩ := hn
    have hmax : IntKind.i64.max = 9223372036854775807 := rfl
    refine upon_value (v := (TV.b (.one (.ch d w.heap.size))).val) (w' := w.alloc (.chan n.toNat #[] false 0 0 false)) ?_ ?_
    · have g : ¬ (n < 0 ∨ 9223372036854775807 < n ∨ 281474976710544 < (inf.bytes : Int) * n) := by omega
      simp [hmax, execOp, ho, e1, Instr.makeChan, asInt, asIntOf, run_underlying ht, typeInfo, hi, g, TV.val, BV.val, SC.val]
    · rw [hd]
      refine ⟨_, _, ha.put hlt (one_wf _), hw.alloc d w.heap.size (.sem (chanS n.toNat E [])) (fun c hc => Nat.le_of_eq (Eq.symm hc)) ⟨(by intro y hy; cases hy), 0, 0, heap_alloc_new _ _⟩ rfl rfl rfl (by simp) (fun b hb => heap_alloc_old _ _ hb), h _⟩
/-- A channel's room. -/
theorem OpG.cap {C : Ctx} {o : Oper} {T : Tm} {H : Heap} {K : Tm → Heap → Prop} {c : Call} {x : Operand} {t te : TypeId} {dir : ChanDir} {k b cap d : Nat} {E : Enc} {L : List E.α} (ho : o.op = .call c) (hc : c.callee = .builtin .cap) (hargs : c.args.toList = [x]) (hts : c.argTypes.toList = [t])
    (hd : o.dst = some d) (hlt : Nat.blt d C.N = true) (ht : C.P.underlying t = some (.chan dir te)) (hx : ev1 T x = some (.ch k b)) (hH : hget H k = some (b, .sem (chanS cap E L)))
    (h : K ((d, .b (.one (.int .i64 cap))) :: T) H) : OpG C o T H K := by
  refine ⟨fun a w ha hw Q => ?_⟩
  obtain ⟨_, s, r, hb⟩ := hw.is _ _ _ hH
  have e1 : c.args.map a.eval = #[.chan (some b)] := arr_of (by rw [Array.toList_map, hargs]; simp [ev1_ok ha hx, SC.val])
  have e2 : c.argTypes = #[t] := arr_of hts
  have hr := Conc.run_cap_chan (P := C.P) t o.type ht hb
  refine upon_value (v := (TV.b (.one (.int .i64 cap))).val) (w' := w) ?_ ?_
  · simp only [execOp, ho, resolve, hc, e1, e2, Sem.run_bind, Sem.run_pure, Result.andThen_ok, invoke, builtin, hr]; rfl
  · rw [hd]
    exact ⟨_, _, ha.put hlt (one_wf _), hw, h⟩
end Go.SY

/- A library function's contract, told as one of the engine's. -/
set_option linter.unusedVariables false
namespace Go.SY
theorem Ctr.lib {R : Pr} {f : FuncId} {args : List TV} {G : Heap} {v : TV} (hfn : FnOk R.P f) (hv : v.wf)
    (h : ∀ w, Rep (ctxOf R 0 G w) G w → Calls R.P f (args.map TV.val).toArray w fun e w' => e = .returned v.val ∧ RowKit.Below w.heap.size w w') : CtrP R f args G v := by
  refine ⟨hfn, fun w hw _ => (h w hw).mono ?_⟩
  rintro e w' ⟨he, h1, h2, h3, h4, h5⟩
  exact ⟨(), trivial, he, hv, fun k b hb hk => (by cases hk), fun k k' b b' hb hb' hk => (by cases hk), fun k b hb hk => (by cases hk), fun k b hb c hk => (by cases hk), ⟨h1, h2, h3, h4, fun b hb _ => h5 b hb⟩⟩
end Go.SY

/- SHA-256, plainly. -/
namespace Go.Sha
def begin8 : List (BitVec 32) := [0x6a09e667, 0xbb67ae85, 0x3c6ef372, 0xa54ff53a, 0x510e527f, 0x9b05688c, 0x1f83d9ab, 0x5be0cd19]
def round64 : List (BitVec 32) := [
  0x428a2f98, 0x71374491, 0xb5c0fbcf, 0xe9b5dba5, 0x3956c25b, 0x59f111f1, 0x923f82a4, 0xab1c5ed5,
  0xd807aa98, 0x12835b01, 0x243185be, 0x550c7dc3, 0x72be5d74, 0x80deb1fe, 0x9bdc06a7, 0xc19bf174,
  0xe49b69c1, 0xefbe4786, 0x0fc19dc6, 0x240ca1cc, 0x2de92c6f, 0x4a7484aa, 0x5cb0a9dc, 0x76f988da,
  0x983e5152, 0xa831c66d, 0xb00327c8, 0xbf597fc7, 0xc6e00bf3, 0xd5a79147, 0x06ca6351, 0x14292967,
  0x27b70a85, 0x2e1b2138, 0x4d2c6dfc, 0x53380d13, 0x650a7354, 0x766a0abb, 0x81c2c92e, 0x92722c85,
  0xa2bfe8a1, 0xa81a664b, 0xc24b8b70, 0xc76c51a3, 0xd192e819, 0xd6990624, 0xf40e3585, 0x106aa070,
  0x19a4c116, 0x1e376c08, 0x2748774c, 0x34b0bcb5, 0x391c0cb3, 0x4ed8aa4a, 0x5b9cca4f, 0x682e6ff3,
  0x748f82ee, 0x78a5636f, 0x84c87814, 0x8cc70208, 0x90befffa, 0xa4506ceb, 0xbef9a3f7, 0xc67178f2]
def rotl (x : BitVec 32) (s : Nat) : BitVec 32 := x <<< s ||| x >>> (32 - s)
def right (x : BitVec 32) (n : Nat) : BitVec 32 := rotl x (32 - n)
def word (b : List UInt8) (t : Nat) : BitVec 32 :=
  ((b.getD (4 * t) 0).toBitVec.setWidth 32 <<< 24 ||| (b.getD (4 * t + 1) 0).toBitVec.setWidth 32 <<< 16 ||| (b.getD (4 * t + 2) 0).toBitVec.setWidth 32 <<< 8) ||| (b.getD (4 * t + 3) 0).toBitVec.setWidth 32
def next (w : List (BitVec 32)) (t : Nat) : BitVec 32 :=
  w.getD (t - 16) 0 + w.getD (t - 7) 0 + (right (w.getD (t - 15) 0) 7 ^^^ right (w.getD (t - 15) 0) 18 ^^^ w.getD (t - 15) 0 >>> 3) + (right (w.getD (t - 2) 0) 17 ^^^ right (w.getD (t - 2) 0) 19 ^^^ w.getD (t - 2) 0 >>> 10)
/-- The first t words. -/
def words (b : List UInt8) : Nat → List (BitVec 32)
  | 0 => []
  | t + 1 => words b t ++ [if t < 16 then word b t else next (words b t) t]
theorem words_length (b : List UInt8) (t : Nat) : (words b t).length = t := by
  induction t with
  | zero => rfl
  | succ t ih => simp [words, ih]
def stir (v : List (BitVec 32)) (k w : BitVec 32) : List (BitVec 32) :=
  let a := v.getD 0 0
  let e := v.getD 4 0
  let x := v.getD 7 0 + (right e 6 ^^^ right e 11 ^^^ right e 25) + (e &&& v.getD 5 0 ^^^ ~~~e &&& v.getD 6 0) + k + w
  let y := (right a 2 ^^^ right a 13 ^^^ right a 22) + (a &&& v.getD 1 0 ^^^ a &&& v.getD 2 0 ^^^ v.getD 1 0 &&& v.getD 2 0)
  [x + y, a, v.getD 1 0, v.getD 2 0, v.getD 3 0 + x, e, v.getD 5 0, v.getD 6 0]
def stirs (w v : List (BitVec 32)) : Nat → List (BitVec 32)
  | 0 => v
  | t + 1 => stir (stirs w v t) (round64.getD t 0) (w.getD t 0)
def change (h : List (BitVec 32)) (b : List UInt8) : List (BitVec 32) :=
  List.zipWith (· + ·) h (stirs (words b 64) h 64)
theorem stir_length (v : List (BitVec 32)) (k w : BitVec 32) : (stir v k w).length = 8 := rfl
theorem stirs_length (w v : List (BitVec 32)) (t : Nat) (hv : v.length = 8) : (stirs w v t).length = 8 := by
  cases t with
  | zero => exact hv
  | succ t => rfl
theorem change_length (h : List (BitVec 32)) (b : List UInt8) (hh : h.length = 8) : (change h b).length = 8 := by
  simp [change, hh, stirs_length _ _ _ hh]
/-- The state behind k blocks of a text. -/
def chain (m : List UInt8) : Nat → List (BitVec 32)
  | 0 => begin8
  | k + 1 => change (chain m k) ((m.drop (64 * k)).take 64)
theorem chain_length (m : List UInt8) (k : Nat) : (chain m k).length = 8 := by
  induction k with
  | zero => rfl
  | succ k ih => exact change_length _ _ ih
theorem chain_append (m t : List UInt8) : ∀ k : Nat, 64 * k ≤ m.length → chain (m ++ t) k = chain m k := by
  intro k
  induction k with
  | zero => intro _; rfl
  | succ k ih =>
    intro h
    simp only [chain]
    rw [ih (by omega), List.drop_append_of_le_length (by omega), List.take_append_of_le_length (by simp; omega)]
/-- What is behind a text's whole blocks. -/
def rest (m : List UInt8) : List UInt8 := m.drop (64 * (m.length / 64))
theorem rest_length (m : List UInt8) : (rest m).length = m.length % 64 := by simp [rest]; omega
/-- A text with what is put behind it, so that there are whole blocks. -/
def pads (m : List UInt8) : List UInt8 := List.replicate ((119 - m.length % 64) % 64) 0
def bits8 (n : Nat) : List UInt8 := (List.range 8).map fun i => UInt8.ofNat (n / 2 ^ (56 - 8 * i))
def padded (m : List UInt8) : List UInt8 := m ++ [0x80] ++ pads m ++ bits8 (8 * m.length)
def ser (h : List (BitVec 32)) : List UInt8 := h.flatMap fun (x : BitVec 32) => [⟨(x >>> 24).setWidth 8⟩, ⟨(x >>> 16).setWidth 8⟩, ⟨(x >>> 8).setWidth 8⟩, ⟨x.setWidth 8⟩]
/-- SHA-256. -/
def sum (m : List UInt8) : List UInt8 := ser (chain (padded m) ((padded m).length / 64))
end Go.Sha

/- A contract that wants less of memory. -/
set_option linter.unusedSimpArgs false
set_option linter.unusedVariables false
namespace Go.SY
/-- A contract that wants less. -/
theorem Ctr.less {R : Pr} {f : FuncId} {args : List TV} {G G2 : Heap} {X : Type} {I : X → Prop} {v : X → TV} {H' : X → Heap} (h : Ctr R f args G I v H') (hg : hmatch G2 G True) (hro : rwNone G2 = true) (hro1 : rwNone G = true) (hn : ∀ x, H' x = []) : Ctr R f args G2 I v H' := by
  refine ⟨h.fn, fun w hw ha => ?_⟩
  have hF : ∀ {G : Heap}, rwNone G = true → ∀ b, ¬ FG G b := fun hr b hh => by
    obtain ⟨k, hb, hk, h1, _⟩ := hh
    rw [rwNone_ok hr k b hb hk] at h1; cases h1
  refine (h.go w (match_rep (hmatch_ok hg).2 hw) ha).mono ?_
  rintro e w' ⟨x, hx, he, hv, hr⟩
  refine ⟨x, hx, he, hv, ?_⟩
  rw [hn x] at hr ⊢
  exact ⟨fun k b hb hk => (by cases hk), fun k k' b b' hb hb' hk => (by cases hk), fun k b hb hk => (by cases hk), fun k b hb c hk => (by cases hk),
    ⟨hr.frm.os, hr.frm.tape, hr.frm.output, hr.frm.size, fun b hb _ => hr.frm.block b hb (hF hro1 b)⟩⟩
end Go.SY

/- Loops: a round with facts that memory tells; all ways out told alike. -/
set_option linter.unusedSimpArgs false
set_option linter.unusedVariables false
namespace Go.SY
theorem LoopG.told {C : Ctx} {body : Code} {T : Tm} {H : Heap} {Q : Ex → Tm → Heap → Prop} {α : Type} (st : α → Tm × Heap) (I : α → Prop) (μ : α → Nat) (x0 : α) (fact : α → Prop) (hf : ∀ x w, Rep C (st x).2 w → fact x)
    (h0 : I x0 ∧ tmatch T (st x0).1 (hmatch H (st x0).2 True))
    (round : ∀ x, I x → fact x → sx C body (st x).1 (st x).2 (roundQ st I μ x Q)) : LoopG C body T H Q := by
  refine ⟨fun a w ha hw => ?_⟩
  let Inv : α → Act → World → Prop := fun x a w => I x ∧ Fits C (st x).1 a ∧ Rep C (st x).2 w
  have key : ∀ (x : α) a w, Inv x a w → (Code.loop body).wp C.P (QK C Q) a w := by
    intro x a w hI
    refine wp_loop (fun a w => ∃ x, Inv x a w) (fun a w => Classical.epsilon fun n => ∃ x, Inv x a w ∧ μ x = n ∧ ∀ y, Inv y a w → μ x ≤ μ y) ⟨x, hI⟩ ?_
    rintro a w ⟨y, hy⟩
    have least : ∀ a w, (∃ x, Inv x a w) → ∃ n x, Inv x a w ∧ μ x = n ∧ ∀ y, Inv y a w → μ x ≤ μ y := by
      intro a w
      have aux : ∀ n x, Inv x a w → μ x = n → ∃ n x, Inv x a w ∧ μ x = n ∧ ∀ y, Inv y a w → μ x ≤ μ y := by
        intro n
        induction n using Nat.strongRecOn with
        | _ n ih =>
          intro x hx hn
          by_cases hmin : ∀ y, Inv y a w → μ x ≤ μ y
          · exact ⟨_, x, hx, rfl, hmin⟩
          · obtain ⟨y, hy⟩ := Classical.not_forall.1 hmin
            obtain ⟨hy1, hy2⟩ := Classical.not_imp.1 hy
            exact ih (μ y) (by omega) y hy1 rfl
      rintro ⟨z, hz⟩
      exact aux _ z hz rfl
    obtain ⟨z, hz, hzn, hzmin⟩ := Classical.epsilon_spec (least a w ⟨y, hy⟩)
    obtain ⟨hI', ha', hw'⟩ := hz
    refine wp_mono (sx_ok (round z hI' (hf z w hw')) ha' hw') fun e a2 w2 hh => ?_
    cases e with
    | normal =>
      obtain ⟨T', H', ha2, hw2, u, hu, hlt, hT⟩ := hh
      obtain ⟨hH, hT⟩ := tmatch_ok hT
      have hinv : Inv u a2 w2 := ⟨hu, ha2.match hT, hw2.match (hmatch_ok hH).2⟩
      refine ⟨⟨u, hinv⟩, ?_⟩
      obtain ⟨v, hv, hvn, hvmin⟩ := Classical.epsilon_spec (least a2 w2 ⟨u, hinv⟩)
      rw [← hvn, ← hzn]
      exact Nat.lt_of_le_of_lt (hvmin u hinv) hlt
    | exit i => exact hh
    | ret => exact hh
    | goto l => exact hh.elim
    | panic ch => exact hh.elim
    | outgrown => exact hh.elim
  obtain ⟨hI, h0⟩ := h0
  obtain ⟨hH, hT⟩ := tmatch_ok h0
  exact key x0 a w ⟨hI, ha.match hT, hw.match (hmatch_ok hH).2⟩
/-- All ways out by one door are told alike. -/
def exitQ {α : Type} (i : Nat) (st : α → Tm × Heap) (I : α → Prop) (Q : Ex → Tm → Heap → Prop) : Ex → Tm → Heap → Prop
  | .exit j, T, H => (match Nat.beq j i with | true => ∃ y, I y ∧ tmatch T (st y).1 (hmatch H (st y).2 True) | false => Q (.exit j) T H)
  | e, T, H => Q e T H
theorem LoopG.exits {C : Ctx} {body : Code} {T : Tm} {H : Heap} {Q : Ex → Tm → Heap → Prop} {α : Type} (i : Nat) (st : α → Tm × Heap) (I : α → Prop) (fact : α → Prop) (hf : ∀ x w, Rep C (st x).2 w → fact x)
    (h : LoopG C body T H (exitQ i st I Q)) (tail : ∀ y, I y → fact y → Q (.exit i) (st y).1 (st y).2) : LoopG C body T H Q := by
  refine ⟨fun a w ha hw => wp_mono (h.go a w ha hw) fun e a2 w2 hh => ?_⟩
  cases e with
  | normal => exact hh
  | ret => exact hh
  | goto l => exact hh.elim
  | panic ch => exact hh.elim
  | outgrown => exact hh.elim
  | exit j =>
    obtain ⟨T', H', ha2, hw2, hq⟩ := hh
    have hq : (match Nat.beq j i with | true => ∃ y, I y ∧ tmatch T' (st y).1 (hmatch H' (st y).2 True) | false => Q (.exit j) T' H') := hq
    by_cases e : j = i
    · subst e
      rw [show Nat.beq j j = true from Nat.beq_refl j] at hq
      obtain ⟨y, hy, hm⟩ := hq
      obtain ⟨hH, hT⟩ := tmatch_ok hm
      have hw3 := hw2.match (hmatch_ok hH).2
      exact ⟨_, _, ha2.match hT, hw3, tail y hy (hf y w2 hw3)⟩
    · rw [show Nat.beq j i = false from by cases hb : Nat.beq j i with
        | false => rfl
        | true => exact (e (Nat.eq_of_beq_eq_true hb)).elim] at hq
      exact ⟨T', H', ha2, hw2, hq⟩
end Go.SY

/- What lies behind the first parts of a function's body: so that a long walk is shown in several texts. -/
namespace Go.SY
def rest : Nat → Code → Code
  | 0, c => c
  | n + 1, .seq _ b => rest n b
  | _ + 1, c => c
/-- A part of a body; the body of its loop. -/
def partOf (n : Nat) (c : Code) : Code := match rest n c with
  | .seq a _ => a
  | c => c
def inLoop : Code → Code
  | .seq _ b => inLoop b
  | .block _ c => inLoop c
  | .loop b => b
  | c => c
def bodyOf (f : Func) : Code := f.body.getD .skip
end Go.SY

/- From what a row says of the arguments, and of the listed variables, to what a walk knows of them. -/
set_option linter.unusedSimpArgs false
set_option linter.unusedVariables false
namespace Go.SY
open Go.ChangeShapes Go.WideShapes

/-! ### Values of a shape -/
def okS : (s : Sk) → s.α → Prop
  | .int k, n => k.has n
  | .str, s => s.length ≤ maxLen
  | _, _ => True
def likeC : SC → SC → Prop
  | .int k _, y => ∃ n : Int, y = .int k n ∧ k.has n
  | .w8 _, y => ∃ x, y = .w8 x
  | .w32 _, y => ∃ x, y = .w32 x
  | .w64 _, y => ∃ x, y = .w64 x
  | .bool _, y => ∃ x, y = .bool x
  | .str _, y => ∃ s, y = .str s ∧ s.length ≤ maxLen
  | _, _ => False
def like : List Sg → List Sg → Prop
  | [], l => l = []
  | .c x :: z, l => ∃ y r, l = .c y :: r ∧ likeC x y ∧ like z r
  | .arr s n _ :: z, l => ∃ (L : List s.α) (r : List Sg), l = .arr s n L :: r ∧ L.length = n ∧ (∀ x ∈ L, okS s x) ∧ like z r
theorem like_append : ∀ {a l b r : List Sg}, like a l → like b r → like (a ++ b) (l ++ r)
  | [], l, b, r, h, h' => by have h : l = [] := h; subst h; exact h'
  | .c x :: a, l, b, r, h, h' => by obtain ⟨y, q, rfl, hc, hq⟩ := h; exact ⟨y, q ++ r, rfl, hc, like_append hq h'⟩
  | .arr s n M :: a, l, b, r, h, h' => by obtain ⟨L, q, rfl, hl, hx, hq⟩ := h; exact ⟨L, q ++ r, rfl, hl, hx, like_append hq h'⟩
theorem like_wf : ∀ {z l : List Sg}, like z l → swf l
  | [], l, h => by have h : l = [] := h; subst h; trivial
  | .c x :: z, l, h => by obtain ⟨y, q, rfl, hc, hq⟩ := h; exact ⟨trivial, like_wf hq⟩
  | .arr s n M :: z, l, h => by obtain ⟨L, q, rfl, hl, hx, hq⟩ := h; exact ⟨hl, like_wf hq⟩

/-! ### Types without places -/
mutual
def fsg (P : Program) : Nat → TypeId → Option (List Sg)
  | 0, _ => none
  | f + 1, t => (match P.underlying t with
    | some .bool => some [.c (.bool false)]
    | some (.int .u8) => some [.c (.w8 0)]
    | some (.int .u32) => some [.c (.w32 0)]
    | some (.int .u64) => some [.c (.w64 0)]
    | some (.int k) => some [.c (.int k 0)]
    | some .string => some [.c (.str [])]
    | some (.array n e) => (match fsg P f e with
      | some [.c c] => (match skZ c, Nat.beq (P.cellsOf e) 1, Nat.beq (P.cellsOf t) n with
        | some s, true, true => some [.arr s n (List.replicate n s.dflt)]
        | _, _, _ => none)
      | some [.arr s m _] => (match Nat.beq (P.cellsOf e) m, Nat.beq (P.cellsOf t) (n * m) with
        | true, true => some [.arr s (n * m) (List.replicate (n * m) s.dflt)]
        | _, _ => none)
      | _ => none)
    | some (.struct fs) => (match fsgs P f 0 fs.toList with
      | some (l, e) => (match Nat.beq (P.cellsOf t) e with | true => some l | false => none)
      | none => none)
    | _ => none)
def fsgs (P : Program) : Nat → Nat → List Field → Option (List Sg × Nat)
  | _, off, [] => some ([], off)
  | 0, _, _ :: _ => none
  | f + 1, off, x :: l => (match Nat.beq x.offset off, fsg P f x.type, fsgs P f (off + P.cellsOf x.type) l with
    | true, some a, some (b, e) => some (a ++ b, e)
    | _, _, _ => none)
end

/-- The values that a datum tells, one behind the other. -/
def litV : Lit → Value
  | .bool b => .bool b
  | .int k n => .int k n
  | .string s => .string ⟨⟨s⟩⟩
  | .float k b => .float k b
  | _ => .bool false
mutual
def lits {H : Type} : DataW H → List Value
  | .lit l => [litV l]
  | .agg ps => litsAll ps
  | _ => []
def litsAll {H : Type} : List (DataW H) → List Value
  | [] => []
  | d :: r => lits d ++ litsAll r
end

section
variable {H : Type} {enc : TypeId × Value → H} {P : Program} {w : World} {base : Nat} {sp : Nat → Bool} {held : Bool}

theorem litsAll_eq (l : List (DataW H)) : litsAll l = l.flatMap lits := by
  induction l with
  | nil => rfl
  | cons d l ih => simp [litsAll, ih]

theorem wf_has {k : IntKind} {n : Int} (h : (Lit.int k n).wf = true) : k.has n := by
  simp only [Lit.wf, Bool.and_eq_true, decide_eq_true_eq] at h
  exact h
theorem u_has {k : IntKind} (hk : k.signed = false) {n : Int} (h : k.has n) : 0 ≤ n ∧ n < 2 ^ k.bits := by
  obtain ⟨h1, h2⟩ := h
  unfold IntKind.min at h1
  unfold IntKind.max at h2
  simp only [hk, Bool.false_eq_true, if_false] at h1 h2
  exact ⟨h1, by omega⟩

/-- One scalar's value. -/
theorem sc_like {c : SC} {s : Sk} (hs : skZ c = some s) {y : SC} (h : likeC c y) : ∃ x : s.α, y = s.enc x ∧ okS s x := by
  cases c <;> simp only [skZ, Option.some.injEq] at hs <;> first | (cases hs; done) | skip
  all_goals subst hs
  · obtain ⟨n, rfl, hn⟩ := h; exact ⟨n, rfl, hn⟩
  · obtain ⟨n, rfl⟩ := h; exact ⟨n, rfl, trivial⟩
  · obtain ⟨n, rfl⟩ := h; exact ⟨n, rfl, trivial⟩
  · obtain ⟨n, rfl⟩ := h; exact ⟨n, rfl, trivial⟩
  · obtain ⟨n, rfl⟩ := h; exact ⟨n, rfl, trivial⟩
  · obtain ⟨n, rfl, hn⟩ := h; exact ⟨n, rfl, hn⟩

theorem chunks_scalar {s : Sk} (cs : List Value) : ∀ n : Nat, (∀ i, i < n → ∃ x : s.α, (cs.drop i).take 1 = [(s.enc x).val] ∧ okS s x) → ∃ L : List s.α, L.length = n ∧ cs.take n = L.map (fun x => (s.enc x).val) ∧ ∀ x ∈ L, okS s x := by
  intro n
  induction n with
  | zero => intro _; exact ⟨[], rfl, by simp, by simp⟩
  | succ n ih =>
    intro h
    obtain ⟨L, h1, h2, h3⟩ := ih fun i hi => h i (by omega)
    obtain ⟨x, hx, hk⟩ := h n (by omega)
    refine ⟨L ++ [x], by simp [h1], ?_, fun y hy => ?_⟩
    · rw [List.take_add, h2, hx]; simp
    · rcases List.mem_append.1 hy with hy | hy
      · exact h3 y hy
      · rw [List.mem_singleton.1 hy]; exact hk
theorem chunks_rows {s : Sk} (cs : List Value) (m : Nat) : ∀ n : Nat, (∀ i, i < n → ∃ L : List s.α, L.length = m ∧ (cs.drop (i * m)).take m = L.map (fun x => (s.enc x).val) ∧ ∀ x ∈ L, okS s x) →
    ∃ L : List s.α, L.length = n * m ∧ cs.take (n * m) = L.map (fun x => (s.enc x).val) ∧ ∀ x ∈ L, okS s x := by
  intro n
  induction n with
  | zero => intro _; exact ⟨[], by simp, by simp, by simp⟩
  | succ n ih =>
    intro h
    obtain ⟨L, h1, h2, h3⟩ := ih fun i hi => h i (by omega)
    obtain ⟨M, hM, hx, hk⟩ := h n (by omega)
    refine ⟨L ++ M, by rw [List.length_append, h1, hM, Nat.succ_mul], ?_, fun y hy => ?_⟩
    · rw [Nat.succ_mul, List.take_add, h2, hx, List.map_append]
    · rcases List.mem_append.1 hy with hy | hy
      · exact h3 y hy
      · exact hk y hy
theorem svals_arr (s : Sk) (n : Nat) (L : List s.α) : svals [.arr s n L] = L.map fun x => (s.enc x).val := by
  simp [svals, scs, Sg.cs, Function.comp_def]

def FlatOk (enc : TypeId × Value → H) (P : Program) (w : World) (base : Nat) (sp : Nat → Bool) (held : Bool) (z : List Sg) (t : TypeId) : Prop :=
  ∀ fuel cs x, DataW.trod enc P w base sp held fuel t cs = some x → (∃ l, like z l ∧ cs = svals l) ∧ cs = lits x.1
theorem fields_flat : ∀ (l : List Field) (f off : Nat) (z : List Sg) (e : Nat), fsgs P f off l = some (z, e) → (∀ y ∈ l, ∀ g z', g < f → fsg P g y.type = some z' → FlatOk enc P w base sp held z' y.type) →
    ∀ (cs : List Value) (xs : List (DataW H × List MemPlace)) (m : Nat), xs.length = l.length → (∀ (i : Nat) (y : Field), l[i]? = some y → DataW.trod enc P w base sp held m y.type ((cs.drop y.offset).take (P.cellsOf y.type)) = xs[i]?) →
    off ≤ e ∧ (∃ r, like z r ∧ (cs.drop off).take (e - off) = svals r) ∧ (cs.drop off).take (e - off) = litsAll (xs.map (·.1))
  | [], f, off, z, e, h, _, cs, xs, m, hx, _ => by
    cases f <;> (unfold fsgs at h; cases h; refine ⟨Nat.le_refl _, ⟨[], rfl, by simp [svals, scs]⟩, ?_⟩; have : xs = [] := List.eq_nil_of_length_eq_zero hx; subst this; simp [litsAll])
  | y :: l, 0, off, z, e, h, _, cs, xs, m, hx, _ => by unfold fsgs at h; cases h
  | y :: l, f + 1, off, z, e, h, ih, cs, xs, m, hx, ha => by
    unfold fsgs at h
    split at h
    · rename_i a b e2 hb hA hB
      cases h
      have hoff := Nat.eq_of_beq_eq_true hb
      cases xs with
      | nil => simp at hx
      | cons x0 xs =>
        have h0 := ha 0 y rfl
        simp only [List.getElem?_cons_zero] at h0
        obtain ⟨⟨r0, hr0, he0⟩, hl0⟩ := ih y (List.mem_cons_self ..) f a (Nat.lt_succ_self _) hA _ _ _ h0
        obtain ⟨hle, ⟨r1, hr1, he1⟩, hl1⟩ := fields_flat l f (off + P.cellsOf y.type) b e hB (fun y' hy' g z' hg => ih y' (List.mem_cons_of_mem _ hy') g z' (by omega)) cs xs m (by simpa using hx) (fun i y' hy' => by have := ha (i + 1) y' (by simpa using hy'); simpa using this)
        rw [hoff] at he0 hl0
        have key : (cs.drop off).take (e - off) = (cs.drop off).take (P.cellsOf y.type) ++ (cs.drop (off + P.cellsOf y.type)).take (e - (off + P.cellsOf y.type)) := by
          rw [show e - off = P.cellsOf y.type + (e - (off + P.cellsOf y.type)) by omega, List.take_add, List.drop_drop]
        refine ⟨by omega, ⟨r0 ++ r1, like_append hr0 hr1, ?_⟩, ?_⟩
        · rw [key, he0, he1]; simp [svals, scs_append]
        · rw [key, hl0, hl1]; simp [litsAll]
    · cases h

theorem leaf_flat {z : List Sg} {t : TypeId} (h : ∀ fuel cs x, DataW.trod enc P w base sp held fuel t cs = some x → ∃ (l : Lit) (y : SC), cs = [litV l] ∧ x.1 = .lit l ∧ like z [.c y] ∧ y.val = litV l) : FlatOk enc P w base sp held z t := by
  intro fuel cs x hx
  obtain ⟨l, y, rfl, hd, hl, hv⟩ := h fuel cs x hx
  exact ⟨⟨[.c y], hl, by simp [svals, scs, Sg.cs, hv]⟩, by rw [hd]; rfl⟩

theorem flat_ok : ∀ (f : Nat) (t : TypeId) (z : List Sg), fsg P f t = some z → FlatOk enc P w base sp held z t := by
  intro f
  induction f using Nat.strongRecOn with
  | _ f IH =>
    intro t z h
    cases f with
    | zero => unfold fsg at h; cases h
    | succ f =>
      unfold fsg at h
      split at h
      · rename_i hu
        cases h
        exact leaf_flat fun fuel cs x hx => by
          obtain ⟨b, rfl, rfl⟩ := DataW.trod_bool hu hx
          exact ⟨.bool b, .bool b, rfl, rfl, ⟨_, _, rfl, ⟨b, rfl⟩, rfl⟩, rfl⟩
      · rename_i hu
        cases h
        exact leaf_flat fun fuel cs x hx => by
          obtain ⟨n, rfl, rfl, hw⟩ := DataW.trod_int hu hx
          obtain ⟨h0, h1⟩ := u_has rfl (wf_has hw)
          refine ⟨.int .u8 n, .w8 (UInt8.ofNat n.toNat), rfl, rfl, ⟨_, _, rfl, ⟨_, rfl⟩, rfl⟩, ?_⟩
          have : n.toNat < 256 := by simp [IntKind.bits] at h1; omega
          simp only [SC.val, litV, UInt8.toNat_ofNat', Nat.mod_eq_of_lt this]
          rw [Int.toNat_of_nonneg h0]
      · rename_i hu
        cases h
        exact leaf_flat fun fuel cs x hx => by
          obtain ⟨n, rfl, rfl, hw⟩ := DataW.trod_int hu hx
          obtain ⟨h0, h1⟩ := u_has rfl (wf_has hw)
          refine ⟨.int .u32 n, .w32 (BitVec.ofNat 32 n.toNat), rfl, rfl, ⟨_, _, rfl, ⟨_, rfl⟩, rfl⟩, ?_⟩
          have : n.toNat < 2 ^ 32 := by simp [IntKind.bits] at h1; omega
          simp only [SC.val, litV, BitVec.toNat_ofNat, Nat.mod_eq_of_lt this]
          rw [Int.toNat_of_nonneg h0]
      · rename_i hu
        cases h
        exact leaf_flat fun fuel cs x hx => by
          obtain ⟨n, rfl, rfl, hw⟩ := DataW.trod_int hu hx
          obtain ⟨h0, h1⟩ := u_has rfl (wf_has hw)
          refine ⟨.int .u64 n, .w64 (BitVec.ofNat 64 n.toNat), rfl, rfl, ⟨_, _, rfl, ⟨_, rfl⟩, rfl⟩, ?_⟩
          have : n.toNat < 2 ^ 64 := by simp [IntKind.bits] at h1; omega
          simp only [SC.val, litV, BitVec.toNat_ofNat, Nat.mod_eq_of_lt this]
          rw [Int.toNat_of_nonneg h0]
      · rename_i k _ _ _ hu
        cases h
        exact leaf_flat fun fuel cs x hx => by
          obtain ⟨n, rfl, rfl, hw⟩ := DataW.trod_int hu hx
          exact ⟨.int k n, .int k n, rfl, rfl, ⟨_, _, rfl, ⟨n, rfl, wf_has hw⟩, rfl⟩, rfl⟩
      · rename_i hu
        cases h
        exact leaf_flat fun fuel cs x hx => by
          obtain ⟨s, rfl, rfl, hw⟩ := DataW.trod_string hu hx
          exact ⟨.string s.data.toList, .str s.data.toList, rfl, rfl, ⟨_, _, rfl, ⟨_, rfl, by simpa using hw⟩, rfl⟩, rfl⟩
      · rename_i n e hu
        split at h
        · rename_i c hc
          have ihe := IH f (by omega) e _ hc
          split at h
          · rename_i s hs hb1 hb2
            cases h
            have hb1 := Nat.eq_of_beq_eq_true hb1
            have hb2 := Nat.eq_of_beq_eq_true hb2
            intro fuel cs x hx
            obtain ⟨xs, m, rfl, rfl, hl, hxl, hrow⟩ := DataW.trod_array hu hx
            rw [hb2] at hl
            rw [hb1] at hrow
            have el : ∀ i, i < n → (∃ x : s.α, (cs.drop i).take 1 = [(s.enc x).val] ∧ okS s x) ∧ ∃ d, xs[i]? = some d ∧ (cs.drop i).take 1 = lits d.1 := by
              intro i hi
              have h1 := hrow i hi
              obtain ⟨d, hd⟩ : ∃ d, xs[i]? = some d := ⟨_, List.getElem?_eq_getElem (by omega)⟩
              rw [hd, Nat.mul_one] at h1
              obtain ⟨⟨l, hl1, hl2⟩, hl3⟩ := ihe _ _ _ h1
              obtain ⟨y, r, rfl, hy, hr⟩ := hl1
              have hr : r = [] := hr
              subst hr
              obtain ⟨x, rfl, hk⟩ := sc_like hs hy
              exact ⟨⟨x, by rw [hl2]; simp [svals, scs, Sg.cs], hk⟩, d, hd, hl3⟩
            obtain ⟨L, h1, h2, h3⟩ := chunks_scalar (s := s) cs n fun i hi => (el i hi).1
            rw [List.take_of_length_le (by omega)] at h2
            refine ⟨⟨[.arr s n L], ⟨L, [], rfl, h1, h3, rfl⟩, by rw [svals_arr, ← h2]⟩, ?_⟩
            show cs = litsAll (xs.map (·.1))
            have : ∀ k, k ≤ n → cs.take k = litsAll ((xs.take k).map (·.1)) := by
              intro k
              induction k with
              | zero => intro _; simp [litsAll]
              | succ k ihk =>
                intro hk
                obtain ⟨_, d, hd, he⟩ := el k (by omega)
                have hlt : k < xs.length := by omega
                rw [List.take_add, ihk (by omega), he, List.take_succ_eq_append_getElem hlt, List.map_append, litsAll_eq, litsAll_eq, List.flatMap_append]
                have : xs[k] = d := by rw [List.getElem?_eq_getElem hlt] at hd; exact Option.some.inj hd
                simp [this]
            have h4 := this n (Nat.le_refl _)
            rw [List.take_of_length_le (by omega), List.take_of_length_le (by omega)] at h4
            exact h4
          · cases h
        · rename_i s m M hc
          have ihe := IH f (by omega) e _ hc
          split at h
          · rename_i hb1 hb2
            cases h
            have hb1 := Nat.eq_of_beq_eq_true hb1
            have hb2 := Nat.eq_of_beq_eq_true hb2
            intro fuel cs x hx
            obtain ⟨xs, m', rfl, rfl, hl, hxl, hrow⟩ := DataW.trod_array hu hx
            rw [hb2] at hl
            rw [hb1] at hrow
            have el : ∀ i, i < n → (∃ L : List s.α, L.length = m ∧ (cs.drop (i * m)).take m = L.map (fun x => (s.enc x).val) ∧ ∀ x ∈ L, okS s x) ∧ ∃ d, xs[i]? = some d ∧ (cs.drop (i * m)).take m = lits d.1 := by
              intro i hi
              have h1 := hrow i hi
              obtain ⟨d, hd⟩ : ∃ d, xs[i]? = some d := ⟨_, List.getElem?_eq_getElem (by omega)⟩
              rw [hd] at h1
              obtain ⟨⟨l, hl1, hl2⟩, hl3⟩ := ihe _ _ _ h1
              obtain ⟨L, r, rfl, hL, hk, hr⟩ := hl1
              have hr : r = [] := hr
              subst hr
              exact ⟨⟨L, hL, by rw [hl2, svals_arr], hk⟩, d, hd, hl3⟩
            obtain ⟨L, h1, h2, h3⟩ := chunks_rows (s := s) cs m n fun i hi => (el i hi).1
            rw [List.take_of_length_le (by omega)] at h2
            refine ⟨⟨[.arr s (n * m) L], ⟨L, [], rfl, h1, h3, rfl⟩, by rw [svals_arr, ← h2]⟩, ?_⟩
            show cs = litsAll (xs.map (·.1))
            have : ∀ k, k ≤ n → cs.take (k * m) = litsAll ((xs.take k).map (·.1)) := by
              intro k
              induction k with
              | zero => intro _; simp [litsAll]
              | succ k ihk =>
                intro hk
                obtain ⟨_, d, hd, he⟩ := el k (by omega)
                have hlt : k < xs.length := by omega
                rw [Nat.succ_mul, List.take_add, ihk (by omega), he, List.take_succ_eq_append_getElem hlt, List.map_append, litsAll_eq, litsAll_eq, List.flatMap_append]
                have : xs[k] = d := by rw [List.getElem?_eq_getElem hlt] at hd; exact Option.some.inj hd
                simp [this]
            have h4 := this n (Nat.le_refl _)
            rw [List.take_of_length_le (by omega), List.take_of_length_le (by omega)] at h4
            exact h4
          · cases h
        · cases h
      · rename_i fs hu
        split at h
        · rename_i l e hfs
          split at h
          · rename_i hb
            cases h
            have hb := Nat.eq_of_beq_eq_true hb
            intro fuel cs x hx
            obtain ⟨xs, m, rfl, rfl, hl, hxl, hall⟩ := DataW.trod_struct hu hx
            obtain ⟨_, ⟨r, hr, he⟩, hlt⟩ := fields_flat (enc := enc) (w := w) (base := base) (sp := sp) (held := held) fs.toList f 0 z e hfs (fun y _ g z' hg hz' => IH g (by omega) y.type z' hz') cs xs m (by simpa using hxl) (fun i y hy => hall i y (by simpa using hy))
            rw [List.drop_zero, List.take_of_length_le (by omega)] at he hlt
            exact ⟨⟨r, hr, he⟩, hlt⟩
          · cases h
        · cases h
      · cases h
end
end Go.SY

/- A row's arguments and listed variables, as a walk knows them; what a row asks behind the call. -/
set_option linter.unusedSimpArgs false
set_option linter.unusedVariables false
namespace Go.SY
open Go.ChangeShapes Go.WideShapes
section
variable {H : Type} {enc : TypeId × Value → H} {P : Program} {W : World} {r : Reach} {b0 : Nat} {sp : Nat → Bool} {held : Bool} {t : TypeId} {v : Value} {d : DataW H} {p : List MemPlace}

theorem arg_int {k : IntKind} (ht : P.underlying t = some (.int k)) (h : Value.okWide P W r b0 t v) : ∃ n, v = .int k n ∧ k.has n := by
  unfold Value.okWide at h
  rw [ht] at h
  have h : Cell.okWide P W r b0 t v := h
  unfold Cell.okWide at h
  rw [ht] at h
  unfold Cell.ok at h
  rw [ht] at h
  cases v <;> simp at h
  obtain ⟨rfl, h⟩ := h
  exact ⟨_, rfl, h⟩
theorem i64_has {n : Int} (h : IntKind.i64.has n) : -9223372036854775808 ≤ n ∧ n ≤ 9223372036854775807 := by
  have h1 := h.1; have h2 := h.2
  simp [IntKind.min, IntKind.max, IntKind.signed, IntKind.bits] at h1 h2
  omega
theorem arg_i64 (ht : P.underlying t = some (.int .i64)) (h : Value.okWide P W r b0 t v) : ∃ n : Int, v = .int .i64 n ∧ -9223372036854775808 ≤ n ∧ n ≤ 9223372036854775807 := by
  obtain ⟨n, rfl, hn⟩ := arg_int ht h
  exact ⟨n, rfl, i64_has hn⟩
theorem arg_u8 (ht : P.underlying t = some (.int .u8)) (h : Value.okWide P W r b0 t v) : ∃ x : UInt8, v = (SC.w8 x).val := by
  obtain ⟨n, rfl, hn⟩ := arg_int ht h
  obtain ⟨h0, h1⟩ := u_has rfl hn
  have : n.toNat < 256 := by simp [IntKind.bits] at h1; omega
  refine ⟨UInt8.ofNat n.toNat, ?_⟩
  simp only [SC.val, UInt8.toNat_ofNat', Nat.mod_eq_of_lt this]
  rw [Int.toNat_of_nonneg h0]
theorem arg_u32 (ht : P.underlying t = some (.int .u32)) (h : Value.okWide P W r b0 t v) : ∃ x : BitVec 32, v = (SC.w32 x).val := by
  obtain ⟨n, rfl, hn⟩ := arg_int ht h
  obtain ⟨h0, h1⟩ := u_has rfl hn
  have : n.toNat < 2 ^ 32 := by simp [IntKind.bits] at h1; omega
  refine ⟨BitVec.ofNat 32 n.toNat, ?_⟩
  simp only [SC.val, BitVec.toNat_ofNat, Nat.mod_eq_of_lt this]
  rw [Int.toNat_of_nonneg h0]
theorem arg_u64 (ht : P.underlying t = some (.int .u64)) (h : Value.okWide P W r b0 t v) : ∃ x : BitVec 64, v = (SC.w64 x).val := by
  obtain ⟨n, rfl, hn⟩ := arg_int ht h
  obtain ⟨h0, h1⟩ := u_has rfl hn
  have : n.toNat < 2 ^ 64 := by simp [IntKind.bits] at h1; omega
  refine ⟨BitVec.ofNat 64 n.toNat, ?_⟩
  simp only [SC.val, BitVec.toNat_ofNat, Nat.mod_eq_of_lt this]
  rw [Int.toNat_of_nonneg h0]
theorem arg_bool (ht : P.underlying t = some .bool) (h : Value.okWide P W r b0 t v) : ∃ x : Bool, v = (SC.bool x).val := by
  obtain ⟨b, rfl⟩ := okWide_bool ht h
  exact ⟨b, rfl⟩
theorem arg_str (ht : P.underlying t = some .string) (h : Value.okWide P W r b0 t v) (hd : DataW.Trod enc P W 0 sp held t v d p) : ∃ s : List UInt8, v = (SC.str s).val ∧ s.length ≤ maxLen := by
  obtain ⟨s, rfl⟩ := okWide_string ht h
  obtain ⟨fuel, hf⟩ := hd
  obtain ⟨s', h', _, hl⟩ := DataW.trod_string ht hf
  have h' : [Value.string s] = [Value.string s'] := h'
  cases h'
  exact ⟨s.data.toList, rfl, by simpa using hl⟩
/-- An array or a struct without places. -/
theorem arg_agg {f : Nat} {z : List Sg} (hz : fsg P f t = some z) (ht : aggB P t = some true) (h : Value.okWide P W r b0 t v) (hd : DataW.Trod enc P W 0 sp held t v d p) : ∃ l, like z l ∧ v = (BV.agg l).val := by
  have ha : ∃ cs, v = .agg cs := by
    unfold Value.okWide at h
    unfold aggB at ht
    split at h
    · obtain ⟨cs, rfl, _⟩ := h; exact ⟨_, rfl⟩
    · obtain ⟨cs, rfl, _⟩ := h; exact ⟨_, rfl⟩
    · rename_i h1 h2
      exfalso
      split at ht
      · rename_i hu; exact h1 _ hu
      · rename_i hu; exact h2 _ _ hu
      · cases ht
      · cases ht
  obtain ⟨cs, rfl⟩ := ha
  obtain ⟨fuel, hf⟩ := hd
  obtain ⟨⟨l, hl, he⟩, _⟩ := flat_ok f t z hz fuel _ _ hf
  refine ⟨l, hl, ?_⟩
  have he : cs.toList = svals l := he
  simp [BV.val, ← he]

theorem mapM_range {α : Type} {g : Nat → Option α} : ∀ {n : Nat} {l : List α}, (List.range n).mapM g = some l → l.length = n ∧ ∀ i, i < n → l[i]? = g i := by
  intro n l h
  refine ⟨by simpa using mapM_some_length h, fun i hi => ?_⟩
  have := mapM_some_get h i i (by simp [hi])
  exact this.symm
theorem cells?_get {a : Addr} {n : Nat} {cs : List Value} (h : W.cells? 0 a n = some cs) : cs.length = n ∧ ∀ j, j < n → W.cell? (a.add j) = cs[j]? := by
  unfold World.cells? at h
  rw [if_pos (Nat.zero_le _)] at h
  obtain ⟨h1, h2⟩ := mapM_range h
  exact ⟨h1, fun j hj => (h2 j hj).symm⟩

theorem build_list {α : Type} {R : Nat → α → Prop} : ∀ n : Nat, (∀ i, i < n → ∃ x, R i x) → ∃ L : List α, L.length = n ∧ ∀ i x, L[i]? = some x → R i x := by
  intro n
  induction n with
  | zero => intro _; exact ⟨[], rfl, by simp⟩
  | succ n ih =>
    intro h
    obtain ⟨L, h1, h2⟩ := ih fun i hi => h i (by omega)
    obtain ⟨x, hx⟩ := h n (by omega)
    refine ⟨L ++ [x], by simp [h1], fun i y hy => ?_⟩
    by_cases hi : i < n
    · rw [List.getElem?_append_left (by omega)] at hy; exact h2 i y hy
    · rw [List.getElem?_append_right (by omega)] at hy
      have : i = n := by
        have := (List.getElem?_eq_some_iff.1 hy).1
        simp at this; omega
      subst this
      simp [h1] at hy
      subst hy; exact hx

/-- A slice of elements without places. -/
theorem arg_slice {E : Enc} {f : Nat} {z : List Sg} {e : TypeId} (ht : P.underlying t = some (.slice e)) (hz : fsg P f e = some z) (hsz : P.cellsOf e = E.sz) (Q : E.α → Prop) (hdec : ∀ l, like z l → ∃ x, E.enc x = l ∧ Q x)
    (h : Value.okWide P W r b0 t v) (hd : DataW.Trod enc P W 0 sp held t v d p) : ∃ (x : SV) (L : List E.α), v = x.val ∧ (HB.view E x L).Is W x.blk ∧ (∀ y ∈ L, Q y) ∧ L.length ≤ maxLen := by
  obtain ⟨a, len, cap, rfl⟩ := okWide_slice ht h
  unfold Value.okWide at h
  rw [ht] at h
  have h : Cell.okWide P W r b0 t _ := h
  unfold Cell.okWide at h
  rw [ht] at h
  have h : Cell.ok P W r b0 t _ := h
  unfold Cell.ok at h
  rw [ht] at h
  obtain ⟨fuel, hf⟩ := hd
  rcases DataW.trod_slice ht hf with ⟨hc, _⟩ | ⟨a', len', cap', elems, rest, n, _, hc, _, hb, hlc, hcm, hel, hg, _⟩
  · have hc : [Value.slice a len cap] = [Value.slice none 0 0] := hc
    cases hc
    exact ⟨.nil, [], rfl, ⟨(by intro x hx; cases hx), rfl⟩, by simp, by simp⟩
  · have hc : [Value.slice a len cap] = [Value.slice (some a') len' cap'] := hc
    cases hc
    have h : len ≤ cap ∧ (cap : Int) ≤ IntKind.i64.max ∧ W.has P r b0 a' e cap := h
    obtain ⟨_, _, hhas⟩ := h
    obtain ⟨_, hspot, row, cells, hsh, _⟩ := hhas
    obtain ⟨b, o, s⟩ := a'
    have hspot : s = none := hspot
    subst hspot
    have hlt : b < W.heap.size := by
      simp only [World.shape?] at hsh
      split at hsh
      · rename_i h'; exact (Array.getElem?_eq_some_iff.1 h').1
      · cases hsh
    have el : ∀ i, i < len → ∃ x : E.α, Q x ∧ swf (E.enc x) ∧ ∀ j u, (svals (E.enc x))[j]? = some u → W.cell? ⟨b, o + i * E.sz + j, none⟩ = some u := by
      intro i hi
      have h1 := hg i hi
      obtain ⟨y, hy⟩ : ∃ y, elems[i]? = some y := ⟨_, List.getElem?_eq_getElem (by omega)⟩
      rw [hy] at h1
      obtain ⟨cs, hcs, hcy⟩ := Option.bind_eq_some_iff.1 h1
      obtain ⟨⟨l, hl, he⟩, _⟩ := flat_ok f e z hz n _ _ hcy
      obtain ⟨hcl, hcell⟩ := cells?_get hcs
      obtain ⟨x, hx, hQ⟩ := hdec l hl
      refine ⟨x, hQ, by rw [hx]; exact like_wf hl, fun j u hu => ?_⟩
      rw [hx, ← he] at hu
      have hj : j < P.cellsOf e := by have := (List.getElem?_eq_some_iff.1 hu).1; omega
      have := hcell j hj
      rw [add_addr, add_addr, hu, hsz] at this
      exact this
    obtain ⟨L, hL, hR⟩ := build_list (R := fun i (x : E.α) => Q x ∧ swf (E.enc x) ∧ ∀ j u, (svals (E.enc x))[j]? = some u → W.cell? ⟨b, o + i * E.sz + j, none⟩ = some u) len el
    have hwf : E.wf L := fun x hx => by
      obtain ⟨i, hi⟩ := List.mem_iff_getElem?.1 hx
      exact (hR i x hi).2.1
    refine ⟨.at b o len cap, L, rfl, ⟨hwf, rfl, hL.symm, hlc, hlt, fun j u hu => ?_⟩, fun x hx => ?_, by rw [hL]; exact Nat.le_trans hlc hcm⟩
    · have hvl := E.vals_len hwf
      have hj : j < L.length * E.sz := by have := (List.getElem?_eq_some_iff.1 hu).1; omega
      have hpos : 0 < E.sz := by
        rcases Nat.eq_zero_or_pos E.sz with h | h
        · rw [h] at hj; simp at hj
        · exact h
      have hq : j / E.sz < L.length := (Nat.div_lt_iff_lt_mul hpos).2 hj
      have hm : j % E.sz < E.sz := Nat.mod_lt _ hpos
      have e1 := E.vals_get hwf hq hm
      have e2 : j / E.sz * E.sz + j % E.sz = j := by rw [Nat.mul_comm]; exact Nat.div_add_mod j E.sz
      rw [e2, hu] at e1
      have hget : L[j / E.sz]? = some (L.getD (j / E.sz) E.dflt) := by simp [List.getD_eq_getElem?_getD, hq]
      have := (hR _ _ hget).2.2 _ _ e1.symm
      rwa [Nat.add_assoc, e2] at this
    · obtain ⟨i, hi⟩ := List.mem_iff_getElem?.1 hx
      exact (hR i x hi).1

/-- A slice of scalars. -/
theorem arg_scalars {s : Sk} {f : Nat} {c : SC} {e : TypeId} (ht : P.underlying t = some (.slice e)) (hz : fsg P f e = some [.c c]) (hs : skZ c = some s) (hsz : P.cellsOf e = 1)
    (h : Value.okWide P W r b0 t v) (hd : DataW.Trod enc P W 0 sp held t v d p) : ∃ (x : SV) (L : List s.α), v = x.val ∧ (HB.view (.sc s) x L).Is W x.blk ∧ (∀ y ∈ L, okS s y) ∧ L.length ≤ maxLen :=
  arg_slice (E := .sc s) ht hz hsz (okS s) (fun l hl => by
    obtain ⟨y, q, rfl, hy, hq⟩ := hl
    have hq : q = [] := hq
    subst hq
    obtain ⟨x, rfl, hk⟩ := sc_like hs hy
    exact ⟨x, rfl, hk⟩) h hd
end

/-! ### Listed variables -/
theorem laid_reads {P : Program} {W : World} {n : String} {d : DataW Unit} : ∀ {l : List (String × DataW Unit)} {ps : List MemPlace}, DataW.LaidVars P W l ps → (n, d) ∈ l →
    ∃ g t cs fuel p, P.globalNamed n = some g ∧ (P.globals[g]?).map (·.type) = some t ∧ W.var? P n = some cs ∧ DataW.trod (fun _ => ()) P W 0 (fun _ => true) false fuel t cs.toList = some (d, p)
  | [], _, _, hm => by cases hm
  | (n', d') :: q, ps, h, hm => by
    obtain ⟨g, t, cs, fuel, p, q', h1, h2, h3, h4, h5, _⟩ := h
    rcases List.mem_cons.1 hm with e | e
    · cases e; exact ⟨g, t, cs, fuel, p, h1, h2, h3, h4⟩
    · exact laid_reads h5 e
/-- A variable without places reads as the datum says. -/
theorem glob_is {P : Program} {W : World} {laid : List (String × DataW Unit)} (h : laidMet P laid W) {n : String} {d : DataW Unit} (hm : (n, d) ∈ laid) {g : Nat} {f : Nat} {l : List Sg}
    (hg : P.globalNamed n = some g) (ht : (match P.globals[g]? with | some x => (fsg P f x.type).isSome | none => false) = true) (hl : lits d = svals l) (hw : swf l) (hpos : 0 < (svals l).length) : (HB.ro l).Is W g := by
  obtain ⟨ps, hv, _⟩ := h
  obtain ⟨g', t', cs, fuel, p, h1, h2, h3, h4⟩ := laid_reads hv hm
  obtain rfl := Option.some.inj (hg.symm.trans h1)
  obtain ⟨z, hz⟩ : ∃ z, fsg P f t' = some z := by
    cases hgg : P.globals[g]? with
    | none => rw [hgg] at h2; cases h2
    | some x =>
      rw [hgg] at h2 ht
      obtain rfl := Option.some.inj h2
      exact Option.isSome_iff_exists.1 ht
  obtain ⟨_, e⟩ := flat_ok f t' z hz fuel _ _ h4
  have e : cs.toList = svals l := e.trans hl
  have cell : ∀ j : Nat, W.cell? ⟨g, j, none⟩ = cs[j]? := fun j => World.var?_cell hg h3 j
  have at_ : ∀ (j : Nat) v, (svals l)[j]? = some v → W.cell? ⟨g, j, none⟩ = some v := fun j v hj => by
    rw [cell j, ← Array.getElem?_toList, e]; exact hj
  refine ⟨?_, at_, hw⟩
  have h0 := at_ 0 _ (List.getElem?_eq_getElem hpos)
  by_cases hb : g < W.heap.size
  · exact hb
  · have hn : W.heap[g]? = none := Array.getElem?_eq_none (by omega)
    simp [World.cell?, hn] at h0

/-! ### Behind the call -/
theorem trodAll_below {H : Type} {enc : TypeId × Value → H} {P : Program} (hl : laidOutB P = true) {W W' : World} (hb : RowKit.Below W.heap.size W W') : ∀ {ts : List TypeId} {vs : List Value} {ds : List (DataW H)} {ps : List MemPlace},
    (∀ t ∈ ts, P.readableRec t = true ∧ t < P.types.size) → DataW.TrodAll enc P W 0 (fun _ => true) true ts vs ds ps → (∀ x ∈ ps, x.block < W.heap.size) →
    DataW.TrodAll enc P W' 0 (fun b => decide (b < W.heap.size)) true ts vs ds ps := by
  intro ts
  induction ts with
  | nil =>
    intro vs ds ps _ h _
    cases vs <;> cases ds <;> first | exact h | exact h.elim
  | cons t ts ih =>
    intro vs ds ps ht h hlt
    cases vs with
    | nil => exact h.elim
    | cons v vs =>
      cases ds with
      | nil => exact h.elim
      | cons d ds =>
        obtain ⟨p, q, h1, h2, rfl⟩ := h
        refine ⟨p, q, RowKit.Below.trod hl (ht t (List.mem_cons_self ..)).1 (ht t (List.mem_cons_self ..)).2 h1 hb fun x hx => hlt x (List.mem_append_left _ hx), ih (fun t' ht' => ht t' (List.mem_cons_of_mem _ ht')) h2 fun x hx => hlt x (List.mem_append_right _ hx), rfl⟩
/-- What is known of a list of things. -/
def GIs (W : World) : Heap → Prop
  | [] => True
  | (_, b, hb) :: r => hb.Is W b ∧ GIs W r
theorem GIs.get {W : World} : ∀ {G : Heap}, GIs W G → ∀ k b hb, hget G k = some (b, hb) → hb.Is W b
  | [], _, k, b, hb, h => by cases h
  | (k0, b0, hb0) :: r, hi, k, b, hb, h => by
    rw [hget_cons] at h
    split at h
    · cases h; exact hi.1
    · exact hi.2.get k b hb h
/-- A law that returns true. -/
theorem law_post {H : Type} {enc : TypeId × Value → H} {R : Pr} {f : FuncId} {fn : Func} {s : ChangeSpec} {args : List TV} {G : Heap} (h : CtrP R f args G (vb true)) (ho : (once G && rwNone G) = true) (hargs : awf args)
    {W : World} {ds : List (DataW H)} {p : List MemPlace} {rt : TypeId} (hG : GIs W G) (hlo : laidOutB R.P = true) (hts : fn.params.toList.all (fun t => R.P.readableRec t && decide (t < R.P.types.size)) = true)
    (hvars : s.vars = []) (hres : fn.resultTypes = #[rt]) (hrt : R.P.underlying rt = some .bool) (hfn : s.fn H ds = { results := [.lit (.bool true)], args := ds })
    (hW : DataW.Whole enc R.P fn.params.toList s.vars false W (args.map TV.val) ds [] p) (hlt : ∀ x ∈ p, x.block < W.heap.size) :
    Calls R.P f (args.map TV.val).toArray W fun e W' => ∃ v, e = .returned v ∧ s.post enc R.P fn false true false false W (args.map TV.val).toArray v W' := by
  have hawf : ∀ {l : List TV}, awf l → ∀ v ∈ l, v.wf := by
    intro l
    induction l with
    | nil => intro _ v hv; cases hv
    | cons u l ih => intro h v hv; rcases List.mem_cons.1 hv with rfl | hv
                     · exact h.1
                     · exact ih h.2 v hv
  refine (h.law ho (hawf hargs) hG.get).mono fun e W' ⟨he, hB⟩ => ?_
  subst he
  obtain ⟨p1, q1, hA, hV, rfl, hnf, hnd⟩ := id hW
  rw [hvars] at hV
  obtain ⟨_, rfl⟩ := trodVars_none hV
  simp only [List.append_nil] at hlt
  have hts' : ∀ t ∈ fn.params.toList, R.P.readableRec t = true ∧ t < R.P.types.size := fun t ht => by
    have := List.all_eq_true.1 hts t ht
    simpa using this
  have hp := trodAll_below (enc := enc) hlo hB hts' hA hlt
  refine ⟨_, rfl, ds, [], _, [], p1, [], by simpa using hW, ?_, by simpa [hfn] using hp, ?_, hB.frame _, fun h => by cases h⟩
  · simp only [hres, List.append_nil, hfn]
    exact trodAll_mk1 (RowKit.shut_bool hrt true)
  · rw [hvars]
    simp only [List.append_nil, hfn]
    rfl
end Go.SY
