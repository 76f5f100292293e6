/- A region that draws its order: first operations that only look or call quietly, in whatever order; then a chain. -/
import Derived.Test.YtiijaiiejogbjaaDoorSxArith
set_option linter.unusedSimpArgs false
set_option linter.unusedVariables false
namespace Go.SX
variable {P : Program} {ops : Array Oper} {Cl : World → Prop}

/-- The head in whatever order: each operation quiet in the class, none of the tail ready before it is done. -/
def hd (P : Program) (ops : Array Oper) (Cl : World → Prop) (n : Nat) (L : Array Bool → Act → Prop) : Nat → Array Bool → Act → Prop
  | 0, listed, a => L listed a
  | f + 1, listed, a => Region.ready .any ops listed ≠ [] ∧ ∀ i ∈ Region.ready .any ops listed, i < n ∧ qOp P ops Cl i (hd P ops Cl n L f (listed.setIfInBounds i true)) a

theorem any_of_hd {n g : Nat} {L : Array Bool → Act → Prop} {Q : Exit → Act → World → Prop} (hL : ∀ listed a w, Cl w → L listed a → wpAny P .any ops Q g listed a w) :
    ∀ (f : Nat) (listed : Array Bool) (a : Act) (w : World), Cl w → hd P ops Cl n L f listed a → wpAny P .any ops Q (f + g) listed a w := by
  intro f
  induction f with
  | zero => intro listed a w hw h; rw [Nat.zero_add]; exact hL _ _ _ hw h
  | succ f ih =>
    intro listed a w hw h
    rw [show f + 1 + g = (f + g) + 1 by omega]
    exact ⟨fun h0 => absurd h0 h.1, fun i hi => wpOp_of_qOp hw (fun a' w' hw' h' => ih _ a' w' hw' h') (h.2 i hi).2⟩

theorem hd_first {n i : Nat} {oi : Oper} {v : Value} {L : Array Bool → Act → Prop} (hi : ops[i]? = some oi) (hsel : ∀ (j : Nat) (o : Oper) cs b, ops[j]? = some o → o.op ≠ .select cs b)
    (hs : Region.sinkB .any ops n = true) (hc : Region.chainB .any ops n = true) (hn : n < ops.size) (hin : i < n)
    (hdone : ∀ listed a, L listed a → ∀ j ∈ Region.ready .any ops listed, n ≤ j) :
    ∀ (f : Nat) (listed : Array Bool) (a : Act), HeadInv .any ops n listed →
      (∀ j oj, ops[j]? = some oj → j ≠ i → listed.getD j true = false → (∀ e ∈ oj.after, Region.binds .any e = true → e.on ≠ i) → oi.apart ops oj = true) →
      i ∈ Region.ready .any ops listed → YieldsIn P ops Cl oi v a →
      hd P ops Cl n L f (listed.setIfInBounds i true) (a.put oi.dst v) → hd P ops Cl n L (f + 1) listed a := by
  intro f
  induction f with
  | zero =>
    intro listed a inv _ hr hy H
    have hun := (mem_ready.1 hr).1
    refine ⟨fun h => (by rw [h] at hr; cases hr), fun j hj => ?_⟩
    have hjn : j < n := by
      rcases Nat.lt_or_ge j n with h | h
      · exact h
      · exact absurd hj (tail_waits hs hc hn inv _ i rfl hin hun j h)
    refine ⟨hjn, ?_⟩
    by_cases hji : j = i
    · subst hji; exact hy.qOp hi H
    · have := hdone _ _ H j (ready_mono hj hji)
      omega
  | succ f ih =>
    intro listed a inv hfree hr hy H
    have hun := (mem_ready.1 hr).1
    refine ⟨fun h => (by rw [h] at hr; cases hr), fun j hj => ?_⟩
    have hjn : j < n := by
      rcases Nat.lt_or_ge j n with h | h
      · exact h
      · exact absurd hj (tail_waits hs hc hn inv _ i rfl hin hun j h)
    refine ⟨hjn, ?_⟩
    by_cases hji : j = i
    · subst hji; exact hy.qOp hi H
    · have h1 := (H.2 j (ready_mono hj hji)).2
      obtain ⟨hjun, oj, hoj, hall⟩ := mem_ready.1 hj
      have hnot : ∀ e ∈ oj.after, Region.binds .any e = true → e.on ≠ i := fun e he hb heq => by
        have h1 := hall e he hb
        rw [heq, getD_both hun] at h1
        cases h1
      have h2 := qOp_put hoj (hfree j oj hoj hji hjun hnot) (fun cs b => hsel i oi cs b hi) (fun cs b => hsel j oj cs b hoj) hy h1
      have hfree' : ∀ k ok, ops[k]? = some ok → k ≠ i → (listed.setIfInBounds j true).getD k true = false →
          (∀ e ∈ ok.after, Region.binds .any e = true → e.on ≠ i) → oi.apart ops ok = true := fun k ok hk hki hun hno => by
        refine hfree k ok hk hki ?_ hno
        by_cases hjk : j = k
        · subst hjk; exact hjun
        · rw [getD_set_ne true hjk] at hun; exact hun
      refine qOp_mono (fun a' h3 => ih (listed.setIfInBounds j true) a' (inv.set hj hjn) hfree' (ready_mono hr (Ne.symm hji)) h3.1 ?_) h2
      rw [Array.setIfInBounds_comm _ _ hji]
      exact h3.2

theorem hd_lex {n g : Nat} {Lq : Act → Prop} (hsel : Region.noSelect ops = true) (hs : Region.sinkB .any ops n = true) (hc : Region.chainB .any ops n = true) (hn : n < ops.size) :
    ∀ (l : List Oper) (k : Nat) (listed : Array Bool) (a : Act), (∀ j, j < l.length → l[j]? = ops[k + j]?) → k + l.length = n → HeadInv .any ops n listed →
    Region.lexHead .any ops g l.length k listed = true → wpQuiet P ops Cl Lq l a →
    hd P ops Cl n (fun listed' a' => Region.seqB .any ops g n listed' = true ∧ Lq a') l.length listed a := by
  intro l
  induction l with
  | nil =>
    intro k listed a _ hk inv hB h
    have : k = n := by simpa using hk
    subst this
    exact ⟨by simpa [Region.lexHead] using hB, h⟩
  | cons o l ih =>
    intro k listed a hl hk inv hB h
    have h0 : ops[k]? = some o := by simpa using (hl 0 (by simp)).symm
    simp only [List.length_cons, Region.lexHead, Bool.and_eq_true] at hB
    obtain ⟨⟨hr, hf⟩, hB'⟩ := hB
    have hkn : k < n := by simp only [List.length_cons] at hk; omega
    have hr' : k ∈ Region.ready .any ops listed := by simpa using hr
    have hst : qOp P ops Cl k (wpQuiet P ops Cl Lq l) a := by unfold qOp; simp only [h0]; exact h
    obtain ⟨v, hy, hK⟩ := yieldsIn_of_qOp h0 hst
    exact hd_first h0 (Region.noSelect_spec hsel) hs hc hn hkn (fun listed' a' hL => seqB_ready hL.1) l.length listed a inv (Region.free_spec h0 hf) hr' hy
      (ih (k + 1) _ _ (fun j hj => by have := hl (j + 1) (by simp; omega); simpa [Nat.add_assoc, Nat.add_comm 1 j] using this) (by simp only [List.length_cons] at hk; omega) (inv.set hr' hkn) hB' hK)

/-- The first n operations only look, or call quietly; the others come in the text's order. -/
theorem Draw.tailQ {C : Ctx} {id : Nat} {ops : List Oper} {T : Tm} {H : Heap} {Q : Ex → Tm → Heap → Prop} (n : Nat) (hm : C.P.follows .mixedOrders = true) (hB : Region.lexTailB .any ops.toArray n = true)
    (h : sxQ C ops (ops.take n) T H fun T' => sxOps C ops (ops.drop n) T' H (Q .normal)) : Draw C id ops T H Q := by
  refine ⟨fun a w ha hw => ?_⟩
  simp only [Region.lexTailB, Bool.and_eq_true, decide_eq_true_eq] at hB
  obtain ⟨⟨⟨⟨hsel, hn⟩, hs⟩, hc⟩, hlex⟩ := hB
  have hn' : n < ops.length := by simpa using hn
  have htl : (ops.take n).length = n := by simp; omega
  have hdl : (ops.drop n).length = ops.toArray.size - n := by simp
  have inv0 : HeadInv .any ops.toArray n (Array.replicate ops.toArray.size false) :=
    ⟨by simp, fun j oj _ hl => (by rw [getD_replicate_false] at hl; cases hl), fun t _ ht => getD_in (by simpa using ht) (getD_replicate_false _ _)⟩
  have hq := sxQ_ok hw h ha
  have Hh := hd_lex (P := C.P) (Cl := Rep C H) (g := ops.toArray.size - n) hsel hs hc hn (ops.take n) 0 _ a (fun j hj => by
    have hj' : j < n := by rw [htl] at hj; exact hj
    simp [hj']) (by simpa using htl) inv0 (by rw [htl]; exact hlex) hq
  refine wp_region_any hm ?_
  have := any_of_hd (Q := QK C Q) (g := ops.toArray.size - n) (fun listed a' w' hw' hL => by
    obtain ⟨hseq, T', ha', hK⟩ := hL
    have := wpAny_of_seq (md := .any) (Q' := QK C Q) (ops.drop n) n listed a' w' (fun j => by simp [List.getElem?_drop]) (by rw [hdl]; exact hseq) (sxOps_ok hK (fun a w hh => hh) ha' hw')
    rwa [hdl] at this) _ _ _ _ (hw.drew (w.drawn + 1)) Hh
  rw [htl, show n + (ops.toArray.size - n) = ops.toArray.size by omega] at this
  exact this

/-! ### Orders, step by step -/
/-- In which order the operations are gone through: one that looks at no memory may be taken first; else all that may come now. -/
inductive Sched where
  | done
  | one (i : Nat) (s : Sched)
  | fin
  | alt (i : Nat) (s rest : Sched)

/-- Does an operation look at no memory at all? -/
def isPure (P : Program) (o : Oper) : Bool :=
  match o.op with
  | .load .. => false
  | .convert s d _ => (match P.underlying s, P.underlying d with | some (.slice _), _ => false | _, some (.slice _) => false | _, _ => true)
  | _ => isQ P o

def altIdx : Sched → List Nat
  | .alt i _ r => i :: altIdx r
  | _ => []
def depth : Sched → Nat
  | .done => 0
  | .one _ s => depth s + 1
  | .fin => 0
  | .alt _ s r => max (depth s + 1) (depth r)
/-- Are just these the orders? -/
def schedOk (P : Program) (ops : Array Oper) : Bool → Sched → Array Bool → Bool
  | _, .done, listed => (Region.ready .any ops listed).isEmpty
  | _, .one i s, listed => (Region.ready .any ops listed).contains i && Region.free .any ops listed i && ((ops[i]?).map (isPure P)).getD false && schedOk P ops true s (listed.setIfInBounds i true)
  | top, .fin, _ => !top
  | top, .alt i s r, listed => (!top || i :: altIdx r == Region.ready .any ops listed) && schedOk P ops true s (listed.setIfInBounds i true) && schedOk P ops false r listed

def step1 (C : Ctx) (all : List Oper) (i : Nat) (T : Tm) (H : Heap) (K : Tm → Heap → Prop) : Prop :=
  match lget all i with
  | some o => sxGuard all T o (sxOp C T H o K) (skipK C.N o.dst T H K)
  | none => False
def sxSched (C : Ctx) (all : List Oper) : Sched → Tm → Heap → (Tm → Heap → Prop) → Prop
  | .done, T, H, K => K T H
  | .one i s, T, H, K => step1 C all i T H fun T' H' => sxSched C all s T' H' K
  | .fin, _, _, _ => True
  | .alt i s r, T, H, K => (step1 C all i T H fun T' H' => sxSched C all s T' H' K) ∧ sxSched C all r T H K

theorem qop_pure {P : Program} {T : Tm} {H : Heap} {o : Oper} {K : TV → Prop} (hp : isPure P o = true) (h : qop P T H o K) : qop P T [] o K := by
  unfold isPure at hp
  unfold qop at h ⊢
  split at hp
  · cases hp
  · rename_i s d x ho
    simp only [ho] at h ⊢
    split at h
    · rename_i c hc
      unfold qconv at h ⊢
      split at h
      · exact h
      · exact h
      · rename_i e hs hd; rw [hs] at hp; simp at hp
      · rename_i e key b base o' len cap hs hd; rw [hs] at hp; simp at hp
      · exact h
    · exact h
  · rename_i hn1 hn2
    split at h
    all_goals first
      | exact h
      | (rename_i ho; exact (hn1 _ _ ho).elim)
      | (rename_i ho; exact (hn2 _ _ _ ho).elim)

theorem isPure_isQ {P : Program} {o : Oper} (h : isPure P o = true) : isQ P o = true := by
  unfold isPure at h
  split at h
  · cases h
  · rename_i s d x ho
    unfold isQ
    rw [ho]
    dsimp only
    split
    · rename_i e hd
      split at h
      · cases h
      · cases h
      · rename_i h1 h2; exact (h2 _ hd).elim
    · rfl
  · exact h

theorem QK_panic {C : Ctx} {Q : Ex → Tm → Heap → Prop} (c : List PanicEntry) (a a' : Act) (w : World) : QK C Q (.panic c) a w → QK C Q (.panic c) a' w := fun h => h.elim

theorem step1_wpOp {C : Ctx} {all : List Oper} {i : Nat} {T : Tm} {H : Heap} {K : Tm → Heap → Prop} (h : step1 C all i T H K) {a : Act} {w : World} (ha : Fits C T a) (hw : Rep C H w) {Q : Exit → Act → World → Prop} :
    wpOp C.P all.toArray Q i (Holds C K) a w := by
  unfold step1 at h
  split at h
  · rename_i o ho
    rw [lget_eq] at ho
    unfold wpOp
    have ho' : all.toArray[i]? = some o := by simpa using ho
    simp only [ho']
    rcases sxGuard_ok h ha with ⟨hg, h⟩ | ⟨hg, h⟩
    · rw [if_pos hg]; exact .inl (sxOp_ok h ha hw Q)
    · rw [if_neg (by simp [hg])]; exact putK_ok (v := .tup []) h ha hw
  · exact h.elim

theorem sxSched_ok {C : Ctx} {all : List Oper} {Q : Ex → Tm → Heap → Prop} (hsel : Region.noSelect all.toArray = true) : ∀ {s : Sched} {top : Bool} {listed : Array Bool} {T : Tm} {H : Heap} {fuel : Nat},
    schedOk C.P all.toArray top s listed = true → sxSched C all s T H (Q .normal) → depth s ≤ fuel → ∀ {a : Act} {w : World}, Fits C T a → Rep C H w →
    (top = true → wpAny C.P .any all.toArray (QK C Q) fuel listed a w) ∧
    (top = false → ∀ i ∈ altIdx s, ∀ f, fuel = f + 1 → wpOp C.P all.toArray (QK C Q) i (wpAny C.P .any all.toArray (QK C Q) f (listed.setIfInBounds i true)) a w) := by
  intro s
  induction s with
  | done =>
    intro top listed T H fuel hok h _ a w ha hw
    have hr : Region.ready .any all.toArray listed = [] := by simpa [schedOk] using hok
    exact ⟨fun _ => wpAny_done hr ⟨T, H, ha, hw, h⟩ fuel, fun _ i hi => by simp [altIdx] at hi⟩
  | fin =>
    intro top listed T H fuel hok h _ a w ha hw
    exact ⟨fun ht => by rw [ht] at hok; simp [schedOk] at hok, fun _ i hi => by simp [altIdx] at hi⟩
  | one i s ih =>
    intro top listed T H fuel hok h hd a w ha hw
    refine ⟨fun _ => ?_, fun _ i hi => by simp [altIdx] at hi⟩
    simp only [schedOk, Bool.and_eq_true] at hok
    obtain ⟨⟨⟨h1, h2⟩, h3⟩, h4⟩ := hok
    simp only [depth] at hd
    obtain ⟨f, rfl⟩ : ∃ f, fuel = f + 1 := ⟨fuel - 1, by omega⟩
    simp only [sxSched, step1] at h
    split at h
    · rename_i o ho
      rw [lget_eq] at ho
      have ho' : all.toArray[i]? = some o := by simpa using ho
      have hpure : isPure C.P o = true := by simpa [ho'] using h3
      rcases sxGuard_ok h ha with ⟨hg, h⟩ | ⟨hg, h⟩
      · unfold sxOp at h
        rw [isPure_isQ hpure] at h
        have hq := qop_pure hpure h
        obtain ⟨v, hv, hr⟩ := qop_ok hq (fun k b hb hk => by cases hk)
        obtain ⟨T', H', ha', hw', hK⟩ := putK_ok hv ha hw
        refine wpAny_take ho' hsel h2 h1 (fun c a w hh => QK_panic c _ _ w hh) (v := v.val) (.inl ⟨hg, fun w2 => ?_⟩) ((ih h4 hK (by omega) ha' hw').1 rfl)
        exact hr ⟨C.P, C.N, w2, fun _ => True⟩ a w2 ⟨ha.tmps, ha.size, ha.defers⟩ ⟨fun k b hb hk => (by cases hk), fun k k' b b' hb hb' hk => (by cases hk), fun k b hb hk => (by cases hk), ⟨rfl, rfl, rfl, Nat.le_refl _, fun _ _ _ => rfl⟩⟩
      · obtain ⟨T', H', ha', hw', hK⟩ := putK_ok (v := .tup []) h ha hw
        exact wpAny_take ho' hsel h2 h1 (fun c a w hh => QK_panic c _ _ w hh) (v := undef) (.inr ⟨hg, rfl⟩) ((ih h4 hK (by omega) ha' hw').1 rfl)
    · exact h.elim
  | alt i s r ihs ihr =>
    intro top listed T H fuel hok h hd a w ha hw
    simp only [schedOk, Bool.and_eq_true, Bool.or_eq_true, Bool.not_eq_true'] at hok
    obtain ⟨⟨h1, h2⟩, h3⟩ := hok
    simp only [depth] at hd
    obtain ⟨hs, hr⟩ := h
    have all_ : ∀ j ∈ altIdx (.alt i s r), ∀ f, fuel = f + 1 → wpOp C.P all.toArray (QK C Q) j (wpAny C.P .any all.toArray (QK C Q) f (listed.setIfInBounds j true)) a w := by
      intro j hj f hf
      rcases List.mem_cons.1 hj with rfl | hj
      · refine wpOp_mono (fun a' w' hh => ?_) (step1_wpOp hs ha hw)
        obtain ⟨T', H', ha', hw', hK⟩ := hh
        exact (ihs h2 hK (by omega) ha' hw').1 rfl
      · exact (ihr h3 hr (by omega) ha hw).2 rfl j hj f hf
    refine ⟨fun ht => ?_, fun _ => all_⟩
    subst ht
    have hrs : i :: altIdx r = Region.ready .any all.toArray listed := by simpa using h1
    obtain ⟨f, rfl⟩ : ∃ f, fuel = f + 1 := ⟨fuel - 1, by omega⟩
    exact wpAny_all hrs.symm (by simp) fun j hj => all_ j hj f rfl

/-- The orders are gone through. -/
theorem Draw.sched {C : Ctx} {id : Nat} {ops : List Oper} {T : Tm} {H : Heap} {Q : Ex → Tm → Heap → Prop} (s : Sched) (hm : C.P.follows .mixedOrders = true)
    (hB : (Region.noSelect ops.toArray && schedOk C.P ops.toArray true s (Array.replicate ops.toArray.size false) && Nat.ble (depth s) ops.toArray.size) = true)
    (h : sxSched C ops s T H (Q .normal)) : Draw C id ops T H Q := by
  simp only [Bool.and_eq_true] at hB
  refine ⟨fun a w ha hw => ?_⟩
  refine wp_region_any hm ?_
  exact (sxSched_ok hB.1.1 hB.1.2 h (Nat.le_of_ble_eq_true hB.2) ha (hw.drew (w.drawn + 1))).1 rfl

/-- Where the orders meet again: whatever came, this much is known. -/
theorem Draw.cut {C : Ctx} {id : Nat} {ops : List Oper} {T : Tm} {H : Heap} {Q : Ex → Tm → Heap → Prop} {α : Type} (st : α → Tm × Heap)
    (h : Draw C id ops T H fun e T' H' => match e with | .normal => ∃ x, TSub T' (st x).1 ∧ HSub H' (st x).2 | _ => False)
    (hk : ∀ x, Q .normal (st x).1 (st x).2) : Draw C id ops T H Q := by
  refine ⟨fun a w ha hw => wp_mono (h.go a w ha hw) fun e a' w' hh => ?_⟩
  cases e with
  | normal =>
    obtain ⟨T', H', ha', hw', x, hT, hH⟩ := hh
    exact ⟨_, _, ha'.sub hT, hw'.sub hH.get, hk x⟩
  | exit i => obtain ⟨_, _, _, _, hh⟩ := hh; exact hh.elim
  | ret => obtain ⟨_, _, _, _, hh⟩ := hh; exact hh.elim
  | goto l => exact hh.elim
  | panic ch => exact hh.elim
  | outgrown => exact hh.elim
end Go.SX
