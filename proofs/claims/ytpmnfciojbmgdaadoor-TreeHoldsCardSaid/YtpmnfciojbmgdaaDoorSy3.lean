/- A walk engine: what a call computes, symbolically (part 3). -/
import Derived.Test.YtpmnfciojbmgdaaDoorSy2
import Derived.RowKit
import Derived.OrdersHeld
import Derived.ChangeArms
import Derived.ChangeSame
import Derived.OpenShut
import Derived.Carry
import Derived.FnData
/- Contracts of functions; calls. -/
set_option linter.unusedSimpArgs false
set_option linter.unusedVariables false
namespace Go.SY

/-- The blocks that a call may write. -/
def FG (G : Heap) (b : Nat) : Prop := ∃ k hb, hget G k = some (b, hb) ∧ hb.isRw = true ∧ hb.occ
abbrev ctxOf (R : Pr) (N : Nat) (G : Heap) (w : World) : Ctx := ⟨R, N, w, FG G⟩
theorem Rep.ctx {R R' : Pr} {N N' : Nat} {w0 : World} {F : Nat → Prop} {H : Heap} {w : World} (h : Rep ⟨R, N, w0, F⟩ H w) : Rep ⟨R', N', w0, F⟩ H w :=
  ⟨h.is, h.apart, h.own, ⟨h.frm.os, h.frm.tape, h.frm.output, h.frm.size, h.frm.block⟩⟩
theorem Rep.frame {R R' : Pr} {N N' : Nat} {w0 : World} {F F' : Nat → Prop} {H : Heap} {w : World} (h : Rep ⟨R, N, w0, F⟩ H w) (hF : ∀ b, F b ↔ F' b) : Rep ⟨R', N', w0, F'⟩ H w :=
  ⟨h.is, h.apart, fun k b hb hk hr ho => (h.own k b hb hk hr ho).imp id (hF b).1, ⟨h.frm.os, h.frm.tape, h.frm.output, h.frm.size, fun b hb hn => h.frm.block b hb fun hh => hn ((hF b).1 hh)⟩⟩

def FnOk (P : Program) (f : FuncId) : Prop := ∃ fn, P.funcs[f]? = some fn ∧ (fn.name == "runtime.NumGoroutine") = false ∧ fn.body.isNone = false

/-- A function's contract: called with these values, where memory holds G, it hands back one of v and leaves H'. -/
structure Ctr (R : Pr) (f : FuncId) (args : List TV) (G : Heap) {X : Type} (I : X → Prop) (v : X → TV) (H' : X → Heap) : Prop where
  fn : FnOk R.P f
  go : ∀ w, Rep (ctxOf R 0 G w) G w → (∀ v ∈ args, v.wf) → Calls R.P f (args.map TV.val).toArray w fun e w' => ∃ x, I x ∧ e = .returned (TV.val (v x)) ∧ (v x).wf ∧ Rep (ctxOf R 0 G w) (H' x) w'
/-- One answer; what is known stays as it is, or nothing of it is told. -/
abbrev CtrP (R : Pr) (f : FuncId) (args : List TV) (G : Heap) (v : TV) : Prop := Ctr R f args G (fun _ : Unit => True) (fun _ => v) (fun _ => [])
/-- One answer, and what memory holds. -/
abbrev CtrU (R : Pr) (f : FuncId) (args : List TV) (G : Heap) (v : TV) (H' : Heap) : Prop := Ctr R f args G (fun _ : Unit => True) (fun _ => v) (fun _ => H')

/-! ### The end of a body -/
def resOne (P : Program) (T : Tm) (H : Heap) (r : ResultVar) (K : BV → Prop) : Prop :=
  match r with
  | .tmp t => (match tget T t with | some (.b v) => K v | _ => False)
  | .cell a ty => (match tget T a with | some (.b (.one c)) => qload P H ty c K | _ => False)
def resAll (P : Program) (T : Tm) (H : Heap) : List ResultVar → (List BV → Prop) → Prop
  | [], K => K []
  | r :: l, K => resOne P T H r fun v => resAll P T H l fun vs => K (v :: vs)
def ResG (P : Program) (T : Tm) (H : Heap) (rs : List ResultVar) (K : TV → Prop) : Prop :=
  match rs with
  | [r] => resOne P T H r fun v => K (.b v)
  | rs => resAll P T H rs fun vs => K (.tup vs)

def resSem (a : Act) (r : ResultVar) : Sem Value :=
  match r with
  | .tmp t => pure (a.tmps.getD t undef)
  | .cell p t => do loadVar t (← asAddr (a.tmps.getD p undef))

theorem resOne_ok {C : Ctx} {T : Tm} {H : Heap} {r : ResultVar} {K : BV → Prop} (h : resOne C.P T H r K) {a : Act} {w : World} (ha : Fits C T a) (hw : Rep C H w) :
    ∃ v, K v ∧ v.wf ∧ (resSem a r).run C.P w = .ok v.val w := by
  cases r with
  | tmp t =>
    unfold resOne at h
    dsimp only at h
    split at h
    · rename_i v hv; exact ⟨v, h, ha.wf t _ hv, by simp only [resSem, Sem.run_pure]; rw [ha.tmps t _ hv]; rfl⟩
    · exact h.elim
  | cell p ty =>
    unfold resOne at h
    dsimp only at h
    split at h
    · rename_i c hc
      obtain ⟨v, hv, hvw, hr⟩ := qload_ok h hw.hwf
      refine ⟨v, hv, hvw, ?_⟩
      have hr := hr C w hw
      have e := ha.tmps p _ hc
      unfold qload at h
      split at h
      · simp only [Instr.loadAt, Instr.sureAddr, SC.val, Pt.value, Sem.run_bind, Sem.run_pure, Result.andThen_ok] at hr
        simp only [resSem, e, TV.val, BV.val, SC.val, Pt.value, asAddr, Sem.run_bind, Sem.run_pure, Result.andThen_ok]
        exact hr
      · exact h.elim
    · exact h.elim

theorem resAll_ok {C : Ctx} {T : Tm} {H : Heap} {a : Act} {w : World} (ha : Fits C T a) (hw : Rep C H w) : ∀ {l : List ResultVar} {K : List BV → Prop}, resAll C.P T H l K →
    ∃ vs, K vs ∧ bwf vs ∧ vs.length = l.length ∧ (l.mapM (resSem a)).run C.P w = .ok (vs.map BV.val) w := by
  intro l
  induction l with
  | nil => intro K h; exact ⟨[], h, trivial, rfl, rfl⟩
  | cons r l ih =>
    intro K h
    obtain ⟨v, hv, hvw, hr⟩ := resOne_ok h ha hw
    obtain ⟨vs, hvs, hvsw, hl, hrs⟩ := ih hv
    refine ⟨v :: vs, hvs, ⟨hvw, hvsw⟩, by simp [hl], ?_⟩
    rw [List.mapM_cons]
    simp only [Sem.run_bind, hr, Result.andThen_ok, hrs, Sem.run_pure, List.map_cons]

theorem results_sem (fn : Func) (a : Act) : results fn a.tmps = (do let vs ← fn.results.mapM (resSem a); pure (if h : vs.size = 1 then vs[0] else .tuple vs)) := rfl

theorem ResG_ok {C : Ctx} {T : Tm} {H : Heap} {fn : Func} {K : TV → Prop} {a : Act} {w : World} (h : ResG C.P T H fn.results.toList K) (ha : Fits C T a) (hw : Rep C H w) :
    ∃ v, K v ∧ v.wf ∧ (results fn a.tmps).run C.P w = .ok v.val w := by
  have e : fn.results = fn.results.toList.toArray := by simp
  unfold ResG at h
  split at h
  · rename_i r hr
    obtain ⟨v, hv, hvw, hrun⟩ := resOne_ok h ha hw
    refine ⟨_, hv, hvw, ?_⟩
    rw [results_sem, e, hr, List.mapM_toArray]
    simp only [List.mapM_cons, List.mapM_nil, Sem.run_bind, Sem.run_map, Sem.run_pure, Result.andThen_ok, hrun]
    simp [TV.val]
  · rename_i rs hne
    obtain ⟨vs, hvs, hvsw, hl, hrun⟩ := resAll_ok ha hw h
    refine ⟨_, hvs, hvsw, ?_⟩
    rw [results_sem, e, List.mapM_toArray]
    simp only [Sem.run_bind, Sem.run_map, hrun, Result.andThen_ok]
    have hne1 : (vs.map BV.val).toArray.size ≠ 1 := by
      simp only [List.size_toArray, List.length_map, hl]
      intro h1
      obtain ⟨r, hr⟩ := List.length_eq_one_iff.1 h1
      exact hne r hr
    rw [dif_neg hne1]
    rfl

/-- The frame of a call. -/
def frame : Nat → List TV → Tm
  | _, [] => []
  | n, v :: l => (n, v) :: frame (n + 1) l
theorem frame_get : ∀ (l : List TV) (n t : Nat) (v : TV), tget (frame n l) t = some v → n ≤ t ∧ l[t - n]? = some v := by
  intro l
  induction l with
  | nil => intro n t v h; cases h
  | cons u l ih =>
    intro n t v h
    unfold frame at h
    rw [tget_cons] at h
    split at h
    · rename_i e; subst e; cases h; simp
    · obtain ⟨h1, h2⟩ := ih (n + 1) t v h
      refine ⟨by omega, ?_⟩
      rw [show t - n = (t - (n + 1)) + 1 by omega]; simpa using h2

/-- Keys that come once. -/
def once : Heap → Bool
  | [] => true
  | (k, _, _) :: r => (match hget r k with | some _ => false | none => true) && once r

/-! ### Other names -/
def ren (l : List (Nat × Nat)) (k : Nat) : Nat :=
  match l with
  | [] => k
  | (a, b) :: r => match Nat.beq a k with | true => b | false => ren r k
def Pt.ren (l : List (Nat × Nat)) (p : Pt) : Pt := ⟨SY.ren l p.key, p.blk, p.off⟩
def SC.ren (l : List (Nat × Nat)) : SC → SC
  | .ptr ⟨k, b, o⟩ => .ptr ⟨SY.ren l k, b, o⟩
  | .lst k x => .lst (SY.ren l k) x
  | .part k x sz lo hi => .part (SY.ren l k) x sz lo hi
  | .sl k b base o sz len cap => .sl (SY.ren l k) b base o sz len cap
  | .mp k b => .mp (SY.ren l k) b
  | .ch k b => .ch (SY.ren l k) b
  | .fn f a c => .fn f (a.map (Pt.ren l)) (c.map (Pt.ren l))
  | c => c
theorem SC.ren_val (l : List (Nat × Nat)) (c : SC) : (c.ren l).val = c.val := by
  cases c <;> simp [SC.ren, SC.val, Pt.value, Pt.addr, Function.comp_def, Pt.ren]
def sren (l : List (Nat × Nat)) : List Sg → List Sg
  | [] => []
  | .c x :: r => .c (x.ren l) :: sren l r
  | .arr s n L :: r => .arr s n L :: sren l r
theorem sren_ok (l : List (Nat × Nat)) : ∀ r : List Sg, svals (sren l r) = svals r ∧ (swf (sren l r) ↔ swf r) ∧ slen (sren l r) = slen r := by
  intro r
  induction r with
  | nil => exact ⟨rfl, Iff.rfl, rfl⟩
  | cons g r ih =>
    obtain ⟨h1, h2, h3⟩ := ih
    cases g with
    | c x =>
      refine ⟨?_, ?_, ?_⟩
      · simp only [svals, sren, scs, Sg.cs, List.map_append, List.map_cons, List.map_nil, SC.ren_val] at h1 ⊢; rw [h1]
      · simp [sren, swf, Sg.wf, h2]
      · simp [sren, slen, Sg.len, h3]
    | arr s n L =>
      refine ⟨?_, ?_, ?_⟩
      · simp only [svals, sren, scs, List.map_append] at h1 ⊢; rw [h1]
      · simp [sren, swf, h2]
      · simp [sren, slen, h3]
def BV.ren (l : List (Nat × Nat)) : BV → BV
  | .one c => .one (c.ren l)
  | .agg a => .agg (sren l a)
theorem BV.ren_val (l : List (Nat × Nat)) (x : BV) : (x.ren l).val = x.val := by
  cases x <;> simp [BV.ren, BV.val, SC.ren_val, (sren_ok l _).1]
theorem BV.ren_wf (l : List (Nat × Nat)) (x : BV) : (x.ren l).wf ↔ x.wf := by
  cases x with
  | one c => exact ⟨fun _ => bone_wf c, fun _ => bone_wf _⟩
  | agg a => exact (sren_ok l a).2.1
def bren (l : List (Nat × Nat)) : List BV → List BV
  | [] => []
  | v :: r => v.ren l :: bren l r
theorem bren_ok (l : List (Nat × Nat)) : ∀ r, (bren l r).map BV.val = r.map BV.val ∧ (bwf (bren l r) ↔ bwf r) := by
  intro r
  induction r with
  | nil => exact ⟨rfl, Iff.rfl⟩
  | cons v r ih => exact ⟨by simp [bren, BV.ren_val, ih.1], by simp [bren, bwf, BV.ren_wf, ih.2]⟩
def TV.ren (l : List (Nat × Nat)) : TV → TV
  | .b x => .b (x.ren l)
  | .tup a => .tup (bren l a)
theorem TV.ren_val (l : List (Nat × Nat)) (x : TV) : (x.ren l).val = x.val := by
  cases x <;> simp [TV.ren, TV.val, BV.ren_val, (bren_ok l _).1]
theorem TV.ren_wf (l : List (Nat × Nat)) (x : TV) : (x.ren l).wf ↔ x.wf := by
  cases x with
  | b x => exact BV.ren_wf l x
  | tup a => exact (bren_ok l a).2
def aren (l : List (Nat × Nat)) : List TV → List TV
  | [] => []
  | v :: r => v.ren l :: aren l r
theorem aren_val (l : List (Nat × Nat)) : ∀ r, (aren l r).map TV.val = r.map TV.val := by
  intro r
  induction r with
  | nil => rfl
  | cons v r ih => simp [aren, TV.ren_val, ih]
def HB.ren (l : List (Nat × Nat)) : HB → HB
  | .var T c => .var T (sren l c)
  | .ro c => .ro (sren l c)
  | hb => hb
theorem HB.ren_is (l : List (Nat × Nat)) (x : HB) (w : World) (b : Nat) : (x.ren l).Is w b ↔ x.Is w b := by
  cases x <;> simp [HB.ren, HB.Is, (sren_ok l _).1, (sren_ok l _).2.1]
theorem HB.ren_rw (l : List (Nat × Nat)) (x : HB) : (x.ren l).isRw = x.isRw := by cases x <;> rfl
theorem HB.ren_occ (l : List (Nat × Nat)) (x : HB) : (x.ren l).occ ↔ x.occ := by cases x <;> rfl
def hren (l : List (Nat × Nat)) : Heap → Heap
  | [] => []
  | (k, b, hb) :: r => (SY.ren l k, b, hb.ren l) :: hren l r

theorem hren_get {l : List (Nat × Nat)} : ∀ {H : Heap}, once H = true → ∀ t b hb, hget (hren l H) t = some (b, hb) → ∃ k hb0, hget H k = some (b, hb0) ∧ hb = hb0.ren l ∧ t = SY.ren l k := by
  intro H
  induction H with
  | nil => intro _ t b hb h; cases h
  | cons e r ih =>
    obtain ⟨k, b0, hb0⟩ := e
    intro ho t b hb h
    simp only [once, Bool.and_eq_true] at ho
    unfold hren at h
    rw [hget_cons] at h
    split at h
    · rename_i e; cases h; exact ⟨k, hb0, by rw [hget_cons, if_pos rfl], rfl, e.symm⟩
    · obtain ⟨k', hb', h1, h2, h3⟩ := ih ho.2 t b hb h
      refine ⟨k', hb', ?_, h2, h3⟩
      rw [hget_cons]
      split
      · rename_i e; subst e
        have := ho.1
        rw [h1] at this; cases this
      · exact h1
theorem hren_put {l : List (Nat × Nat)} : ∀ {H : Heap}, once (hren l H) = true → ∀ k b hb, hget H k = some (b, hb) → hget (hren l H) (SY.ren l k) = some (b, hb.ren l) := by
  intro H
  induction H with
  | nil => intro _ k b hb h; cases h
  | cons e r ih =>
    obtain ⟨k0, b0, hb0⟩ := e
    intro ho k b hb h
    simp only [hren, once, Bool.and_eq_true] at ho
    rw [hget_cons] at h
    unfold hren
    rw [hget_cons]
    split at h
    · rename_i e; subst e; cases h; rw [if_pos rfl]
    · have := ih ho.2 k b hb h
      split
      · rename_i e
        have h1 := ho.1
        rw [e, this] at h1; cases h1
      · exact this
theorem hren_inj {l : List (Nat × Nat)} : ∀ {H : Heap}, once (hren l H) = true → ∀ k k' x x', hget H k = some x → hget H k' = some x' → SY.ren l k = SY.ren l k' → k = k' := by
  intro H
  induction H with
  | nil => intro _ k k' x x' h; cases h
  | cons e r ih =>
    obtain ⟨k0, b0, hb0⟩ := e
    intro ho k k' x x' h h' hkk
    simp only [hren, once, Bool.and_eq_true] at ho
    rw [hget_cons] at h h'
    split at h <;> split at h'
    · rename_i e1 e2; exact e1.symm.trans e2
    · rename_i e1 _
      obtain ⟨b', hb'⟩ := x'
      have h3 := hren_put ho.2 k' b' hb' h'
      have h1 := ho.1
      rw [e1, hkk, h3] at h1; cases h1
    · rename_i _ e1
      obtain ⟨b', hb'⟩ := x
      have h3 := hren_put ho.2 k b' hb' h
      have h1 := ho.1
      rw [e1, ← hkk, h3] at h1; cases h1
    · exact ih ho.2 k k' x x' h h' hkk
theorem Rep.ren {C : Ctx} {H : Heap} {w : World} (h : Rep C H w) (l : List (Nat × Nat)) (ho : once H = true) : Rep C (hren l H) w := by
  refine ⟨fun t b hb ht => ?_, fun t t' b b' hb hb' ht ht' hne hr o1 o2 => ?_, fun t b hb ht hr o1 => ?_, h.frm⟩
  · obtain ⟨k, hb0, h1, rfl, _⟩ := hren_get ho t b hb ht
    exact (HB.ren_is l hb0 w b).2 (h.is k b hb0 h1)
  · obtain ⟨k, hb0, h1, rfl, rfl⟩ := hren_get ho t b hb ht
    obtain ⟨k', hb0', h1', rfl, rfl⟩ := hren_get ho t' b' hb' ht'
    rw [HB.ren_rw] at hr
    rw [HB.ren_occ] at o1 o2
    exact h.apart k k' b b' hb0 hb0' h1 h1' (fun e => hne (by rw [e])) hr o1 o2
  · obtain ⟨k, hb0, h1, rfl, _⟩ := hren_get ho t b hb ht
    rw [HB.ren_rw] at hr
    rw [HB.ren_occ] at o1
    exact h.own k b hb0 h1 hr o1
theorem FG.ren {l : List (Nat × Nat)} {G : Heap} (h1 : once G = true) (h2 : once (hren l G) = true) (b : Nat) : FG (hren l G) b ↔ FG G b := by
  constructor
  · rintro ⟨t, hb, ht, hr, ho⟩
    obtain ⟨k, hb0, hk, rfl, _⟩ := hren_get h1 t b hb ht
    rw [HB.ren_rw] at hr
    rw [HB.ren_occ] at ho
    exact ⟨k, hb0, hk, hr, ho⟩
  · rintro ⟨k, hb, hk, hr, ho⟩
    exact ⟨_, _, hren_put h2 k b hb hk, by rw [HB.ren_rw]; exact hr, (HB.ren_occ l hb).2 ho⟩
/-- What memory holds is told by what its cells hold: the keys are names. -/
theorem Rep.back {C : Ctx} {H : Heap} {w : World} (l : List (Nat × Nat)) (h : Rep C (hren l H) w) (ho : once (hren l H) = true) : Rep C H w := by
  refine ⟨fun t b hb ht => ?_, fun t t' b b' hb hb' ht ht' hne hr o1 o2 => ?_, fun t b hb ht hr o1 => ?_, h.frm⟩
  · exact (HB.ren_is l hb w b).1 (h.is _ _ _ (hren_put ho t b hb ht))
  · exact h.apart _ _ b b' _ _ (hren_put ho t b hb ht) (hren_put ho t' b' hb' ht') (fun e => hne (hren_inj ho t t' _ _ ht ht' e)) (by rw [HB.ren_rw]; exact hr) ((HB.ren_occ l hb).2 o1) ((HB.ren_occ l hb').2 o2)
  · exact h.own _ _ _ (hren_put ho t b hb ht) (by rw [HB.ren_rw]; exact hr) ((HB.ren_occ l hb).2 o1)

/-! ### The end, and the contract -/
/-- What is known at the end is what the contract tells. -/
structure Fin {X : Type} (H : Heap) (I : X → Prop) (v : X → TV) (H' : X → Heap) (u : TV) : Prop where
  go : ∃ x, I x ∧ u.val = (v x).val ∧ (u.wf → (v x).wf) ∧ ∀ C w, Rep C H w → Rep C (H' x) w
theorem Fin.mk' {X : Type} {H : Heap} {I : X → Prop} {v : X → TV} {H' : X → Heap} {u : TV} (x : X) (hI : I x) (h : (v x).m u (hmatch H (H' x) True)) : Fin H I v H' u := by
  obtain ⟨e, hw, h⟩ := TV.m_ok h
  exact ⟨x, hI, e, hw, fun C w hr => hr.match (hmatch_ok h).2⟩
theorem Fin.ren {X : Type} {H : Heap} {I : X → Prop} {v : X → TV} {H' : X → Heap} {u : TV} (l : List (Nat × Nat)) (ks : List Nat) (x : X) (hI : I x)
    (h : pickH H ks fun H2 => once H2 = true ∧ (v x).m (u.ren l) (hmatch (hren l H2) (H' x) True)) : Fin H I v H' u := by
  obtain ⟨H2, ⟨ho, h⟩, hs⟩ := pickH_ok h
  obtain ⟨e, hw, h⟩ := TV.m_ok h
  rw [TV.ren_val] at e
  exact ⟨x, hI, e, fun hu => hw ((TV.ren_wf l u).2 hu), fun C w hr => ((hr.sub hs).ren l ho).match (hmatch_ok h).2⟩
/-- Nothing of memory is told. -/
theorem Fin.pure {H : Heap} {v u : TV} (h : v.m u True) : Fin H (fun _ : Unit => True) (fun _ => v) (fun _ => []) u := Fin.mk' () trivial (by
  obtain ⟨e, hw, _⟩ := TV.m_ok h
  exact h)

def endQ {X : Type} (P : Program) (rs : List ResultVar) (I : X → Prop) (v : X → TV) (H' : X → Heap) : Ex → Tm → Heap → Prop
  | .exit _, _, _ => False
  | _, T, H => ResG P T H rs fun u => Fin H I v H' u
def awf : List TV → Prop
  | [] => True
  | v :: l => v.wf ∧ awf l
theorem awf_of : ∀ {l : List TV}, (∀ v ∈ l, v.wf) → awf l
  | [], _ => trivial
  | v :: l, h => ⟨h v (List.mem_cons_self ..), awf_of fun u hu => h u (List.mem_cons_of_mem _ hu)⟩
def gwf : Heap → Prop
  | [] => True
  | (_, _, hb) :: r => hb.cwf ∧ gwf r
theorem gwf_of : ∀ {G : Heap}, once G = true → HWf G → gwf G
  | [], _, _ => trivial
  | (k, b, hb) :: r, ho, h => by
    simp only [once, Bool.and_eq_true] at ho
    refine ⟨h k b hb (by rw [hget_cons, if_pos rfl]), gwf_of ho.2 fun t c x ht => h t c x ?_⟩
    rw [hget_cons]
    split
    · rename_i e; subst e
      have := ho.1
      rw [ht] at this; cases this
    · exact ht

theorem Ctr.of {R : Pr} {f : FuncId} {fn : Func} {c : Code} {args : List TV} {G : Heap} {X : Type} {I : X → Prop} {v : X → TV} {H' : X → Heap} (hf : R.P.funcs[f]? = some fn) (hb : fn.body = some c)
    (hn : (fn.name == "runtime.NumGoroutine") = false) (hl : (Nat.ble args.length fn.ntmps && once G) = true)
    (h : awf args → gwf G → ∀ w0, sx (ctxOf R fn.ntmps G w0) c (frame 0 args) G (endQ R.P fn.results.toList I v H')) : Ctr R f args G I v H' := by
  rw [Bool.and_eq_true] at hl
  have hG := hl.2
  have hl := Nat.le_of_ble_eq_true hl.1
  refine ⟨⟨fn, hf, hn, by simp [hb]⟩, fun w hw hwf => ?_⟩
  refine calls_of_wp hf hb ?_
  have ha : Fits (ctxOf R fn.ntmps G w) (frame 0 args) { tmps := (args.map TV.val).toArray ++ Array.replicate (fn.ntmps - (args.map TV.val).toArray.size) undef, defers := [] } := by
    refine ⟨fun t v ht => ?_, fun t v ht => ?_, by simp; omega, rfl⟩
    · obtain ⟨_, h2⟩ := frame_get args 0 t v ht
      have hlt : t < args.length := by
        have := (List.getElem?_eq_some_iff.1 h2).1; omega
      have hv : args[t] = v := by
        have := (List.getElem?_eq_some_iff.1 h2).2; simpa using this
      simp only [Array.getD_eq_getD_getElem?]
      rw [Array.getElem?_append_left (by simpa using hlt)]
      simp [hlt, hv]
    · obtain ⟨_, h2⟩ := frame_get args 0 t v ht
      exact hwf v (List.mem_of_getElem? h2)
  refine wp_mono (sx_ok (h (awf_of hwf) (gwf_of hG hw.hwf) w) ha hw.ctx) fun e a' w' hh => ?_
  have fin : ∀ T' H1, Fits (ctxOf R fn.ntmps G w) T' a' → Rep (ctxOf R fn.ntmps G w) H1 w' → (ResG R.P T' H1 fn.results.toList fun u => Fin H1 I v H' u) →
      a'.defers = [] ∧ ∃ u, (results fn a'.tmps).run R.P w' = .ok u w' ∧ ∃ x, I x ∧ Ending.returned u = .returned (TV.val (v x)) ∧ (v x).wf ∧ Rep (ctxOf R 0 G w) (H' x) w' := by
    intro T' H1 ha' hw' hr
    obtain ⟨u, ⟨x, hI, e, hvw, hrep⟩, huw, hrun⟩ := ResG_ok (C := ctxOf R fn.ntmps G w) (fn := fn) hr ha' hw'
    exact ⟨ha'.defers, u.val, hrun, x, hI, by rw [e], hvw huw, (hrep _ _ hw').ctx⟩
  cases e with
  | normal => obtain ⟨T', H1, ha', hw', hr⟩ := hh; exact fin T' H1 ha' hw' hr
  | ret => obtain ⟨T', H1, ha', hw', hr⟩ := hh; exact fin T' H1 ha' hw' hr
  | exit i => obtain ⟨T', H1, _, _, hr⟩ := hh; exact hr.elim
  | goto l => exact hh.elim
  | panic ch => exact hh.elim
  | outgrown => exact hh.elim

/-! ### A call by its contract -/
def amatch : List TV → List TV → Prop → Prop
  | [], [], K => K
  | v :: l, u :: r, K => v.m u (amatch l r K)
  | _, _, _ => False
theorem amatch_ok : ∀ {l r : List TV} {K : Prop}, amatch l r K → K ∧ r.map TV.val = l.map TV.val ∧ ((∀ v ∈ r, v.wf) → ∀ v ∈ l, v.wf) := by
  intro l
  induction l with
  | nil => intro r K h; cases r with
    | nil => exact ⟨h, rfl, fun _ => by simp⟩
    | cons => exact h.elim
  | cons v l ih => intro r K h; cases r with
    | nil => exact h.elim
    | cons u r =>
      obtain ⟨e, hw, h⟩ := TV.m_ok (x := v) (y := u) h
      obtain ⟨hK, e2, hw2⟩ := ih h
      refine ⟨hK, by simp [e, e2], fun hh x hx => ?_⟩
      rcases List.mem_cons.1 hx with rfl | hx
      · exact hw (hh u (List.mem_cons_self ..))
      · exact hw2 (fun y hy => hh y (List.mem_cons_of_mem _ hy)) x hx
def rwKey (G : Heap) (k : Nat) : Bool :=
  match hget G k with
  | some (_, hb) => hb.isRw
  | none => false
/-- What is not the call's to write. -/
def others (G : Heap) : Heap → Heap
  | [] => []
  | (k, b, hb) :: r => (match rwKey G k with | true => others G r | false => (k, b, hb) :: others G r)
theorem others_get {G : Heap} : ∀ {H : Heap} {k : Nat} {x : Nat × HB}, hget (others G H) k = some x → rwKey G k = false ∧ hget H k = some x := by
  intro H
  induction H with
  | nil => intro k x h; cases h
  | cons e r ih =>
    obtain ⟨k0, b0, hb0⟩ := e
    intro k x h
    unfold others at h
    split at h
    · rename_i hr
      obtain ⟨h1, h2⟩ := ih h
      refine ⟨h1, ?_⟩
      rw [hget_cons]
      split
      · rename_i e; subst e; rw [hr] at h1; cases h1
      · exact h2
    · rename_i hr
      rw [hget_cons] at h
      split at h
      · rename_i e; subst e; cases h; exact ⟨hr, by rw [hget_cons, if_pos rfl]⟩
      · rename_i e
        obtain ⟨h1, h2⟩ := ih h
        exact ⟨h1, by rw [hget_cons, if_neg e]; exact h2⟩
theorem hget_app (A B : Heap) (k : Nat) : hget (appL A B) k = match hget A k with | some x => some x | none => hget B k := by
  induction A with
  | nil => rfl
  | cons e r ih =>
    obtain ⟨k0, b0, hb0⟩ := e
    show hget ((k0, b0, hb0) :: appL r B) k = _
    rw [hget_cons, hget_cons]
    split
    · rfl
    · exact ih

theorem match_rep {R : Pr} {C : Ctx} {H G : Heap} {w : World} (hs : ∀ k b hb, hget G k = some (b, hb) → EntOk H k b hb) (hw : Rep C H w) : Rep (ctxOf R 0 G w) G w := by
  have h := hw.match hs
  exact ⟨h.is, h.apart, fun k b hb hk hr ho => .inr ⟨k, hb, hk, hr, ho⟩, ⟨rfl, rfl, rfl, Nat.le_refl _, fun _ _ _ => rfl⟩⟩
def rwOnly : Heap → Heap
  | [] => []
  | (k, b, hb) :: r => (match hb.isRw with | true => (k, b, hb) :: rwOnly r | false => rwOnly r)
theorem rwOnly_get : ∀ {H : Heap} {k : Nat} {x : Nat × HB}, once H = true → hget (rwOnly H) k = some x → hget H k = some x ∧ x.2.isRw = true := by
  intro H
  induction H with
  | nil => intro k x _ h; cases h
  | cons e r ih =>
    obtain ⟨k0, b0, hb0⟩ := e
    intro k x ho h
    simp only [once, Bool.and_eq_true] at ho
    unfold rwOnly at h
    have later : hget (rwOnly r) k = some x → hget ((k0, b0, hb0) :: r) k = some x ∧ x.2.isRw = true := by
      intro h
      obtain ⟨h1, h2⟩ := ih ho.2 h
      refine ⟨?_, h2⟩
      rw [hget_cons]
      split
      · rename_i e; subst e
        have := ho.1
        rw [h1] at this; cases this
      · exact h1
    split at h
    · rename_i hr
      rw [hget_cons] at h
      split at h
      · rename_i e; subst e; cases h; exact ⟨by rw [hget_cons, if_pos rfl], hr⟩
      · exact later h
    · exact later h
/-- What is known behind a call. -/
def mergeG (G H' H : Heap) : Heap := appL (rwOnly H') (others G H)
theorem merge_rep {R : Pr} {C : Ctx} {H G H' : Heap} {w w' : World} (hs : ∀ k b hb, hget G k = some (b, hb) → EntOk H k b hb) (ho : once H' = true) (hw : Rep C H w) (hw' : Rep (ctxOf R 0 G w) H' w') :
    Rep C (mergeG G H' H) w' := by
  -- a block that may be written is one of the caller's own
  have frmF : ∀ b, FG G b → ∃ k x, hget H k = some (b, x) ∧ x.isRw = true ∧ x.occ ∧ rwKey G k = true := by
    rintro b ⟨k, hb, hk, hr, ho⟩
    rcases hs k b hb hk with ⟨hn, _⟩ | ⟨c, x, hg, hi, h2, h3⟩
    · exact (hn ho).elim
    · obtain ⟨p1, rfl⟩ := h3 w (hw.is _ _ _ hg) ho
      exact ⟨k, x, hg, h2 hr, p1, by unfold rwKey; rw [hk]; exact hr⟩
  have keep : ∀ k b hb, hget (others G H) k = some (b, hb) → hb.occ → ¬ FG G b := by
    intro k b hb hk ho hF
    obtain ⟨hn, hg⟩ := others_get hk
    obtain ⟨k2, x, hg2, hr2, ho2, hrk⟩ := frmF b hF
    have : k2 ≠ k := fun e => by subst e; rw [hrk] at hn; cases hn
    exact hw.apart k2 k b b x hb hg2 hg this hr2 ho2 ho rfl
  have get : ∀ k b hb, hget (mergeG G H' H) k = some (b, hb) → (hget H' k = some (b, hb) ∧ hb.isRw = true) ∨ hget (others G H) k = some (b, hb) := by
    intro k b hb h
    unfold mergeG at h
    rw [hget_app] at h
    split at h
    · rename_i e; cases h; exact .inl (rwOnly_get ho e)
    · exact .inr h
  have mixed : ∀ k k' b b' hb hb', hget H' k = some (b, hb) → hb.isRw = true → hb.occ → hget (others G H) k' = some (b', hb') → hb'.occ → b ≠ b' := by
    intro k k' b b' hb hb' h1 hr ho h2 ho2 e
    subst e
    have hlt := (hw.is _ _ _ (others_get h2).2).lt ho2
    rcases hw'.own k b hb h1 hr ho with h | h
    · simp only at h; omega
    · exact keep k' b hb' h2 ho2 h
  refine ⟨fun k b hb hk => ?_, fun k k' b b' hb hb' hk hk' hne hr o1 o2 => ?_, fun k b hb hk hr o1 => ?_, ?_⟩
  · rcases get k b hb hk with ⟨h, _⟩ | h
    · exact hw'.is _ _ _ h
    · have hi := hw.is _ _ _ (others_get h).2
      exact hi.of_block hw'.frm.size fun hocc => hw'.frm.block b (hi.lt hocc) (keep k b hb h hocc)
  · rcases get k b hb hk with ⟨h1, r1⟩ | h1 <;> rcases get k' b' hb' hk' with ⟨h2, r2⟩ | h2
    · exact hw'.apart k k' b b' hb hb' h1 h2 hne hr o1 o2
    · exact mixed k k' b b' hb hb' h1 hr o1 h2 o2
    · exact (mixed k' k b' b hb' hb h2 r2 o2 h1 o1).symm
    · exact hw.apart k k' b b' hb hb' (others_get h1).2 (others_get h2).2 hne hr o1 o2
  · rcases get k b hb hk with ⟨h, _⟩ | h
    · rcases hw'.own k b hb h hr o1 with h | h
      · simp only at h; exact .inl (Nat.le_trans hw.frm.size h)
      · obtain ⟨k2, x, hg, hr2, ho2, _⟩ := frmF b h
        exact hw.own k2 b x hg hr2 ho2
    · exact hw.own k b hb (others_get h).2 hr o1
  · refine ⟨hw'.frm.os.trans hw.frm.os, hw'.frm.tape.trans hw.frm.tape, hw'.frm.output.trans hw.frm.output, Nat.le_trans hw.frm.size hw'.frm.size, fun b hlt hF => ?_⟩
    have hlt2 : b < w.heap.size := Nat.lt_of_lt_of_le hlt hw.frm.size
    refine (hw'.frm.block b hlt2 fun hG => ?_).trans (hw.frm.block b hlt hF)
    obtain ⟨k2, x, hg, hr2, ho2, _⟩ := frmF b hG
    rcases hw.own k2 b x hg hr2 ho2 with h | h
    · omega
    · exact hF h

theorem aren_wf {l : List (Nat × Nat)} {r : List TV} (h : ∀ v ∈ aren l r, v.wf) : ∀ v ∈ r, v.wf := by
  induction r with
  | nil => intro v hv; cases hv
  | cons u r ih =>
    intro v hv
    rcases List.mem_cons.1 hv with rfl | hv
    · exact (TV.ren_wf l _).1 (h _ (List.mem_cons_self ..))
    · exact ih (fun x hx => h x (List.mem_cons_of_mem _ hx)) v hv
/-- The call rule: the contract's keys by 'l' the caller's. -/
theorem CallG.use {C : Ctx} {f : FuncId} {args : List TV} {T : Tm} {H : Heap} {K : TV → Heap → Prop} {args' : List TV} {G : Heap} {X : Type} {I : X → Prop} {v : X → TV} {H' : X → Heap} (l : List (Nat × Nat))
    (hs : Ctr C.R f args' G I v H') (ho : (once G && once (hren l G)) = true)
    (h : amatch (aren l args') args (hmatch H (hren l G) (∀ x, I x → (once (H' x) && once (hren l (H' x))) = true ∧ K ((v x).ren l) (mergeG (hren l G) (hren l (H' x)) H)))) : CallG C f args T H K := by
  rw [Bool.and_eq_true] at ho
  obtain ⟨h, hv, hwf⟩ := amatch_ok h
  obtain ⟨h, he⟩ := hmatch_ok h
  refine ⟨hs.fn, fun a w ha hw hargs => ?_⟩
  have hg : Rep (ctxOf C.R 0 (hren l G) w) (hren l G) w := match_rep he hw
  have hg' : Rep (ctxOf C.R 0 G w) G w := (hg.back l ho.2).frame (FG.ren ho.1 ho.2)
  have hw2 : ∀ v ∈ args', v.wf := fun v hv => (TV.ren_wf l v).1 (hwf hargs _ (by
    have : ∀ {r : List TV}, v ∈ r → v.ren l ∈ aren l r := by
      intro r
      induction r with
      | nil => intro h; cases h
      | cons u r ih =>
        intro h
        rcases List.mem_cons.1 h with rfl | h
        · exact List.mem_cons_self ..
        · exact List.mem_cons_of_mem _ (ih h)
    exact this hv))
  rw [aren_val] at hv
  rw [hv]
  refine (hs.go w hg' hw2).mono ?_
  rintro e w' ⟨x, hI, he', hvw, hw'⟩
  obtain ⟨ho2, hK⟩ := h x hI
  rw [Bool.and_eq_true] at ho2
  have hw3 : Rep (ctxOf C.R 0 (hren l G) w) (hren l (H' x)) w' := (hw'.ren l ho2.1).frame fun b => (FG.ren ho.1 ho.2 b).symm
  exact ⟨(v x).ren l, _, by rw [he', TV.ren_val], (TV.ren_wf l _).2 hvw, merge_rep he ho2.2 hw hw3, hK⟩
/-- The same, where the arguments are the contract's as they stand. -/
theorem CallG.eq {C : Ctx} {f : FuncId} {args : List TV} {T : Tm} {H : Heap} {K : TV → Heap → Prop} {args' : List TV} {G : Heap} {X : Type} {I : X → Prop} {v : X → TV} {H' : X → Heap} (l : List (Nat × Nat))
    (hs : Ctr C.R f args' G I v H') (ha : aren l args' = args) (ho : (once G && once (hren l G)) = true)
    (h : hmatch H (hren l G) (∀ x, I x → (once (H' x) && once (hren l (H' x))) = true ∧ K ((v x).ren l) (mergeG (hren l G) (hren l (H' x)) H))) : CallG C f args T H K := by
  subst ha
  rw [Bool.and_eq_true] at ho
  obtain ⟨h, he⟩ := hmatch_ok h
  refine ⟨hs.fn, fun a w ha hw hargs => ?_⟩
  have hg : Rep (ctxOf C.R 0 (hren l G) w) (hren l G) w := match_rep he hw
  have hg' : Rep (ctxOf C.R 0 G w) G w := (hg.back l ho.2).frame (FG.ren ho.1 ho.2)
  have hw2 : ∀ v ∈ args', v.wf := fun v hv => (TV.ren_wf l v).1 (hargs _ (by
    have : ∀ {r : List TV}, v ∈ r → v.ren l ∈ aren l r := by
      intro r
      induction r with
      | nil => intro h; cases h
      | cons u r ih =>
        intro h
        rcases List.mem_cons.1 h with rfl | h
        · exact List.mem_cons_self ..
        · exact List.mem_cons_of_mem _ (ih h)
    exact this hv))
  rw [aren_val]
  refine (hs.go w hg' hw2).mono ?_
  rintro e w' ⟨x, hI, he', hvw, hw'⟩
  obtain ⟨ho2, hK⟩ := h x hI
  rw [Bool.and_eq_true] at ho2
  have hw3 : Rep (ctxOf C.R 0 (hren l G) w) (hren l (H' x)) w' := (hw'.ren l ho2.1).frame fun b => (FG.ren ho.1 ho.2 b).symm
  exact ⟨(v x).ren l, _, by rw [he', TV.ren_val], (TV.ren_wf l _).2 hvw, merge_rep he ho2.2 hw hw3, hK⟩
/-- One answer. -/
theorem CallG.one {C : Ctx} {f : FuncId} {args : List TV} {T : Tm} {H : Heap} {K : TV → Heap → Prop} {args' : List TV} {G : Heap} {v : TV} {H' : Heap} (l : List (Nat × Nat))
    (hs : CtrU C.R f args' G v H') (ha : aren l args' = args) (ho : (once G && once (hren l G) && (once H' && once (hren l H'))) = true)
    (h : hmatch H (hren l G) (K (v.ren l) (mergeG (hren l G) (hren l H') H))) : CallG C f args T H K := by
  subst ha
  simp only [Bool.and_eq_true] at ho
  obtain ⟨⟨ho1, ho2⟩, ho3, ho4⟩ := ho
  obtain ⟨h, he⟩ := hmatch_ok h
  refine ⟨hs.fn, fun a w ha hw hargs => ?_⟩
  have hg : Rep (ctxOf C.R 0 (hren l G) w) (hren l G) w := match_rep he hw
  have hg' : Rep (ctxOf C.R 0 G w) G w := (hg.back l ho2).frame (FG.ren ho1 ho2)
  rw [aren_val]
  refine (hs.go w hg' (aren_wf hargs)).mono ?_
  rintro e w' ⟨x, _, he', hvw, hw'⟩
  have hw3 : Rep (ctxOf C.R 0 (hren l G) w) (hren l H') w' := (hw'.ren l ho3).frame fun b => (FG.ren ho1 ho2 b).symm
  exact ⟨v.ren l, _, by rw [he', TV.ren_val], (TV.ren_wf l _).2 hvw, merge_rep he ho4 hw hw3, h⟩
def rwNone : Heap → Bool
  | [] => true
  | (_, _, hb) :: r => !hb.isRw && rwNone r
theorem rwNone_ok : ∀ {G : Heap}, rwNone G = true → ∀ k b hb, hget G k = some (b, hb) → hb.isRw = false := by
  intro G
  induction G with
  | nil => intro _ k b hb h; cases h
  | cons e r ih =>
    obtain ⟨k0, b0, hb0⟩ := e
    intro h k b hb hk
    simp only [rwNone, Bool.and_eq_true, Bool.not_eq_true'] at h
    rw [hget_cons] at hk
    split at hk
    · cases hk; exact h.1
    · exact ih h.2 k b hb hk
/-- The same for a call that writes nothing that is known, and has one answer. -/
theorem CallQ.use {C : Ctx} {f : FuncId} {args : List TV} {T : Tm} {H : Heap} {K : TV → Prop} {args' : List TV} {G : Heap} {v : TV} (l : List (Nat × Nat))
    (hs : CtrP C.R f args' G v) (ho : (once G && once (hren l G) && rwNone G) = true) (hvw : v.wf)
    (h : amatch (aren l args') args (hmatch H (hren l G) (K v))) : CallQ C f args T H K := by
  simp only [Bool.and_eq_true] at ho
  obtain ⟨ho, hro⟩ := ho
  obtain ⟨h, hv, hwf⟩ := amatch_ok h
  obtain ⟨h, he⟩ := hmatch_ok h
  refine ⟨hs.fn, fun hargs => ?_⟩
  have hw2 : ∀ v ∈ args', v.wf := fun v hv => (TV.ren_wf l v).1 (hwf hargs _ (by
    have : ∀ {r : List TV}, v ∈ r → v.ren l ∈ aren l r := by
      intro r
      induction r with
      | nil => intro h; cases h
      | cons u r ih =>
        intro h
        rcases List.mem_cons.1 h with rfl | h
        · exact List.mem_cons_self ..
        · exact List.mem_cons_of_mem _ (ih h)
    exact this hv))
  rw [aren_val] at hv
  have hF : ∀ b, ¬ FG G b := by
    rintro b ⟨k, hb, hk, hr, _⟩
    rw [rwNone_ok hro k b hb hk] at hr; cases hr
  refine ⟨v, h, hvw, fun w hw => ?_⟩
  rw [hv]
  have hg : Rep (ctxOf C.R 0 (hren l G) w) (hren l G) w := match_rep he hw
  have hg' : Rep (ctxOf C.R 0 G w) G w := (hg.back l ho.2).frame (FG.ren ho.1 ho.2)
  refine (hs.go w hg' hw2).mono ?_
  rintro e w' ⟨x, _, he', _, hw'⟩
  exact ⟨he', hw.move hw'.frm.os hw'.frm.tape hw'.frm.output hw'.frm.size fun b hb => hw'.frm.block b hb (hF b)⟩

/-- The same, where the arguments are the contract's as they stand. -/
theorem CallQ.eq {C : Ctx} {f : FuncId} {args : List TV} {T : Tm} {H : Heap} {K : TV → Prop} {args' : List TV} {G : Heap} {v : TV} (l : List (Nat × Nat))
    (hs : CtrP C.R f args' G v) (ha : aren l args' = args) (ho : (once G && once (hren l G) && rwNone G) = true) (hvw : v.wf)
    (h : hmatch H (hren l G) (K v)) : CallQ C f args T H K := by
  subst ha
  simp only [Bool.and_eq_true] at ho
  obtain ⟨ho, hro⟩ := ho
  obtain ⟨h, he⟩ := hmatch_ok h
  refine ⟨hs.fn, fun hargs => ?_⟩
  have hF : ∀ b, ¬ FG G b := by
    rintro b ⟨k, hb, hk, hr, _⟩
    rw [rwNone_ok hro k b hb hk] at hr; cases hr
  refine ⟨v, h, hvw, fun w hw => ?_⟩
  rw [aren_val]
  have hg : Rep (ctxOf C.R 0 (hren l G) w) (hren l G) w := match_rep he hw
  have hg' : Rep (ctxOf C.R 0 G w) G w := (hg.back l ho.2).frame (FG.ren ho.1 ho.2)
  refine (hs.go w hg' (aren_wf hargs)).mono ?_
  rintro e w' ⟨x, _, he', _, hw'⟩
  exact ⟨he', hw.move hw'.frm.os hw'.frm.tape hw'.frm.output hw'.frm.size fun b hb => hw'.frm.block b hb (hF b)⟩

/-- A law: nothing that was there is written. -/
theorem Ctr.law {R : Pr} {f : FuncId} {args : List TV} {G : Heap} {v : TV} (h : CtrP R f args G v) (ho : (once G && rwNone G) = true) (hargs : ∀ v ∈ args, v.wf)
    {w : World} (hw : ∀ k b hb, hget G k = some (b, hb) → hb.Is w b) :
    Calls R.P f (args.map TV.val).toArray w fun e w' => e = .returned v.val ∧ RowKit.Below w.heap.size w w' := by
  rw [Bool.and_eq_true] at ho
  have hF : ∀ b, ¬ FG G b := by
    rintro b ⟨k, hb, hk, hr, _⟩
    rw [rwNone_ok ho.2 k b hb hk] at hr; cases hr
  have hrep : Rep (ctxOf R 0 G w) G w := ⟨hw, fun k k' b b' hb hb' hk _ _ hr o1 => (hF b ⟨k, hb, hk, hr, o1⟩).elim, fun k b hb hk hr o1 => (hF b ⟨k, hb, hk, hr, o1⟩).elim, ⟨rfl, rfl, rfl, Nat.le_refl _, fun _ _ _ => rfl⟩⟩
  refine (h.go w hrep hargs).mono ?_
  rintro e w' ⟨x, _, he, _, hw'⟩
  exact ⟨he, hw'.frm.os, hw'.frm.tape, hw'.frm.output, hw'.frm.size, fun b hb => hw'.frm.block b hb (hF b)⟩
/-- A contract told of other values that are the same, or of less. -/
theorem Ctr.mono {R : Pr} {f : FuncId} {args : List TV} {G : Heap} {X Y : Type} {I : X → Prop} {v : X → TV} {H' : X → Heap} {J : Y → Prop} {u : Y → TV} {H2 : Y → Heap} (h : Ctr R f args G I v H')
    (hp : ∀ x, I x → ∃ y, J y ∧ u y = v x ∧ H2 y = H' x) : Ctr R f args G J u H2 :=
  ⟨h.fn, fun w hw ha => (h.go w hw ha).mono fun e w' ⟨x, hx, he, hv, hr⟩ => by
    obtain ⟨y, hy, e1, e2⟩ := hp x hx
    exact ⟨y, hy, by rw [he, e1], by rw [e1]; exact hv, by rw [e2]; exact hr⟩⟩
end Go.SY

/- A region that draws its order: first operations that only look or call quietly, in whatever order; then a chain. -/
set_option linter.unusedSimpArgs false
set_option linter.unusedVariables false
namespace Go.SY
variable {P : Program} {ops : Array Oper} {Cl : World → Prop}

/-- The head in whatever order: each operation quiet in the class, none of the tail ready before it is done. -/
def hd (P : Program) (ops : Array Oper) (Cl : World → Prop) (n : Nat) (L : Array Bool → Act → Prop) : Nat → Array Bool → Act → Prop
  | 0, listed, a => L listed a
  | f + 1, listed, a => Region.ready .any ops listed ≠ [] ∧ ∀ i ∈ Region.ready .any ops listed, i < n ∧ qOp P ops Cl i (hd P ops Cl n L f (listed.setIfInBounds i true)) a

theorem any_of_hd {n g : Nat} {L : Array Bool → Act → Prop} {Q : Exit → Act → World → Prop} (hL : ∀ listed a w, Cl w → L listed a → wpAny P .any ops Q g listed a w) :
    ∀ (f : Nat) (listed : Array Bool) (a : Act) (w : World), Cl w → hd P ops Cl n L f listed a → wpAny P .any ops Q (f + g) listed a w := by
  intro f
  induction f with
  | zero => intro listed a w hw h; rw [Nat.zero_add]; exact hL _ _ _ hw h
  | succ f ih =>
    intro listed a w hw h
    rw [show f + 1 + g = (f + g) + 1 by omega]
    exact ⟨fun h0 => absurd h0 h.1, fun i hi => wpOp_of_qOp hw (fun a' w' hw' h' => ih _ a' w' hw' h') (h.2 i hi).2⟩

theorem hd_first {n i : Nat} {oi : Oper} {v : Value} {L : Array Bool → Act → Prop} (hi : ops[i]? = some oi) (hsel : ∀ (j : Nat) (o : Oper) cs b, ops[j]? = some o → o.op ≠ .select cs b)
    (hs : Region.sinkB .any ops n = true) (hc : Region.chainB .any ops n = true) (hn : n < ops.size) (hin : i < n)
    (hdone : ∀ listed a, L listed a → ∀ j ∈ Region.ready .any ops listed, n ≤ j) :
    ∀ (f : Nat) (listed : Array Bool) (a : Act), HeadInv .any ops n listed →
      (∀ j oj, ops[j]? = some oj → j ≠ i → listed.getD j true = false → (∀ e ∈ oj.after, Region.binds .any e = true → e.on ≠ i) → oi.apart ops oj = true) →
      i ∈ Region.ready .any ops listed → YieldsIn P ops Cl oi v a →
      hd P ops Cl n L f (listed.setIfInBounds i true) (a.put oi.dst v) → hd P ops Cl n L (f + 1) listed a := by
  intro f
  induction f with
  | zero =>
    intro listed a inv _ hr hy H
    have hun := (mem_ready.1 hr).1
    refine ⟨fun h => (by rw [h] at hr; cases hr), fun j hj => ?_⟩
    have hjn : j < n := by
      rcases Nat.lt_or_ge j n with h | h
      · exact h
      · exact absurd hj (tail_waits hs hc hn inv _ i rfl hin hun j h)
    refine ⟨hjn, ?_⟩
    by_cases hji : j = i
    · subst hji; exact hy.qOp hi H
    · have := hdone _ _ H j (ready_mono hj hji)
      omega
  | succ f ih =>
    intro listed a inv hfree hr hy H
    have hun := (mem_ready.1 hr).1
    refine ⟨fun h => (by rw [h] at hr; cases hr), fun j hj => ?_⟩
    have hjn : j < n := by
      rcases Nat.lt_or_ge j n with h | h
      · exact h
      · exact absurd hj (tail_waits hs hc hn inv _ i rfl hin hun j h)
    refine ⟨hjn, ?_⟩
    by_cases hji : j = i
    · subst hji; exact hy.qOp hi H
    · have h1 := (H.2 j (ready_mono hj hji)).2
      obtain ⟨hjun, oj, hoj, hall⟩ := mem_ready.1 hj
      have hnot : ∀ e ∈ oj.after, Region.binds .any e = true → e.on ≠ i := fun e he hb heq => by
        have h1 := hall e he hb
        rw [heq, getD_both hun] at h1
        cases h1
      have h2 := qOp_put hoj (hfree j oj hoj hji hjun hnot) (fun cs b => hsel i oi cs b hi) (fun cs b => hsel j oj cs b hoj) hy h1
      have hfree' : ∀ k ok, ops[k]? = some ok → k ≠ i → (listed.setIfInBounds j true).getD k true = false →
          (∀ e ∈ ok.after, Region.binds .any e = true → e.on ≠ i) → oi.apart ops ok = true := fun k ok hk hki hun hno => by
        refine hfree k ok hk hki ?_ hno
        by_cases hjk : j = k
        · subst hjk; exact hjun
        · rw [getD_set_ne true hjk] at hun; exact hun
      refine qOp_mono (fun a' h3 => ih (listed.setIfInBounds j true) a' (inv.set hj hjn) hfree' (ready_mono hr (Ne.symm hji)) h3.1 ?_) h2
      rw [Array.setIfInBounds_comm _ _ hji]
      exact h3.2

theorem hd_lex {n g : Nat} {Lq : Act → Prop} (hsel : Region.noSelect ops = true) (hs : Region.sinkB .any ops n = true) (hc : Region.chainB .any ops n = true) (hn : n < ops.size) :
    ∀ (l : List Oper) (k : Nat) (listed : Array Bool) (a : Act), (∀ j, j < l.length → l[j]? = ops[k + j]?) → k + l.length = n → HeadInv .any ops n listed →
    Region.lexHead .any ops g l.length k listed = true → wpQuiet P ops Cl Lq l a →
    hd P ops Cl n (fun listed' a' => Region.seqB .any ops g n listed' = true ∧ Lq a') l.length listed a := by
  intro l
  induction l with
  | nil =>
    intro k listed a _ hk inv hB h
    have : k = n := by simpa using hk
    subst this
    exact ⟨by simpa [Region.lexHead] using hB, h⟩
  | cons o l ih =>
    intro k listed a hl hk inv hB h
    have h0 : ops[k]? = some o := by simpa using (hl 0 (by simp)).symm
    simp only [List.length_cons, Region.lexHead, Bool.and_eq_true] at hB
    obtain ⟨⟨hr, hf⟩, hB'⟩ := hB
    have hkn : k < n := by simp only [List.length_cons] at hk; omega
    have hr' : k ∈ Region.ready .any ops listed := by simpa using hr
    have hst : qOp P ops Cl k (wpQuiet P ops Cl Lq l) a := by unfold qOp; simp only [h0]; exact h
    obtain ⟨v, hy, hK⟩ := yieldsIn_of_qOp h0 hst
    exact hd_first h0 (Region.noSelect_spec hsel) hs hc hn hkn (fun listed' a' hL => seqB_ready hL.1) l.length listed a inv (Region.free_spec h0 hf) hr' hy
      (ih (k + 1) _ _ (fun j hj => by have := hl (j + 1) (by simp; omega); simpa [Nat.add_assoc, Nat.add_comm 1 j] using this) (by simp only [List.length_cons] at hk; omega) (inv.set hr' hkn) hB' hK)

/-- The first n operations only look, or call quietly; the others come in the text's order. -/
theorem Draw.tailQ {C : Ctx} {id : Nat} {ops : List Oper} {T : Tm} {H : Heap} {Q : Ex → Tm → Heap → Prop} (n : Nat) (hm : C.P.follows .mixedOrders = true) (hB : Region.lexTailB .any ops.toArray n = true)
    (h : sxQ C ops (ops.take n) T H fun T' => sxOps C ops (ops.drop n) T' H (Q .normal)) : Draw C id ops T H Q := by
  refine ⟨fun a w ha hw => ?_⟩
  simp only [Region.lexTailB, Bool.and_eq_true, decide_eq_true_eq] at hB
  obtain ⟨⟨⟨⟨hsel, hn⟩, hs⟩, hc⟩, hlex⟩ := hB
  have hn' : n < ops.length := by simpa using hn
  have htl : (ops.take n).length = n := by simp; omega
  have hdl : (ops.drop n).length = ops.toArray.size - n := by simp
  have inv0 : HeadInv .any ops.toArray n (Array.replicate ops.toArray.size false) :=
    ⟨by simp, fun j oj _ hl => (by rw [getD_replicate_false] at hl; cases hl), fun t _ ht => getD_in (by simpa using ht) (getD_replicate_false _ _)⟩
  have hq := sxQ_ok hw h ha
  have Hh := hd_lex (P := C.P) (Cl := Rep C H) (g := ops.toArray.size - n) hsel hs hc hn (ops.take n) 0 _ a (fun j hj => by
    have hj' : j < n := by rw [htl] at hj; exact hj
    simp [hj']) (by simpa using htl) inv0 (by rw [htl]; exact hlex) hq
  refine wp_region_any hm ?_
  have := any_of_hd (Q := QK C Q) (g := ops.toArray.size - n) (fun listed a' w' hw' hL => by
    obtain ⟨hseq, T', ha', hK⟩ := hL
    have := wpAny_of_seq (md := .any) (Q' := QK C Q) (ops.drop n) n listed a' w' (fun j => by simp [List.getElem?_drop]) (by rw [hdl]; exact hseq) (sxOps_ok hK (fun a w hh => hh) ha' hw')
    rwa [hdl] at this) _ _ _ _ (hw.drew (w.drawn + 1)) Hh
  rw [htl, show n + (ops.toArray.size - n) = ops.toArray.size by omega] at this
  exact this

def tren (l : List (Nat × Nat)) : Tm → Tm
  | [] => []
  | (t, v) :: r => (t, v.ren l) :: tren l r
theorem tren_get (l : List (Nat × Nat)) : ∀ (T : Tm) (t : Nat) (v : TV), tget (tren l T) t = some v → ∃ u, tget T t = some u ∧ v = u.ren l := by
  intro T
  induction T with
  | nil => intro t v h; cases h
  | cons e r ih =>
    obtain ⟨k, u⟩ := e
    intro t v h
    unfold tren at h
    rw [tget_cons] at h
    rw [tget_cons]
    split at h
    · rename_i e; rw [if_pos e]; cases h; exact ⟨u, rfl, rfl⟩
    · rename_i e; rw [if_neg e]; exact ih t v h

/-! ### Orders, step by step -/
/-- In which order the operations are gone through: one that looks at no memory may be taken first; else all that may come now. -/
inductive Sched where
  | done
  | one (i : Nat) (s : Sched)
  | fin
  | alt (i : Nat) (s rest : Sched)

def isStr (P : Program) (t : TypeId) : Bool := match P.underlying t with | some .string => true | _ => false
theorem isStr_ok {P : Program} {t : TypeId} (h : isStr P t = true) : P.underlying t = some .string := by
  unfold isStr at h
  split at h
  · assumption
  · cases h
/-- Does an operation look at no memory at all? -/
def isPure (P : Program) (o : Oper) : Bool :=
  match o.op with
  | .move _ | .assign _ | .pick .. | .nilCheck _ | .binOp .. | .unOp .. | .makeFunc .. | .fieldAddr .. | .field .. | .index .. | .extract .. | .build .. => true
  | .convert s d _ => (match P.underlying s, P.underlying d with | some (.int _), some (.int _) => true | some .string, some .string => true | _, _ => false)
  | .slice t _ _ _ _ => isStr P t
  | .call c => (match c.callee, c.argTypes.toList with | .builtin .len, [t] => isStr P t | .builtin .max, _ => true | .builtin .min, _ => true | _, _ => false)
  | _ => false

def altIdx : Sched → List Nat
  | .alt i _ r => i :: altIdx r
  | _ => []
def depth : Sched → Nat
  | .done => 0
  | .one _ s => depth s + 1
  | .fin => 0
  | .alt _ s r => max (depth s + 1) (depth r)
/-- Are just these the orders? -/
def schedOk (P : Program) (ops : Array Oper) : Bool → Sched → Array Bool → Bool
  | _, .done, listed => (Region.ready .any ops listed).isEmpty
  | _, .one i s, listed => (Region.ready .any ops listed).contains i && Region.free .any ops listed i && ((ops[i]?).map (isPure P)).getD false && schedOk P ops true s (listed.setIfInBounds i true)
  | top, .fin, _ => !top
  | top, .alt i s r, listed => (!top || i :: altIdx r == Region.ready .any ops listed) && schedOk P ops true s (listed.setIfInBounds i true) && schedOk P ops false r listed

def step1 (C : Ctx) (all : List Oper) (i : Nat) (T : Tm) (H : Heap) (K : Tm → Heap → Prop) : Prop :=
  match lget all i with
  | some o => sxGuard all T o (sxOp C T H o K) (skipK C.N o.dst T H K)
  | none => False
def sxSched (C : Ctx) (all : List Oper) : Sched → Tm → Heap → (Tm → Heap → Prop) → Prop
  | .done, T, H, K => K T H
  | .one i s, T, H, K => step1 C all i T H fun T' H' => sxSched C all s T' H' K
  | .fin, _, _, _ => True
  | .alt i s r, T, H, K => (step1 C all i T H fun T' H' => sxSched C all s T' H' K) ∧ sxSched C all r T H K

theorem qop_pure {P : Program} {T : Tm} {H : Heap} {o : Oper} {K : TV → Prop} (hp : isPure P o = true) (h : qop P T H o K) : qop P T [] o K := by
  unfold isPure at hp
  unfold qop at h ⊢
  cases ho : o.op with
  | load t x => rw [ho] at hp; cases hp
  | indexAddr t x i => rw [ho] at hp; cases hp
  | convert s d x =>
    rw [ho] at hp
    simp only [ho] at h ⊢
    split at h
    · rename_i c hc
      unfold qconv at h ⊢
      split at h
      · exact h
      · exact h
      · rename_i e hs hd; simp only [hs, hd] at hp; cases hp
      · exact h
    · exact h
  | slice t x lo hi m =>
    rw [ho] at hp
    simp only [ho] at h ⊢
    have hu : P.underlying t = some .string := isStr_ok hp
    cases m with
    | some m => exact h
    | none =>
      dsimp only at h ⊢
      split at h
      · rename_i c l h' hc hl hh
        unfold qslice at h ⊢
        rw [hu] at h ⊢
        revert h
        cases c <;> exact id
      · exact h
  | call c =>
    rw [ho] at hp
    simp only [ho] at h ⊢
    split at h
    · rename_i x t hc hx ht
      dsimp only at hp
      rw [hc, ht] at hp
      have hu : P.underlying t = some .string := isStr_ok hp
      split at h
      · rename_i v hv
        unfold qlen at h ⊢
        rw [hu] at h ⊢
        revert h
        cases v with
        | one c => cases c <;> exact id
        | agg l => exact id
      · exact h
    · exact h
    · exact h
    · exact h
  | _ => first | (rw [ho] at hp; cases hp; done) | (simp only [ho] at h ⊢; exact h)

theorem isPure_isQ {P : Program} {o : Oper} (h : isPure P o = true) : isQ P o = true := by
  unfold isPure at h
  unfold isQ
  cases ho : o.op with
  | convert s d x =>
    rw [ho] at h
    dsimp only at h ⊢
    revert h
    cases P.underlying s with
    | none => intro h; cases h
    | some a => cases P.underlying d with
      | none => intro h; cases a <;> cases h
      | some b => cases a <;> cases b <;> intro h <;> first | rfl | cases h
  | call c =>
    rw [ho] at h
    dsimp only at h ⊢
    split at h
    · rename_i hc _; rw [hc]
    · rename_i hc; rw [hc]
    · rename_i hc; rw [hc]
    · cases h
  | _ => first | rfl | (rw [ho] at h; cases h)

theorem QK_panic {C : Ctx} {Q : Ex → Tm → Heap → Prop} (c : List PanicEntry) (a a' : Act) (w : World) : QK C Q (.panic c) a w → QK C Q (.panic c) a' w := fun h => h.elim

theorem step1_wpOp {C : Ctx} {all : List Oper} {i : Nat} {T : Tm} {H : Heap} {K : Tm → Heap → Prop} (h : step1 C all i T H K) {a : Act} {w : World} (ha : Fits C T a) (hw : Rep C H w) {Q : Exit → Act → World → Prop} :
    wpOp C.P all.toArray Q i (Holds C K) a w := by
  unfold step1 at h
  split at h
  · rename_i o ho
    rw [lget_eq] at ho
    unfold wpOp
    have ho' : all.toArray[i]? = some o := by simpa using ho
    simp only [ho']
    rcases sxGuard_ok h ha with ⟨hg, h⟩ | ⟨hg, h⟩
    · rw [if_pos hg]; exact .inl (sxOp_ok h ha hw Q)
    · rw [if_neg (by simp [hg])]; exact putK_ok (v := .tup []) h trivial ha hw
  · exact h.elim

theorem sxSched_ok {C : Ctx} {all : List Oper} {Q : Ex → Tm → Heap → Prop} (hsel : Region.noSelect all.toArray = true) : ∀ {s : Sched} {top : Bool} {listed : Array Bool} {T : Tm} {H : Heap} {fuel : Nat},
    schedOk C.P all.toArray top s listed = true → sxSched C all s T H (Q .normal) → depth s ≤ fuel → ∀ {a : Act} {w : World}, Fits C T a → Rep C H w →
    (top = true → wpAny C.P .any all.toArray (QK C Q) fuel listed a w) ∧
    (top = false → ∀ i ∈ altIdx s, ∀ f, fuel = f + 1 → wpOp C.P all.toArray (QK C Q) i (wpAny C.P .any all.toArray (QK C Q) f (listed.setIfInBounds i true)) a w) := by
  intro s
  induction s with
  | done =>
    intro top listed T H fuel hok h _ a w ha hw
    have hr : Region.ready .any all.toArray listed = [] := by simpa [schedOk] using hok
    exact ⟨fun _ => wpAny_done hr ⟨T, H, ha, hw, h⟩ fuel, fun _ i hi => by simp [altIdx] at hi⟩
  | fin =>
    intro top listed T H fuel hok h _ a w ha hw
    exact ⟨fun ht => by rw [ht] at hok; simp [schedOk] at hok, fun _ i hi => by simp [altIdx] at hi⟩
  | one i s ih =>
    intro top listed T H fuel hok h hd a w ha hw
    refine ⟨fun _ => ?_, fun _ i hi => by simp [altIdx] at hi⟩
    simp only [schedOk, Bool.and_eq_true] at hok
    obtain ⟨⟨⟨h1, h2⟩, h3⟩, h4⟩ := hok
    simp only [depth] at hd
    obtain ⟨f, rfl⟩ : ∃ f, fuel = f + 1 := ⟨fuel - 1, by omega⟩
    simp only [sxSched, step1] at h
    split at h
    · rename_i o ho
      rw [lget_eq] at ho
      have ho' : all.toArray[i]? = some o := by simpa using ho
      have hpure : isPure C.P o = true := by simpa [ho'] using h3
      rcases sxGuard_ok h ha with ⟨hg, h⟩ | ⟨hg, h⟩
      · unfold sxOp at h
        rw [isPure_isQ hpure] at h
        have hq := qop_pure hpure h
        obtain ⟨v, hv, hvw, hr⟩ := qop_ok hq (fun k b hb hk => by cases hk) ha.twf
        obtain ⟨T', H', ha', hw', hK⟩ := putK_ok hv hvw ha hw
        refine wpAny_take ho' hsel h2 h1 (fun c a w hh => QK_panic c _ _ w hh) (v := v.val) (.inl ⟨hg, fun w2 => ?_⟩) ((ih h4 hK (by omega) ha' hw').1 rfl)
        exact hr ⟨C.R, C.N, w2, fun _ => True⟩ a w2 ⟨ha.tmps, ha.wf, ha.size, ha.defers⟩ ⟨fun k b hb hk => (by cases hk), fun k k' b b' hb hb' hk => (by cases hk), fun k b hb hk => (by cases hk), ⟨rfl, rfl, rfl, Nat.le_refl _, fun _ _ _ => rfl⟩⟩
      · obtain ⟨T', H', ha', hw', hK⟩ := putK_ok (v := .tup []) h trivial ha hw
        exact wpAny_take ho' hsel h2 h1 (fun c a w hh => QK_panic c _ _ w hh) (v := undef) (.inr ⟨hg, rfl⟩) ((ih h4 hK (by omega) ha' hw').1 rfl)
    · exact h.elim
  | alt i s r ihs ihr =>
    intro top listed T H fuel hok h hd a w ha hw
    simp only [schedOk, Bool.and_eq_true, Bool.or_eq_true, Bool.not_eq_true'] at hok
    obtain ⟨⟨h1, h2⟩, h3⟩ := hok
    simp only [depth] at hd
    obtain ⟨hs, hr⟩ := h
    have all_ : ∀ j ∈ altIdx (.alt i s r), ∀ f, fuel = f + 1 → wpOp C.P all.toArray (QK C Q) j (wpAny C.P .any all.toArray (QK C Q) f (listed.setIfInBounds j true)) a w := by
      intro j hj f hf
      rcases List.mem_cons.1 hj with rfl | hj
      · refine wpOp_mono (fun a' w' hh => ?_) (step1_wpOp hs ha hw)
        obtain ⟨T', H', ha', hw', hK⟩ := hh
        exact (ihs h2 hK (by omega) ha' hw').1 rfl
      · exact (ihr h3 hr (by omega) ha hw).2 rfl j hj f hf
    refine ⟨fun ht => ?_, fun _ => all_⟩
    subst ht
    have hrs : i :: altIdx r = Region.ready .any all.toArray listed := by simpa using h1
    obtain ⟨f, rfl⟩ : ∃ f, fuel = f + 1 := ⟨fuel - 1, by omega⟩
    exact wpAny_all hrs.symm (by simp) fun j hj => all_ j hj f rfl

/-- The orders are gone through. -/
theorem Draw.sched {C : Ctx} {id : Nat} {ops : List Oper} {T : Tm} {H : Heap} {Q : Ex → Tm → Heap → Prop} (s : Sched) (hm : C.P.follows .mixedOrders = true)
    (hB : (Region.noSelect ops.toArray && schedOk C.P ops.toArray true s (Array.replicate ops.toArray.size false) && Nat.ble (depth s) ops.toArray.size) = true)
    (h : sxSched C ops s T H (Q .normal)) : Draw C id ops T H Q := by
  simp only [Bool.and_eq_true] at hB
  refine ⟨fun a w ha hw => ?_⟩
  refine wp_region_any hm ?_
  exact (sxSched_ok hB.1.1 hB.1.2 h (Nat.le_of_ble_eq_true hB.2) ha (hw.drew (w.drawn + 1))).1 rfl

/-- Where the orders meet again: whatever came, this much is known. -/
theorem Draw.cut {C : Ctx} {id : Nat} {ops : List Oper} {T : Tm} {H : Heap} {Q : Ex → Tm → Heap → Prop} {α : Type} (st : α → Tm × Heap)
    (h : Draw C id ops T H fun e T' H' => match e with | .normal => ∃ x, tmatch T' (st x).1 (hmatch H' (st x).2 True) | _ => False)
    (hk : ∀ x, Q .normal (st x).1 (st x).2) : Draw C id ops T H Q := by
  refine ⟨fun a w ha hw => wp_mono (h.go a w ha hw) fun e a' w' hh => ?_⟩
  cases e with
  | normal =>
    obtain ⟨T', H', ha', hw', x, hT⟩ := hh
    obtain ⟨hH, hT⟩ := tmatch_ok hT
    exact ⟨_, _, ha'.match hT, hw'.match (hmatch_ok hH).2, hk x⟩
  | exit i => obtain ⟨_, _, _, _, hh⟩ := hh; exact hh.elim
  | ret => obtain ⟨_, _, _, _, hh⟩ := hh; exact hh.elim
  | goto l => exact hh.elim
  | panic ch => exact hh.elim
  | outgrown => exact hh.elim
/-- Slots and blocks that go by other names. -/
theorem LoopG.ren {C : Ctx} {body : Code} {T : Tm} {H : Heap} {Q : Ex → Tm → Heap → Prop} (l : List (Nat × Nat)) (ks hs : List Nat)
    (h : pickT T ks fun T1 => pickH H hs fun H1 => once H1 = true ∧ LoopG C body (tren l T1) (hren l H1) Q) : LoopG C body T H Q := by
  obtain ⟨T1, h, hT⟩ := pickT_ok h
  obtain ⟨H1, ⟨ho, h⟩, hH⟩ := pickH_ok h
  refine ⟨fun a w ha hw => h.go a w ?_ ((hw.sub hH).ren l ho)⟩
  refine ⟨fun t v ht => ?_, fun t v ht => ?_, ha.size, ha.defers⟩
  · obtain ⟨u, hu, rfl⟩ := tren_get l T1 t v ht
    rw [TV.ren_val]; exact ha.tmps t u (hT t u hu)
  · obtain ⟨u, hu, rfl⟩ := tren_get l T1 t v ht
    exact (TV.ren_wf l u).2 (ha.wf t u (hT t u hu))
end Go.SY

/- Orders, step by step, where part of what memory holds stays as it is: whatever only looks at that may be taken first. -/
set_option linter.unusedSimpArgs false
set_option linter.unusedVariables false
namespace Go.SY

def schedOkH (P : Program) (ops : Array Oper) : Bool → Sched → Array Bool → Bool
  | _, .done, listed => (Region.ready .any ops listed).isEmpty
  | _, .one i s, listed => (Region.ready .any ops listed).contains i && Region.free .any ops listed i && schedOkH P ops true s (listed.setIfInBounds i true)
  | top, .fin, _ => !top
  | top, .alt i s r, listed => (!top || i :: altIdx r == Region.ready .any ops listed) && schedOkH P ops true s (listed.setIfInBounds i true) && schedOkH P ops false r listed

def stepQ (C : Ctx) (all : List Oper) (i : Nat) (T : Tm) (H : Heap) (K : Tm → Prop) : Prop :=
  match lget all i with
  | some o => sxGuard all T o (qop C.P T H o fun v => putQ C.N o.dst v T K) (putQ C.N o.dst (.tup []) T K)
  | none => False
def sxHeld (C : Ctx) (all : List Oper) (H0 : Heap) : Sched → Tm → Heap → (Tm → Heap → Prop) → Prop
  | .done, T, H, K => K T H
  | .one i s, T, H, K => stepQ C all i T H0 fun T' => sxHeld C all H0 s T' H K
  | .fin, _, _, _ => True
  | .alt i s r, T, H, K => (step1 C all i T H fun T' H' => hmatch H' H0 (sxHeld C all H0 s T' H' K)) ∧ sxHeld C all H0 r T H K

theorem sxHeld_ok {C : Ctx} {all : List Oper} {H0 : Heap} {Q : Ex → Tm → Heap → Prop} (hsel : Region.noSelect all.toArray = true) : ∀ {s : Sched} {top : Bool} {listed : Array Bool} {T : Tm} {H : Heap} {fuel : Nat},
    schedOkH C.P all.toArray top s listed = true → sxHeld C all H0 s T H (Q .normal) → depth s ≤ fuel → ∀ {a : Act} {w : World}, Fits C T a → Rep C H w → Rep C H0 w →
    (top = true → wpAnyH C.P .any all.toArray (QK C Q) (Rep C H0) fuel listed a w) ∧
    (top = false → ∀ i ∈ altIdx s, ∀ f, fuel = f + 1 → wpOp C.P all.toArray (QK C Q) i (fun a' w' => Rep C H0 w' ∧ wpAnyH C.P .any all.toArray (QK C Q) (Rep C H0) f (listed.setIfInBounds i true) a' w') a w) := by
  intro s
  induction s with
  | done =>
    intro top listed T H fuel hok h _ a w ha hw hw0
    have hr : Region.ready .any all.toArray listed = [] := by simpa [schedOkH] using hok
    exact ⟨fun _ => wpAnyH_done hr ⟨T, H, ha, hw, h⟩ fuel, fun _ i hi => by simp [altIdx] at hi⟩
  | fin =>
    intro top listed T H fuel hok h _ a w ha hw hw0
    exact ⟨fun ht => by rw [ht] at hok; simp [schedOkH] at hok, fun _ i hi => by simp [altIdx] at hi⟩
  | one i s ih =>
    intro top listed T H fuel hok h hd a w ha hw hw0
    refine ⟨fun _ => ?_, fun _ i hi => by simp [altIdx] at hi⟩
    simp only [schedOkH, Bool.and_eq_true] at hok
    obtain ⟨⟨h1, h2⟩, h4⟩ := hok
    simp only [depth] at hd
    obtain ⟨f, rfl⟩ : ∃ f, fuel = f + 1 := ⟨fuel - 1, by omega⟩
    simp only [sxHeld, stepQ] at h
    split at h
    · rename_i o ho
      rw [lget_eq] at ho
      have ho' : all.toArray[i]? = some o := by simpa using ho
      rcases sxGuard_ok h ha with ⟨hg, h⟩ | ⟨hg, h⟩
      · obtain ⟨v, hv, hvw, hr⟩ := qop_ok h hw0.hwf ha.twf
        obtain ⟨T', ha', hK⟩ := putQ_ok hv hvw ha
        exact wpAnyH_take ho' hsel h2 h1 (fun c a w hh => QK_panic c _ _ w hh) (v := v.val) (.inl ⟨hg, fun w2 hS => hr C a w2 ha hS⟩) hw0 ((ih h4 hK (by omega) ha' hw hw0).1 rfl)
      · obtain ⟨T', ha', hK⟩ := putQ_ok (v := .tup []) h trivial ha
        exact wpAnyH_take ho' hsel h2 h1 (fun c a w hh => QK_panic c _ _ w hh) (v := undef) (.inr ⟨hg, rfl⟩) hw0 ((ih h4 hK (by omega) ha' hw hw0).1 rfl)
    · exact h.elim
  | alt i s r ihs ihr =>
    intro top listed T H fuel hok h hd a w ha hw hw0
    simp only [schedOkH, Bool.and_eq_true, Bool.or_eq_true, Bool.not_eq_true'] at hok
    obtain ⟨⟨h1, h2⟩, h3⟩ := hok
    simp only [depth] at hd
    obtain ⟨hs, hr⟩ := h
    have all_ : ∀ j ∈ altIdx (.alt i s r), ∀ f, fuel = f + 1 → wpOp C.P all.toArray (QK C Q) j (fun a' w' => Rep C H0 w' ∧ wpAnyH C.P .any all.toArray (QK C Q) (Rep C H0) f (listed.setIfInBounds j true) a' w') a w := by
      intro j hj f hf
      rcases List.mem_cons.1 hj with rfl | hj
      · refine wpOp_mono (fun a' w' hh => ?_) (step1_wpOp hs ha hw)
        obtain ⟨T', H', ha', hw', hK⟩ := hh
        obtain ⟨hK, he⟩ := hmatch_ok hK
        have hw0' := hw'.match he
        exact ⟨hw0', (ihs h2 hK (by omega) ha' hw' hw0').1 rfl⟩
      · exact (ihr h3 hr (by omega) ha hw hw0).2 rfl j hj f hf
    refine ⟨fun ht => ?_, fun _ => all_⟩
    subst ht
    have hrs : i :: altIdx r = Region.ready .any all.toArray listed := by simpa using h1
    obtain ⟨f, rfl⟩ : ∃ f, fuel = f + 1 := ⟨fuel - 1, by omega⟩
    exact wpAnyH_all hrs.symm (by simp) fun j hj => all_ j hj f rfl

/-- The orders are gone through; what the blocks 'hs' hold stays. -/
theorem Draw.held {C : Ctx} {id : Nat} {ops : List Oper} {T : Tm} {H : Heap} {Q : Ex → Tm → Heap → Prop} (hs : List Nat) (s : Sched) (hm : C.P.follows .mixedOrders = true)
    (hB : (Region.noSelect ops.toArray && schedOkH C.P ops.toArray true s (Array.replicate ops.toArray.size false) && Nat.ble (depth s) ops.toArray.size) = true)
    (h : pickH H hs fun H0 => sxHeld C ops H0 s T H (Q .normal)) : Draw C id ops T H Q := by
  simp only [Bool.and_eq_true] at hB
  obtain ⟨H0, h, hsub⟩ := pickH_ok h
  refine ⟨fun a w ha hw => ?_⟩
  refine wp_region_held (S := Rep C H0) hm ?_
  have hw := hw.drew (w.drawn + 1)
  exact (sxHeld_ok hB.1.1 hB.1.2 h (Nat.le_of_ble_eq_true hB.2) ha hw (hw.sub hsub)).1 rfl
/-! ### A loop whose state is of two parts -/
def roundQ2 {α β : Type} (st : α → β → Tm × Heap) (I : α → β → Prop) (μ : α → Nat) (x : α) (Q : Ex → Tm → Heap → Prop) : Ex → Tm → Heap → Prop
  | .normal, T, H => ∃ y z, I y z ∧ μ y < μ x ∧ tmatch T (st y z).1 (hmatch H (st y z).2 True)
  | e, T, H => Q e T H
theorem LoopG.two {C : Ctx} {body : Code} {T : Tm} {H : Heap} {Q : Ex → Tm → Heap → Prop} {α β : Type} (ks hs : List Nat) (upd : α → β → Tm) (updH : α → β → List (Nat × HB)) (I : α → β → Prop) (μ : α → Nat) (x0 : α) (y0 : β)
    (h : pickT T ks fun T0 => pickH H hs fun H0 => pickB H (updH x0 y0) fun bs => (I x0 y0 ∧ tmatch T (appL (upd x0 y0) T0) (hmatch H (appL (fillB bs (updH x0 y0)) H0) True)) ∧
      ∀ x y, I x y → sx C body (appL (upd x y) T0) (appL (fillB bs (updH x y)) H0) (roundQ2 (fun x y => (appL (upd x y) T0, appL (fillB bs (updH x y)) H0)) I μ x Q)) : LoopG C body T H Q := by
  obtain ⟨T0, h, _⟩ := pickT_ok h
  obtain ⟨H0, h, _⟩ := pickH_ok h
  obtain ⟨bs, h⟩ := pickB_ok h
  refine LoopG.of (fun x : α × β => (appL (upd x.1 x.2) T0, appL (fillB bs (updH x.1 x.2)) H0)) (fun x => I x.1 x.2) (fun x => μ x.1) (x0, y0) h.1 fun x hx => ?_
  have e : roundQ (fun x : α × β => (appL (upd x.1 x.2) T0, appL (fillB bs (updH x.1 x.2)) H0)) (fun x => I x.1 x.2) (fun x => μ x.1) x Q =
      roundQ2 (fun x y => (appL (upd x y) T0, appL (fillB bs (updH x y)) H0)) I μ x.1 Q := by
    funext e T H
    cases e with
    | normal => exact propext ⟨fun ⟨y, h⟩ => ⟨y.1, y.2, h⟩, fun ⟨y, z, h⟩ => ⟨(y, z), h⟩⟩
    | _ => rfl
  rw [e]
  exact h.2 x.1 x.2 hx
/-- Told anew what is known: some slots and blocks stay as they are, some are told. -/
theorem Draw.set {C : Ctx} {id : Nat} {ops : List Oper} {T : Tm} {H : Heap} {Q : Ex → Tm → Heap → Prop} (ks hs : List Nat) (upd : Tm) (updH : List (Nat × HB))
    (h : pickT T ks fun T0 => pickH H hs fun H0 => pickB H updH fun bs => tmatch T (appL upd T0) (hmatch H (appL (fillB bs updH) H0) True) ∧ Draw C id ops (appL upd T0) (appL (fillB bs updH) H0) Q) : Draw C id ops T H Q := by
  obtain ⟨T0, h, _⟩ := pickT_ok h
  obtain ⟨H0, h, _⟩ := pickH_ok h
  obtain ⟨bs, h, hk⟩ := pickB_ok h
  obtain ⟨hH, hT⟩ := tmatch_ok h
  exact ⟨fun a w ha hw => hk.go a w (ha.match hT) (hw.match (hmatch_ok hH).2)⟩
end Go.SY

/- Orders, step by step, and behind them a chain. -/
set_option linter.unusedSimpArgs false
set_option linter.unusedVariables false
namespace Go.SY
variable {P : Program} {ops : Array Oper} {S : World → Prop} {Q : Exit → Act → World → Prop}

def hdW (P : Program) (ops : Array Oper) (S : World → Prop) (Q : Exit → Act → World → Prop) (n : Nat) (L : Array Bool → Act → World → Prop) : Nat → Array Bool → Act → World → Prop
  | 0, listed, a, w => L listed a w
  | f + 1, listed, a, w => Region.ready .any ops listed ≠ [] ∧ ∀ i ∈ Region.ready .any ops listed, i < n ∧ wpOp P ops Q i (fun a' w' => S w' ∧ hdW P ops S Q n L f (listed.setIfInBounds i true) a' w') a w

theorem any_of_hdW {n g : Nat} {L : Array Bool → Act → World → Prop} (hL : ∀ listed a w, L listed a w → wpAny P .any ops Q g listed a w) :
    ∀ (f : Nat) (listed : Array Bool) (a : Act) (w : World), hdW P ops S Q n L f listed a w → wpAny P .any ops Q (f + g) listed a w := by
  intro f
  induction f with
  | zero => intro listed a w h; rw [Nat.zero_add]; exact hL _ _ _ h
  | succ f ih =>
    intro listed a w h
    rw [show f + 1 + g = (f + g) + 1 by omega]
    exact ⟨fun h0 => absurd h0 h.1, fun i hi => wpOp_mono (fun a' w' h' => ih _ a' w' h'.2) (h.2 i hi).2⟩

theorem hdW_first {n i : Nat} {oi : Oper} {v : Value} {L : Array Bool → Act → World → Prop} (hi : ops[i]? = some oi) (hsel : ∀ (j : Nat) (o : Oper) cs b, ops[j]? = some o → o.op ≠ .select cs b)
    (hs : Region.sinkB .any ops n = true) (hc : Region.chainB .any ops n = true) (hn : n < ops.size) (hin : i < n)
    (hdone : ∀ listed a w, L listed a w → ∀ j ∈ Region.ready .any ops listed, n ≤ j)
    (hQ : ∀ c a w, Q (.panic c) (a.put oi.dst v) w → Q (.panic c) a w) :
    ∀ (f : Nat) (listed : Array Bool) (a : Act) (w : World), HeadInv .any ops n listed →
      (∀ j oj, ops[j]? = some oj → j ≠ i → listed.getD j true = false → (∀ e ∈ oj.after, Region.binds .any e = true → e.on ≠ i) → oi.apart ops oj = true) →
      i ∈ Region.ready .any ops listed → YieldsIf P ops S oi v a → S w →
      hdW P ops S Q n L f (listed.setIfInBounds i true) (a.put oi.dst v) w → hdW P ops S Q n L (f + 1) listed a w := by
  intro f
  induction f with
  | zero =>
    intro listed a w inv _ hr hy hS H
    have hun := (mem_ready.1 hr).1
    refine ⟨fun h => (by rw [h] at hr; cases hr), fun j hj => ?_⟩
    have hjn : j < n := by
      rcases Nat.lt_or_ge j n with h | h
      · exact h
      · exact absurd hj (tail_waits hs hc hn inv _ i rfl hin hun j h)
    refine ⟨hjn, ?_⟩
    by_cases hji : j = i
    · subst hji; exact hy.wpOp hi hS ⟨hS, H⟩
    · have := hdone _ _ _ H j (ready_mono hj hji)
      omega
  | succ f ih =>
    intro listed a w inv hfree hr hy hS H
    have hun := (mem_ready.1 hr).1
    refine ⟨fun h => (by rw [h] at hr; cases hr), fun j hj => ?_⟩
    have hjn : j < n := by
      rcases Nat.lt_or_ge j n with h | h
      · exact h
      · exact absurd hj (tail_waits hs hc hn inv _ i rfl hin hun j h)
    refine ⟨hjn, ?_⟩
    by_cases hji : j = i
    · subst hji; exact hy.wpOp hi hS ⟨hS, H⟩
    · have h1 := (H.2 j (ready_mono hj hji)).2
      obtain ⟨hjun, oj, hoj, hall⟩ := mem_ready.1 hj
      have hnot : ∀ e ∈ oj.after, Region.binds .any e = true → e.on ≠ i := fun e he hb heq => by
        have h1 := hall e he hb
        rw [heq, getD_both hun] at h1
        cases h1
      have h2 := wpOp_putIf hoj (hfree j oj hoj hji hjun hnot) (fun cs b => hsel i oi cs b hi) (fun cs b => hsel j oj cs b hoj) hQ hy h1
      have hfree' : ∀ k ok, ops[k]? = some ok → k ≠ i → (listed.setIfInBounds j true).getD k true = false →
          (∀ e ∈ ok.after, Region.binds .any e = true → e.on ≠ i) → oi.apart ops ok = true := fun k ok hk hki hun hno => by
        refine hfree k ok hk hki ?_ hno
        by_cases hjk : j = k
        · subst hjk; exact hjun
        · rw [getD_set_ne true hjk] at hun; exact hun
      refine wpOp_mono (fun a' w' h3 => ⟨h3.2.1, ih (listed.setIfInBounds j true) a' w' (inv.set hj hjn) hfree' (ready_mono hr (Ne.symm hji)) h3.1 h3.2.1 ?_⟩) h2
      rw [Array.setIfInBounds_comm _ _ hji]
      exact h3.2.2

def schedOkT (P : Program) (ops : Array Oper) (n : Nat) : Nat → Bool → Sched → Array Bool → Bool
  | 0, _, .done, listed => Region.seqB .any ops (ops.size - n) n listed
  | f + 1, _, .one i s, listed => (Region.ready .any ops listed).contains i && Region.free .any ops listed i && Nat.blt i n && schedOkT P ops n f true s (listed.setIfInBounds i true)
  | _, top, .fin, _ => !top
  | f + 1, top, .alt i s r, listed => (!top || i :: altIdx r == Region.ready .any ops listed) && Nat.blt i n && schedOkT P ops n f true s (listed.setIfInBounds i true) && schedOkT P ops n (f + 1) false r listed
  | _, _, _, _ => false

def LT (C : Ctx) (all : List Oper) (n : Nat) (Q : Ex → Tm → Heap → Prop) (listed : Array Bool) (a : Act) (w : World) : Prop :=
  Region.seqB .any all.toArray (all.toArray.size - n) n listed = true ∧ ∃ T H, Fits C T a ∧ Rep C H w ∧ sxOps C all (all.drop n) T H (Q .normal)

theorem sxHeldT_ok {C : Ctx} {all : List Oper} {H0 : Heap} {n : Nat} {Q : Ex → Tm → Heap → Prop} (hsel : Region.noSelect all.toArray = true)
    (hs : Region.sinkB .any all.toArray n = true) (hc : Region.chainB .any all.toArray n = true) (hn : n < all.toArray.size) : ∀ {s : Sched} {f : Nat} {top : Bool} {listed : Array Bool} {T : Tm} {H : Heap},
    schedOkT C.P all.toArray n f top s listed = true → sxHeld C all H0 s T H (fun T' H' => sxOps C all (all.drop n) T' H' (Q .normal)) → HeadInv .any all.toArray n listed → ∀ {a : Act} {w : World}, Fits C T a → Rep C H w → Rep C H0 w →
    (top = true → hdW C.P all.toArray (Rep C H0) (QK C Q) n (LT C all n Q) f listed a w) ∧
    (top = false → (∀ i ∈ altIdx s, i ∈ Region.ready .any all.toArray listed) → ∀ i ∈ altIdx s, ∀ g, f = g + 1 → i < n ∧ wpOp C.P all.toArray (QK C Q) i (fun a' w' => Rep C H0 w' ∧ hdW C.P all.toArray (Rep C H0) (QK C Q) n (LT C all n Q) g (listed.setIfInBounds i true) a' w') a w) := by
  intro s
  induction s with
  | done =>
    intro f top listed T H hok h inv a w ha hw hw0
    cases f with
    | zero => exact ⟨fun _ => ⟨by simpa [schedOkT] using hok, T, H, ha, hw, h⟩, fun _ _ i hi => by simp [altIdx] at hi⟩
    | succ f => simp [schedOkT] at hok
  | fin =>
    intro f top listed T H hok h inv a w ha hw hw0
    exact ⟨fun ht => by rw [ht] at hok; cases f <;> simp [schedOkT] at hok, fun _ _ i hi => by simp [altIdx] at hi⟩
  | one i s ih =>
    intro f top listed T H hok h inv a w ha hw hw0
    refine ⟨fun _ => ?_, fun _ _ i hi => by simp [altIdx] at hi⟩
    cases f with
    | zero => simp [schedOkT] at hok
    | succ f =>
      simp only [schedOkT, Bool.and_eq_true] at hok
      obtain ⟨⟨⟨h1, h2⟩, h3⟩, h4⟩ := hok
      have hin : i < n := by simpa using h3
      have hir : i ∈ Region.ready .any all.toArray listed := by simpa using h1
      simp only [sxHeld, stepQ] at h
      split at h
      · rename_i o ho
        rw [lget_eq] at ho
        have ho' : all.toArray[i]? = some o := by simpa using ho
        have hd : ∀ listed a w, LT C all n Q listed a w → ∀ j ∈ Region.ready .any all.toArray listed, n ≤ j := fun listed a w hL => seqB_ready hL.1
        rcases sxGuard_ok h ha with ⟨hg, h⟩ | ⟨hg, h⟩
        · obtain ⟨v, hv, hvw, hr⟩ := qop_ok h hw0.hwf ha.twf
          obtain ⟨T', ha', hK⟩ := putQ_ok hv hvw ha
          exact hdW_first ho' (Region.noSelect_spec hsel) hs hc hn hin hd (fun c a w hh => QK_panic c _ _ w hh) f listed a w inv (Region.free_spec ho' h2) hir (v := v.val) (.inl ⟨hg, fun w2 hS => hr C a w2 ha hS⟩) hw0 ((ih h4 hK (inv.set hir hin) ha' hw hw0).1 rfl)
        · obtain ⟨T', ha', hK⟩ := putQ_ok (v := .tup []) h trivial ha
          exact hdW_first ho' (Region.noSelect_spec hsel) hs hc hn hin hd (fun c a w hh => QK_panic c _ _ w hh) f listed a w inv (Region.free_spec ho' h2) hir (v := undef) (.inr ⟨hg, rfl⟩) hw0 ((ih h4 hK (inv.set hir hin) ha' hw hw0).1 rfl)
      · exact h.elim
  | alt i s r ihs ihr =>
    intro f top listed T H hok h inv a w ha hw hw0
    cases f with
    | zero => simp [schedOkT] at hok
    | succ f =>
      simp only [schedOkT, Bool.and_eq_true, Bool.or_eq_true, Bool.not_eq_true'] at hok
      obtain ⟨⟨⟨h1, h0⟩, h2⟩, h3⟩ := hok
      have hin : i < n := by simpa using h0
      obtain ⟨hst, hr⟩ := h
      have all_ : (∀ j ∈ altIdx (.alt i s r), j ∈ Region.ready .any all.toArray listed) → ∀ j ∈ altIdx (.alt i s r), ∀ g, f + 1 = g + 1 → j < n ∧ wpOp C.P all.toArray (QK C Q) j (fun a' w' => Rep C H0 w' ∧ hdW C.P all.toArray (Rep C H0) (QK C Q) n (LT C all n Q) g (listed.setIfInBounds j true) a' w') a w := by
        intro hir j hj g hg
        obtain rfl : f = g := by omega
        rcases List.mem_cons.1 hj with rfl | hj
        · refine ⟨hin, wpOp_mono (fun a' w' hh => ?_) (step1_wpOp hst ha hw)⟩
          obtain ⟨T', H', ha', hw', hK⟩ := hh
          obtain ⟨hK, he⟩ := hmatch_ok hK
          have hw0' := hw'.match he
          exact ⟨hw0', (ihs h2 hK (inv.set (hir j (List.mem_cons_self ..)) hin) ha' hw' hw0').1 rfl⟩
        · exact (ihr h3 hr inv ha hw hw0).2 rfl (fun j hj => hir j (List.mem_cons_of_mem _ hj)) j hj f rfl
      refine ⟨fun ht => ?_, fun _ hir => all_ hir⟩
      subst ht
      have hrs : i :: altIdx r = Region.ready .any all.toArray listed := by simpa using h1
      refine ⟨fun h => (by rw [h] at hrs; cases hrs), fun j hj => ?_⟩
      exact all_ (fun j hj => by rw [← hrs]; exact hj) j (by rw [← hrs] at hj; exact hj) f rfl

/-- The first n operations in whatever order, the blocks 'hs' stay as they are through them; the others come in the text's order. -/
theorem Draw.heldT {C : Ctx} {id : Nat} {ops : List Oper} {T : Tm} {H : Heap} {Q : Ex → Tm → Heap → Prop} (hs : List Nat) (n : Nat) (s : Sched) (hm : C.P.follows .mixedOrders = true)
    (hB : (Region.noSelect ops.toArray && Region.sinkB .any ops.toArray n && Region.chainB .any ops.toArray n && Nat.blt n ops.toArray.size && schedOkT C.P ops.toArray n n true s (Array.replicate ops.toArray.size false)) = true)
    (h : pickH H hs fun H0 => sxHeld C ops H0 s T H fun T' H' => sxOps C ops (ops.drop n) T' H' (Q .normal)) : Draw C id ops T H Q := by
  simp only [Bool.and_eq_true] at hB
  obtain ⟨⟨⟨⟨hsel, hsk⟩, hc⟩, hn⟩, hok⟩ := hB
  have hn : n < ops.toArray.size := by simpa using hn
  have hdl : (ops.drop n).length = ops.toArray.size - n := by simp
  obtain ⟨H0, h, hsub⟩ := pickH_ok h
  refine ⟨fun a w ha hw => ?_⟩
  refine wp_region_any hm ?_
  have hw := hw.drew (w.drawn + 1)
  have inv0 : HeadInv .any ops.toArray n (Array.replicate ops.toArray.size false) :=
    ⟨by simp, fun j oj _ hl => (by rw [getD_replicate_false] at hl; cases hl), fun t _ ht => getD_in (by simpa using ht) (getD_replicate_false _ _)⟩
  have Hh := (sxHeldT_ok hsel hsk hc hn hok h inv0 ha hw (hw.sub hsub)).1 rfl
  have := any_of_hdW (Q := QK C Q) (g := ops.toArray.size - n) (fun listed a' w' hL => by
    obtain ⟨hseq, T', H', ha', hw', hK⟩ := hL
    have := wpAny_of_seq (md := .any) (Q' := QK C Q) (ops.drop n) n listed a' w' (fun j => by simp [List.getElem?_drop]) (by rw [hdl]; exact hseq) (sxOps_ok hK (fun a w hh => hh) ha' hw')
    rwa [hdl] at this) _ _ _ _ Hh
  rw [show n + (ops.toArray.size - n) = ops.toArray.size by omega] at this
  exact this
end Go.SY

/- Numbers: what wraps, bits; steps of a goal. -/
set_option linter.unusedSimpArgs false
set_option linter.unusedVariables false
namespace Go.SY

theorem wrap_i64 {e : Int} (h : -9223372036854775808 ≤ e ∧ e ≤ 9223372036854775807) : IntKind.i64.wrap e = e := IntWalk.i64_in _ h
theorem wrap_u {k : IntKind} (hk : k.signed = false) {e : Int} (h : 0 ≤ e ∧ e < 2 ^ k.bits) : k.wrap e = e := by
  unfold IntKind.wrap
  simp only [hk, Bool.false_and, Bool.false_eq_true, if_false]
  exact Int.emod_eq_of_lt h.1 h.2
theorem wrap_u8 {e : Int} (h : 0 ≤ e ∧ e ≤ 255) : IntKind.u8.wrap e = e := wrap_u rfl ⟨h.1, by have := h.2; simp [IntKind.bits]; omega⟩
theorem wrap_u32 {e : Int} (h : 0 ≤ e ∧ e ≤ 4294967295) : IntKind.u32.wrap e = e := wrap_u rfl ⟨h.1, by have := h.2; simp [IntKind.bits]; omega⟩
theorem wrap_u64 {e : Int} (h : 0 ≤ e ∧ e ≤ 18446744073709551615) : IntKind.u64.wrap e = e := wrap_u rfl ⟨h.1, by have := h.2; simp [IntKind.bits]; omega⟩

theorem Wr.i64 {e : Int} {K : Int → Prop} (h : -9223372036854775808 ≤ e ∧ e ≤ 9223372036854775807) (hK : K e) : Wr .i64 e K := ⟨by rw [wrap_i64 h]; exact hK⟩
theorem Wr.u8 {e : Int} {K : Int → Prop} (h : 0 ≤ e ∧ e ≤ 255) (hK : K e) : Wr .u8 e K := ⟨by rw [wrap_u8 h]; exact hK⟩
theorem Wr.u32 {e : Int} {K : Int → Prop} (h : 0 ≤ e ∧ e ≤ 4294967295) (hK : K e) : Wr .u32 e K := ⟨by rw [wrap_u32 h]; exact hK⟩
theorem Wr.u64 {e : Int} {K : Int → Prop} (h : 0 ≤ e ∧ e ≤ 18446744073709551615) (hK : K e) : Wr .u64 e K := ⟨by rw [wrap_u64 h]; exact hK⟩

theorem Br.true' {b : Bool} {A B : Prop} (h : b = true) (hA : A) : Br b A B := ⟨fun _ => hA, fun h' => by rw [h] at h'; cases h'⟩
theorem Br.false' {b : Bool} {A B : Prop} (h : b = false) (hB : B) : Br b A B := ⟨fun h' => (by rw [h] at h'; cases h'), fun _ => hB⟩
theorem Br.dt {p : Prop} [Decidable p] {A B : Prop} (h : p) (hA : A) : Br (decide p) A B := Br.true' (decide_eq_true h) hA
theorem Br.df {p : Prop} [Decidable p] {A B : Prop} (h : ¬ p) (hB : B) : Br (decide p) A B := Br.false' (decide_eq_false h) hB
/-- Both ways. -/
theorem Br.by {p : Prop} [Decidable p] {A B : Prop} (hA : p → A) (hB : ¬ p → B) : Br (decide p) A B := ⟨fun h => hA (of_decide_eq_true h), fun h => hB (of_decide_eq_false h)⟩

/-! ### Bits of numbers that are not below 0 -/
theorem bv_nat {k : IntKind} {a : Int} (h0 : 0 ≤ a) (h : a < 2 ^ k.bits) : (BitVec.ofInt k.bits a).toNat = a.toNat := by
  rw [BitVec.toNat_ofInt, Int.emod_eq_of_lt h0 (by exact_mod_cast h)]
theorem wrap_nat {k : IntKind} (hk : k.signed = false) {n : Nat} (h : n < 2 ^ k.bits) : k.wrap (n : Int) = n := wrap_u hk ⟨by omega, by exact_mod_cast h⟩
theorem wrap_nat_i64 {n : Nat} (h : n < 2 ^ 63) : IntKind.i64.wrap (n : Int) = n := wrap_i64 ⟨by omega, by omega⟩

theorem toNat_lt {k : IntKind} {a : Int} (ha : 0 ≤ a) (ha' : a < 2 ^ k.bits) : a.toNat < 2 ^ k.bits := by
  have h2 : (a.toNat : Int) < (2 ^ k.bits : Nat) := by rw [Int.toNat_of_nonneg ha]; exact_mod_cast ha'
  exact_mod_cast h2
theorem iand_nat {k : IntKind} (hk : k.signed = false) {a b : Int} (ha : 0 ≤ a) (ha' : a < 2 ^ k.bits) (hb : 0 ≤ b) (hb' : b < 2 ^ k.bits) : iand k a b = ((a.toNat &&& b.toNat : Nat) : Int) := by
  unfold iand
  rw [BitVec.toNat_and, bv_nat ha ha', bv_nat hb hb']
  exact wrap_nat hk (Nat.lt_of_le_of_lt Nat.and_le_left (toNat_lt ha ha'))
theorem ior_nat {k : IntKind} (hk : k.signed = false) {a b : Int} (ha : 0 ≤ a) (ha' : a < 2 ^ k.bits) (hb : 0 ≤ b) (hb' : b < 2 ^ k.bits) : ior k a b = ((a.toNat ||| b.toNat : Nat) : Int) := by
  unfold ior
  rw [BitVec.toNat_or, bv_nat ha ha', bv_nat hb hb']
  exact wrap_nat hk (Nat.or_lt_two_pow (toNat_lt ha ha') (toNat_lt hb hb'))
theorem ixor_nat {k : IntKind} (hk : k.signed = false) {a b : Int} (ha : 0 ≤ a) (ha' : a < 2 ^ k.bits) (hb : 0 ≤ b) (hb' : b < 2 ^ k.bits) : ixor k a b = ((a.toNat ^^^ b.toNat : Nat) : Int) := by
  unfold ixor
  rw [BitVec.toNat_xor, bv_nat ha ha', bv_nat hb hb']
  exact wrap_nat hk (Nat.xor_lt_two_pow (toNat_lt ha ha') (toNat_lt hb hb'))
theorem iand_i64 {a b : Int} (ha : 0 ≤ a) (ha' : a < 2 ^ 63) (hb : 0 ≤ b) (hb' : b < 2 ^ 63) : iand .i64 a b = ((a.toNat &&& b.toNat : Nat) : Int) := by
  unfold iand
  rw [BitVec.toNat_and, bv_nat ha (by simp [IntKind.bits]; omega), bv_nat hb (by simp [IntKind.bits]; omega)]
  exact wrap_nat_i64 (Nat.lt_of_le_of_lt Nat.and_le_left (by omega))
theorem ior_i64 {a b : Int} (ha : 0 ≤ a) (ha' : a < 2 ^ 63) (hb : 0 ≤ b) (hb' : b < 2 ^ 63) : ior .i64 a b = ((a.toNat ||| b.toNat : Nat) : Int) := by
  unfold ior
  rw [BitVec.toNat_or, bv_nat ha (by simp [IntKind.bits]; omega), bv_nat hb (by simp [IntKind.bits]; omega)]
  exact wrap_nat_i64 (Nat.or_lt_two_pow (by omega) (by omega))
theorem ixor_i64 {a b : Int} (ha : 0 ≤ a) (ha' : a < 2 ^ 63) (hb : 0 ≤ b) (hb' : b < 2 ^ 63) : ixor .i64 a b = ((a.toNat ^^^ b.toNat : Nat) : Int) := by
  unfold ixor
  rw [BitVec.toNat_xor, bv_nat ha (by simp [IntKind.bits]; omega), bv_nat hb (by simp [IntKind.bits]; omega)]
  exact wrap_nat_i64 (Nat.xor_lt_two_pow (by omega) (by omega))
/-- '&' by a mask of the low n bits: also of a number below 0. -/
theorem iand_mask (n : Nat) (hn : n ≤ 62) (a : Int) : iand .i64 a (2 ^ n - 1 : Nat) = a % (2 ^ n : Nat) := by
  unfold iand
  have hp : 2 ^ n ≤ 2 ^ 62 := Nat.pow_le_pow_right (by omega) hn
  have hp0 : 0 < 2 ^ n := Nat.pow_pos (by omega)
  rw [BitVec.toNat_and, bv_nat (k := .i64) (a := ((2 ^ n - 1 : Nat) : Int)) (by omega) (by simp only [IntKind.bits]; omega)]
  rw [BitVec.toNat_ofInt, Int.toNat_natCast, Nat.and_two_pow_sub_one_eq_mod]
  have h1 : ((a % ((2 ^ IntKind.i64.bits : Nat) : Int)).toNat % 2 ^ n : Nat) = (a % (2 ^ n : Nat)).toNat := by
    have hd : ((2 ^ n : Nat) : Int) ∣ ((2 ^ IntKind.i64.bits : Nat) : Int) := by
      refine Int.natCast_dvd_natCast.2 (Nat.pow_dvd_pow 2 (by simp [IntKind.bits]; omega))
    have h2 : 0 ≤ a % ((2 ^ IntKind.i64.bits : Nat) : Int) := Int.emod_nonneg _ (by simp [IntKind.bits])
    have h3 : ((a % ((2 ^ IntKind.i64.bits : Nat) : Int)).toNat % 2 ^ n : Nat) = ((a % ((2 ^ IntKind.i64.bits : Nat) : Int)) % (2 ^ n : Nat)).toNat := by
      have := Int.toNat_emod h2 (show (0 : Int) ≤ ((2 ^ n : Nat) : Int) by omega)
      rw [Int.toNat_natCast] at this
      exact this.symm
    rw [h3, Int.emod_emod_of_dvd _ hd]
  rw [h1]
  have h4 : 0 ≤ a % ((2 ^ n : Nat) : Int) := Int.emod_nonneg _ (by omega)
  have h5 : a % ((2 ^ n : Nat) : Int) < ((2 ^ n : Nat) : Int) := Int.emod_lt_of_pos _ (by omega)
  rw [Int.toNat_of_nonneg h4]
  exact wrap_i64 ⟨by omega, by omega⟩

theorem ishr_lit {k : IntKind} {a : Int} {n : Nat} (hn : n ≤ k.bits) : ishr k a n = a / 2 ^ n := by
  unfold ishr
  rw [Int.toNat_natCast, Nat.min_eq_left hn, Int.fdiv_eq_ediv_of_nonneg _ (by exact_mod_cast Nat.zero_le _)]
theorem ishl_lit {k : IntKind} {a : Int} {n : Nat} (hn : n ≤ k.bits) : ishl k a n = k.wrap (a * 2 ^ n) := by
  unfold ishl
  rw [Int.toNat_natCast, Nat.min_eq_left hn]

/-- What is put beside what is below it. -/
theorem or_add {a b n : Nat} (ha : a < 2 ^ n) : a ||| b * 2 ^ n = a + b * 2 ^ n := by
  rw [Nat.or_comm, Nat.mul_comm, ← Nat.two_pow_add_eq_or_of_lt ha b, Nat.add_comm]


/-! ### Steps -/
theorem Wr.fit {e : Int} {K : Int → Prop} (h : -9223372036854775808 ≤ e ∧ e ≤ 9223372036854775807) (hK : K e) : Wr .i64 e K := Wr.i64 h hK
/-- A test whose answer is known. -/
theorem Br.tt {b : Bool} {A B : Prop} (h : b = true) (hA : A) : Br b A B := Br.true' h hA
theorem Br.ff {b : Bool} {A B : Prop} (h : b = false) (hB : B) : Br b A B := Br.false' h hB
theorem Br.nt {p : Prop} [Decidable p] {A B : Prop} (h : ¬ p) (hA : A) : Br (!decide p) A B := Br.true' (by simp [h]) hA
theorem Br.nf {p : Prop} [Decidable p] {A B : Prop} (h : p) (hB : B) : Br (!decide p) A B := Br.false' (by simp [h]) hB
/-- Both ways of a 'not'. -/
theorem Br.byn {p : Prop} [Decidable p] {A B : Prop} (hA : ¬ p → A) (hB : p → B) : Br (!decide p) A B := ⟨fun h => hA (by simpa using h), fun h => hB (by simpa using h)⟩
/-- Both ways of any test. -/
theorem Br.any {b : Bool} {A B : Prop} (hA : b = true → A) (hB : b = false → B) : Br b A B := ⟨hA, hB⟩
theorem gd_lt {α : Type} {l : List α} {i : Nat} {d : α} (h : i < l.length) : l.getD i d = l[i] := by simp [List.getD, h]
theorem gd_ge {α : Type} {l : List α} {i : Nat} {d : α} (h : l.length ≤ i) : l.getD i d = d := by simp [List.getD, List.getElem?_eq_none h]
/-- A number that the text names. -/
theorem NatOf.lit {n : Nat} {K : Nat → Prop} (h : K (@OfNat.ofNat Nat n (instOfNatNat n))) : NatOf (@OfNat.ofNat Int n instOfNat) K := ⟨n, rfl, h⟩
/-- A whole number that is a count. -/
theorem Wr.nat {e : Int} {K : Int → Prop} (m : Nat) (h : e = (m : Int)) (hm : m ≤ 9223372036854775807) (hK : K (m : Int)) : Wr .i64 e K := by
  subst h; exact Wr.i64 (by omega) hK
end Go.SY

/- SHA-256, plainly. -/
namespace Go.Sha
def begin8 : List (BitVec 32) := [0x6a09e667, 0xbb67ae85, 0x3c6ef372, 0xa54ff53a, 0x510e527f, 0x9b05688c, 0x1f83d9ab, 0x5be0cd19]
def round64 : List (BitVec 32) := [
  0x428a2f98, 0x71374491, 0xb5c0fbcf, 0xe9b5dba5, 0x3956c25b, 0x59f111f1, 0x923f82a4, 0xab1c5ed5,
  0xd807aa98, 0x12835b01, 0x243185be, 0x550c7dc3, 0x72be5d74, 0x80deb1fe, 0x9bdc06a7, 0xc19bf174,
  0xe49b69c1, 0xefbe4786, 0x0fc19dc6, 0x240ca1cc, 0x2de92c6f, 0x4a7484aa, 0x5cb0a9dc, 0x76f988da,
  0x983e5152, 0xa831c66d, 0xb00327c8, 0xbf597fc7, 0xc6e00bf3, 0xd5a79147, 0x06ca6351, 0x14292967,
  0x27b70a85, 0x2e1b2138, 0x4d2c6dfc, 0x53380d13, 0x650a7354, 0x766a0abb, 0x81c2c92e, 0x92722c85,
  0xa2bfe8a1, 0xa81a664b, 0xc24b8b70, 0xc76c51a3, 0xd192e819, 0xd6990624, 0xf40e3585, 0x106aa070,
  0x19a4c116, 0x1e376c08, 0x2748774c, 0x34b0bcb5, 0x391c0cb3, 0x4ed8aa4a, 0x5b9cca4f, 0x682e6ff3,
  0x748f82ee, 0x78a5636f, 0x84c87814, 0x8cc70208, 0x90befffa, 0xa4506ceb, 0xbef9a3f7, 0xc67178f2]
def rotl (x : BitVec 32) (s : Nat) : BitVec 32 := x <<< s ||| x >>> (32 - s)
def right (x : BitVec 32) (n : Nat) : BitVec 32 := rotl x (32 - n)
def word (b : List UInt8) (t : Nat) : BitVec 32 :=
  ((b.getD (4 * t) 0).toBitVec.setWidth 32 <<< 24 ||| (b.getD (4 * t + 1) 0).toBitVec.setWidth 32 <<< 16 ||| (b.getD (4 * t + 2) 0).toBitVec.setWidth 32 <<< 8) ||| (b.getD (4 * t + 3) 0).toBitVec.setWidth 32
def next (w : List (BitVec 32)) (t : Nat) : BitVec 32 :=
  w.getD (t - 16) 0 + w.getD (t - 7) 0 + (right (w.getD (t - 15) 0) 7 ^^^ right (w.getD (t - 15) 0) 18 ^^^ w.getD (t - 15) 0 >>> 3) + (right (w.getD (t - 2) 0) 17 ^^^ right (w.getD (t - 2) 0) 19 ^^^ w.getD (t - 2) 0 >>> 10)
/-- The first t words. -/
def words (b : List UInt8) : Nat → List (BitVec 32)
  | 0 => []
  | t + 1 => words b t ++ [if t < 16 then word b t else next (words b t) t]
theorem words_length (b : List UInt8) (t : Nat) : (words b t).length = t := by
  induction t with
  | zero => rfl
  | succ t ih => simp [words, ih]
def stir (v : List (BitVec 32)) (k w : BitVec 32) : List (BitVec 32) :=
  let a := v.getD 0 0
  let e := v.getD 4 0
  let x := v.getD 7 0 + (right e 6 ^^^ right e 11 ^^^ right e 25) + (e &&& v.getD 5 0 ^^^ ~~~e &&& v.getD 6 0) + k + w
  let y := (right a 2 ^^^ right a 13 ^^^ right a 22) + (a &&& v.getD 1 0 ^^^ a &&& v.getD 2 0 ^^^ v.getD 1 0 &&& v.getD 2 0)
  [x + y, a, v.getD 1 0, v.getD 2 0, v.getD 3 0 + x, e, v.getD 5 0, v.getD 6 0]
def stirs (w v : List (BitVec 32)) : Nat → List (BitVec 32)
  | 0 => v
  | t + 1 => stir (stirs w v t) (round64.getD t 0) (w.getD t 0)
def change (h : List (BitVec 32)) (b : List UInt8) : List (BitVec 32) :=
  List.zipWith (· + ·) h (stirs (words b 64) h 64)
theorem stir_length (v : List (BitVec 32)) (k w : BitVec 32) : (stir v k w).length = 8 := rfl
theorem stirs_length (w v : List (BitVec 32)) (t : Nat) (hv : v.length = 8) : (stirs w v t).length = 8 := by
  cases t with
  | zero => exact hv
  | succ t => rfl
theorem change_length (h : List (BitVec 32)) (b : List UInt8) (hh : h.length = 8) : (change h b).length = 8 := by
  simp [change, hh, stirs_length _ _ _ hh]
/-- The state behind k blocks of a text. -/
def chain (m : List UInt8) : Nat → List (BitVec 32)
  | 0 => begin8
  | k + 1 => change (chain m k) ((m.drop (64 * k)).take 64)
theorem chain_length (m : List UInt8) (k : Nat) : (chain m k).length = 8 := by
  induction k with
  | zero => rfl
  | succ k ih => exact change_length _ _ ih
theorem chain_append (m t : List UInt8) : ∀ k : Nat, 64 * k ≤ m.length → chain (m ++ t) k = chain m k := by
  intro k
  induction k with
  | zero => intro _; rfl
  | succ k ih =>
    intro h
    simp only [chain]
    rw [ih (by omega), List.drop_append_of_le_length (by omega), List.take_append_of_le_length (by simp; omega)]
/-- What is behind a text's whole blocks. -/
def rest (m : List UInt8) : List UInt8 := m.drop (64 * (m.length / 64))
theorem rest_length (m : List UInt8) : (rest m).length = m.length % 64 := by simp [rest]; omega
/-- A text with what is put behind it, so that there are whole blocks. -/
def pads (m : List UInt8) : List UInt8 := List.replicate ((119 - m.length % 64) % 64) 0
def bits8 (n : Nat) : List UInt8 := (List.range 8).map fun i => UInt8.ofNat (n / 2 ^ (56 - 8 * i))
def padded (m : List UInt8) : List UInt8 := m ++ [0x80] ++ pads m ++ bits8 (8 * m.length)
def ser (h : List (BitVec 32)) : List UInt8 := h.flatMap fun (x : BitVec 32) => [⟨(x >>> 24).setWidth 8⟩, ⟨(x >>> 16).setWidth 8⟩, ⟨(x >>> 8).setWidth 8⟩, ⟨x.setWidth 8⟩]
/-- SHA-256. -/
def sum (m : List UInt8) : List UInt8 := ser (chain (padded m) ((padded m).length / 64))
end Go.Sha

/- Short forms of the call rules. -/
set_option linter.unusedSimpArgs false
set_option linter.unusedVariables false
namespace Go.SY
/-- A call of a contract that tells nothing of memory. -/
theorem CallG.p {C : Ctx} {f : FuncId} {args : List TV} {T : Tm} {H : Heap} {K : TV → Heap → Prop} {args' : List TV} {G : Heap} {v : TV} (l : List (Nat × Nat))
    (hs : CtrP C.R f args' G v) (ha : aren l args' = args) (ho : (once G && once (hren l G) && (once ([] : Heap) && once (hren l []))) = true)
    (h : hmatch H (hren l G) (K (v.ren l) (mergeG (hren l G) (hren l []) H))) : CallG C f args T H K := CallG.one (H' := []) l hs ha ho h
/-- A call of a contract that chooses. -/
theorem CallG.x {C : Ctx} {f : FuncId} {args : List TV} {T : Tm} {H : Heap} {K : TV → Heap → Prop} {args' : List TV} {G : Heap} {X : Type} {v : X → TV} {H' : X → Heap} (l : List (Nat × Nat))
    (hs : Ctr C.R f args' G (fun _ => True) v H') (ha : aren l args' = args) (ho : (once G && once (hren l G)) = true) (ho2 : ∀ x, (once (H' x) && once (hren l (H' x))) = true)
    (h : hmatch H (hren l G) (∀ x, K ((v x).ren l) (mergeG (hren l G) (hren l (H' x)) H))) : CallG C f args T H K := by
  subst ha
  rw [Bool.and_eq_true] at ho
  obtain ⟨h, he⟩ := hmatch_ok h
  refine ⟨hs.fn, fun a w ha hw hargs => ?_⟩
  have hg : Rep (ctxOf C.R 0 (hren l G) w) (hren l G) w := match_rep he hw
  have hg' : Rep (ctxOf C.R 0 G w) G w := (hg.back l ho.2).frame (FG.ren ho.1 ho.2)
  rw [aren_val]
  refine (hs.go w hg' (aren_wf hargs)).mono ?_
  rintro e w' ⟨x, hI, he', hvw, hw'⟩
  have hK := h x
  have ho2 := ho2 x
  rw [Bool.and_eq_true] at ho2
  have hw3 : Rep (ctxOf C.R 0 (hren l G) w) (hren l (H' x)) w' := (hw'.ren l ho2.1).frame fun b => (FG.ren ho.1 ho.2 b).symm
  exact ⟨(v x).ren l, _, by rw [he', TV.ren_val], (TV.ren_wf l _).2 hvw, merge_rep he ho2.2 hw hw3, hK⟩
/-- The same, of those that it tells more of. -/
theorem CallG.xi {C : Ctx} {f : FuncId} {args : List TV} {T : Tm} {H : Heap} {K : TV → Heap → Prop} {args' : List TV} {G : Heap} {X : Type} {I : X → Prop} {v : X → TV} {H' : X → Heap} (l : List (Nat × Nat))
    (hs : Ctr C.R f args' G I v H') (ha : aren l args' = args) (ho : (once G && once (hren l G)) = true) (ho2 : ∀ x, (once (H' x) && once (hren l (H' x))) = true)
    (h : hmatch H (hren l G) (∀ x, I x → K ((v x).ren l) (mergeG (hren l G) (hren l (H' x)) H))) : CallG C f args T H K := by
  subst ha
  rw [Bool.and_eq_true] at ho
  obtain ⟨h, he⟩ := hmatch_ok h
  refine ⟨hs.fn, fun a w ha hw hargs => ?_⟩
  have hg : Rep (ctxOf C.R 0 (hren l G) w) (hren l G) w := match_rep he hw
  have hg' : Rep (ctxOf C.R 0 G w) G w := (hg.back l ho.2).frame (FG.ren ho.1 ho.2)
  rw [aren_val]
  refine (hs.go w hg' (aren_wf hargs)).mono ?_
  rintro e w' ⟨x, hI, he', hvw, hw'⟩
  have hK := h x hI
  have ho2 := ho2 x
  rw [Bool.and_eq_true] at ho2
  have hw3 : Rep (ctxOf C.R 0 (hren l G) w) (hren l (H' x)) w' := (hw'.ren l ho2.1).frame fun b => (FG.ren ho.1 ho.2 b).symm
  exact ⟨(v x).ren l, _, by rw [he', TV.ren_val], (TV.ren_wf l _).2 hvw, merge_rep he ho2.2 hw hw3, hK⟩
/-! ### A loop whose state is of three parts -/
def roundQ3 {α β γ : Type} (st : α → β → γ → Tm × Heap) (I : α → β → γ → Prop) (μ : α → Nat) (x : α) (Q : Ex → Tm → Heap → Prop) : Ex → Tm → Heap → Prop
  | .normal, T, H => ∃ y z u, I y z u ∧ μ y < μ x ∧ tmatch T (st y z u).1 (hmatch H (st y z u).2 True)
  | e, T, H => Q e T H
theorem LoopG.three {C : Ctx} {body : Code} {T : Tm} {H : Heap} {Q : Ex → Tm → Heap → Prop} {α β γ : Type} (ks hs : List Nat) (upd : α → β → γ → Tm) (updH : α → β → γ → List (Nat × HB)) (I : α → β → γ → Prop) (μ : α → Nat) (x0 : α) (y0 : β) (z0 : γ)
    (h : pickT T ks fun T0 => pickH H hs fun H0 => pickB H (updH x0 y0 z0) fun bs => (I x0 y0 z0 ∧ tmatch T (appL (upd x0 y0 z0) T0) (hmatch H (appL (fillB bs (updH x0 y0 z0)) H0) True)) ∧
      ∀ x y z, I x y z → sx C body (appL (upd x y z) T0) (appL (fillB bs (updH x y z)) H0) (roundQ3 (fun x y z => (appL (upd x y z) T0, appL (fillB bs (updH x y z)) H0)) I μ x Q)) : LoopG C body T H Q := by
  obtain ⟨T0, h, _⟩ := pickT_ok h
  obtain ⟨H0, h, _⟩ := pickH_ok h
  obtain ⟨bs, h⟩ := pickB_ok h
  refine LoopG.of (fun x : α × β × γ => (appL (upd x.1 x.2.1 x.2.2) T0, appL (fillB bs (updH x.1 x.2.1 x.2.2)) H0)) (fun x => I x.1 x.2.1 x.2.2) (fun x => μ x.1) (x0, y0, z0) h.1 fun x hx => ?_
  have e : roundQ (fun x : α × β × γ => (appL (upd x.1 x.2.1 x.2.2) T0, appL (fillB bs (updH x.1 x.2.1 x.2.2)) H0)) (fun x => I x.1 x.2.1 x.2.2) (fun x => μ x.1) x Q =
      roundQ3 (fun x y z => (appL (upd x y z) T0, appL (fillB bs (updH x y z)) H0)) I μ x.1 Q := by
    funext e T H
    cases e with
    | normal => exact propext ⟨fun ⟨y, h⟩ => ⟨y.1, y.2.1, y.2.2, h⟩, fun ⟨y, z, u, h⟩ => ⟨(y, z, u), h⟩⟩
    | _ => rfl
  rw [e]
  exact h.2 x.1 x.2.1 x.2.2 hx
end Go.SY

/- Steps of a goal, each with the tactic that settles its condition. -/
set_option linter.unusedSimpArgs false
set_option linter.unusedVariables false
namespace Go.SY
theorem k1 {p K : Prop} (k : K) (h : p := by first | with_reducible rfl | omega | exact (rfl : (_ : Nat) = _) | exact (rfl : (_ : SV) = _) | exact ⟨rfl, rfl⟩ | with_reducible assumption | (simp only [List.length_set, List.length_append, List.length_replicate, List.length_take, List.length_drop, List.length_map, List.length_cons, List.length_nil] at *; omega)) : Chk p K := ⟨h, k⟩
theorem k2 {e : Int} {K : Int → Prop} (k : K e) (h : -9223372036854775808 ≤ e ∧ e ≤ 9223372036854775807 := by omega) : Wr .i64 e K := Wr.i64 h k
theorem k3 {n : Int} {K : Nat → Prop} (k : K n.toNat) (h0 : 0 ≤ n := by omega) : NatOf n K := NatOf.any h0 k
theorem k4 {E : Enc} {x x' : SV} {L L' : List E.α} {K : Prop} (k : K) (hx : x' = x := by first | with_reducible rfl | omega | exact (rfl : (_ : SV) = _)) (h : L' = L := by with_reducible first | rfl | assumption) : OwnM (E' := E) x' L' x L K := OwnM.same hx h k
theorem k5 {b : Bool} {K : Prop} (k : K) (h : b = true := by kernel_rfl) : KChk b K := ⟨h, k⟩
theorem k6 {p : Prop} [Decidable p] {A B : Prop} (k : A) (h : p := by first | omega | with_reducible assumption | with_reducible rfl) : Br (decide p) A B := Br.dt h k
theorem k7 {p : Prop} [Decidable p] {A B : Prop} (k : B) (h : ¬ p := by first | omega | with_reducible assumption) : Br (decide p) A B := Br.df h k
theorem k8 {p : Prop} [Decidable p] {A B : Prop} (k : A) (h : ¬ p := by first | omega | with_reducible assumption) : Br (!decide p) A B := Br.nt h k
theorem k9 {p : Prop} [Decidable p] {A B : Prop} (k : B) (h : p := by first | omega | with_reducible assumption | with_reducible rfl) : Br (!decide p) A B := Br.nf h k
theorem ka {A B : Prop} (k : A) : Br true A B := Br.tt rfl k
theorem kb {A B : Prop} (k : B) : Br false A B := Br.ff rfl k
theorem kc {b : Bool} {A B : Prop} (k : A) (h : b = true := by with_reducible assumption) : Br b A B := Br.tt h k
theorem kd {b : Bool} {A B : Prop} (k : B) (h : b = false := by with_reducible assumption) : Br b A B := Br.ff h k
theorem kl {A B : Prop} (k : B) : Br (!true) A B := Br.ff rfl k
theorem km {A B : Prop} (k : A) : Br (!false) A B := Br.tt rfl k
theorem ke {α : Type} {K : α → Prop} (k : ∀ b, K b) : New K := ⟨k⟩
theorem kf {m : Nat} {K : Nat → Prop} (k : K m) : NatOf (m : Int) K := NatOf.cast k
theorem kg {n : Nat} {K : Nat → Prop} (k : K (@OfNat.ofNat Nat n (instOfNatNat n))) : NatOf (@OfNat.ofNat Int n instOfNat) K := NatOf.lit k
/-- The end of a state's check: what the two sides are is left. -/
theorem kh {p K : Prop} (h : p) (k : K) : Chk p K := ⟨h, k⟩
end Go.SY

/- One step of the code at a time, each by a lemma: what is behind the step is boxed, so that the kernel looks at nothing but the step. -/
namespace Go.SY
open Go
structure Sx (C : Ctx) (c : Code) (T : Tm) (H : Heap) (Q : Ex → Tm → Heap → Prop) : Prop where
  go : sx C c T H Q
structure SxO (C : Ctx) (all r : List Oper) (T : Tm) (H : Heap) (K : Tm → Heap → Prop) : Prop where
  go : sxOps C all r T H K
structure SeqK (C : Ctx) (b : Code) (Q : Ex → Tm → Heap → Prop) (e : Ex) (T : Tm) (H : Heap) : Prop where
  go : (match e with | .normal => sx C b T H Q | .ret => Q .ret T H | .exit i => Q (.exit i) T H)
structure BlkK (i : Nat) (Q : Ex → Tm → Heap → Prop) (e : Ex) (T : Tm) (H : Heap) : Prop where
  go : (match e with | .normal => Q .normal T H | .ret => Q .ret T H | .exit j => (match Nat.beq j i with | true => Q .normal T H | false => Q (.exit j) T H))
variable {C : Ctx} {T : Tm} {H : Heap} {Q : Ex → Tm → Heap → Prop}
theorem SeqK.eq (C : Ctx) (b : Code) (Q : Ex → Tm → Heap → Prop) : SeqK C b Q = fun e T' H' => match e with | .normal => sx C b T' H' Q | .ret => Q .ret T' H' | .exit i => Q (.exit i) T' H' :=
  funext fun e => funext fun T => funext fun H => propext ⟨fun h => h.go, fun h => ⟨h⟩⟩
theorem BlkK.eq (i : Nat) (Q : Ex → Tm → Heap → Prop) : BlkK i Q = fun e T' H' => match e with | .normal => Q .normal T' H' | .ret => Q .ret T' H' | .exit j => (match Nat.beq j i with | true => Q .normal T' H' | false => Q (.exit j) T' H') :=
  funext fun e => funext fun T => funext fun H => propext ⟨fun h => h.go, fun h => ⟨h⟩⟩
theorem SxO.eq (C : Ctx) (all r : List Oper) (K : Tm → Heap → Prop) : (fun T H => SxO C all r T H K) = fun T H => sxOps C all r T H K :=
  funext fun T => funext fun H => propext ⟨fun h => h.go, fun h => ⟨h⟩⟩
theorem SeqK.normal {b : Code} (h : Sx C b T H Q) : SeqK C b Q .normal T H := ⟨h.go⟩
theorem SeqK.ret {b : Code} (h : Q .ret T H) : SeqK C b Q .ret T H := ⟨h⟩
theorem SeqK.exit {b : Code} {i : Nat} (h : Q (.exit i) T H) : SeqK C b Q (.exit i) T H := ⟨h⟩
theorem BlkK.normal {i : Nat} (h : Q .normal T H) : BlkK i Q .normal T H := ⟨h⟩
theorem BlkK.ret {i : Nat} (h : Q .ret T H) : BlkK i Q .ret T H := ⟨h⟩
theorem BlkK.hit {i j : Nat} (h : (match Nat.beq j i with | true => Q .normal T H | false => Q (.exit j) T H)) : BlkK i Q (.exit j) T H := ⟨h⟩
theorem Sx.seq {a b : Code} (h : Sx C a T H (SeqK C b Q)) : Sx C (.seq a b) T H Q := ⟨by have := h.go; rw [SeqK.eq] at this; unfold sx; exact this⟩
theorem Sx.block {i : Nat} {x : Code} (h : Sx C x T H (BlkK i Q)) : Sx C (.block i x) T H Q := ⟨by have := h.go; rw [BlkK.eq] at this; unfold sx; exact this⟩
theorem Sx.reg {i : Nat} {ops : Array Oper} (h : SxO C ops.toList ops.toList T H (Q .normal)) : Sx C (.region i ops false) T H Q := ⟨by unfold sx; exact h.go⟩
theorem Sx.draw {i : Nat} {ops : Array Oper} (h : Draw C i ops.toList T H Q) : Sx C (.region i ops true) T H Q := ⟨by unfold sx; exact h⟩
theorem Sx.cond {c : Operand} {x y : Code} (h : CondG C c x y T H Q) : Sx C (.cond c x y) T H Q := ⟨by unfold sx; exact h⟩
theorem Sx.loop {x : Code} (h : LoopG C x T H Q) : Sx C (.loop x) T H Q := ⟨by unfold sx; exact h⟩
theorem Sx.ret (h : Q .ret T H) : Sx C .ret T H Q := ⟨by unfold sx; exact h⟩
theorem Sx.exit {i : Nat} (h : Q (.exit i) T H) : Sx C (.exit i) T H Q := ⟨by unfold sx; exact h⟩
theorem Sx.skip (h : Q .normal T H) : Sx C .skip T H Q := ⟨by unfold sx; exact h⟩
theorem Sx.label {l : Nat} (h : Q .normal T H) : Sx C (.label l) T H Q := ⟨by unfold sx; exact h⟩
theorem SxO.nil {all : List Oper} {K : Tm → Heap → Prop} (h : K T H) : SxO C all [] T H K := ⟨by unfold sxOps; exact h⟩
theorem SxO.cons {all : List Oper} {o : Oper} {r : List Oper} {K : Tm → Heap → Prop} (h : sxGuard all T o (sxOp C T H o fun T' H' => SxO C all r T' H' K) (skipK C.N o.dst T H fun T' H' => SxO C all r T' H' K)) : SxO C all (o :: r) T H K :=
  ⟨by rw [SxO.eq] at h; unfold sxOps; exact h⟩
theorem SxO.step {all l : List Oper} {o : Oper} {r : List Oper} {K : Tm → Heap → Prop} (e : l = o :: r) (h : sxGuard all T o (sxOp C T H o fun T' H' => SxO C all r T' H' K) (skipK C.N o.dst T H fun T' H' => SxO C all r T' H' K)) : sxOps C all l T H K := by
  subst e; exact (SxO.cons h).go
end Go.SY

/- From what a row says of the arguments, and of the listed variables, to what a walk knows of them. -/
set_option linter.unusedSimpArgs false
set_option linter.unusedVariables false
namespace Go.SY
open Go.ChangeShapes Go.WideShapes

/-! ### Values of a shape -/
def okS : (s : Sk) → s.α → Prop
  | .int k, n => k.has n
  | .str, s => s.length ≤ maxLen
  | _, _ => True
def likeC : SC → SC → Prop
  | .int k _, y => ∃ n : Int, y = .int k n ∧ k.has n
  | .w8 _, y => ∃ x, y = .w8 x
  | .w32 _, y => ∃ x, y = .w32 x
  | .w64 _, y => ∃ x, y = .w64 x
  | .bool _, y => ∃ x, y = .bool x
  | .str _, y => ∃ s, y = .str s ∧ s.length ≤ maxLen
  | _, _ => False
def like : List Sg → List Sg → Prop
  | [], l => l = []
  | .c x :: z, l => ∃ y r, l = .c y :: r ∧ likeC x y ∧ like z r
  | .arr s n _ :: z, l => ∃ (L : List s.α) (r : List Sg), l = .arr s n L :: r ∧ L.length = n ∧ (∀ x ∈ L, okS s x) ∧ like z r
theorem like_append : ∀ {a l b r : List Sg}, like a l → like b r → like (a ++ b) (l ++ r)
  | [], l, b, r, h, h' => by have h : l = [] := h; subst h; exact h'
  | .c x :: a, l, b, r, h, h' => by obtain ⟨y, q, rfl, hc, hq⟩ := h; exact ⟨y, q ++ r, rfl, hc, like_append hq h'⟩
  | .arr s n M :: a, l, b, r, h, h' => by obtain ⟨L, q, rfl, hl, hx, hq⟩ := h; exact ⟨L, q ++ r, rfl, hl, hx, like_append hq h'⟩
theorem like_wf : ∀ {z l : List Sg}, like z l → swf l
  | [], l, h => by have h : l = [] := h; subst h; trivial
  | .c x :: z, l, h => by obtain ⟨y, q, rfl, hc, hq⟩ := h; exact ⟨trivial, like_wf hq⟩
  | .arr s n M :: z, l, h => by obtain ⟨L, q, rfl, hl, hx, hq⟩ := h; exact ⟨hl, like_wf hq⟩

/-! ### Types without places -/
mutual
def fsg (P : Program) : Nat → TypeId → Option (List Sg)
  | 0, _ => none
  | f + 1, t => (match P.underlying t with
    | some .bool => some [.c (.bool false)]
    | some (.int .u8) => some [.c (.w8 0)]
    | some (.int .u32) => some [.c (.w32 0)]
    | some (.int .u64) => some [.c (.w64 0)]
    | some (.int k) => some [.c (.int k 0)]
    | some .string => some [.c (.str [])]
    | some (.array n e) => (match fsg P f e with
      | some [.c c] => (match skZ c, Nat.beq (P.cellsOf e) 1, Nat.beq (P.cellsOf t) n with
        | some s, true, true => some [.arr s n (List.replicate n s.dflt)]
        | _, _, _ => none)
      | some [.arr s m _] => (match Nat.beq (P.cellsOf e) m, Nat.beq (P.cellsOf t) (n * m) with
        | true, true => some [.arr s (n * m) (List.replicate (n * m) s.dflt)]
        | _, _ => none)
      | _ => none)
    | some (.struct fs) => (match fsgs P f 0 fs.toList with
      | some (l, e) => (match Nat.beq (P.cellsOf t) e with | true => some l | false => none)
      | none => none)
    | _ => none)
def fsgs (P : Program) : Nat → Nat → List Field → Option (List Sg × Nat)
  | _, off, [] => some ([], off)
  | 0, _, _ :: _ => none
  | f + 1, off, x :: l => (match Nat.beq x.offset off, fsg P f x.type, fsgs P f (off + P.cellsOf x.type) l with
    | true, some a, some (b, e) => some (a ++ b, e)
    | _, _, _ => none)
end

/-- The values that a datum tells, one behind the other. -/
def litV : Lit → Value
  | .bool b => .bool b
  | .int k n => .int k n
  | .string s => .string ⟨⟨s⟩⟩
  | .float k b => .float k b
  | _ => .bool false
mutual
def lits {H : Type} : DataW H → List Value
  | .lit l => [litV l]
  | .agg ps => litsAll ps
  | _ => []
def litsAll {H : Type} : List (DataW H) → List Value
  | [] => []
  | d :: r => lits d ++ litsAll r
end

section
variable {H : Type} {enc : TypeId × Value → H} {P : Program} {w : World} {base : Nat} {sp : Nat → Bool} {held : Bool}

theorem litsAll_eq (l : List (DataW H)) : litsAll l = l.flatMap lits := by
  induction l with
  | nil => rfl
  | cons d l ih => simp [litsAll, ih]

theorem wf_has {k : IntKind} {n : Int} (h : (Lit.int k n).wf = true) : k.has n := by
  simp only [Lit.wf, Bool.and_eq_true, decide_eq_true_eq] at h
  exact h
theorem u_has {k : IntKind} (hk : k.signed = false) {n : Int} (h : k.has n) : 0 ≤ n ∧ n < 2 ^ k.bits := by
  obtain ⟨h1, h2⟩ := h
  unfold IntKind.min at h1
  unfold IntKind.max at h2
  simp only [hk, Bool.false_eq_true, if_false] at h1 h2
  exact ⟨h1, by omega⟩

/-- One scalar's value. -/
theorem sc_like {c : SC} {s : Sk} (hs : skZ c = some s) {y : SC} (h : likeC c y) : ∃ x : s.α, y = s.enc x ∧ okS s x := by
  cases c <;> simp only [skZ, Option.some.injEq] at hs <;> first | (cases hs; done) | skip
  all_goals subst hs
  · obtain ⟨n, rfl, hn⟩ := h; exact ⟨n, rfl, hn⟩
  · obtain ⟨n, rfl⟩ := h; exact ⟨n, rfl, trivial⟩
  · obtain ⟨n, rfl⟩ := h; exact ⟨n, rfl, trivial⟩
  · obtain ⟨n, rfl⟩ := h; exact ⟨n, rfl, trivial⟩
  · obtain ⟨n, rfl⟩ := h; exact ⟨n, rfl, trivial⟩
  · obtain ⟨n, rfl, hn⟩ := h; exact ⟨n, rfl, hn⟩

theorem chunks_scalar {s : Sk} (cs : List Value) : ∀ n : Nat, (∀ i, i < n → ∃ x : s.α, (cs.drop i).take 1 = [(s.enc x).val] ∧ okS s x) → ∃ L : List s.α, L.length = n ∧ cs.take n = L.map (fun x => (s.enc x).val) ∧ ∀ x ∈ L, okS s x := by
  intro n
  induction n with
  | zero => intro _; exact ⟨[], rfl, by simp, by simp⟩
  | succ n ih =>
    intro h
    obtain ⟨L, h1, h2, h3⟩ := ih fun i hi => h i (by omega)
    obtain ⟨x, hx, hk⟩ := h n (by omega)
    refine ⟨L ++ [x], by simp [h1], ?_, fun y hy => ?_⟩
    · rw [List.take_add, h2, hx]; simp
    · rcases List.mem_append.1 hy with hy | hy
      · exact h3 y hy
      · rw [List.mem_singleton.1 hy]; exact hk
theorem chunks_rows {s : Sk} (cs : List Value) (m : Nat) : ∀ n : Nat, (∀ i, i < n → ∃ L : List s.α, L.length = m ∧ (cs.drop (i * m)).take m = L.map (fun x => (s.enc x).val) ∧ ∀ x ∈ L, okS s x) →
    ∃ L : List s.α, L.length = n * m ∧ cs.take (n * m) = L.map (fun x => (s.enc x).val) ∧ ∀ x ∈ L, okS s x := by
  intro n
  induction n with
  | zero => intro _; exact ⟨[], by simp, by simp, by simp⟩
  | succ n ih =>
    intro h
    obtain ⟨L, h1, h2, h3⟩ := ih fun i hi => h i (by omega)
    obtain ⟨M, hM, hx, hk⟩ := h n (by omega)
    refine ⟨L ++ M, by rw [List.length_append, h1, hM, Nat.succ_mul], ?_, fun y hy => ?_⟩
    · rw [Nat.succ_mul, List.take_add, h2, hx, List.map_append]
    · rcases List.mem_append.1 hy with hy | hy
      · exact h3 y hy
      · exact hk y hy
theorem svals_arr (s : Sk) (n : Nat) (L : List s.α) : svals [.arr s n L] = L.map fun x => (s.enc x).val := by
  simp [svals, scs, Sg.cs, Function.comp_def]

def FlatOk (enc : TypeId × Value → H) (P : Program) (w : World) (base : Nat) (sp : Nat → Bool) (held : Bool) (z : List Sg) (t : TypeId) : Prop :=
  ∀ fuel cs x, DataW.trod enc P w base sp held fuel t cs = some x → (∃ l, like z l ∧ cs = svals l) ∧ cs = lits x.1
theorem fields_flat : ∀ (l : List Field) (f off : Nat) (z : List Sg) (e : Nat), fsgs P f off l = some (z, e) → (∀ y ∈ l, ∀ g z', g < f → fsg P g y.type = some z' → FlatOk enc P w base sp held z' y.type) →
    ∀ (cs : List Value) (xs : List (DataW H × List MemPlace)) (m : Nat), xs.length = l.length → (∀ (i : Nat) (y : Field), l[i]? = some y → DataW.trod enc P w base sp held m y.type ((cs.drop y.offset).take (P.cellsOf y.type)) = xs[i]?) →
    off ≤ e ∧ (∃ r, like z r ∧ (cs.drop off).take (e - off) = svals r) ∧ (cs.drop off).take (e - off) = litsAll (xs.map (·.1))
  | [], f, off, z, e, h, _, cs, xs, m, hx, _ => by
    cases f <;> (unfold fsgs at h; cases h; refine ⟨Nat.le_refl _, ⟨[], rfl, by simp [svals, scs]⟩, ?_⟩; have : xs = [] := List.eq_nil_of_length_eq_zero hx; subst this; simp [litsAll])
  | y :: l, 0, off, z, e, h, _, cs, xs, m, hx, _ => by unfold fsgs at h; cases h
  | y :: l, f + 1, off, z, e, h, ih, cs, xs, m, hx, ha => by
    unfold fsgs at h
    split at h
    · rename_i a b e2 hb hA hB
      cases h
      have hoff := Nat.eq_of_beq_eq_true hb
      cases xs with
      | nil => simp at hx
      | cons x0 xs =>
        have h0 := ha 0 y rfl
        simp only [List.getElem?_cons_zero] at h0
        obtain ⟨⟨r0, hr0, he0⟩, hl0⟩ := ih y (List.mem_cons_self ..) f a (Nat.lt_succ_self _) hA _ _ _ h0
        obtain ⟨hle, ⟨r1, hr1, he1⟩, hl1⟩ := fields_flat l f (off + P.cellsOf y.type) b e hB (fun y' hy' g z' hg => ih y' (List.mem_cons_of_mem _ hy') g z' (by omega)) cs xs m (by simpa using hx) (fun i y' hy' => by have := ha (i + 1) y' (by simpa using hy'); simpa using this)
        rw [hoff] at he0 hl0
        have key : (cs.drop off).take (e - off) = (cs.drop off).take (P.cellsOf y.type) ++ (cs.drop (off + P.cellsOf y.type)).take (e - (off + P.cellsOf y.type)) := by
          rw [show e - off = P.cellsOf y.type + (e - (off + P.cellsOf y.type)) by omega, List.take_add, List.drop_drop]
        refine ⟨by omega, ⟨r0 ++ r1, like_append hr0 hr1, ?_⟩, ?_⟩
        · rw [key, he0, he1]; simp [svals, scs_append]
        · rw [key, hl0, hl1]; simp [litsAll]
    · cases h

theorem leaf_flat {z : List Sg} {t : TypeId} (h : ∀ fuel cs x, DataW.trod enc P w base sp held fuel t cs = some x → ∃ (l : Lit) (y : SC), cs = [litV l] ∧ x.1 = .lit l ∧ like z [.c y] ∧ y.val = litV l) : FlatOk enc P w base sp held z t := by
  intro fuel cs x hx
  obtain ⟨l, y, rfl, hd, hl, hv⟩ := h fuel cs x hx
  exact ⟨⟨[.c y], hl, by simp [svals, scs, Sg.cs, hv]⟩, by rw [hd]; rfl⟩

theorem flat_ok : ∀ (f : Nat) (t : TypeId) (z : List Sg), fsg P f t = some z → FlatOk enc P w base sp held z t := by
  intro f
  induction f using Nat.strongRecOn with
  | _ f IH =>
    intro t z h
    cases f with
    | zero => unfold fsg at h; cases h
    | succ f =>
      unfold fsg at h
      split at h
      · rename_i hu
        cases h
        exact leaf_flat fun fuel cs x hx => by
          obtain ⟨b, rfl, rfl⟩ := DataW.trod_bool hu hx
          exact ⟨.bool b, .bool b, rfl, rfl, ⟨_, _, rfl, ⟨b, rfl⟩, rfl⟩, rfl⟩
      · rename_i hu
        cases h
        exact leaf_flat fun fuel cs x hx => by
          obtain ⟨n, rfl, rfl, hw⟩ := DataW.trod_int hu hx
          obtain ⟨h0, h1⟩ := u_has rfl (wf_has hw)
          refine ⟨.int .u8 n, .w8 (UInt8.ofNat n.toNat), rfl, rfl, ⟨_, _, rfl, ⟨_, rfl⟩, rfl⟩, ?_⟩
          have : n.toNat < 256 := by simp [IntKind.bits] at h1; omega
          simp only [SC.val, litV, UInt8.toNat_ofNat', Nat.mod_eq_of_lt this]
          rw [Int.toNat_of_nonneg h0]
      · rename_i hu
        cases h
        exact leaf_flat fun fuel cs x hx => by
          obtain ⟨n, rfl, rfl, hw⟩ := DataW.trod_int hu hx
          obtain ⟨h0, h1⟩ := u_has rfl (wf_has hw)
          refine ⟨.int .u32 n, .w32 (BitVec.ofNat 32 n.toNat), rfl, rfl, ⟨_, _, rfl, ⟨_, rfl⟩, rfl⟩, ?_⟩
          have : n.toNat < 2 ^ 32 := by simp [IntKind.bits] at h1; omega
          simp only [SC.val, litV, BitVec.toNat_ofNat, Nat.mod_eq_of_lt this]
          rw [Int.toNat_of_nonneg h0]
      · rename_i hu
        cases h
        exact leaf_flat fun fuel cs x hx => by
          obtain ⟨n, rfl, rfl, hw⟩ := DataW.trod_int hu hx
          obtain ⟨h0, h1⟩ := u_has rfl (wf_has hw)
          refine ⟨.int .u64 n, .w64 (BitVec.ofNat 64 n.toNat), rfl, rfl, ⟨_, _, rfl, ⟨_, rfl⟩, rfl⟩, ?_⟩
          have : n.toNat < 2 ^ 64 := by simp [IntKind.bits] at h1; omega
          simp only [SC.val, litV, BitVec.toNat_ofNat, Nat.mod_eq_of_lt this]
          rw [Int.toNat_of_nonneg h0]
      · rename_i k _ _ _ hu
        cases h
        exact leaf_flat fun fuel cs x hx => by
          obtain ⟨n, rfl, rfl, hw⟩ := DataW.trod_int hu hx
          exact ⟨.int k n, .int k n, rfl, rfl, ⟨_, _, rfl, ⟨n, rfl, wf_has hw⟩, rfl⟩, rfl⟩
      · rename_i hu
        cases h
        exact leaf_flat fun fuel cs x hx => by
          obtain ⟨s, rfl, rfl, hw⟩ := DataW.trod_string hu hx
          exact ⟨.string s.data.toList, .str s.data.toList, rfl, rfl, ⟨_, _, rfl, ⟨_, rfl, by simpa using hw⟩, rfl⟩, rfl⟩
      · rename_i n e hu
        split at h
        · rename_i c hc
          have ihe := IH f (by omega) e _ hc
          split at h
          · rename_i s hs hb1 hb2
            cases h
            have hb1 := Nat.eq_of_beq_eq_true hb1
            have hb2 := Nat.eq_of_beq_eq_true hb2
            intro fuel cs x hx
            obtain ⟨xs, m, rfl, rfl, hl, hxl, hrow⟩ := DataW.trod_array hu hx
            rw [hb2] at hl
            rw [hb1] at hrow
            have el : ∀ i, i < n → (∃ x : s.α, (cs.drop i).take 1 = [(s.enc x).val] ∧ okS s x) ∧ ∃ d, xs[i]? = some d ∧ (cs.drop i).take 1 = lits d.1 := by
              intro i hi
              have h1 := hrow i hi
              obtain ⟨d, hd⟩ : ∃ d, xs[i]? = some d := ⟨_, List.getElem?_eq_getElem (by omega)⟩
              rw [hd, Nat.mul_one] at h1
              obtain ⟨⟨l, hl1, hl2⟩, hl3⟩ := ihe _ _ _ h1
              obtain ⟨y, r, rfl, hy, hr⟩ := hl1
              have hr : r = [] := hr
              subst hr
              obtain ⟨x, rfl, hk⟩ := sc_like hs hy
              exact ⟨⟨x, by rw [hl2]; simp [svals, scs, Sg.cs], hk⟩, d, hd, hl3⟩
            obtain ⟨L, h1, h2, h3⟩ := chunks_scalar (s := s) cs n fun i hi => (el i hi).1
            rw [List.take_of_length_le (by omega)] at h2
            refine ⟨⟨[.arr s n L], ⟨L, [], rfl, h1, h3, rfl⟩, by rw [svals_arr, ← h2]⟩, ?_⟩
            show cs = litsAll (xs.map (·.1))
            have : ∀ k, k ≤ n → cs.take k = litsAll ((xs.take k).map (·.1)) := by
              intro k
              induction k with
              | zero => intro _; simp [litsAll]
              | succ k ihk =>
                intro hk
                obtain ⟨_, d, hd, he⟩ := el k (by omega)
                have hlt : k < xs.length := by omega
                rw [List.take_add, ihk (by omega), he, List.take_succ_eq_append_getElem hlt, List.map_append, litsAll_eq, litsAll_eq, List.flatMap_append]
                have : xs[k] = d := by rw [List.getElem?_eq_getElem hlt] at hd; exact Option.some.inj hd
                simp [this]
            have h4 := this n (Nat.le_refl _)
            rw [List.take_of_length_le (by omega), List.take_of_length_le (by omega)] at h4
            exact h4
          · cases h
        · rename_i s m M hc
          have ihe := IH f (by omega) e _ hc
          split at h
          · rename_i hb1 hb2
            cases h
            have hb1 := Nat.eq_of_beq_eq_true hb1
            have hb2 := Nat.eq_of_beq_eq_true hb2
            intro fuel cs x hx
            obtain ⟨xs, m', rfl, rfl, hl, hxl, hrow⟩ := DataW.trod_array hu hx
            rw [hb2] at hl
            rw [hb1] at hrow
            have el : ∀ i, i < n → (∃ L : List s.α, L.length = m ∧ (cs.drop (i * m)).take m = L.map (fun x => (s.enc x).val) ∧ ∀ x ∈ L, okS s x) ∧ ∃ d, xs[i]? = some d ∧ (cs.drop (i * m)).take m = lits d.1 := by
              intro i hi
              have h1 := hrow i hi
              obtain ⟨d, hd⟩ : ∃ d, xs[i]? = some d := ⟨_, List.getElem?_eq_getElem (by omega)⟩
              rw [hd] at h1
              obtain ⟨⟨l, hl1, hl2⟩, hl3⟩ := ihe _ _ _ h1
              obtain ⟨L, r, rfl, hL, hk, hr⟩ := hl1
              have hr : r = [] := hr
              subst hr
              exact ⟨⟨L, hL, by rw [hl2, svals_arr], hk⟩, d, hd, hl3⟩
            obtain ⟨L, h1, h2, h3⟩ := chunks_rows (s := s) cs m n fun i hi => (el i hi).1
            rw [List.take_of_length_le (by omega)] at h2
            refine ⟨⟨[.arr s (n * m) L], ⟨L, [], rfl, h1, h3, rfl⟩, by rw [svals_arr, ← h2]⟩, ?_⟩
            show cs = litsAll (xs.map (·.1))
            have : ∀ k, k ≤ n → cs.take (k * m) = litsAll ((xs.take k).map (·.1)) := by
              intro k
              induction k with
              | zero => intro _; simp [litsAll]
              | succ k ihk =>
                intro hk
                obtain ⟨_, d, hd, he⟩ := el k (by omega)
                have hlt : k < xs.length := by omega
                rw [Nat.succ_mul, List.take_add, ihk (by omega), he, List.take_succ_eq_append_getElem hlt, List.map_append, litsAll_eq, litsAll_eq, List.flatMap_append]
                have : xs[k] = d := by rw [List.getElem?_eq_getElem hlt] at hd; exact Option.some.inj hd
                simp [this]
            have h4 := this n (Nat.le_refl _)
            rw [List.take_of_length_le (by omega), List.take_of_length_le (by omega)] at h4
            exact h4
          · cases h
        · cases h
      · rename_i fs hu
        split at h
        · rename_i l e hfs
          split at h
          · rename_i hb
            cases h
            have hb := Nat.eq_of_beq_eq_true hb
            intro fuel cs x hx
            obtain ⟨xs, m, rfl, rfl, hl, hxl, hall⟩ := DataW.trod_struct hu hx
            obtain ⟨_, ⟨r, hr, he⟩, hlt⟩ := fields_flat (enc := enc) (w := w) (base := base) (sp := sp) (held := held) fs.toList f 0 z e hfs (fun y _ g z' hg hz' => IH g (by omega) y.type z' hz') cs xs m (by simpa using hxl) (fun i y hy => hall i y (by simpa using hy))
            rw [List.drop_zero, List.take_of_length_le (by omega)] at he hlt
            exact ⟨⟨r, hr, he⟩, hlt⟩
          · cases h
        · cases h
      · cases h
end
end Go.SY

/- A row's arguments and listed variables, as a walk knows them; what a row asks behind the call. -/
set_option linter.unusedSimpArgs false
set_option linter.unusedVariables false
namespace Go.SY
open Go.ChangeShapes Go.WideShapes
section
variable {H : Type} {enc : TypeId × Value → H} {P : Program} {W : World} {r : Reach} {b0 : Nat} {sp : Nat → Bool} {held : Bool} {t : TypeId} {v : Value} {d : DataW H} {p : List MemPlace}

theorem arg_int {k : IntKind} (ht : P.underlying t = some (.int k)) (h : Value.okWide P W r b0 t v) : ∃ n, v = .int k n ∧ k.has n := by
  unfold Value.okWide at h
  rw [ht] at h
  have h : Cell.okWide P W r b0 t v := h
  unfold Cell.okWide at h
  rw [ht] at h
  unfold Cell.ok at h
  rw [ht] at h
  cases v <;> simp at h
  obtain ⟨rfl, h⟩ := h
  exact ⟨_, rfl, h⟩
theorem i64_has {n : Int} (h : IntKind.i64.has n) : -9223372036854775808 ≤ n ∧ n ≤ 9223372036854775807 := by
  have h1 := h.1; have h2 := h.2
  simp [IntKind.min, IntKind.max, IntKind.signed, IntKind.bits] at h1 h2
  omega
theorem arg_i64 (ht : P.underlying t = some (.int .i64)) (h : Value.okWide P W r b0 t v) : ∃ n : Int, v = .int .i64 n ∧ -9223372036854775808 ≤ n ∧ n ≤ 9223372036854775807 := by
  obtain ⟨n, rfl, hn⟩ := arg_int ht h
  exact ⟨n, rfl, i64_has hn⟩
theorem arg_u8 (ht : P.underlying t = some (.int .u8)) (h : Value.okWide P W r b0 t v) : ∃ x : UInt8, v = (SC.w8 x).val := by
  obtain ⟨n, rfl, hn⟩ := arg_int ht h
  obtain ⟨h0, h1⟩ := u_has rfl hn
  have : n.toNat < 256 := by simp [IntKind.bits] at h1; omega
  refine ⟨UInt8.ofNat n.toNat, ?_⟩
  simp only [SC.val, UInt8.toNat_ofNat', Nat.mod_eq_of_lt this]
  rw [Int.toNat_of_nonneg h0]
theorem arg_u32 (ht : P.underlying t = some (.int .u32)) (h : Value.okWide P W r b0 t v) : ∃ x : BitVec 32, v = (SC.w32 x).val := by
  obtain ⟨n, rfl, hn⟩ := arg_int ht h
  obtain ⟨h0, h1⟩ := u_has rfl hn
  have : n.toNat < 2 ^ 32 := by simp [IntKind.bits] at h1; omega
  refine ⟨BitVec.ofNat 32 n.toNat, ?_⟩
  simp only [SC.val, BitVec.toNat_ofNat, Nat.mod_eq_of_lt this]
  rw [Int.toNat_of_nonneg h0]
theorem arg_u64 (ht : P.underlying t = some (.int .u64)) (h : Value.okWide P W r b0 t v) : ∃ x : BitVec 64, v = (SC.w64 x).val := by
  obtain ⟨n, rfl, hn⟩ := arg_int ht h
  obtain ⟨h0, h1⟩ := u_has rfl hn
  have : n.toNat < 2 ^ 64 := by simp [IntKind.bits] at h1; omega
  refine ⟨BitVec.ofNat 64 n.toNat, ?_⟩
  simp only [SC.val, BitVec.toNat_ofNat, Nat.mod_eq_of_lt this]
  rw [Int.toNat_of_nonneg h0]
theorem arg_bool (ht : P.underlying t = some .bool) (h : Value.okWide P W r b0 t v) : ∃ x : Bool, v = (SC.bool x).val := by
  obtain ⟨b, rfl⟩ := okWide_bool ht h
  exact ⟨b, rfl⟩
theorem arg_str (ht : P.underlying t = some .string) (h : Value.okWide P W r b0 t v) (hd : DataW.Trod enc P W 0 sp held t v d p) : ∃ s : List UInt8, v = (SC.str s).val ∧ s.length ≤ maxLen := by
  obtain ⟨s, rfl⟩ := okWide_string ht h
  obtain ⟨fuel, hf⟩ := hd
  obtain ⟨s', h', _, hl⟩ := DataW.trod_string ht hf
  have h' : [Value.string s] = [Value.string s'] := h'
  cases h'
  exact ⟨s.data.toList, rfl, by simpa using hl⟩
/-- An array or a struct without places. -/
theorem arg_agg {f : Nat} {z : List Sg} (hz : fsg P f t = some z) (ht : aggB P t = some true) (h : Value.okWide P W r b0 t v) (hd : DataW.Trod enc P W 0 sp held t v d p) : ∃ l, like z l ∧ v = (BV.agg l).val := by
  have ha : ∃ cs, v = .agg cs := by
    unfold Value.okWide at h
    unfold aggB at ht
    split at h
    · obtain ⟨cs, rfl, _⟩ := h; exact ⟨_, rfl⟩
    · obtain ⟨cs, rfl, _⟩ := h; exact ⟨_, rfl⟩
    · rename_i h1 h2
      exfalso
      split at ht
      · rename_i hu; exact h1 _ hu
      · rename_i hu; exact h2 _ _ hu
      · cases ht
      · cases ht
  obtain ⟨cs, rfl⟩ := ha
  obtain ⟨fuel, hf⟩ := hd
  obtain ⟨⟨l, hl, he⟩, _⟩ := flat_ok f t z hz fuel _ _ hf
  refine ⟨l, hl, ?_⟩
  have he : cs.toList = svals l := he
  simp [BV.val, ← he]

theorem mapM_range {α : Type} {g : Nat → Option α} : ∀ {n : Nat} {l : List α}, (List.range n).mapM g = some l → l.length = n ∧ ∀ i, i < n → l[i]? = g i := by
  intro n l h
  refine ⟨by simpa using mapM_some_length h, fun i hi => ?_⟩
  have := mapM_some_get h i i (by simp [hi])
  exact this.symm
theorem cells?_get {a : Addr} {n : Nat} {cs : List Value} (h : W.cells? 0 a n = some cs) : cs.length = n ∧ ∀ j, j < n → W.cell? (a.add j) = cs[j]? := by
  unfold World.cells? at h
  rw [if_pos (Nat.zero_le _)] at h
  obtain ⟨h1, h2⟩ := mapM_range h
  exact ⟨h1, fun j hj => (h2 j hj).symm⟩

theorem build_list {α : Type} {R : Nat → α → Prop} : ∀ n : Nat, (∀ i, i < n → ∃ x, R i x) → ∃ L : List α, L.length = n ∧ ∀ i x, L[i]? = some x → R i x := by
  intro n
  induction n with
  | zero => intro _; exact ⟨[], rfl, by simp⟩
  | succ n ih =>
    intro h
    obtain ⟨L, h1, h2⟩ := ih fun i hi => h i (by omega)
    obtain ⟨x, hx⟩ := h n (by omega)
    refine ⟨L ++ [x], by simp [h1], fun i y hy => ?_⟩
    by_cases hi : i < n
    · rw [List.getElem?_append_left (by omega)] at hy; exact h2 i y hy
    · rw [List.getElem?_append_right (by omega)] at hy
      have : i = n := by
        have := (List.getElem?_eq_some_iff.1 hy).1
        simp at this; omega
      subst this
      simp [h1] at hy
      subst hy; exact hx

/-- A slice of elements without places. -/
theorem arg_slice {E : Enc} {f : Nat} {z : List Sg} {e : TypeId} (ht : P.underlying t = some (.slice e)) (hz : fsg P f e = some z) (hsz : P.cellsOf e = E.sz) (Q : E.α → Prop) (hdec : ∀ l, like z l → ∃ x, E.enc x = l ∧ Q x)
    (h : Value.okWide P W r b0 t v) (hd : DataW.Trod enc P W 0 sp held t v d p) : ∃ (x : SV) (L : List E.α), v = x.val ∧ (HB.view E x L).Is W x.blk ∧ (∀ y ∈ L, Q y) ∧ L.length ≤ maxLen := by
  obtain ⟨a, len, cap, rfl⟩ := okWide_slice ht h
  unfold Value.okWide at h
  rw [ht] at h
  have h : Cell.okWide P W r b0 t _ := h
  unfold Cell.okWide at h
  rw [ht] at h
  have h : Cell.ok P W r b0 t _ := h
  unfold Cell.ok at h
  rw [ht] at h
  obtain ⟨fuel, hf⟩ := hd
  rcases DataW.trod_slice ht hf with ⟨hc, _⟩ | ⟨a', len', cap', elems, rest, n, _, hc, _, hb, hlc, hcm, hel, hg, _⟩
  · have hc : [Value.slice a len cap] = [Value.slice none 0 0] := hc
    cases hc
    exact ⟨.nil, [], rfl, ⟨(by intro x hx; cases hx), rfl⟩, by simp, by simp⟩
  · have hc : [Value.slice a len cap] = [Value.slice (some a') len' cap'] := hc
    cases hc
    have h : len ≤ cap ∧ (cap : Int) ≤ IntKind.i64.max ∧ W.has P r b0 a' e cap := h
    obtain ⟨_, _, hhas⟩ := h
    obtain ⟨_, hspot, row, cells, hsh, _⟩ := hhas
    obtain ⟨b, o, s⟩ := a'
    have hspot : s = none := hspot
    subst hspot
    have hlt : b < W.heap.size := by
      simp only [World.shape?] at hsh
      split at hsh
      · rename_i h'; exact (Array.getElem?_eq_some_iff.1 h').1
      · cases hsh
    have el : ∀ i, i < len → ∃ x : E.α, Q x ∧ swf (E.enc x) ∧ ∀ j u, (svals (E.enc x))[j]? = some u → W.cell? ⟨b, o + i * E.sz + j, none⟩ = some u := by
      intro i hi
      have h1 := hg i hi
      obtain ⟨y, hy⟩ : ∃ y, elems[i]? = some y := ⟨_, List.getElem?_eq_getElem (by omega)⟩
      rw [hy] at h1
      obtain ⟨cs, hcs, hcy⟩ := Option.bind_eq_some_iff.1 h1
      obtain ⟨⟨l, hl, he⟩, _⟩ := flat_ok f e z hz n _ _ hcy
      obtain ⟨hcl, hcell⟩ := cells?_get hcs
      obtain ⟨x, hx, hQ⟩ := hdec l hl
      refine ⟨x, hQ, by rw [hx]; exact like_wf hl, fun j u hu => ?_⟩
      rw [hx, ← he] at hu
      have hj : j < P.cellsOf e := by have := (List.getElem?_eq_some_iff.1 hu).1; omega
      have := hcell j hj
      rw [add_addr, add_addr, hu, hsz] at this
      exact this
    obtain ⟨L, hL, hR⟩ := build_list (R := fun i (x : E.α) => Q x ∧ swf (E.enc x) ∧ ∀ j u, (svals (E.enc x))[j]? = some u → W.cell? ⟨b, o + i * E.sz + j, none⟩ = some u) len el
    have hwf : E.wf L := fun x hx => by
      obtain ⟨i, hi⟩ := List.mem_iff_getElem?.1 hx
      exact (hR i x hi).2.1
    refine ⟨.at b o len cap, L, rfl, ⟨hwf, rfl, hL.symm, hlc, hlt, fun j u hu => ?_⟩, fun x hx => ?_, by rw [hL]; exact Nat.le_trans hlc hcm⟩
    · have hvl := E.vals_len hwf
      have hj : j < L.length * E.sz := by have := (List.getElem?_eq_some_iff.1 hu).1; omega
      have hpos : 0 < E.sz := by
        rcases Nat.eq_zero_or_pos E.sz with h | h
        · rw [h] at hj; simp at hj
        · exact h
      have hq : j / E.sz < L.length := (Nat.div_lt_iff_lt_mul hpos).2 hj
      have hm : j % E.sz < E.sz := Nat.mod_lt _ hpos
      have e1 := E.vals_get hwf hq hm
      have e2 : j / E.sz * E.sz + j % E.sz = j := by rw [Nat.mul_comm]; exact Nat.div_add_mod j E.sz
      rw [e2, hu] at e1
      have hget : L[j / E.sz]? = some (L.getD (j / E.sz) E.dflt) := by simp [List.getD_eq_getElem?_getD, hq]
      have := (hR _ _ hget).2.2 _ _ e1.symm
      rwa [Nat.add_assoc, e2] at this
    · obtain ⟨i, hi⟩ := List.mem_iff_getElem?.1 hx
      exact (hR i x hi).1

/-- A slice of scalars. -/
theorem arg_scalars {s : Sk} {f : Nat} {c : SC} {e : TypeId} (ht : P.underlying t = some (.slice e)) (hz : fsg P f e = some [.c c]) (hs : skZ c = some s) (hsz : P.cellsOf e = 1)
    (h : Value.okWide P W r b0 t v) (hd : DataW.Trod enc P W 0 sp held t v d p) : ∃ (x : SV) (L : List s.α), v = x.val ∧ (HB.view (.sc s) x L).Is W x.blk ∧ (∀ y ∈ L, okS s y) ∧ L.length ≤ maxLen :=
  arg_slice (E := .sc s) ht hz hsz (okS s) (fun l hl => by
    obtain ⟨y, q, rfl, hy, hq⟩ := hl
    have hq : q = [] := hq
    subst hq
    obtain ⟨x, rfl, hk⟩ := sc_like hs hy
    exact ⟨x, rfl, hk⟩) h hd
end

/-! ### Listed variables -/
theorem laid_reads {P : Program} {W : World} {n : String} {d : DataW Unit} : ∀ {l : List (String × DataW Unit)} {ps : List MemPlace}, DataW.LaidVars P W l ps → (n, d) ∈ l →
    ∃ g t cs fuel p, P.globalNamed n = some g ∧ (P.globals[g]?).map (·.type) = some t ∧ W.var? P n = some cs ∧ DataW.trod (fun _ => ()) P W 0 (fun _ => true) false fuel t cs.toList = some (d, p)
  | [], _, _, hm => by cases hm
  | (n', d') :: q, ps, h, hm => by
    obtain ⟨g, t, cs, fuel, p, q', h1, h2, h3, h4, h5, _⟩ := h
    rcases List.mem_cons.1 hm with e | e
    · cases e; exact ⟨g, t, cs, fuel, p, h1, h2, h3, h4⟩
    · exact laid_reads h5 e
/-- A variable without places reads as the datum says. -/
theorem glob_is {P : Program} {W : World} {laid : List (String × DataW Unit)} (h : laidMet P laid W) {n : String} {d : DataW Unit} (hm : (n, d) ∈ laid) {g : Nat} {f : Nat} {l : List Sg}
    (hg : P.globalNamed n = some g) (ht : (match P.globals[g]? with | some x => (fsg P f x.type).isSome | none => false) = true) (hl : lits d = svals l) (hw : swf l) (hpos : 0 < (svals l).length) : (HB.ro l).Is W g := by
  obtain ⟨ps, hv, _⟩ := h
  obtain ⟨g', t', cs, fuel, p, h1, h2, h3, h4⟩ := laid_reads hv hm
  obtain rfl := Option.some.inj (hg.symm.trans h1)
  obtain ⟨z, hz⟩ : ∃ z, fsg P f t' = some z := by
    cases hgg : P.globals[g]? with
    | none => rw [hgg] at h2; cases h2
    | some x =>
      rw [hgg] at h2 ht
      obtain rfl := Option.some.inj h2
      exact Option.isSome_iff_exists.1 ht
  obtain ⟨_, e⟩ := flat_ok f t' z hz fuel _ _ h4
  have e : cs.toList = svals l := e.trans hl
  have cell : ∀ j : Nat, W.cell? ⟨g, j, none⟩ = cs[j]? := fun j => World.var?_cell hg h3 j
  have at_ : ∀ (j : Nat) v, (svals l)[j]? = some v → W.cell? ⟨g, j, none⟩ = some v := fun j v hj => by
    rw [cell j, ← Array.getElem?_toList, e]; exact hj
  refine ⟨?_, at_, hw⟩
  have h0 := at_ 0 _ (List.getElem?_eq_getElem hpos)
  by_cases hb : g < W.heap.size
  · exact hb
  · have hn : W.heap[g]? = none := Array.getElem?_eq_none (by omega)
    simp [World.cell?, hn] at h0

/-! ### Behind the call -/
theorem trodAll_below {H : Type} {enc : TypeId × Value → H} {P : Program} (hl : laidOutB P = true) {W W' : World} (hb : RowKit.Below W.heap.size W W') : ∀ {ts : List TypeId} {vs : List Value} {ds : List (DataW H)} {ps : List MemPlace},
    (∀ t ∈ ts, P.readableRec t = true ∧ t < P.types.size) → DataW.TrodAll enc P W 0 (fun _ => true) true ts vs ds ps → (∀ x ∈ ps, x.block < W.heap.size) →
    DataW.TrodAll enc P W' 0 (fun b => decide (b < W.heap.size)) true ts vs ds ps := by
  intro ts
  induction ts with
  | nil =>
    intro vs ds ps _ h _
    cases vs <;> cases ds <;> first | exact h | exact h.elim
  | cons t ts ih =>
    intro vs ds ps ht h hlt
    cases vs with
    | nil => exact h.elim
    | cons v vs =>
      cases ds with
      | nil => exact h.elim
      | cons d ds =>
        obtain ⟨p, q, h1, h2, rfl⟩ := h
        refine ⟨p, q, RowKit.Below.trod hl (ht t (List.mem_cons_self ..)).1 (ht t (List.mem_cons_self ..)).2 h1 hb fun x hx => hlt x (List.mem_append_left _ hx), ih (fun t' ht' => ht t' (List.mem_cons_of_mem _ ht')) h2 fun x hx => hlt x (List.mem_append_right _ hx), rfl⟩
/-- What is known of a list of things. -/
def GIs (W : World) : Heap → Prop
  | [] => True
  | (_, b, hb) :: r => hb.Is W b ∧ GIs W r
theorem GIs.get {W : World} : ∀ {G : Heap}, GIs W G → ∀ k b hb, hget G k = some (b, hb) → hb.Is W b
  | [], _, k, b, hb, h => by cases h
  | (k0, b0, hb0) :: r, hi, k, b, hb, h => by
    rw [hget_cons] at h
    split at h
    · cases h; exact hi.1
    · exact hi.2.get k b hb h
/-- A law that returns true. -/
theorem law_post {H : Type} {enc : TypeId × Value → H} {R : Pr} {f : FuncId} {fn : Func} {s : ChangeSpec} {args : List TV} {G : Heap} (h : CtrP R f args G (vb true)) (ho : (once G && rwNone G) = true) (hargs : awf args)
    {W : World} {ds : List (DataW H)} {p : List MemPlace} {rt : TypeId} (hG : GIs W G) (hlo : laidOutB R.P = true) (hts : fn.params.toList.all (fun t => R.P.readableRec t && decide (t < R.P.types.size)) = true)
    (hvars : s.vars = []) (hres : fn.resultTypes = #[rt]) (hrt : R.P.underlying rt = some .bool) (hfn : s.fn H ds = { results := [.lit (.bool true)], args := ds })
    (hW : DataW.Whole enc R.P fn.params.toList s.vars false W (args.map TV.val) ds [] p) (hlt : ∀ x ∈ p, x.block < W.heap.size) :
    Calls R.P f (args.map TV.val).toArray W fun e W' => ∃ v, e = .returned v ∧ s.post enc R.P fn false true false false W (args.map TV.val).toArray v W' := by
  have hawf : ∀ {l : List TV}, awf l → ∀ v ∈ l, v.wf := by
    intro l
    induction l with
    | nil => intro _ v hv; cases hv
    | cons u l ih => intro h v hv; rcases List.mem_cons.1 hv with rfl | hv
                     · exact h.1
                     · exact ih h.2 v hv
  refine (h.law ho (hawf hargs) hG.get).mono fun e W' ⟨he, hB⟩ => ?_
  subst he
  obtain ⟨p1, q1, hA, hV, rfl, hnf, hnd⟩ := id hW
  rw [hvars] at hV
  obtain ⟨_, rfl⟩ := trodVars_none hV
  simp only [List.append_nil] at hlt
  have hts' : ∀ t ∈ fn.params.toList, R.P.readableRec t = true ∧ t < R.P.types.size := fun t ht => by
    have := List.all_eq_true.1 hts t ht
    simpa using this
  have hp := trodAll_below (enc := enc) hlo hB hts' hA hlt
  refine ⟨_, rfl, ds, [], _, [], p1, [], by simpa using hW, ?_, by simpa [hfn] using hp, ?_, hB.frame _, fun h => by cases h⟩
  · simp only [hres, List.append_nil, hfn]
    exact trodAll_mk1 (RowKit.shut_bool hrt true)
  · rw [hvars]
    simp only [List.append_nil, hfn]
    rfl
end Go.SY

/- An argument that is a struct whose fields are one cell each: its cells, one by one. -/
set_option linter.unusedSimpArgs false
set_option linter.unusedVariables false
namespace Go.SY
open Go.ChangeShapes Go.WideShapes
variable {H : Type} {enc : TypeId × Value → H} {P : Program} {W : World} {r : Reach} {b0 : Nat} {sp : Nat → Bool} {held : Bool} {t : TypeId} {v : Value} {d : DataW H} {p : List MemPlace}

theorem arg_cells {fs : Array Field} {ts : List TypeId} (ht : P.underlying t = some (.struct fs)) (hts : P.cellTypes P.depth t = some ts) (h : Value.okWide P W r b0 t v) (hd : DataW.Trod enc P W 0 sp held t v d p) :
    ∃ cs : List Value, v = .agg cs.toArray ∧ cs.length = P.cellsOf t ∧ (∀ (i : Nat) (u : Value) (x : TypeId), cs[i]? = some u → ts[i % ts.length]? = some x → Cell.okWide P W r b0 x u) ∧
      ∀ (i : Nat) (f : Field), fs[i]? = some f → ∃ n y, DataW.trod enc P W 0 sp held n f.type ((cs.drop f.offset).take (P.cellsOf f.type)) = some y := by
  unfold Value.okWide at h
  rw [ht] at h
  obtain ⟨cs, rfl, hsz, ts', hts', _, hc⟩ := h
  rw [hts] at hts'
  cases hts'
  obtain ⟨fuel, hf⟩ := hd
  obtain ⟨xs, n, _, _, hl, hlen, hx⟩ := DataW.trod_struct ht hf
  refine ⟨cs.toList, by simp, by simpa using hsz, fun i u x hu hx => ?_, fun i f hi => ?_⟩
  · obtain ⟨x', h1, h2⟩ := hc i u (by simpa using hu)
    rw [hx] at h1; cases h1; exact h2
  · have hlt : i < fs.size := (Array.getElem?_eq_some_iff.1 hi).1
    have := hx i f hi
    rw [List.getElem?_eq_getElem (by omega)] at this
    exact ⟨n, _, this⟩
end Go.SY
