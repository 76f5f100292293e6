/- Contracts of functions. -/
import Derived.Test.YtiijaiiejogbjaaDoorSxRules
set_option linter.unusedSimpArgs false
set_option linter.unusedVariables false
namespace Go.SX

/-- The blocks that a call may write. -/
def FG (G : Heap) (b : Nat) : Prop := ∃ k hb, hget G k = some (b, hb) ∧ hb.isRw = true
abbrev ctxOf (P : Program) (N : Nat) (G : Heap) (w : World) : Ctx := ⟨P, N, w, FG G⟩

theorem Rep.ctx {P P' : Program} {N N' : Nat} {w0 : World} {F : Nat → Prop} {H : Heap} {w : World} (h : Rep ⟨P, N, w0, F⟩ H w) : Rep ⟨P', N', w0, F⟩ H w :=
  ⟨h.is, h.apart, h.own, ⟨h.frm.os, h.frm.tape, h.frm.output, h.frm.size, h.frm.block⟩⟩

def FnOk (P : Program) (f : FuncId) : Prop := ∃ fn, P.funcs[f]? = some fn ∧ (fn.name == "runtime.NumGoroutine") = false ∧ fn.body.isNone = false

/-- A function's contract: called with these values, where memory holds G, it hands back v and leaves H'. -/
structure Ctr (P : Program) (f : FuncId) (args : List Value) (G : Heap) (Post : TV → Heap → Prop) : Prop where
  fn : FnOk P f
  go : ∀ w, Rep (ctxOf P 0 G w) G w → Calls P f args.toArray w fun e w' => ∃ v H', e = .returned (TV.val v) ∧ Rep (ctxOf P 0 G w) H' w' ∧ Post v H'

/-! ### The end of a body -/
def resOne (P : Program) (T : Tm) (H : Heap) (r : ResultVar) (K : BV → Prop) : Prop :=
  match r with
  | .tmp t => (match tget T t with | some (.b v) => K v | _ => False)
  | .cell a ty => (match tget T a with | some (.b (.one c)) => qload P H ty c K | _ => False)
def resAll (P : Program) (T : Tm) (H : Heap) : List ResultVar → (List BV → Prop) → Prop
  | [], K => K []
  | r :: l, K => resOne P T H r fun v => resAll P T H l fun vs => K (v :: vs)
def ResG (P : Program) (T : Tm) (H : Heap) (rs : List ResultVar) (K : TV → Prop) : Prop :=
  match rs with
  | [r] => resOne P T H r fun v => K (.b v)
  | rs => resAll P T H rs fun vs => K (.tup vs)

def resSem (a : Act) (r : ResultVar) : Sem Value :=
  match r with
  | .tmp t => pure (a.tmps.getD t undef)
  | .cell p t => do loadVar t (← asAddr (a.tmps.getD p undef))

theorem resOne_ok {C : Ctx} {T : Tm} {H : Heap} {r : ResultVar} {K : BV → Prop} (h : resOne C.P T H r K) {a : Act} {w : World} (ha : Fits C T a) (hw : Rep C H w) :
    ∃ v, K v ∧ (resSem a r).run C.P w = .ok v.val w := by
  cases r with
  | tmp t =>
    unfold resOne at h
    dsimp only at h
    split at h
    · rename_i v hv; exact ⟨v, h, by simp only [resSem, Sem.run_pure]; rw [ha.tmps t _ hv]; rfl⟩
    · exact h.elim
  | cell p ty =>
    unfold resOne at h
    dsimp only at h
    split at h
    · rename_i c hc
      obtain ⟨v, hv, hr⟩ := qload_ok h hw.hwf
      refine ⟨v, hv, ?_⟩
      have hr := hr C w hw
      have e := ha.tmps p _ hc
      unfold qload at h
      split at h
      · simp only [Instr.loadAt, Instr.sureAddr, SC.val, Pt.value, Sem.run_bind, Sem.run_pure, Result.andThen_ok] at hr
        simp only [resSem, e, TV.val, BV.val, SC.val, Pt.value, asAddr, Sem.run_bind, Sem.run_pure, Result.andThen_ok]
        exact hr
      · exact h.elim
    · exact h.elim

theorem resAll_ok {C : Ctx} {T : Tm} {H : Heap} {a : Act} {w : World} (ha : Fits C T a) (hw : Rep C H w) : ∀ {l : List ResultVar} {K : List BV → Prop}, resAll C.P T H l K →
    ∃ vs, K vs ∧ vs.length = l.length ∧ (l.mapM (resSem a)).run C.P w = .ok (vs.map BV.val) w := by
  intro l
  induction l with
  | nil => intro K h; exact ⟨[], h, rfl, rfl⟩
  | cons r l ih =>
    intro K h
    obtain ⟨v, hv, hr⟩ := resOne_ok h ha hw
    obtain ⟨vs, hvs, hl, hrs⟩ := ih hv
    refine ⟨v :: vs, hvs, by simp [hl], ?_⟩
    rw [List.mapM_cons]
    simp only [Sem.run_bind, hr, Result.andThen_ok, hrs, Sem.run_pure, List.map_cons]

theorem results_sem (fn : Func) (a : Act) : results fn a.tmps = (do let vs ← fn.results.mapM (resSem a); pure (if h : vs.size = 1 then vs[0] else .tuple vs)) := rfl

theorem ResG_ok {C : Ctx} {T : Tm} {H : Heap} {fn : Func} {K : TV → Prop} {a : Act} {w : World} (h : ResG C.P T H fn.results.toList K) (ha : Fits C T a) (hw : Rep C H w) :
    ∃ v, K v ∧ (results fn a.tmps).run C.P w = .ok v.val w := by
  have e : fn.results = fn.results.toList.toArray := by simp
  unfold ResG at h
  split at h
  · rename_i r hr
    obtain ⟨v, hv, hrun⟩ := resOne_ok h ha hw
    refine ⟨_, hv, ?_⟩
    rw [results_sem, e, hr, List.mapM_toArray]
    simp only [List.mapM_cons, List.mapM_nil, Sem.run_bind, Sem.run_map, Sem.run_pure, Result.andThen_ok, hrun]
    simp [TV.val]
  · rename_i rs hne
    obtain ⟨vs, hvs, hl, hrun⟩ := resAll_ok ha hw h
    refine ⟨_, hvs, ?_⟩
    rw [results_sem, e, List.mapM_toArray]
    simp only [Sem.run_bind, Sem.run_map, hrun, Result.andThen_ok]
    have hne1 : (vs.map BV.val).toArray.size ≠ 1 := by
      simp only [List.size_toArray, List.length_map, hl]
      intro h1
      obtain ⟨r, hr⟩ := List.length_eq_one_iff.1 h1
      exact hne r hr
    rw [dif_neg hne1]
    rfl

/-- The frame of a call. -/
def frame : Nat → List TV → Tm
  | _, [] => []
  | n, v :: l => (n, v) :: frame (n + 1) l
theorem frame_get : ∀ (l : List TV) (n t : Nat) (v : TV), tget (frame n l) t = some v → n ≤ t ∧ l[t - n]? = some v := by
  intro l
  induction l with
  | nil => intro n t v h; cases h
  | cons u l ih =>
    intro n t v h
    unfold frame at h
    rw [tget_cons] at h
    split at h
    · rename_i e; subst e; cases h; simp
    · obtain ⟨h1, h2⟩ := ih (n + 1) t v h
      refine ⟨by omega, ?_⟩
      rw [show t - n = (t - (n + 1)) + 1 by omega]; simpa using h2

def endQ (P : Program) (rs : List ResultVar) (Post : TV → Heap → Prop) : Ex → Tm → Heap → Prop
  | .exit _, _, _ => False
  | _, T, H => ResG P T H rs fun v => ∃ H2, HSub H H2 ∧ Post v H2

theorem Ctr.of {P : Program} {f : FuncId} {fn : Func} {c : Code} {args : List TV} {G : Heap} {Post : TV → Heap → Prop} (hf : P.funcs[f]? = some fn) (hb : fn.body = some c)
    (hn : (fn.name == "runtime.NumGoroutine") = false) (hl : Nat.ble args.length fn.ntmps = true)
    (h : ∀ w0, sx (ctxOf P fn.ntmps G w0) c (frame 0 args) G (endQ P fn.results.toList Post)) : Ctr P f (args.map TV.val) G Post := by
  have hl := Nat.le_of_ble_eq_true hl
  refine ⟨⟨fn, hf, hn, by simp [hb]⟩, fun w hw => ?_⟩
  refine calls_of_wp hf hb ?_
  have ha : Fits (ctxOf P fn.ntmps G w) (frame 0 args) { tmps := (args.map TV.val).toArray ++ Array.replicate (fn.ntmps - (args.map TV.val).toArray.size) undef, defers := [] } := by
    refine ⟨fun t v ht => ?_, by simp; omega, rfl⟩
    obtain ⟨_, h2⟩ := frame_get args 0 t v ht
    have hlt : t < args.length := by
      have := (List.getElem?_eq_some_iff.1 h2).1; omega
    have hv : args[t] = v := by
      have := (List.getElem?_eq_some_iff.1 h2).2; simpa using this
    simp only [Array.getD_eq_getD_getElem?]
    rw [Array.getElem?_append_left (by simpa using hlt)]
    simp [hlt, hv]
  refine wp_mono (sx_ok (h w) ha hw.ctx) fun e a' w' hh => ?_
  have fin : ∀ T' H', Fits (ctxOf P fn.ntmps G w) T' a' → Rep (ctxOf P fn.ntmps G w) H' w' → (ResG P T' H' fn.results.toList fun v => ∃ H2, HSub H' H2 ∧ Post v H2) →
      a'.defers = [] ∧ ∃ v, (results fn a'.tmps).run P w' = .ok v w' ∧ ∃ tv H', Ending.returned v = .returned (TV.val tv) ∧ Rep (ctxOf P 0 G w) H' w' ∧ Post tv H' := by
    intro T' H' ha' hw' hr
    obtain ⟨v, ⟨H2, hsub, hv⟩, hrun⟩ := ResG_ok hr ha' hw'
    exact ⟨ha'.defers, v.val, hrun, v, H2, rfl, (hw'.sub hsub.get).ctx, hv⟩
  cases e with
  | normal => obtain ⟨T', H', ha', hw', hr⟩ := hh; exact fin T' H' ha' hw' hr
  | ret => obtain ⟨T', H', ha', hw', hr⟩ := hh; exact fin T' H' ha' hw' hr
  | exit i => obtain ⟨T', H', _, _, hr⟩ := hh; exact hr.elim
  | goto l => exact hh.elim
  | panic ch => exact hh.elim
  | outgrown => exact hh.elim

/-! ### A call by its contract -/
def HBle (x y : HB) : Prop := ∀ w b, x.Is w b → y.Is w b
theorem HBle.refl (x : HB) : HBle x x := fun _ _ h => h
/-- A row of numbers that is owned, as one that is only read. -/
theorem HBle.ints {T : TypeId} {k : IntKind} {l : List Int} : HBle (.full T (.ints k l)) (.seg 0 (.ints k l)) := fun w b h =>
  ⟨h.lt, fun j v hv => by simpa using full_cell h hv, trivial⟩
theorem HBle.rows {T : TypeId} {sz : Nat} {l : List (List SC)} : HBle (.full T (.rows sz l)) (.seg 0 (.rows sz l)) := fun w b h =>
  ⟨h.lt, fun j v hv => by simpa using full_cell h hv, h.wf⟩
theorem HBle.cells {T : TypeId} {l : List SC} : HBle (.full T (.cells l)) (.seg 0 (.cells l)) := fun w b h =>
  ⟨h.lt, fun j v hv => by simpa using full_cell h hv, trivial⟩
theorem HBle.vals {T : TypeId} {c c' : CT} (h : c.vals = c'.vals) (hw : c'.wf) : HBle (.full T c) (.full T c') := fun w b ⟨lo, hi, h1, h2, h3⟩ =>
  ⟨lo, hi, by rw [← h]; exact h1, by rw [← h]; exact h2, hw⟩

def rwKey (G : Heap) (k : Nat) : Bool :=
  match hget G k with
  | some (_, hb) => hb.isRw
  | none => false

/-- Each block that a contract speaks of is known to the caller: under the same key if it may be written. -/
def SubG (H G : Heap) : Heap → List Nat → Prop
  | [], [] => True
  | (k, b, hb) :: r, kc :: ks => (match hget H kc with
    | some (b', hbc) => b' = b ∧ HBle hbc hb ∧ (match hb.isRw with | true => kc = k ∧ hbc.isRw = true | false => rwKey G kc = false)
    | none => False) ∧ SubG H G r ks
  | _, _ => False

theorem SubG.get {H G : Heap} : ∀ {r : Heap} {ks : List Nat}, SubG H G r ks → ∀ k b hb, hget r k = some (b, hb) →
    ∃ kc hbc, hget H kc = some (b, hbc) ∧ HBle hbc hb ∧ ((hb.isRw = true ∧ kc = k ∧ hbc.isRw = true) ∨ (hb.isRw = false ∧ rwKey G kc = false)) := by
  intro r
  induction r with
  | nil => intro ks _ k b hb h; cases h
  | cons e r ih =>
    obtain ⟨k', b', hb'⟩ := e
    intro ks hs k b hb h
    cases ks with
    | nil => exact hs.elim
    | cons kc ks =>
      obtain ⟨h1, h2⟩ := hs
      rw [hget_cons] at h
      split at h
      · rename_i e; subst e; cases h
        split at h1
        · rename_i b2 hbc hg
          obtain ⟨rfl, hle, h3⟩ := h1
          refine ⟨kc, hbc, hg, hle, ?_⟩
          split at h3
          · rename_i hr; exact .inl ⟨hr, h3.1, h3.2⟩
          · rename_i hr; exact .inr ⟨hr, h3⟩
        · exact h1.elim
      · exact ih h2 k b hb h

/-- What is known behind the call. -/
def merge : Heap → Heap → Heap
  | [], H => H
  | (k, b, hb) :: r, H => match hb.isRw with
    | true => (k, b, hb) :: merge r H
    | false => merge r H
/-- Each block that may have been written is told anew. -/
def covers (H' : Heap) : Heap → Bool
  | [] => true
  | (k, _, hb) :: r => (match hb.isRw with | true => rwKey H' k | false => true) && covers H' r

theorem covers_get {H' : Heap} : ∀ {G : Heap}, covers H' G = true → ∀ k, rwKey G k = true → rwKey H' k = true := by
  intro G
  induction G with
  | nil => intro _ k h; simp [rwKey, hget] at h
  | cons e r ih =>
    obtain ⟨k', b, hb⟩ := e
    intro hc k hk
    simp only [covers, Bool.and_eq_true] at hc
    unfold rwKey at hk
    rw [hget_cons] at hk
    by_cases hkk : k' = k
    · subst hkk
      rw [if_pos rfl] at hk
      have : hb.isRw = true := hk
      rw [this] at hc; exact hc.1
    · rw [if_neg hkk] at hk
      exact ih hc.2 k hk

/-- Keys of what may be written come once. -/
def once : Heap → Bool
  | [] => true
  | (k, _, _) :: r => (match hget r k with | some _ => false | none => true) && once r

theorem merge_get : ∀ {H' H : Heap} (k : Nat) (x : Nat × HB), once H' = true → hget (merge H' H) k = some x → (hget H' k = some x ∧ x.2.isRw = true) ∨ (hget H k = some x ∧ rwKey H' k = false) := by
  intro H'
  induction H' with
  | nil => intro H k x _ h; exact .inr ⟨h, rfl⟩
  | cons e r ih =>
    obtain ⟨k', b, hb⟩ := e
    intro H k x ho h
    simp only [once, Bool.and_eq_true] at ho
    unfold merge at h
    have hnone : hget r k' = none := by
      have := ho.1
      split at this
      · cases this
      · assumption
    split at h
    · rename_i hr
      rw [hget_cons] at h
      split at h
      · rename_i e; subst e; cases h; exact .inl ⟨by rw [hget_cons, if_pos rfl], hr⟩
      · rename_i hne
        rcases ih k x ho.2 h with ⟨h1, h2⟩ | ⟨h1, h2⟩
        · exact .inl ⟨by rw [hget_cons, if_neg hne]; exact h1, h2⟩
        · exact .inr ⟨h1, by unfold rwKey; rw [hget_cons, if_neg hne]; exact h2⟩
    · rename_i hr
      rcases ih k x ho.2 h with ⟨h1, h2⟩ | ⟨h1, h2⟩
      · refine .inl ⟨?_, h2⟩
        rw [hget_cons]
        split
        · rename_i e; subst e; rw [hnone] at h1; cases h1
        · exact h1
      · refine .inr ⟨h1, ?_⟩
        unfold rwKey
        rw [hget_cons]
        by_cases hkk : k' = k
        · rw [if_pos hkk]; exact hr
        · rw [if_neg hkk]; exact h2

theorem sub_rep {P : Program} {C : Ctx} {H G : Heap} {w : World} {ks : List Nat} (hs : SubG H G G ks) (hw : Rep C H w) : Rep (ctxOf P 0 G w) G w := by
  refine ⟨fun k b hb hk => ?_, fun k k' b b' hb hb' hk hk' hne hr => ?_, fun k b hb hk hr => .inr ⟨k, hb, hk, hr⟩, ⟨rfl, rfl, rfl, Nat.le_refl _, fun _ _ _ => rfl⟩⟩
  · obtain ⟨kc, hbc, hg, hle, _⟩ := hs.get k b hb hk
    exact hle _ _ (hw.is _ _ _ hg)
  · obtain ⟨kc, hbc, hg, hle, h1⟩ := hs.get k b hb hk
    obtain ⟨kc', hbc', hg', hle', h1'⟩ := hs.get k' b' hb' hk'
    rcases h1 with ⟨_, rfl, hrc⟩ | ⟨hf, _⟩
    · refine hw.apart kc kc' b b' hbc hbc' hg hg' ?_ hrc
      rcases h1' with ⟨_, rfl, _⟩ | ⟨_, hn⟩
      · exact hne
      · intro e; subst e
        unfold rwKey at hn
        rw [hk] at hn
        have : hb.isRw = false := hn
        rw [hr] at this; cases this
    · rw [hr] at hf; cases hf

theorem merge_rep {C : Ctx} {P : Program} {H G H' : Heap} {w w' : World} {ks : List Nat} (hs : SubG H G G ks) (hw : Rep C H w) (hw' : Rep (ctxOf P 0 G w) H' w') (hc : covers H' G = true) (ho : once H' = true) :
    Rep C (merge H' H) w' := by
  have frmF : ∀ b, FG G b → ∃ k hbc, hget H k = some (b, hbc) ∧ hbc.isRw = true ∧ rwKey G k = true := by
    rintro b ⟨k, hb, hk, hr⟩
    obtain ⟨kc, hbc, hg, _, h1⟩ := hs.get k b hb hk
    rcases h1 with ⟨_, rfl, hrc⟩ | ⟨hf, _⟩
    · exact ⟨kc, hbc, hg, hrc, by unfold rwKey; rw [hk]; exact hr⟩
    · rw [hr] at hf; cases hf
  have keep : ∀ k b hb, hget H k = some (b, hb) → rwKey H' k = false → ¬ FG G b := by
    intro k b hb hk hn hF
    obtain ⟨k2, hbc, hg, hrc, hrk⟩ := frmF b hF
    by_cases h : k2 = k
    · subst h; rw [covers_get hc k2 hrk] at hn; cases hn
    · exact hw.apart k2 k b b hbc hb hg hk h hrc rfl
  refine ⟨fun k b hb hk => ?_, fun k k' b b' hb hb' hk hk' hne hr => ?_, fun k b hb hk hr => ?_, ?_⟩
  · rcases merge_get k _ ho hk with ⟨h1, _⟩ | ⟨h1, h2⟩
    · exact hw'.is _ _ _ h1
    · have hi := hw.is _ _ _ h1
      exact hi.of_block hw'.frm.size (hw'.frm.block b hi.lt (keep k b hb h1 h2))
  · have mixed : ∀ k k' b b' hb hb', hget H' k = some (b, hb) → hb.isRw = true → hget H k' = some (b', hb') → rwKey H' k' = false → b ≠ b' := by
      intro k k' b b' hb hb' h1 hr h2 hn e
      subst e
      have hlt := (hw.is _ _ _ h2).lt
      rcases hw'.own k b hb h1 hr with h | h
      · simp only at h; omega
      · exact keep k' b hb' h2 hn h
    rcases merge_get k _ ho hk with ⟨h1, h1r⟩ | ⟨h1, h1n⟩ <;> rcases merge_get k' _ ho hk' with ⟨h2, h2r⟩ | ⟨h2, h2n⟩
    · exact hw'.apart k k' b b' hb hb' h1 h2 hne hr
    · exact mixed k k' b b' hb hb' h1 h1r h2 h2n
    · exact (mixed k' k b' b hb' hb h2 h2r h1 h1n).symm
    · exact hw.apart k k' b b' hb hb' h1 h2 hne hr
  · rcases merge_get k _ ho hk with ⟨h1, _⟩ | ⟨h1, _⟩
    · rcases hw'.own k b hb h1 hr with h | h
      · simp only at h; exact .inl (Nat.le_trans hw.frm.size h)
      · obtain ⟨k2, hbc, hg, hrc, _⟩ := frmF b h
        exact hw.own k2 b hbc hg hrc
    · exact hw.own k b hb h1 hr
  · refine ⟨hw'.frm.os.trans hw.frm.os, hw'.frm.tape.trans hw.frm.tape, hw'.frm.output.trans hw.frm.output, Nat.le_trans hw.frm.size hw'.frm.size, fun b hlt hF => ?_⟩
    have hlt2 : b < w.heap.size := Nat.lt_of_lt_of_le hlt hw.frm.size
    refine (hw'.frm.block b hlt2 fun hG => ?_).trans (hw.frm.block b hlt hF)
    obtain ⟨k2, hbc, hg, hrc, _⟩ := frmF b hG
    rcases hw.own k2 b hbc hg hrc with h | h
    · omega
    · exact hF h

/-- The call rule. 'ks': the caller's keys of the blocks that the contract speaks of. -/
theorem CallG.by {C : Ctx} {f : FuncId} {args : List Value} {T : Tm} {H : Heap} {K : TV → Heap → Prop} {G : Heap} {Post : TV → Heap → Prop} (ks : List Nat)
    (hs : Ctr C.P f args G Post) (hsub : SubG H G G ks) (hK : ∀ v H', Post v H' → covers H' G = true ∧ once H' = true ∧ K v (merge H' H)) : CallG C f args T H K := by
  refine ⟨hs.fn, fun a w ha hw => ?_⟩
  refine (hs.go w (sub_rep hsub hw)).mono ?_
  rintro e w' ⟨v, H', he, hw', hp⟩
  obtain ⟨h1, h2, h3⟩ := hK v H' hp
  exact ⟨v, _, he, merge_rep hsub hw hw' h1 h2, h3⟩

/-- The same for a call that hands back one value and leaves all that is known as it is. -/
theorem CallQ.by {C : Ctx} {f : FuncId} {args : List Value} {T : Tm} {H : Heap} {K : TV → Prop} {G : Heap} (v : TV) (ks : List Nat)
    (hs : Ctr C.P f args G fun u _ => u.val = v.val) (hro : ∀ k, rwKey G k = false) (hsub : SubG H G G ks) (hK : K v) : CallQ C f args T H K := by
  refine ⟨hs.fn, v, hK, fun w hw => ?_⟩
  refine (hs.go w (sub_rep hsub hw)).mono ?_
  rintro e w' ⟨u, H', he, hw', hp⟩
  refine ⟨by rw [he, hp], ?_⟩
  have hF : ∀ b, ¬ FG G b := by
    rintro b ⟨k, hb, hk, hr⟩
    have := hro k
    unfold rwKey at this; rw [hk] at this
    have h2 : hb.isRw = false := this
    rw [hr] at h2; cases h2
  exact hw.move hw'.frm.os hw'.frm.tape hw'.frm.output hw'.frm.size fun b hb => hw'.frm.block b hb (hF b)

/-! ### The same contract under other keys -/
def ren (l : List (Nat × Nat)) (k : Nat) : Nat :=
  match l with
  | [] => k
  | (a, b) :: r => match Nat.beq a k with | true => b | false => ren r k
def SC.ren (l : List (Nat × Nat)) : SC → SC
  | .ptr ⟨k, b, o⟩ => .ptr ⟨SX.ren l k, b, o⟩
  | .sl k b base o sz len cap => .sl (SX.ren l k) b base o sz len cap
  | .mp k b => .mp (SX.ren l k) b
  | .ch k b => .ch (SX.ren l k) b
  | .fn f a c => .fn f (a.map fun p => ⟨SX.ren l p.key, p.blk, p.off⟩) (c.map fun p => ⟨SX.ren l p.key, p.blk, p.off⟩)
  | c => c
theorem SC.ren_val (l : List (Nat × Nat)) (c : SC) : (c.ren l).val = c.val := by
  cases c <;> simp [SC.ren, SC.val, Pt.value, Pt.addr, Function.comp_def]
def BV.ren (l : List (Nat × Nat)) : BV → BV
  | .one c => .one (c.ren l)
  | .agg a => .agg (a.map (SC.ren l))
  | .seq k a => .seq k a
theorem BV.ren_val (l : List (Nat × Nat)) (x : BV) : (x.ren l).val = x.val := by
  cases x <;> simp [BV.ren, BV.val, SC.ren_val]
def TV.ren (l : List (Nat × Nat)) : TV → TV
  | .b x => .b (x.ren l)
  | .tup a => .tup (a.map (BV.ren l))
theorem TV.ren_val (l : List (Nat × Nat)) (x : TV) : (x.ren l).val = x.val := by
  cases x <;> simp [TV.ren, TV.val, BV.ren_val]
def CT.ren (l : List (Nat × Nat)) : CT → CT
  | .cells a => .cells (a.map (SC.ren l))
  | c => c
theorem CT.ren_vals (l : List (Nat × Nat)) (c : CT) : (c.ren l).vals = c.vals := by
  cases c <;> simp [CT.ren, CT.vals, SC.ren_val]
theorem CT.ren_wf (l : List (Nat × Nat)) (c : CT) : (c.ren l).wf ↔ c.wf := by cases c <;> simp [CT.ren, CT.wf]
def HB.ren (l : List (Nat × Nat)) : HB → HB
  | .full T c => .full T (c.ren l)
  | .seg base c => .seg base (c.ren l)
  | .obj o => .obj o
theorem HB.ren_is (l : List (Nat × Nat)) (x : HB) (w : World) (b : Nat) : (x.ren l).Is w b ↔ x.Is w b := by
  cases x <;> simp [HB.ren, HB.Is, CT.ren_vals, CT.ren_wf]
theorem HB.ren_rw (l : List (Nat × Nat)) (x : HB) : (x.ren l).isRw = x.isRw := by cases x <;> rfl
def hren (l : List (Nat × Nat)) : Heap → Heap
  | [] => []
  | (k, b, hb) :: r => (SX.ren l k, b, hb.ren l) :: hren l r

theorem hren_get {l : List (Nat × Nat)} : ∀ {H : Heap}, once H = true → ∀ t b hb, hget (hren l H) t = some (b, hb) → ∃ k hb0, hget H k = some (b, hb0) ∧ hb = hb0.ren l ∧ t = SX.ren l k := by
  intro H
  induction H with
  | nil => intro _ t b hb h; cases h
  | cons e r ih =>
    obtain ⟨k, b0, hb0⟩ := e
    intro ho t b hb h
    simp only [once, Bool.and_eq_true] at ho
    unfold hren at h
    rw [hget_cons] at h
    split at h
    · rename_i e; cases h; exact ⟨k, hb0, by rw [hget_cons, if_pos rfl], rfl, e.symm⟩
    · obtain ⟨k', hb', h1, h2, h3⟩ := ih ho.2 t b hb h
      refine ⟨k', hb', ?_, h2, h3⟩
      rw [hget_cons]
      split
      · rename_i e; subst e
        have := ho.1
        rw [h1] at this; cases this
      · exact h1
theorem hren_put {l : List (Nat × Nat)} : ∀ {H : Heap}, once (hren l H) = true → ∀ k b hb, hget H k = some (b, hb) → hget (hren l H) (SX.ren l k) = some (b, hb.ren l) := by
  intro H
  induction H with
  | nil => intro _ k b hb h; cases h
  | cons e r ih =>
    obtain ⟨k0, b0, hb0⟩ := e
    intro ho k b hb h
    simp only [hren, once, Bool.and_eq_true] at ho
    rw [hget_cons] at h
    unfold hren
    rw [hget_cons]
    split at h
    · rename_i e; subst e; cases h; rw [if_pos rfl]
    · have := ih ho.2 k b hb h
      split
      · rename_i e
        have h1 := ho.1
        rw [e, this] at h1; cases h1
      · exact this
theorem Rep.ren {C : Ctx} {H : Heap} {w : World} (h : Rep C H w) (l : List (Nat × Nat)) (ho : once H = true) : Rep C (hren l H) w := by
  refine ⟨fun t b hb ht => ?_, fun t t' b b' hb hb' ht ht' hne hr => ?_, fun t b hb ht hr => ?_, h.frm⟩
  · obtain ⟨k, hb0, h1, rfl, _⟩ := hren_get ho t b hb ht
    exact (HB.ren_is l hb0 w b).2 (h.is k b hb0 h1)
  · obtain ⟨k, hb0, h1, rfl, rfl⟩ := hren_get ho t b hb ht
    obtain ⟨k', hb0', h1', rfl, rfl⟩ := hren_get ho t' b' hb' ht'
    rw [HB.ren_rw] at hr
    exact h.apart k k' b b' hb0 hb0' h1 h1' (fun e => hne (by rw [e])) hr
  · obtain ⟨k, hb0, h1, rfl, _⟩ := hren_get ho t b hb ht
    rw [HB.ren_rw] at hr
    exact h.own k b hb0 h1 hr
theorem FG.ren {l : List (Nat × Nat)} {G : Heap} (h1 : once G = true) (h2 : once (hren l G) = true) (b : Nat) : FG (hren l G) b ↔ FG G b := by
  constructor
  · rintro ⟨t, hb, ht, hr⟩
    obtain ⟨k, hb0, hk, rfl, _⟩ := hren_get h1 t b hb ht
    rw [HB.ren_rw] at hr
    exact ⟨k, hb0, hk, hr⟩
  · rintro ⟨k, hb, hk, hr⟩
    exact ⟨_, _, hren_put h2 k b hb hk, by rw [HB.ren_rw]; exact hr⟩

theorem Rep.frame {P P' : Program} {N N' : Nat} {w0 : World} {F F' : Nat → Prop} {H : Heap} {w : World} (h : Rep ⟨P, N, w0, F⟩ H w) (hF : ∀ b, F b ↔ F' b) : Rep ⟨P', N', w0, F'⟩ H w :=
  ⟨h.is, h.apart, fun k b hb hk hr => (h.own k b hb hk hr).imp id (hF b).1, ⟨h.frm.os, h.frm.tape, h.frm.output, h.frm.size, fun b hb hn => h.frm.block b hb fun hh => hn ((hF b).1 hh)⟩⟩

/-- What memory holds is told by what its cells hold: the keys are names. -/
theorem Rep.back {C : Ctx} {H : Heap} {w : World} (l : List (Nat × Nat)) (h : Rep C (hren l H) w) (ho : once (hren l H) = true) : Rep C H w := by
  refine ⟨fun t b hb ht => ?_, fun t t' b b' hb hb' ht ht' hne hr => ?_, fun t b hb ht hr => ?_, h.frm⟩
  · exact (HB.ren_is l hb w b).1 (h.is _ _ _ (hren_put ho t b hb ht))
  · refine h.apart _ _ b b' _ _ (hren_put ho t b hb ht) (hren_put ho t' b' hb' ht') (fun e => ?_) (by rw [HB.ren_rw]; exact hr)
    have e1 := hren_put ho t b hb ht
    have e2 := hren_put ho t' b' hb' ht'
    -- two keys of one name: the list would bear the name twice
    have inj : ∀ {H : Heap}, once (hren l H) = true → ∀ k k' x x', hget H k = some x → hget H k' = some x' → SX.ren l k = SX.ren l k' → k = k' := by
      intro H
      induction H with
      | nil => intro _ k k' x x' h; cases h
      | cons e r ih =>
        obtain ⟨k0, b0, hb0⟩ := e
        intro ho k k' x x' h h' hkk
        simp only [hren, once, Bool.and_eq_true] at ho
        rw [hget_cons] at h h'
        split at h <;> split at h'
        · rename_i e1 e2; exact e1.symm.trans e2
        · rename_i e1 _
          obtain ⟨b', hb'⟩ := x'
          have h3 := hren_put ho.2 k' b' hb' h'
          have h1 := ho.1
          rw [e1, hkk, h3] at h1; cases h1
        · rename_i _ e1
          obtain ⟨b', hb'⟩ := x
          have h3 := hren_put ho.2 k b' hb' h
          have h1 := ho.1
          rw [e1, ← hkk, h3] at h1; cases h1
        · exact ih ho.2 k k' x x' h h' hkk
    exact hne (inj ho t t' _ _ ht ht' e)
  · exact h.own _ _ _ (hren_put ho t b hb ht) (by rw [HB.ren_rw]; exact hr)

/-- The call rule, the contract's keys named anew by 'l'. -/
theorem CallG.ren {C : Ctx} {f : FuncId} {args : List Value} {T : Tm} {H : Heap} {K : TV → Heap → Prop} {G : Heap} {Post : TV → Heap → Prop} (l : List (Nat × Nat)) (ks : List Nat)
    (hs : Ctr C.P f args G Post) (h1 : once G = true) (h2 : once (hren l G) = true) (hsub : SubG H (hren l G) (hren l G) ks)
    (hK : ∀ v H', Post v H' → once H' = true ∧ covers (hren l H') (hren l G) = true ∧ once (hren l H') = true ∧ K (v.ren l) (merge (hren l H') H)) : CallG C f args T H K := by
  refine ⟨hs.fn, fun a w ha hw => ?_⟩
  have hg : Rep (ctxOf C.P 0 (hren l G) w) (hren l G) w := sub_rep hsub hw
  have hg' : Rep (ctxOf C.P 0 G w) G w := (hg.back l h2).frame (FG.ren h1 h2)
  refine (hs.go w hg').mono ?_
  rintro e w' ⟨v, H', he, hw', hp⟩
  obtain ⟨o1, o2, o3, hk⟩ := hK v H' hp
  have hw2 : Rep (ctxOf C.P 0 (hren l G) w) (hren l H') w' := (hw'.ren l o1).frame fun b => (FG.ren h1 h2 b).symm
  exact ⟨v.ren l, _, by rw [he, TV.ren_val], merge_rep hsub hw hw2 o2 o3, hk⟩

theorem Ctr.mono {P : Program} {f : FuncId} {args : List Value} {G : Heap} {Post Post' : TV → Heap → Prop} (h : Ctr P f args G Post) (hp : ∀ v H', Post v H' → Post' v H') : Ctr P f args G Post' :=
  ⟨h.fn, fun w hw => (h.go w hw).mono fun e w' ⟨v, H', he, hr, hP⟩ => ⟨v, H', he, hr, hp v H' hP⟩⟩

/-- A law: nothing that was there is written. -/
theorem Ctr.law {P : Program} {f : FuncId} {args : List Value} {G : Heap} {Post : TV → Heap → Prop} (h : Ctr P f args G Post) {v : Value} (hv : ∀ u H', Post u H' → u.val = v) (hro : ∀ k, rwKey G k = false)
    {w : World} (hw : ∀ k b hb, hget G k = some (b, hb) → hb.Is w b) :
    Calls P f args.toArray w fun e w' => e = .returned v ∧ RowKit.Below w.heap.size w w' := by
  have hF : ∀ b, ¬ FG G b := by
    rintro b ⟨k, hb, hk, hr⟩
    have := hro k
    unfold rwKey at this; rw [hk] at this
    have h2 : hb.isRw = false := this
    rw [hr] at h2; cases h2
  have hrep : Rep (ctxOf P 0 G w) G w := ⟨hw, fun k k' b b' hb hb' hk _ _ hr => (hF b ⟨k, hb, hk, hr⟩).elim, fun k b hb hk hr => (hF b ⟨k, hb, hk, hr⟩).elim, ⟨rfl, rfl, rfl, Nat.le_refl _, fun _ _ _ => rfl⟩⟩
  refine (h.go w hrep).mono ?_
  rintro e w' ⟨u, H', he, hw', hp⟩
  exact ⟨by rw [he, hv u H' hp], hw'.frm.os, hw'.frm.tape, hw'.frm.output, hw'.frm.size, fun b hb => hw'.frm.block b hb (hF b)⟩
end Go.SX
