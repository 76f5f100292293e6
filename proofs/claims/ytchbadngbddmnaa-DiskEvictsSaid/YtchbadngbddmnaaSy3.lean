/- A walk engine: what a call computes, symbolically (part 3). -/
import Derived.Test.YtchbadngbddmnaaSy2
import Derived.Lib.UnsafeStr
import Derived.Laws.Externs
import Derived.RowKit
/- A function's body, step by step: the code. -/
set_option linter.unusedSimpArgs false
set_option linter.unusedVariables false
namespace Go.SY

inductive Ex where
  | normal
  | ret
  | exit (id : Nat)

def QK (C : Ctx) (Q : Ex → Tm → Heap → Prop) : Exit → Act → World → Prop
  | .normal, a, w => Holds C (Q .normal) a w
  | .ret, a, w => Holds C (Q .ret) a w
  | .exit id, a, w => Holds C (Q (.exit id)) a w
  | _, _, _ => False

/-- A call of a Go function: what is asked of it. -/
structure CallB (C : Ctx) (f : FuncId) (args : List TV) (T : Tm) (H : Heap) (K : TV → Heap → Prop) : Prop where
  fn : ∃ fn, C.P.funcs[f]? = some fn ∧ (fn.name == "runtime.NumGoroutine") = false ∧ fn.body.isNone = false
  go : ∀ a w, Fits C T a → Rep C H w → (∀ v ∈ args, v.wf) → Calls C.P f (args.map TV.val).toArray w fun e w' => ∃ v H', e = .returned (TV.val v) ∧ v.wf ∧ Rep C H' w' ∧ K v H'

/-- A call of a function that has no body here, and leaves memory alone. -/
structure CallE (C : Ctx) (f : FuncId) (args : List TV) (T : Tm) (H : Heap) (K : TV → Heap → Prop) : Prop where
  fn : ∃ fn e, C.P.funcs[f]? = some fn ∧ (fn.name == "runtime.NumGoroutine") = false ∧ fn.body.isNone = true ∧ Extern.findNext fn = none ∧ Extern.find fn = some e ∧
    ∀ w, Rep C H w → (∀ v ∈ args, v.wf) → ∃ v H', (e (args.map TV.val).toArray).run C.P w = .ok (TV.val v) w ∧ v.wf ∧ Rep C H' w ∧ K v H'
structure CallG (C : Ctx) (f : FuncId) (args : List TV) (T : Tm) (H : Heap) (K : TV → Heap → Prop) : Prop where
  or : CallB C f args T H K ∨ CallE C f args T H K
/-- One that hands back what it is given. -/
theorem CallG.same {C : Ctx} {f : FuncId} {fn : Func} {v : TV} {T : Tm} {H : Heap} {K : TV → Heap → Prop} (hf : C.P.funcs[f]? = some fn) (h1 : (fn.name == "runtime.NumGoroutine") = false) (h2 : fn.body.isNone = true)
    (h3 : Extern.findNext fn = none) (h4 : Extern.find fn = some Extern.AbiNoEscape.same) (h : K v H) : CallG C f [v] T H K :=
  ⟨.inr ⟨fn, _, hf, h1, h2, h3, h4, fun w hr hw => ⟨v, H, rfl, hw v (List.mem_cons_self ..), hr, h⟩⟩⟩

structure LoopG (C : Ctx) (body : Code) (T : Tm) (H : Heap) (Q : Ex → Tm → Heap → Prop) : Prop where
  go : ∀ a w, Fits C T a → Rep C H w → (Code.loop body).wp C.P (QK C Q) a w

structure CondG (C : Ctx) (c : Operand) (x y : Code) (T : Tm) (H : Heap) (Q : Ex → Tm → Heap → Prop) : Prop where
  go : ∀ a w, Fits C T a → Rep C H w → (Code.cond c x y).wp C.P (QK C Q) a w

structure RangeG (C : Ctx) (f : Operand) (params : Array Tmp) (assign body : Code) (T : Tm) (H : Heap) (Q : Ex → Tm → Heap → Prop) : Prop where
  go : ∀ a w, Fits C T a → Rep C H w → (Code.rangeFunc f params assign body).wp C.P (QK C Q) a w

structure Draw (C : Ctx) (id : Nat) (ops : List Oper) (T : Tm) (H : Heap) (Q : Ex → Tm → Heap → Prop) : Prop where
  go : ∀ a w, Fits C T a → Rep C H w → (Code.region id ops.toArray true).wp C.P (QK C Q) a w

/-- One operation, carried out on the machine. -/
def OpS (P : Program) (o : Oper) (a : Act) (w : World) (next : Act → World → Prop) : Prop :=
  ∀ (ops : Array Oper) (i : Nat) (rest : List Nat) (b : Frame) (k : List Item) (cs : List Frame), ops[i]? = some o → Region.wanted o (yielded ops a.tmps) = true →
    ∃ a' w', next a' w' ∧ Steps P (lone (b.at a (.inRegion ops (i :: rest) :: k)) cs w) (lone (b.at a' (.inRegion ops rest :: k)) cs w')
theorem OpS.mono {P : Program} {o : Oper} {a : Act} {w : World} {K K' : Act → World → Prop} (h : OpS P o a w K) (hk : ∀ a w, K a w → K' a w) : OpS P o a w K' :=
  fun ops i rest b k cs ho hw => let ⟨a', w', hK, hs⟩ := h ops i rest b k cs ho hw; ⟨a', w', hk _ _ hK, hs⟩
theorem OpS.of_wp {P : Program} {o : Oper} {a : Act} {w : World} {next : Act → World → Prop} (h : o.wp P a w next fun _ _ _ => False) : OpS P o a w next := by
  intro ops i rest b k cs ho hw
  simp only [Oper.wp, Oper.upon] at h
  have hg := stepG_op (P := P) (b := b) (k := k) (cs := cs) (w := w) (rest := rest) ho hw
  have hfin : ∀ v, (b.at a (.inRegion ops (i :: rest) :: k)).finish v = b.at (a.put o.dst v) (.inRegion ops rest :: k) := by
    intro v; rw [Frame.finish_at, ho]; rfl
  split at h
  · rename_i v w' hr
    refine ⟨_, _, h, .one (step_lone_go ?_)⟩
    rw [hg, ← hfin]; simp [stepG.apply, hr]
  · rename_i w' hr
    refine ⟨_, _, h, .one (step_lone_go ?_)⟩
    rw [hg, ← hfin]; simp [stepG.apply, hr]
  · rename_i d w' hr
    refine ⟨_, _, h, .one (step_lone_go ?_)⟩
    have : ({ b.at a (.inRegion ops (i :: rest) :: k) with defers := d :: a.defers } : Frame).finish undef =
        b.at ({ a with defers := d :: a.defers }.put o.dst undef) (.inRegion ops rest :: k) := by
      have := Frame.finish_at b { a with defers := d :: a.defers } ops i rest k undef
      rw [ho] at this; exact this
    rw [hg]; simp only [stepG.apply, Sem.runT_eq, hr, GStep.bare_after]
    exact congrArg (fun fr => GStep.go { frame := fr, callers := cs, status := .running, dying := none } w') this
  · rename_i f args w' hr
    obtain ⟨e, w'', fr, hR, hsteps, _, hleave⟩ := h (b.at a (.inRegion ops (i :: rest) :: k) :: cs)
    have henter : step P (lone (b.at a (.inRegion ops (i :: rest) :: k)) cs w) =
        .next (lone (Frame.enter P f args .normal) (b.at a (.inRegion ops (i :: rest) :: k) :: cs) w') :=
      step_lone_go (by rw [hg]; simp [stepG.apply, hr, Frame.at])
    cases e with
    | returned v =>
      refine ⟨_, _, hR, .head henter (Steps.trans hsteps (.one ?_))⟩
      rw [← hfin]; exact step_leave_returned hleave
    | panicked chain => exact hR.elim
    | outgrown => obtain ⟨_, _, hR⟩ := hR; exact hR.elim
  · rename_i row args w' hr
    obtain ⟨v, w'', hR, hsteps⟩ := h (b.at a (.inRegion ops (i :: rest) :: k)) cs
    have henter : step P (lone (b.at a (.inRegion ops (i :: rest) :: k)) cs w) =
        .next (lone (Frame.ofRow P row args .normal) (b.at a (.inRegion ops (i :: rest) :: k) :: cs) w') :=
      step_lone_go (by rw [hg]; simp [stepG.apply, hr, Frame.at])
    refine ⟨_, _, hR, .head henter ?_⟩
    rw [← hfin]; exact hsteps
  · exact h.elim
  · exact h.elim
/-- Some of a region's operations, one behind the other, on the machine. -/
def ArrI (P : Program) (ops : Array Oper) (K : Act → World → Prop) (l : List Nat) (a : Act) (w : World) : Prop :=
  ∀ (b : Frame) (k : List Item) (cs : List Frame), ∃ a' w', K a' w' ∧ Steps P (lone (b.at a (.inRegion ops l :: k)) cs w) (lone (b.at a' k) cs w')
section
variable {P : Program} {ops : Array Oper} {K : Act → World → Prop} {a : Act} {w : World}
theorem ArrI.nil (h : K a w) : ArrI P ops K [] a w := fun b k cs => ⟨a, w, h, .one step_region_end⟩
theorem ArrI.skip {i : Nat} {rest : List Nat} {o : Oper} (ho : ops[i]? = some o) (hw : Region.wanted o (yielded ops a.tmps) = false) (h : ArrI P ops K rest (a.put o.dst undef) w) : ArrI P ops K (i :: rest) a w := by
  intro b k cs
  obtain ⟨a', w', hK, hs⟩ := h b k cs
  have h1 := step_op_skip (P := P) (b := b) (a := a) (k := k) (cs := cs) (w := w) (ops := ops) (i := i) (rest := rest) (by simp [ho]; simpa using hw)
  simp only [ho, Option.bind_some] at h1
  exact ⟨a', w', hK, .head h1 hs⟩
theorem ArrI.cons {i : Nat} {rest : List Nat} {o : Oper} (ho : ops[i]? = some o) (hw : Region.wanted o (yielded ops a.tmps) = true) (h : OpS P o a w (ArrI P ops K rest)) : ArrI P ops K (i :: rest) a w := by
  intro b k cs
  obtain ⟨a1, w1, h1, hs1⟩ := h ops i rest b k cs ho hw
  obtain ⟨a', w', hK, hs⟩ := h1 b k cs
  exact ⟨a', w', hK, hs1.trans hs⟩
theorem ArrI.region {id : Nat} {Q : Exit → Act → World → Prop} (h : ArrI P ops (Q .normal) (List.range ops.size) a w) : (Code.region id ops false).wp P Q a w :=
  fun b k cs => let ⟨a', w', q, r⟩ := h b k cs; ⟨.normal, a', w', q, Steps.head step_region r⟩
theorem ArrI.draw {id : Nat} {Q : Exit → Act → World → Prop} (h : ∀ t, ArrI P ops (Q .normal) (Region.schedule (P.follows .mixedOrders) ops t) a { w with drawn := w.drawn + 1 }) : (Code.region id ops true).wp P Q a w :=
  fun b k cs => let ⟨a', w', q, r⟩ := h _ b k cs; ⟨.normal, a', w', q, Steps.head step_region_draw r⟩
end
def isComm (o : Oper) : Bool :=
  match o.op with
  | .send .. => true
  | .recv .. => true
  | .select .. => true
  | _ => false
def calm : List Oper → Bool
  | [] => true
  | o :: l => (match isComm o with | true => false | false => calm l)
/-- A communication: what is asked of it. -/
structure CommG (C : Ctx) (o : Oper) (T : Tm) (H : Heap) (K : Tm → Heap → Prop) : Prop where
  go : ∀ a w, Fits C T a → Rep C H w → OpS C.P o a w fun a w => ∃ T H, Fits C T a ∧ Rep C H w ∧ K T H
/-- Another operation: what is asked of it. -/
structure OpG (C : Ctx) (o : Oper) (T : Tm) (H : Heap) (K : Tm → Heap → Prop) : Prop where
  go : ∀ a w, Fits C T a → Rep C H w → ∀ Q, o.wp C.P a w (Holds C K) Q

def evAll (T : Tm) : List Operand → Option (List TV)
  | [] => some []
  | x :: l => match ev T x, evAll T l with
    | some v, some r => some (v :: r)
    | _, _ => none
theorem evAll_ok {C : Ctx} {T : Tm} {a : Act} (h : Fits C T a) : ∀ {l : List Operand} {r : List TV}, evAll T l = some r → l.map a.eval = r.map TV.val := by
  intro l
  induction l with
  | nil => intro r h; cases h; rfl
  | cons x l ih =>
    intro r hr
    unfold evAll at hr
    split at hr
    · rename_i v r' h1 h2
      cases hr
      simp [ev_ok h h1, ih h2]
    · cases hr

theorem evAll_wf {T : Tm} (h : TWf T) : ∀ {l : List Operand} {r : List TV}, evAll T l = some r → ∀ v ∈ r, v.wf := by
  intro l
  induction l with
  | nil => intro r h; cases h; simp
  | cons x l ih =>
    intro r hr
    unfold evAll at hr
    split at hr
    · rename_i v r' h1 h2
      cases hr
      intro u hu
      rcases List.mem_cons.1 hu with rfl | hu
      · exact ev_wfT h h1
      · exact ih h2 u hu
    · cases hr
def ptv (l : List Pt) : List TV := l.map fun p => .b (.one (.ptr p))
def appT : List TV → List TV → List TV
  | [], r => r
  | v :: l, r => v :: appT l r
theorem appT_eq (a b : List TV) : appT a b = a ++ b := by
  induction a with
  | nil => rfl
  | cons v a ih => simp [appT, ih]
/-- The arguments of a call. -/
def argsOf (first caps : List Pt) (l : List TV) : List TV := appT (ptv first) (appT l (ptv caps))
theorem argsOf_val (first caps : List Pt) (l : List TV) : (argsOf first caps l).map TV.val = first.map Pt.value ++ l.map TV.val ++ caps.map Pt.value := by
  simp [argsOf, appT_eq, ptv, TV.val, BV.val, SC.val, Function.comp_def]
theorem argsOf_wf {first caps : List Pt} {l : List TV} (h : ∀ v ∈ l, v.wf) : ∀ v ∈ argsOf first caps l, v.wf := by
  intro v hv
  simp only [argsOf, appT_eq, ptv, List.mem_append, List.mem_map] at hv
  rcases hv with ⟨p, _, rfl⟩ | hv | ⟨p, _, rfl⟩
  · exact one_wf _
  · exact h v hv
  · exact one_wf _
theorem Fits.twf {C : Ctx} {T : Tm} {a : Act} (h : Fits C T a) : TWf T := h.wf

/-- 'unsafe.SliceData' of a row that may grow. -/
def msdata (H : Heap) (k : Nat) (x : SV) (K : SC → Prop) : Prop :=
  match hget H k with
  | some (_, .grw _ E x' L) => Chk (x = x') (Br (decide (L.length = 0)) (∀ p : Option Addr, K (.raw (.pointer p) rfl)) (K (.ptr ⟨k, x.blk, .el x.off 0 E.sz 0⟩)))
  | _ => False
theorem msdata_ok {C : Ctx} {H : Heap} {k : Nat} {x : SV} {K : SC → Prop} {e : TypeId} (h : msdata H k x K) {w : World} (hw : Rep C H w) (ts : Array TypeId) (ty : TypeId) (hty : C.P.underlying ty = some (.pointer e)) :
    ∃ c w', K c ∧ (Builtin.unsafeSliceData_ ts ty #[(SC.lst k x).val]).run C.P w = .ok c.val w' ∧ Rep C H w' := by
  unfold msdata at h
  split at h
  · rename_i b T E x' L hg
    obtain ⟨rfl, h⟩ := h
    have hI := (hw.is _ _ _ hg).2
    cases x with
    | nil =>
      have hI : L = [] := hI
      subst hI
      exact ⟨_, w, h.t rfl none, rfl, hw⟩
    | «at» b' o len cap =>
      obtain ⟨rfl, rfl, pre, post, lo, hi, hh, hf, hp, hlc, hcap⟩ := hI
      by_cases hL : L.length = 0
      · replace h := h.t (decide_eq_true hL)
        by_cases hc : cap = 0
        · subst hc
          have hsh : w.shape? b' = some (T, (pre ++ E.vals L ++ post).length) := by simp [World.shape?, hh]
          refine ⟨_, _, h (some ⟨w.heap.size, 0, none⟩), Lib.run_unsafeSliceData_zero (P := C.P) w ts ty e hty ⟨b', o, none⟩ L.length _ hsh, ?_⟩
          exact hw.move rfl rfl rfl (by simp) (fun b hb => heap_alloc_old _ _ hb)
        · exact ⟨_, w, h (some ⟨b', o, none⟩), Lib.run_unsafeSliceData_row (P := C.P) w ts ty ⟨b', o, none⟩ L.length cap hc, hw⟩
      · refine ⟨_, w, h.f (decide_eq_false hL), ?_, hw⟩
        have := Lib.run_unsafeSliceData_row (P := C.P) w ts ty ⟨b', o, none⟩ L.length cap (by omega)
        simpa [SC.val, SV.val, Pt.value, Pt.addr, Off.val, SV.blk, SV.off] using this
  · exact h.elim

theorem liesAt_bytes' {P : Program} {e : TypeId} (hc : P.cellsOf e = 1) (count off n : Nat) (hn : off + n ≤ count) : liesAt P P.depth e count off e n = true := by
  have hd : P.depth = (2 * (P.types.size + Made.depth) + 1) + 1 := rfl
  rw [hd]
  simp only [liesAt, Bool.or_eq_true]
  left
  rw [hd]
  simp [rowAt, hc, hn, sameLayout, Nat.mod_one]
theorem run_unsafeString_at {P : Program} {w : World} (pt it ty e : TypeId) (hp : P.underlying pt = some (.pointer e)) (hc : P.cellsOf e = 1) (g o cells : Nat) (hsh : w.shape? g = some (e, cells)) (l : List UInt8) (h0 : l ≠ []) (hn : o + l.length ≤ cells) (h63 : l.length ≤ 9223372036854775807)
    (hcell : ∀ j x, l[j]? = some x → w.cell? ((⟨g, o, none⟩ : Addr).add j) = some (.int .u8 x.toNat)) :
    (Builtin.unsafeString_ #[pt, it] ty #[.pointer (some ⟨g, o, none⟩), .int .i64 l.length]).run P w = .ok (.string ⟨l.toArray⟩) (w.freeze ⟨g, o, none⟩ l.length) := by
  have hl : l.length ≠ 0 := by simpa using h0
  have hlb := Lib.run_loadBytes (P := P) w l ⟨g, o, none⟩ .empty hcell
  have hlies := liesAt_bytes' (P := P) hc (cells / P.cellsOf e) o l.length (by rw [hc]; simpa using hn)
  have h63' : ¬ (9223372036854775807 : Int) < (l.length : Int) := by omega
  have hdef : Builtin.unsafeString_ #[pt, it] ty #[.pointer (some ⟨g, o, none⟩), .int .i64 l.length] =
      (do
        let n ← asInt (.int .i64 l.length)
        if n < 0 then runtimePanic (.error "unsafe.String: len out of range")
        if n > IntKind.i64.max then unsupported (.unsafePointer "String: a length above the largest int")
        if n = 0 then pure (.string .empty)
        else if ← variablesAt ⟨g, o, none⟩ (← elemOf pt) n.toNat then do
          let s ← loadBytes ⟨g, o, none⟩ .empty n.toNat
          freeze ⟨g, o, none⟩ n.toNat
          pure (.string s)
        else unsupported (.unsafePointer "String: not so many bytes at ptr")) := rfl
  rw [hdef]
  have hmax : IntKind.i64.max = 9223372036854775807 := rfl
  have hneg : ¬ (l.length : Int) < 0 := by omega
  simp [asInt, asIntOf, hmax, h63', hneg, hl, variablesAt, hsh, elemOf, run_underlying hp, hlies, hlb]
/-- 'unsafe.String' over a row of bytes that may grow. -/
def mustr (P : Program) (H : Heap) (e : TypeId) (c : SC) (n : Int) (K : List UInt8 → Prop) : Prop :=
  match c with
  | .ptr ⟨k, b, .el base 0 1 0⟩ => (match hget H k with
    | some (_, .grw T (.sc .u8) x L) => (match Nat.beq T e, Nat.beq (P.cellsOf e) 1 with
      | true, true => Chk (b = x.blk ∧ base = x.off ∧ n = L.length ∧ 0 < L.length ∧ L.length ≤ 9223372036854775807) (K L)
      | _, _ => False)
    | _ => False)
  | .raw (.pointer _) _ => Chk (n = 0) (K [])
  | _ => False
theorem grw_froze {w : World} {b : Nat} {T : TypeId} {x : SV} {L : List UInt8} (h : (HB.grw T (.sc .u8) x L).Is w b) (hx : x ≠ .nil) : (HB.grw T (.sc .u8) x L).Is (w.freeze ⟨b, x.off, none⟩ L.length) b := by
  refine ⟨h.1, ?_⟩
  have h2 := h.2
  cases x with
  | nil => exact (hx rfl).elim
  | «at» b' o len cap =>
    obtain ⟨rfl, rfl, pre, post, lo, hi, hh, hf, hp, hlc, hcap⟩ := h2
    unfold World.freeze
    split
    · exact ⟨rfl, rfl, pre, post, lo, hi, hh, hf, hp, hlc, hcap⟩
    · have hv : ((Enc.sc .u8).vals L).length = L.length := by rw [Enc.vals_len _ h.1]; exact Nat.mul_one _
      by_cases e : lo = hi
      · subst e
        refine ⟨rfl, rfl, pre, post, o, o + L.length, ?_, .inr ?_, hp, hlc, hcap⟩
        · simp [Array.getElem?_modify, hh, SV.off]
        · rw [List.length_append, hv, hp]; exact Nat.le_refl _
      · have e' : (lo == hi) = false := by simpa using e
        refine ⟨rfl, rfl, pre, post, min lo o, max hi (o + L.length), ?_, .inr ?_, hp, hlc, hcap⟩
        · simp [Array.getElem?_modify, hh, SV.off, e]
        · rcases hf with hf | hf
          · exact absurd hf e
          · rw [List.length_append, hv, hp] at hf ⊢; exact Nat.max_le.2 ⟨hf, Nat.le_refl _⟩
theorem mustr_ok {C : Ctx} {H : Heap} {e : TypeId} {c : SC} {n : Int} {K : List UInt8 → Prop} (h : mustr C.P H e c n K) {w : World} (hw : Rep C H w) (pt it ty : TypeId) (hpt : C.P.underlying pt = some (.pointer e)) :
    ∃ s w', K s ∧ (Builtin.unsafeString_ #[pt, it] ty #[c.val, .int .i64 n]).run C.P w = .ok (SC.str s).val w' ∧ Rep C H w' := by
  unfold mustr at h
  split at h
  · rename_i k b base
    split at h
    · rename_i b0 T x L hg
      split at h
      · rename_i h1 h2
        have h1 := Nat.eq_of_beq_eq_true h1
        have h2 := Nat.eq_of_beq_eq_true h2
        subst h1
        obtain ⟨⟨rfl, rfl, rfl, hpos, h63⟩, h⟩ := h
        have hI := hw.is _ _ _ hg
        have hx : x ≠ .nil := by
          intro e; subst e
          have : L = [] := hI.2
          subst this; simp at hpos
        have hIg := hI
        have hfro := grw_froze hI hx
        obtain ⟨hwf, hI⟩ := hI
        cases x with
        | nil => exact (hx rfl).elim
        | «at» b' o len cap =>
          obtain ⟨rfl, rfl, pre, post, lo, hi, hh, hf, hp, hlc, hcap⟩ := hI
          have hv : ((Enc.sc .u8).vals L).length = L.length := by rw [Enc.vals_len _ hwf]; exact Nat.mul_one _
          have hsh : w.shape? b' = some (T, (pre ++ (Enc.sc .u8).vals L ++ post).length) := by simp [World.shape?, hh]
          have hr := run_unsafeString_at (P := C.P) (w := w) pt it ty T hpt h2 b' o _ hsh L (by intro e; subst e; simp at hpos) (by simp only [List.length_append]; omega) h63 (fun j u hu => by
            rw [add_addr]
            have := grw_cell hIg.2 (n := j) (v := Value.int .u8 u.toNat) (by rw [u8_vals]; simp [hu])
            exact this)
          refine ⟨L, w.freeze ⟨b', o, none⟩ L.length, h, ?_, ?_⟩
          · simpa [SC.val, Pt.value, Pt.addr, Off.val, SV.blk, SV.off] using hr
          · have hsz : (w.freeze ⟨b', o, none⟩ L.length).heap.size = w.heap.size := by unfold World.freeze; split <;> simp
            have hoth : ∀ c, c ≠ b' → (w.freeze ⟨b', o, none⟩ L.length).heap[c]? = w.heap[c]? := fun c hc => by
              unfold World.freeze; split
              · rfl
              · simp only [Array.getElem?_modify]; rw [if_neg (Ne.symm hc)]
            have hos : (w.freeze ⟨b', o, none⟩ L.length).os = w.os ∧ (w.freeze ⟨b', o, none⟩ L.length).tape = w.tape ∧ (w.freeze ⟨b', o, none⟩ L.length).output = w.output := by
              unfold World.freeze; split <;> exact ⟨rfl, rfl, rfl⟩
            have := hw.write (hb' := .grw T (.sc .u8) (.at b' o L.length cap) L) hg rfl (by intro h; cases h) hfro hos.1 hos.2.1 hos.2.2 (Nat.le_of_eq hsz.symm) (fun c _ hc => hoth c hc)
            refine this.sub fun t u hu => ?_
            rw [hget_cons]
            split
            · rename_i e; subst e; rw [hg] at hu; exact hu
            · exact hu
      · exact h.elim
    · exact h.elim
  · rename_i p hv
    obtain ⟨rfl, h⟩ := h
    exact ⟨[], w, h, Lib.run_unsafeString_none (P := C.P) w pt it ty p, hw⟩
  · exact h.elim

def mop (C : Ctx) (T : Tm) (H : Heap) (o : Oper) (K : Tm → Heap → Prop) : Prop :=
  match o.op, o.dst with
  | .alloc e, some d => (match Nat.blt d C.N with
    | true => zeroG C.P e fun l => New fun b : Nat => K ((d, .b (.one (.ptr ⟨d, b, .lit 0⟩))) :: T) ((d, b, .var e l) :: H)
    | false => False)
  | .box e x, some d => (match Nat.blt d C.N, evb T x with
    | true, some v => New fun b : Nat => K ((d, .b (.one (.ptr ⟨d, b, .lit 0⟩))) :: T) ((d, b, .var e v.sg) :: H)
    | _, _ => False)
  | .store t x v, none => (match ev1 T x, evb T v with
    | some c, some v => mstore C.P H t c v fun H' => K T H'
    | _, _ => False)
  | .convert s t x, some d => (match Nat.blt d C.N, ev1 T x with
    | true, some (.lst k y) => mconst C.P H s t k y fun L => K ((d, .b (.one (.lst k y))) :: T) ((k, y.blk, .view (.sc .u8) y L) :: H)
    | true, some c => mbytes C.P s t c fun e l => New fun y : SV => K ((d, .b (.one (.lst d y))) :: T) ((d, y.blk, .own e (.sc .u8) y l) :: H)
    | _, _ => False)
  | .buildSlice t len parts, some d => (match Nat.blt d C.N, evParts T parts.toList with
    | true, some ps => mbuildSlice C.R t len ps fun e E L => New fun b : Nat => K ((d, .b (.one (.lst d (.at b 0 len len)))) :: T) ((d, b, .own e E (.at b 0 len len) L) :: H)
    | _, _ => False)
  | .makeSlice t l c, some d => (match Nat.blt d C.N, ev1 T l, ev1 T c with
    | true, some (.int _ l), some (.int _ c) => mmake C.R t l c fun e E L => New fun b : Nat => K ((d, .b (.one (.lst d (.at b 0 l.toNat c.toNat)))) :: T) ((d, b, .own e E (.at b 0 l.toNat c.toNat) L) :: H)
    | _, _, _ => False)
  | .call c, dst => (match c.callee, c.args.toList, c.argTypes.toList, dst with
    | .builtin .append, [s, x], [st, xt], some d => (match ev1 T s, ev1 T x, C.P.underlying st with
      | some s, some x, some (.slice e) => (match bytB C.P e, C.P.underlying xt with
        | some (bytes + 1), some (.slice _) => mappend C.R C.N d T H e (bytes + 1) s x K
        | some (bytes + 1), some .string => mappend C.R C.N d T H e (bytes + 1) s x K
        | _, _ => False)
      | _, _, _ => False)
    | .builtin .copy, [x, y], [dt, _], dst => (match ev1 T x, ev1 T y, C.P.underlying dt with
      | some c, some v, some (.slice e) => (match skOf C.P e, sizB C.P e with
        | some s, some 1 => mcopy H s c v fun n H' => putK C.N dst (.b (.one (.int .i64 n))) T H' K
        | _, _ => False)
      | _, _, _ => False)
    | .value f, args, _, dst => (match ev1 T f, evAll T args with
      | some (.fn (.func g) first caps), some l => CallG C g (argsOf first caps l) T H fun v H' => putK C.N dst v T H' K
      | _, _ => OpG C o T H K)
    | .builtin .unsafeSliceData, [s], [_], some d => (match Nat.blt d C.N, ev1 T s, C.P.underlying o.type with
      | true, some (.lst k x), some (.pointer _) => msdata H k x fun c => K ((d, .b (.one c)) :: T) H
      | _, _, _ => False)
    | .builtin .unsafeString, [p, n], [pt, _], some d => (match Nat.blt d C.N, ev1 T p, ev1 T n, C.P.underlying pt with
      | true, some c, some (.int .i64 n), some (.pointer e) => mustr C.P H e c n fun s => K ((d, .b (.one (.str s))) :: T) H
      | _, _, _, _ => False)
    | _, _, _, _ => OpG C o T H K)
  | _, _ => OpG C o T H K

theorem upon_value {C : Ctx} {o : Oper} {a : Act} {w w' : World} {v : Value} {next : Act → World → Prop} {Q : Exit → Act → World → Prop}
    (hr : (execOp a.eval o).run C.P w = .ok (.value v) w') (h : next (a.put o.dst v) w') : o.wp C.P a w next Q := by
  unfold Oper.wp; rw [hr]; exact h

theorem mop_ok {C : Ctx} {T : Tm} {H : Heap} {o : Oper} {K : Tm → Heap → Prop} (h : mop C T H o K) {a : Act} {w : World} (ha : Fits C T a) (hw : Rep C H w) (Q : Exit → Act → World → Prop) :
    o.wp C.P a w (Holds C K) Q := by
  unfold mop at h
  split at h
  · rename_i e d ho hd
    split at h
    · rename_i hlt
      obtain ⟨l, hK, hwf, v, hv, hc⟩ := zeroG_ok h
      refine upon_value (v := (TV.b (.one (.ptr ⟨d, w.heap.size, .lit 0⟩))).val) (w' := w.alloc (.cells (svals l).toArray e)) ?_ ?_
      · simp only [execOp, ho, Instr.alloc, Sem.run_bind, hv, Result.andThen_ok, newVar, newRow, hc, run_newObj, Sem.run_pure]; rfl
      · rw [hd]
        exact ⟨_, _, ha.put hlt (one_wf _), hw.push d hwf, hK.go _⟩
    · exact h.elim
  · rename_i e x d ho hd
    split at h
    · rename_i v hlt hv
      have hc : (a.eval x).cells = (svals v.sg).toArray := by rw [evb_ok ha hv, ← show v.cells = svals v.sg from rfl, ← BV.val_cells]
      refine upon_value (v := (TV.b (.one (.ptr ⟨d, w.heap.size, .lit 0⟩))).val) (w' := w.alloc (.cells (svals v.sg).toArray e)) ?_ ?_
      · simp only [execOp, ho, Instr.box, Sem.run_bind, Result.andThen_ok, newVar, newRow, hc, run_newObj, Sem.run_pure]; rfl
      · rw [hd]
        exact ⟨_, _, ha.put hlt (one_wf _), hw.push d (evb_wfT ha.twf hv), h.go _⟩
    · exact h.elim
  · rename_i t x v ho hd
    split at h
    · rename_i c bv hc hv
      obtain ⟨w', H', hr, hw', hK⟩ := mstore_ok h (evb_wfT ha.twf hv) hw
      unfold Oper.wp
      have : (execOp a.eval o).run C.P w = .ok .skip w' := by
        simp only [execOp, ho, ev1_ok ha hc, evb_ok ha hv, Sem.run_bind, hr, Result.andThen_ok, Sem.run_pure]
      rw [this]
      show Holds C K (a.put o.dst undef) w'
      rw [hd]
      exact ⟨_, _, ha, hw', hK⟩
    · exact h.elim
  · rename_i s t x d ho hd
    split at h
    · rename_i k y hlt hc
      obtain ⟨L, hK, w', hr, hw'⟩ := mconst_ok h hw
      refine upon_value (v := (TV.b (.one (.lst k y))).val) (w' := w') ?_ ?_
      · have e : (SC.lst k y).val = y.val := rfl
        simp only [execOp, ho, ev1_ok ha hc, e, Sem.run_bind, hr, Result.andThen_ok, Sem.run_pure]; rfl
      · rw [hd]
        exact ⟨_, _, ha.put hlt (one_wf _), hw', hK⟩
    · rename_i c _ hlt hc
      obtain ⟨e, l, hK, y, w', hr, hw'⟩ := mbytes_ok h d hw
      refine upon_value (v := (TV.b (.one (.lst d y))).val) (w' := w') ?_ ?_
      · simp only [execOp, ho, ev1_ok ha hc, Sem.run_bind, hr, Result.andThen_ok, Sem.run_pure]; rfl
      · rw [hd]
        exact ⟨_, _, ha.put hlt (one_wf _), hw', hK.go _⟩
    · exact h.elim
  · rename_i t len parts d ho hd
    split at h
    · rename_i ps hlt hps
      obtain ⟨e, E, L, hK, hwL, hln, hr⟩ := mbuildSlice_ok h (evParts_wf ha.twf hps)
      have hr := hr w (parts.map fun (i, x) => (i, a.eval x)) (by rw [Array.toList_map, ← evParts_ok ha hps])
      refine upon_value (v := (TV.b (.one (.lst d (.at w.heap.size 0 len len)))).val) (w' := w.alloc (.cells (E.vals L ++ []).toArray e)) ?_ ?_
      · simp only [execOp, ho, Sem.run_bind, hr, Result.andThen_ok, Sem.run_pure]; rfl
      · rw [hd]
        exact ⟨_, _, ha.put hlt (one_wf _), hw.pushOwn d hwL hln.symm (Nat.le_refl _) (by rw [E.vals_len hwL, hln]; exact Nat.le_refl _), hK.go _⟩
    · exact h.elim
  · rename_i t l c d ho hd
    split at h
    · rename_i k1 l' k2 c' hlt hl hc
      obtain ⟨e, E, L, post, hK, hwL, hln, hle, hcap, hr⟩ := mmake_ok h
      have e1 : a.eval l = .int k1 l' := ev1_ok ha hl
      have e2 : a.eval c = .int k2 c' := ev1_ok ha hc
      refine upon_value (v := (TV.b (.one (.lst d (.at w.heap.size 0 l'.toNat c'.toNat)))).val) (w' := w.alloc (.cells (E.vals L ++ post).toArray e)) ?_ ?_
      · simp only [execOp, ho, e1, e2, Sem.run_bind, hr, Result.andThen_ok, Sem.run_pure]; rfl
      · rw [hd]
        exact ⟨_, _, ha.put hlt (one_wf _), hw.pushOwn d hwL hln.symm hle hcap, hK.go _⟩
    · exact h.elim
  · rename_i dst c ho
    split at h
    · rename_i s x st xt d hc hargs hts hd
      split at h
      · rename_i s' x' e hs hx hst
        have e1 : c.args.map a.eval = #[s'.val, x'.val] := arr_of (by rw [Array.toList_map, hargs]; simp [ev1_ok ha hs, ev1_ok ha hx])
        have e2 : c.argTypes = #[st, xt] := arr_of hts
        have fin : ∀ {v w'}, (Builtin.append_ #[st, xt] o.type #[s'.val, x'.val]).run C.P w = .ok v w' → Holds C K (a.put (some d) v) w' → o.wp C.P a w (Holds C K) Q := by
          intro v w' hr hh
          refine upon_value (v := v) (w' := w') ?_ (by rw [hd]; exact hh)
          simp only [execOp, ho, resolve, hc, e1, e2, Sem.run_bind, Sem.run_pure, Result.andThen_ok, invoke, builtin, hr]
        have info : ∀ {bytes : Nat}, bytB C.P e = some bytes → ∀ sz, sizB C.P e = some sz → ∃ i, C.P.info? e = some i ∧ i.size = sz ∧ i.bytes = bytes := by
          intro bytes hb sz hs
          unfold bytB at hb; unfold sizB at hs
          cases hi : C.P.info? e with
          | none => rw [hi] at hb; cases hb
          | some i => rw [hi] at hb hs; cases hb; cases hs; exact ⟨i, rfl, rfl, rfl⟩
        split at h
        · rename_i bytes e' hb hxt
          obtain ⟨v, w', hr, hh⟩ := mappend_ok (ty := o.type) (fun sz hsz => ⟨hst, .inl ⟨e', hxt⟩, info hb sz hsz⟩) (Nat.succ_ne_zero _) h ha hw
          exact fin hr hh
        · rename_i bytes hb hxt
          obtain ⟨v, w', hr, hh⟩ := mappend_ok (ty := o.type) (fun sz hsz => ⟨hst, .inr hxt, info hb sz hsz⟩) (Nat.succ_ne_zero _) h ha hw
          exact fin hr hh
        · exact h.elim
      · exact h.elim
    · rename_i _ x y dt yt hc hargs hts
      split at h
      · rename_i c' v e hx hy hdt
        split at h
        · rename_i s hk hsz
          have e1 : c.args.map a.eval = #[c'.val, v.val] := arr_of (by rw [Array.toList_map, hargs]; simp [ev1_ok ha hx, ev1_ok ha hy])
          have e2 : c.argTypes = #[dt, yt] := arr_of hts
          obtain ⟨n, w', H', hr, hw', hK⟩ := mcopy_ok (xt := yt) (ty := o.type) hdt hsz h hw
          refine upon_value (v := .int .i64 n) (w' := w') ?_ ?_
          · simp only [execOp, ho, resolve, hc, e1, e2, Sem.run_bind, Sem.run_pure, Result.andThen_ok, invoke, builtin, hr]
          · exact putK_ok (v := .b (.one (.int .i64 n))) hK (one_wf _) ha hw'
        · exact h.elim
      · exact h.elim
    · rename_i _ _ _ _ f hc
      split at h
      · rename_i g first caps l hf hl
        rcases h.or with h | h
        · obtain ⟨⟨fn, hfn, hname, hbody⟩, hgo⟩ := h
          have e0 : a.eval f = .func (.func g) (first.map Pt.value).toArray (caps.map Pt.value).toArray := ev1_ok ha hf
          have e1 : c.args.map a.eval = (l.map TV.val).toArray := arr_of (by rw [Array.toList_map, evAll_ok ha hl])
          have hr : (execOp a.eval o).run C.P w = .ok (.enter g ((argsOf first caps l).map TV.val).toArray) w := by
            simp only [execOp, ho, resolve, hc, e0, e1, Deferred.ofValue, Sem.run_bind, Sem.run_pure, Result.andThen_ok, invoke, callFunc, run_program, hfn, hname, hbody, Bool.false_eq_true, if_false]
            simp [argsOf_val]
          unfold Oper.wp
          rw [hr]
          show Calls C.P g _ w _
          refine (hgo a w ha hw (argsOf_wf (evAll_wf ha.twf hl))).mono ?_
          rintro e w' ⟨v, H', rfl, hvw, hw', hK⟩
          exact putK_ok hK hvw ha hw'
        obtain ⟨fn, ex, hfn, hname, hbody, hnx, hfi, hgo⟩ := h
        obtain ⟨v, H', hv, hvw, hw', hK⟩ := hgo w hw (argsOf_wf (evAll_wf ha.twf hl))
        have e0 : a.eval f = .func (.func g) (first.map Pt.value).toArray (caps.map Pt.value).toArray := ev1_ok ha hf
        have e1 : c.args.map a.eval = (l.map TV.val).toArray := arr_of (by rw [Array.toList_map, evAll_ok ha hl])
        have hcall := run_callFunc_extern hfn hname hbody hnx hfi ((argsOf first caps l).map TV.val).toArray w
        rw [hv] at hcall
        have hr : (execOp a.eval o).run C.P w = .ok (.value v.val) w := by
          simp only [execOp, ho, resolve, hc, e0, e1, Deferred.ofValue, Sem.run_bind, Sem.run_pure, Result.andThen_ok, invoke]
          rw [argsOf_val] at hcall
          simpa using hcall
        exact upon_value hr (putK_ok hK hvw ha hw')
      · exact h.go a w ha hw Q
    · rename_i s t d hc hargs hts hd
      split at h
      · rename_i k x e hlt hs hty
        obtain ⟨v, w', hK, hr, hw'⟩ := msdata_ok h hw #[t] o.type hty
        have e1 : c.args.map a.eval = #[(SC.lst k x).val] := arr_of (by rw [Array.toList_map, hargs]; simp [ev1_ok ha hs])
        have e2 : c.argTypes = #[t] := arr_of hts
        refine upon_value (v := (TV.b (.one v)).val) (w' := w') ?_ (by rw [hd]; exact ⟨_, _, ha.put hlt (one_wf _), hw', hK⟩)
        simp only [execOp, ho, resolve, hc, e1, e2, Sem.run_bind, Sem.run_pure, Result.andThen_ok, invoke, builtin, hr]; rfl
      · exact h.elim
    · rename_i p n pt it d hc hargs hts hd
      split at h
      · rename_i cc m e hlt hp hn hpt
        obtain ⟨s, w', hK, hr, hw'⟩ := mustr_ok h hw pt it o.type hpt
        have en : a.eval n = .int .i64 m := ev1_ok ha hn
        have e1 : c.args.map a.eval = #[cc.val, .int .i64 m] := arr_of (by rw [Array.toList_map, hargs]; simp [ev1_ok ha hp, en])
        have e2 : c.argTypes = #[pt, it] := arr_of hts
        refine upon_value (v := (TV.b (.one (.str s))).val) (w' := w') ?_ (by rw [hd]; exact ⟨_, _, ha.put hlt (one_wf _), hw', hK⟩)
        simp only [execOp, ho, resolve, hc, e1, e2, Sem.run_bind, Sem.run_pure, Result.andThen_ok, invoke, builtin, hr]; rfl
      · exact h.elim
    · exact h.go a w ha hw Q
  · exact h.go a w ha hw Q

/-- Does an operation leave memory alone? -/
def isQ (P : Program) (o : Oper) : Bool :=
  match o.op with
  | .move _ | .assign _ | .pick .. | .load .. | .nilCheck _ | .binOp .. | .unOp .. | .makeFunc .. | .slice .. | .fieldAddr .. | .field .. | .indexAddr .. | .index .. | .extract .. | .build .. | .sliceToArrayPointer .. => true
  | .convert _ d _ => (match P.underlying d with | some (.slice _) => false | _ => true)
  | .call c => (match c.callee with | .builtin .len => true | .builtin .max => true | .builtin .min => true | _ => false)
  | _ => false

def sxOp (C : Ctx) (T : Tm) (H : Heap) (o : Oper) (K : Tm → Heap → Prop) : Prop :=
  match isQ C.P o with
  | true => qop C.P T H o fun v => putK C.N o.dst v T H K
  | false => (match isComm o with
    | true => CommG C o T H K
    | false => mop C T H o K)

theorem isQ_comm {P : Program} {o : Oper} (h : isQ P o = true) : isComm o = false := by
  unfold isQ at h; unfold isComm
  split
  · rename_i e; simp [e] at h
  · rename_i e; simp [e] at h
  · rename_i e; simp [e] at h
  · rfl
theorem sxOp_ok {C : Ctx} {T : Tm} {H : Heap} {o : Oper} {K : Tm → Heap → Prop} (hc : isComm o = false) (h : sxOp C T H o K) {a : Act} {w : World} (ha : Fits C T a) (hw : Rep C H w) (Q : Exit → Act → World → Prop) :
    o.wp C.P a w (Holds C K) Q := by
  unfold sxOp at h
  split at h
  · obtain ⟨v, hv, hvw, hr⟩ := qop_ok h hw.hwf ha.twf
    exact upon_value (hr C a w ha hw) (putK_ok hv hvw ha hw)
  · rw [hc] at h
    exact mop_ok h ha hw Q
theorem sxOp_s {C : Ctx} {T : Tm} {H : Heap} {o : Oper} {K : Tm → Heap → Prop} (h : sxOp C T H o K) {a : Act} {w : World} (ha : Fits C T a) (hw : Rep C H w) : OpS C.P o a w (Holds C K) := by
  cases hc : isComm o with
  | false => exact OpS.of_wp (sxOp_ok hc h ha hw _)
  | true =>
    unfold sxOp at h
    split at h
    · rename_i hq; rw [isQ_comm hq] at hc; cases hc
    · rw [hc] at h; exact h.go a w ha hw

/-- Is an operation carried out? -/
def sxGuard (all : List Oper) (T : Tm) (o : Oper) (A B : Prop) : Prop :=
  match o.guard with
  | none => A
  | some (j, want) => (match lget all j with
    | some oj => (match oj.dst with
      | some d => (match tget T d with
        | some (.b (.one (.bool b))) => (match want with
          | true => Br b A B
          | false => Br b B A)
        | some (.tup []) => B
        | _ => False)
      | none => False)
    | none => False)

def skipK (N : Nat) (dst : Option Nat) (T : Tm) (H : Heap) (K : Tm → Heap → Prop) : Prop := putK N dst (.tup []) T H K

def sxOps (C : Ctx) (all : List Oper) : List Oper → Tm → Heap → (Tm → Heap → Prop) → Prop
  | [], T, H, K => K T H
  | o :: r, T, H, K => sxGuard all T o (sxOp C T H o fun T' H' => sxOps C all r T' H' K) (skipK C.N o.dst T H fun T' H' => sxOps C all r T' H' K)

theorem sxGuard_ok {C : Ctx} {all : List Oper} {T : Tm} {o : Oper} {A B : Prop} (h : sxGuard all T o A B) {a : Act} (ha : Fits C T a) :
    (Region.wanted o (yielded all.toArray a.tmps) = true ∧ A) ∨ (Region.wanted o (yielded all.toArray a.tmps) = false ∧ B) := by
  unfold sxGuard at h
  split at h
  · rename_i hg; exact .inl ⟨by simp [Region.wanted, hg], h⟩
  · rename_i j want hg
    split at h
    · rename_i oj hj
      split at h
      · rename_i d hd
        split at h
        · rename_i b hb
          have hv := ha.tmps d _ hb
          have hlt : d < a.tmps.size := by
            rcases Nat.lt_or_ge d a.tmps.size with h | h
            · exact h
            · exfalso
              have h1 : a.tmps.getD d undef = undef := by simp [Array.getD, Nat.not_lt.2 h]
              rw [h1] at hv; simp [undef, TV.val, BV.val, SC.val] at hv
          have hy : yielded all.toArray a.tmps j = some b := by
            rw [lget_eq] at hj
            have h2 : a.tmps[d]? = some (Value.bool b) := by
              have : a.tmps.getD d undef = a.tmps[d] := by simp [Array.getD, hlt]
              rw [this] at hv
              rw [Array.getElem?_eq_getElem hlt, hv]; rfl
            simp [yielded, hj, hd, h2]
          have hwant : Region.wanted o (yielded all.toArray a.tmps) = (some b == some want) := by simp [Region.wanted, hg, hy]
          rw [hwant]
          cases want <;> cases b <;> dsimp only at h
          · exact .inl ⟨rfl, h.f rfl⟩
          · exact .inr ⟨rfl, h.t rfl⟩
          · exact .inr ⟨rfl, h.f rfl⟩
          · exact .inl ⟨rfl, h.t rfl⟩
        · rename_i hb
          have hv := ha.tmps d _ hb
          have hy : yielded all.toArray a.tmps j = none := by
            rw [lget_eq] at hj
            have h2 : ∀ b, a.tmps[d]? ≠ some (Value.bool b) := by
              intro b hh
              have h3 : a.tmps.getD d undef = Value.bool b := by
                rcases Nat.lt_or_ge d a.tmps.size with h | h
                · rw [Array.getElem?_eq_getElem h] at hh
                  have : a.tmps.getD d undef = a.tmps[d] := by simp [Array.getD, h]
                  rw [this]; exact Option.some.inj hh
                · rw [Array.getElem?_eq_none h] at hh; cases hh
              rw [h3] at hv; simp [TV.val] at hv
            cases h4 : a.tmps[d]? with
            | none => simp [yielded, hj, hd, h4]
            | some v =>
              cases v with
              | bool b => exact absurd h4 (h2 b)
              | _ => simp [yielded, hj, hd, h4]
          exact .inr ⟨by simp [Region.wanted, hg, hy], h⟩
        · exact h.elim
      · exact h.elim
    · exact h.elim

theorem sxOps_ok {C : Ctx} {all : List Oper} {Q' : Exit → Act → World → Prop} : ∀ {l : List Oper} {T : Tm} {H : Heap} {K : Tm → Heap → Prop}, calm l = true → sxOps C all l T H K →
    (∀ a w, Holds C K a w → Q' .normal a w) → ∀ {a : Act} {w : World}, Fits C T a → Rep C H w → wpList C.P all.toArray Q' l a w := by
  intro l
  induction l with
  | nil => intro T H K _ h hQ a w ha hw; exact hQ _ _ ⟨_, _, ha, hw, h⟩
  | cons o r ih =>
    intro T H K hcl h hQ a w ha hw
    unfold wpList
    unfold sxOps at h
    have hc : isComm o = false := by
      cases hc : isComm o with
      | false => rfl
      | true => unfold calm at hcl; rw [hc] at hcl; cases hcl
    replace hcl : calm r = true := by unfold calm at hcl; rw [hc] at hcl; exact hcl
    rcases sxGuard_ok h ha with ⟨hg, h⟩ | ⟨hg, h⟩
    · rw [if_pos hg]
      refine .inl (Oper.wp_mono (fun a' w' hh => ?_) (sxOp_ok hc h ha hw Q'))
      obtain ⟨T', H', ha', hw', hK⟩ := hh
      exact ih hcl hK hQ ha' hw'
    · rw [if_neg (by simp [hg])]
      obtain ⟨T', H', ha', hw', hK⟩ := putK_ok (v := .tup []) h trivial ha hw
      exact ih hcl hK hQ ha' hw'
/-- Operations by their places. -/
def sxIdx (C : Ctx) (all : List Oper) : List Nat → Tm → Heap → (Tm → Heap → Prop) → Prop
  | [], T, H, K => K T H
  | i :: r, T, H, K => (match lget all i with
    | some o => sxGuard all T o (sxOp C T H o fun T' H' => sxIdx C all r T' H' K) (skipK C.N o.dst T H fun T' H' => sxIdx C all r T' H' K)
    | none => False)
theorem sxIdx_arr {C : Ctx} {all : List Oper} : ∀ {l : List Nat} {T : Tm} {H : Heap} {K : Tm → Heap → Prop}, sxIdx C all l T H K → ∀ {a : Act} {w : World}, Fits C T a → Rep C H w → ArrI C.P all.toArray (Holds C K) l a w := by
  intro l
  induction l with
  | nil => intro T H K h a w ha hw; exact .nil ⟨_, _, ha, hw, h⟩
  | cons i r ih =>
    intro T H K h a w ha hw
    unfold sxIdx at h
    split at h
    · rename_i o ho
      rw [lget_eq] at ho
      have ho' : all.toArray[i]? = some o := by simpa using ho
      rcases sxGuard_ok h ha with ⟨hg, h⟩ | ⟨hg, h⟩
      · refine .cons ho' hg ((sxOp_s h ha hw).mono fun a' w' hh => ?_)
        obtain ⟨T', H', ha', hw', hK⟩ := hh
        exact ih hK ha' hw'
      · obtain ⟨T', H', ha', hw', hK⟩ := putK_ok (v := .tup []) h trivial ha hw
        exact .skip ho' hg (ih hK ha' hw')
    · exact h.elim
theorem sxOps_arr {C : Ctx} {all : List Oper} : ∀ {l : List Oper} {n : Nat} {T : Tm} {H : Heap} {K : Tm → Heap → Prop}, (∀ j, l[j]? = all[n + j]?) → sxOps C all l T H K → ∀ {a : Act} {w : World}, Fits C T a → Rep C H w → ArrI C.P all.toArray (Holds C K) (List.range' n l.length) a w := by
  intro l
  induction l with
  | nil => intro n T H K _ h a w ha hw; exact .nil ⟨_, _, ha, hw, h⟩
  | cons o r ih =>
    intro n T H K hl h a w ha hw
    unfold sxOps at h
    have ho' : all.toArray[n]? = some o := by have := hl 0; simpa using this.symm
    have hr : ∀ j, r[j]? = all[n + 1 + j]? := fun j => by have := hl (j + 1); rw [show n + 1 + j = n + (j + 1) by omega]; simpa using this
    rw [List.length_cons, List.range'_succ]
    rcases sxGuard_ok h ha with ⟨hg, h⟩ | ⟨hg, h⟩
    · refine .cons ho' hg ((sxOp_s h ha hw).mono fun a' w' hh => ?_)
      obtain ⟨T', H', ha', hw', hK⟩ := hh
      exact ih hr hK ha' hw'
    · obtain ⟨T', H', ha', hw', hK⟩ := putK_ok (v := .tup []) h trivial ha hw
      exact .skip ho' hg (ih hr hK ha' hw')

/-- The code. -/
def sx (C : Ctx) : Code → Tm → Heap → (Ex → Tm → Heap → Prop) → Prop
  | .skip, T, H, Q => Q .normal T H
  | .label _, T, H, Q => Q .normal T H
  | .region id ops draw, T, H, Q => (match draw with
    | false => sxOps C ops.toList ops.toList T H (Q .normal)
    | true => Draw C id ops.toList T H Q)
  | .seq x y, T, H, Q => sx C x T H fun e T' H' => match e with | .normal => sx C y T' H' Q | .ret => Q .ret T' H' | .exit i => Q (.exit i) T' H'
  | .cond c x y, T, H, Q => CondG C c x y T H Q
  | .block id x, T, H, Q => sx C x T H fun e T' H' => match e with | .normal => Q .normal T' H' | .ret => Q .ret T' H' | .exit i => (match Nat.beq i id with | true => Q .normal T' H' | false => Q (.exit i) T' H')
  | .loop x, T, H, Q => LoopG C x T H Q
  | .rangeFunc f ps as x, T, H, Q => RangeG C f ps as x T H Q
  | .exit i, T, H, Q => Q (.exit i) T H
  | .ret, T, H, Q => Q .ret T H
  | _, _, _, _ => False

theorem QK_mono {C : Ctx} {Q : Ex → Tm → Heap → Prop} {Q' : Exit → Act → World → Prop} (h : ∀ e a w, QK C Q e a w → Q' e a w) {c : Code} {a : Act} {w : World} (hh : c.wp C.P (QK C Q) a w) : c.wp C.P Q' a w :=
  wp_mono hh h

theorem sx_ok {C : Ctx} : ∀ {c : Code} {T : Tm} {H : Heap} {Q : Ex → Tm → Heap → Prop}, sx C c T H Q → ∀ {a : Act} {w : World}, Fits C T a → Rep C H w → c.wp C.P (QK C Q) a w := by
  intro c
  induction c with
  | skip => intro T H Q h a w ha hw; exact wp_skip ⟨_, _, ha, hw, h⟩
  | label l => intro T H Q h a w ha hw; exact wp_label ⟨_, _, ha, hw, h⟩
  | region id ops draw =>
    intro T H Q h a w ha hw
    unfold sx at h
    cases draw with
    | false =>
      refine ArrI.region (Q := QK C Q) ?_
      have := sxOps_arr (all := ops.toList) (n := 0) (fun j => by simp) h ha hw
      have e : QK C Q Exit.normal = Holds C (Q .normal) := rfl
      rw [e, List.range_eq_range']; simpa using this
    | true => exact h.go a w ha hw
  | seq x y ihx ihy =>
    intro T H Q h a w ha hw
    unfold sx at h
    refine wp_seq (wp_mono (ihx h ha hw) fun e a' w' hh => ?_)
    cases e <;> simp only [QK, Exit.then] at hh ⊢
    · obtain ⟨T', H', ha', hw', hK⟩ := hh; exact ihy hK ha' hw'
    · obtain ⟨T', H', ha', hw', hK⟩ := hh; exact ⟨T', H', ha', hw', hK⟩
    · obtain ⟨T', H', ha', hw', hK⟩ := hh; exact ⟨T', H', ha', hw', hK⟩
  | cond c x y _ _ => intro T H Q h a w ha hw; exact h.go a w ha hw
  | block id x ih =>
    intro T H Q h a w ha hw
    unfold sx at h
    refine wp_block (wp_mono (ih h ha hw) fun e a' w' hh => ?_)
    cases e with
    | exit i =>
      simp only [QK, Exit.inBlock] at hh ⊢
      obtain ⟨T', H', ha', hw', hK⟩ := hh
      split
      · rename_i e; subst e; simp only [Nat.beq_refl] at hK; exact ⟨T', H', ha', hw', hK⟩
      · rename_i e
        have : Nat.beq i id = false := by
          cases h' : Nat.beq i id with
          | false => rfl
          | true => exact absurd (Nat.eq_of_beq_eq_true h') e
        simp only [this] at hK; exact ⟨T', H', ha', hw', hK⟩
    | _ => exact hh
  | loop x _ => intro T H Q h a w ha hw; exact h.go a w ha hw
  | rangeFunc f ps as x _ _ => intro T H Q h a w ha hw; exact h.go a w ha hw
  | exit i => intro T H Q h a w ha hw; exact wp_exit ⟨_, _, ha, hw, h⟩
  | ret => intro T H Q h a w ha hw; exact wp_ret ⟨_, _, ha, hw, h⟩
  | _ => intro T H Q h; exact h.elim

theorem CondG.split {C : Ctx} {c : Operand} {x y : Code} {T : Tm} {H : Heap} {Q : Ex → Tm → Heap → Prop} (h : match ev1 T c with | some (.bool b) => Br b (sx C x T H Q) (sx C y T H Q) | _ => False) : CondG C c x y T H Q := by
  refine ⟨fun a w ha hw => ?_⟩
  split at h
  · rename_i b hb
    have e : a.eval c = .bool b := ev1_ok ha hb
    refine wp_cond e ?_
    cases b
    · exact sx_ok (h.f rfl) ha hw
    · exact sx_ok (h.t rfl) ha hw
  · exact h.elim
end Go.SY

/- Regions that draw their order; loops. -/
set_option linter.unusedSimpArgs false
set_option linter.unusedVariables false
namespace Go.SY

/-! ### Regions that draw -/
/-- A call that leaves all that is known as it is, and hands back one value. -/
structure CallQ (C : Ctx) (f : FuncId) (args : List TV) (T : Tm) (H : Heap) (K : TV → Prop) : Prop where
  fn : ∃ fn, C.P.funcs[f]? = some fn ∧ (fn.name == "runtime.NumGoroutine") = false ∧ fn.body.isNone = false
  go : (∀ v ∈ args, v.wf) → ∃ v, K v ∧ v.wf ∧ ∀ w, Rep C H w → Calls C.P f (args.map TV.val).toArray w fun e w' => e = .returned (TV.val v) ∧ Rep C H w'

def putQ (N : Nat) (dst : Option Nat) (v : TV) (T : Tm) (K : Tm → Prop) : Prop :=
  match dst with
  | some d => (match Nat.blt d N with | true => K ((d, v) :: T) | false => False)
  | none => K T
theorem putQ_ok {C : Ctx} {dst : Option Nat} {v : TV} {T : Tm} {K : Tm → Prop} {a : Act} (h : putQ C.N dst v T K) (hv : v.wf) (ha : Fits C T a) : ∃ T', Fits C T' (a.put dst v.val) ∧ K T' := by
  unfold putQ at h
  split at h
  · split at h
    · rename_i hd; exact ⟨_, ha.put hd hv, h⟩
    · exact h.elim
  · exact ⟨_, ha, h⟩

def sxQop (C : Ctx) (T : Tm) (H : Heap) (o : Oper) (K : TV → Prop) : Prop :=
  match isQ C.P o, o.op with
  | true, _ => qop C.P T H o K
  | false, .call c => (match c.callee with
    | .value f => (match ev1 T f, evAll T c.args.toList with
      | some (.fn (.func g) first caps), some l => CallQ C g (argsOf first caps l) T H K
      | _, _ => False)
    | _ => False)
  | false, _ => False

theorem sxQop_ok {C : Ctx} {T : Tm} {H : Heap} {o : Oper} {K : TV → Prop} (h : sxQop C T H o K) {w1 : World} (hw1 : Rep C H w1) (hT : TWf T) :
    ∃ v, K v ∧ v.wf ∧ ∀ a w, Fits C T a → Rep C H w → o.quietAt C.P a (Rep C H) w v.val := by
  unfold sxQop at h
  split at h
  · obtain ⟨v, hv, hvw, hr⟩ := qop_ok h hw1.hwf hT
    exact ⟨v, hv, hvw, fun a w ha hw => by unfold Oper.quietAt; rw [hr C a w ha hw]; exact ⟨rfl, rfl⟩⟩
  · rename_i c _ ho
    split at h
    · rename_i f hc
      split at h
      · rename_i g first caps l hf hl
        obtain ⟨⟨fn, hfn, hname, hbody⟩, hgo⟩ := h
        obtain ⟨v, hv, hvw, hgo⟩ := hgo (argsOf_wf (evAll_wf hT hl))
        refine ⟨v, hv, hvw, fun a w ha hw => ?_⟩
        have e0 : a.eval f = .func (.func g) (first.map Pt.value).toArray (caps.map Pt.value).toArray := ev1_ok ha hf
        have e1 : c.args.map a.eval = (l.map TV.val).toArray := arr_of (by rw [Array.toList_map, evAll_ok ha hl])
        have hr : (execOp a.eval o).run C.P w = .ok (.enter g ((argsOf first caps l).map TV.val).toArray) w := by
          simp only [execOp, ho, resolve, hc, e0, e1, Deferred.ofValue, Sem.run_bind, Sem.run_pure, Result.andThen_ok, invoke, callFunc, run_program, hfn, hname, hbody, Bool.false_eq_true, if_false]
          simp [argsOf_val]
        unfold Oper.quietAt
        rw [hr]
        exact ⟨rfl, hgo w hw⟩
      · exact h.elim
    · exact h.elim
  · exact h.elim

def sxQ (C : Ctx) (all : List Oper) : List Oper → Tm → Heap → (Tm → Prop) → Prop
  | [], T, _, K => K T
  | o :: r, T, H, K => sxGuard all T o (sxQop C T H o fun v => putQ C.N o.dst v T fun T' => sxQ C all r T' H K) (putQ C.N o.dst (.tup []) T fun T' => sxQ C all r T' H K)

theorem sxQ_ok {C : Ctx} {all : List Oper} {H : Heap} {w1 : World} (hw1 : Rep C H w1) : ∀ {l : List Oper} {T : Tm} {K : Tm → Prop}, sxQ C all l T H K → ∀ {a : Act}, Fits C T a →
    wpQuiet C.P all.toArray (Rep C H) (fun a' => ∃ T', Fits C T' a' ∧ K T') l a := by
  intro l
  induction l with
  | nil => intro T K h a ha; exact ⟨T, ha, h⟩
  | cons o r ih =>
    intro T K h a ha
    unfold sxQ at h
    unfold wpQuiet
    rcases sxGuard_ok h ha with ⟨hg, h⟩ | ⟨hg, h⟩
    · rw [if_pos hg]
      obtain ⟨v, hv, hvw, hr⟩ := sxQop_ok h hw1 ha.twf
      obtain ⟨T', ha', hK⟩ := putQ_ok hv hvw ha
      exact ⟨v.val, fun w hw => hr a w ha hw, ih hK ha'⟩
    · rw [if_neg (by simp [hg])]
      obtain ⟨T', ha', hK⟩ := putQ_ok (v := .tup []) h trivial ha
      exact ih hK ha'

/-- All operations only look. -/
theorem Draw.quiet {C : Ctx} {id : Nat} {ops : List Oper} {T : Tm} {H : Heap} {Q : Ex → Tm → Heap → Prop} (hm : C.P.follows .mixedOrders = true) (hB : Region.lexB .any ops.toArray = true)
    (h : sxQ C ops ops T H fun T' => Q .normal T' H) : Draw C id ops T H Q := by
  refine ⟨fun a w ha hw => ?_⟩
  refine wp_region_quiet (C := Rep C H) hm hB (hw.drew _) ?_
  have := sxQ_ok hw h ha
  have mono : ∀ (l : List Oper) (a : Act), wpQuiet C.P ops.toArray (Rep C H) (fun a' => ∃ T', Fits C T' a' ∧ Q .normal T' H) l a →
      wpQuiet C.P ops.toArray (Rep C H) (fun a' => ∀ w', Rep C H w' → QK C Q .normal a' w') l a := by
    intro l
    induction l with
    | nil => rintro a ⟨T', ha', hQ⟩ w' hw'; exact ⟨T', H, ha', hw', hQ⟩
    | cons o r ih =>
      intro a h
      unfold wpQuiet at h ⊢
      split
      · rename_i hg; rw [if_pos hg] at h; exact Oper.quiet_mono ih h
      · rename_i hg; rw [if_neg hg] at h; exact ih _ h
  exact mono _ _ (by simpa using this)

end Go.SY

/- What is known, held against what is wanted. -/
set_option linter.unusedSimpArgs false
set_option linter.unusedVariables false
namespace Go.SY

def Off.m (o o' : Off) (K : Prop) : Prop :=
  match o, o' with
  | .lit n, .lit n' => (match Nat.beq n n' with | true => K | false => False)
  | .el b i s j, .el b' i' s' j' => Chk (b' = b ∧ i' = i ∧ s' = s ∧ j' = j) K
  | _, _ => False
theorem Off.m_ok {o o' : Off} {K : Prop} (h : o.m o' K) : o'.val = o.val ∧ K := by
  unfold Off.m at h
  split at h
  · split at h
    · rename_i hb; rw [Nat.eq_of_beq_eq_true hb]; exact ⟨rfl, h⟩
    · exact h.elim
  · obtain ⟨⟨rfl, rfl, rfl, rfl⟩, h⟩ := h; exact ⟨rfl, h⟩
  · exact h.elim
/-- x is wanted, y is there. -/
def SC.m (x y : SC) (K : Prop) : Prop :=
  match x, y with
  | .int k n, .int k' n' => (match decide (k = k') with | true => Chk (n' = n) K | false => False)
  | .w8 a, .w8 b => Chk (b = a) K
  | .w32 a, .w32 b => Chk (b = a) K
  | .w64 a, .w64 b => Chk (b = a) K
  | .bool a, .bool b => Chk (b = a) K
  | .str a, .str b => Chk (b = a) K
  | .ptr ⟨k, b, o⟩, .ptr ⟨k', b', o'⟩ => (match Nat.beq k k' with | true => Chk (b' = b) (o.m o' K) | false => False)
  | .lst k x, .lst k' x' => (match Nat.beq k k' with | true => Chk (x' = x) K | false => False)
  | .lst _ x, .nilsl => Chk (SV.nil = x) K
  | .lst k x, .part k' x' sz lo hi => (match Nat.beq k k' with | true => Chk (x'.sub sz lo hi = x) K | false => False)
  | .lst k x, .sl k' b base o sz len cap => (match Nat.beq k k' with | true => Chk (SV.at b (base + o * sz) len cap = x) K | false => False)
  | .ch k b, .ch k' b' => (match Nat.beq k k' with | true => Chk (b' = b) K | false => False)
  | .mp k b, .mp k' b' => (match Nat.beq k k' with | true => Chk (b' = b) K | false => False)
  | .nilp, .nilp => K
  | .nilsl, .nilsl => K
  | .nilfn, .nilfn => K
  | .nilmp, .nilmp => K
  | .nilch, .nilch => K
  | x, y => Chk (y = x) K
theorem SC.m_ok {x y : SC} {K : Prop} (h : x.m y K) : y.val = x.val ∧ K := by
  unfold SC.m at h
  split at h
  all_goals first
    | exact ⟨rfl, h⟩
    | (obtain ⟨rfl, h⟩ := h; exact ⟨rfl, h⟩)
    | (split at h
       · obtain ⟨rfl, h⟩ := h; rename_i hb; first | (have := of_decide_eq_true hb; subst this; exact ⟨rfl, h⟩) | exact ⟨rfl, h⟩ | (obtain ⟨e, h⟩ := Off.m_ok h; exact ⟨by simp [SC.val, Pt.value, Pt.addr, e], h⟩)
       · exact h.elim)
    | skip

def sgm : List Sg → List Sg → Prop → Prop
  | [], [], K => K
  | .c x :: l, .c y :: r, K => x.m y (sgm l r K)
  | .arr s n L :: l, .arr s' n' L' :: r, K => (match Nat.beq n n' with
    | true => if h : s' = s then Chk ((h ▸ L') = L) (sgm l r K) else False
    | false => False)
  | _, _, _ => False
theorem sgm_ok : ∀ {l r : List Sg} {K : Prop}, sgm l r K → K ∧ svals r = svals l ∧ (swf r → swf l) := by
  intro l
  induction l with
  | nil =>
    intro r K h
    cases r with
    | nil => exact ⟨h, rfl, id⟩
    | cons g r => cases g <;> exact h.elim
  | cons g l ih =>
    intro r K h
    cases r with
    | nil => cases g <;> exact h.elim
    | cons g' r =>
      cases g with
      | c x =>
        cases g' with
        | c y =>
          obtain ⟨e, h⟩ := SC.m_ok (x := x) (y := y) h
          obtain ⟨hK, e2, hw⟩ := ih h
          refine ⟨hK, ?_, fun hh => ⟨trivial, hw hh.2⟩⟩
          simp only [svals, scs, Sg.cs, List.map_append, List.map_cons, List.map_nil] at e2 ⊢
          rw [e, e2]
        | arr => exact h.elim
      | arr s n L =>
        cases g' with
        | c => exact h.elim
        | arr s' n' L' =>
          unfold sgm at h
          split at h
          · rename_i hb
            have hb := Nat.eq_of_beq_eq_true hb
            split at h
            · rename_i hs
              subst hs hb
              obtain ⟨rfl, h⟩ := h
              obtain ⟨hK, e2, hw⟩ := ih h
              refine ⟨hK, ?_, fun hh => ⟨hh.1, hw hh.2⟩⟩
              simp only [svals, scs, List.map_append] at e2 ⊢
              rw [e2]
            · exact h.elim
          · exact h.elim
def BV.m (x y : BV) (K : Prop) : Prop :=
  match x, y with
  | .one a, .one b => a.m b K
  | .agg l, .agg r => sgm l r K
  | _, _ => False
theorem BV.m_ok {x y : BV} {K : Prop} (h : x.m y K) : y.val = x.val ∧ (y.wf → x.wf) ∧ K := by
  unfold BV.m at h
  split at h
  · obtain ⟨e, h⟩ := SC.m_ok h; exact ⟨e, fun _ => bone_wf _, h⟩
  · obtain ⟨h, e, hw⟩ := sgm_ok h; exact ⟨by simp [BV.val, e], hw, h⟩
  · exact h.elim
def bsm : List BV → List BV → Prop → Prop
  | [], [], K => K
  | x :: l, y :: r, K => x.m y (bsm l r K)
  | _, _, _ => False
theorem bsm_ok : ∀ {l r : List BV} {K : Prop}, bsm l r K → r.map BV.val = l.map BV.val ∧ (bwf r → bwf l) ∧ K := by
  intro l
  induction l with
  | nil => intro r K h; cases r with
    | nil => exact ⟨rfl, id, h⟩
    | cons => exact h.elim
  | cons x l ih => intro r K h; cases r with
    | nil => exact h.elim
    | cons y r =>
      obtain ⟨e, hw, h⟩ := BV.m_ok (x := x) (y := y) h
      obtain ⟨e2, hw2, h⟩ := ih h
      exact ⟨by simp [e, e2], fun hh => ⟨hw hh.1, hw2 hh.2⟩, h⟩
def TV.m (x y : TV) (K : Prop) : Prop :=
  match x, y with
  | .b u, .b v => u.m v K
  | .tup l, .tup r => bsm l r K
  | _, _ => False
theorem TV.m_ok {x y : TV} {K : Prop} (h : x.m y K) : y.val = x.val ∧ (y.wf → x.wf) ∧ K := by
  unfold TV.m at h
  split at h
  · exact BV.m_ok h
  · obtain ⟨e, hw, h⟩ := bsm_ok h; exact ⟨by simp [TV.val, e], hw, h⟩
  · exact h.elim
def tmatch (T : Tm) : Tm → Prop → Prop
  | [], K => K
  | (t, v) :: r, K => (match tget T t with | some u => v.m u (tmatch T r K) | none => False)
theorem tmatch_ok {T : Tm} : ∀ {T1 : Tm} {K : Prop}, tmatch T T1 K → K ∧ ∀ t v, tget T1 t = some v → ∃ u, tget T t = some u ∧ u.val = v.val ∧ (u.wf → v.wf) := by
  intro T1
  induction T1 with
  | nil => intro K h; exact ⟨h, fun t v h => by cases h⟩
  | cons e r ih =>
    obtain ⟨t, v⟩ := e
    intro K h
    unfold tmatch at h
    split at h
    · rename_i u hu
      obtain ⟨e, hw, h⟩ := TV.m_ok h
      obtain ⟨hK, hr⟩ := ih h
      refine ⟨hK, fun t' v' h' => ?_⟩
      rw [tget_cons] at h'
      split at h'
      · rename_i e'; subst e'; cases h'; exact ⟨u, hu, e, hw⟩
      · exact hr t' v' h'
    · exact h.elim
theorem Fits.match {C : Ctx} {T T1 : Tm} {a : Act} (h : Fits C T a) (hs : ∀ t v, tget T1 t = some v → ∃ u, tget T t = some u ∧ u.val = v.val ∧ (u.wf → v.wf)) : Fits C T1 a :=
  ⟨fun t v ht => by obtain ⟨u, hu, e, _⟩ := hs t v ht; rw [h.tmps t u hu, e], fun t v ht => by obtain ⟨u, hu, _, hw⟩ := hs t v ht; exact hw (h.wf t u hu), h.size, h.defers⟩

/-! ### Memory -/
/-- A slice's elements, or a part of them. -/
structure OwnM {E' : Enc} (x' : SV) (L' : List E'.α) {E : Enc} (x : SV) (L : List E.α) (K : Prop) : Prop where
  go : K ∧ ∃ h : E' = E, (x' = x ∧ (h ▸ L') = L) ∨ ∃ lo hi, lo ≤ hi ∧ hi ≤ L'.length ∧ x = x'.sub E.sz lo hi ∧ L = ((h ▸ L').take hi).drop lo
theorem OwnM.same {E : Enc} {x x' : SV} {L L' : List E.α} {K : Prop} (hx : x' = x) (h : L' = L) (hK : K) : OwnM (E' := E) x' L' x L K := ⟨hK, rfl, .inl ⟨hx, h⟩⟩
theorem OwnM.part {E : Enc} {x x' : SV} {L L' : List E.α} {K : Prop} (lo hi : Nat) (hx : x = x'.sub E.sz lo hi) (h1 : lo ≤ hi ∧ hi ≤ L'.length) (h : L = (L'.take hi).drop lo) (hK : K) : OwnM (E' := E) x' L' x L K :=
  ⟨hK, rfl, .inr ⟨lo, hi, h1.1, h1.2, hx, h⟩⟩
/-- A slice's elements, all of them. -/
structure OwnS {E' : Enc} (x' : SV) (L' : List E'.α) {E : Enc} (x : SV) (L : List E.α) (K : Prop) : Prop where
  go : K ∧ ∃ h : E' = E, x' = x ∧ (h ▸ L') = L
theorem OwnS.same {E : Enc} {x x' : SV} {L L' : List E.α} {K : Prop} (hx : x' = x) (h : L' = L) (hK : K) : OwnS (E' := E) x' L' x L K := ⟨hK, rfl, hx, h⟩
/-- A part of an array, looked at as a slice. -/
structure ViewM (b' : Nat) (l : List Sg) {E : Enc} (x : SV) (L : List E.α) (K : Prop) : Prop where
  go : K ∧ ∃ off cap, x = .at b' off L.length cap ∧ L.length ≤ cap ∧ E.wf L ∧ (E.vals L) = ((svals l).drop off).take (L.length * E.sz)
theorem ViewM.arr {b' : Nat} {l : List Sg} {s : Sk} {x : SV} {L : List s.α} {K : Prop} (base o len cap : Nat) (hx : x = .at b' (base + o * 1) len cap) (hc : len ≤ cap) (h : segTakeEl l base o len fun r => r = [.arr s len L]) (hw : swf l) (hK : K) :
    ViewM (E := .sc s) b' l x L K := by
  obtain ⟨r, rfl, h1, h2, h3⟩ := segTakeEl_ok h hw
  have hl : L.length = len := h1.1
  subst hl
  refine ⟨hK, base + o * 1, cap, hx, hc, sc_wf s L, ?_⟩
  have e : svals [Sg.arr s L.length L] = (Enc.sc s).vals L := by
    rw [sc_vals]
    have : scs [Sg.arr s L.length L] = L.map s.enc := List.append_nil _
    rw [svals, this]
  rw [← e, svals_sub h3]
  simp [Enc.sz]

theorem SV.sub_blk (x : SV) (sz lo hi : Nat) : (x.sub sz lo hi).blk = x.blk := by cases x <;> rfl
theorem SV.sub_nil {x : SV} {sz lo hi : Nat} : x.sub sz lo hi = .nil ↔ x = .nil := by cases x <;> simp [SV.sub]
theorem own_part {w : World} {b : Nat} {T : TypeId} {E : Enc} {x : SV} {L : List E.α} (hw : E.wf L) (h : ownIs w b T E x L) {lo hi : Nat} (h1 : lo ≤ hi) (h2 : hi ≤ L.length) : ownIs w b T E (x.sub E.sz lo hi) ((L.take hi).drop lo) := by
  cases x with
  | nil => have h : L = [] := h; subst h; show _ = []; simp
  | «at» b' o len cap =>
    obtain ⟨rfl, rfl, pre, post, fl, fh, hh, hf, hp, hlc, hcap⟩ := h
    have hwt : E.wf (L.take hi) := Enc.wf_sub hw fun y hy => List.mem_of_mem_take hy
    have hws : E.wf ((L.take hi).drop lo) := Enc.wf_sub hwt fun y hy => List.mem_of_mem_drop hy
    have hln : ((L.take hi).drop lo).length = hi - lo := by simp; omega
    have hvl := E.vals_len hw
    have hsl : (E.vals ((L.take hi).drop lo)).length = (hi - lo) * E.sz := by rw [E.vals_len hws, hln]
    have e1 : E.vals L = E.vals (L.take lo) ++ E.vals ((L.take hi).drop lo) ++ E.vals (L.drop hi) := by
      rw [← E.vals_append, ← E.vals_append]
      congr 1
      have : L.take lo = (L.take hi).take lo := by rw [List.take_take, Nat.min_eq_left h1]
      rw [this, List.take_append_drop, List.take_append_drop]
    have htl : (E.vals (L.take lo)).length = lo * E.sz := by rw [E.vals_len (Enc.wf_sub hw fun y hy => List.mem_of_mem_take hy), List.length_take, Nat.min_eq_left (by omega)]
    show ownIs w b' T E (.at b' (if cap = lo then o else o + lo * E.sz) (hi - lo) (cap - lo)) _
    by_cases hcl : cap = lo
    · have e0 : hi = lo := by omega
      have en : (L.take hi).drop lo = [] := List.eq_nil_of_length_eq_zero (by rw [hln]; omega)
      rw [if_pos hcl, en]
      refine ⟨rfl, by simp; omega, pre, E.vals L ++ post, fl, fh, ?_, ?_, hp, by omega, ?_⟩
      · rw [hh]; simp [Enc.vals]
      · simp only [List.length_append, Enc.vals, List.flatMap_nil, List.append_nil, List.length_nil] at hf ⊢; rcases hf with hf | hf
        · exact .inl hf
        · right; omega
      · rw [hcl]; simp
    · rw [if_neg hcl]
      refine ⟨rfl, by rw [hln], pre ++ E.vals (L.take lo), E.vals (L.drop hi) ++ post, fl, fh, ?_, ?_, ?_, by omega, ?_⟩
      · rw [hh, e1]; simp
      · have := congrArg List.length e1
        simp only [List.length_append] at this hf ⊢
        rcases hf with hf | hf
        · exact .inl hf
        · right; omega
      · rw [List.length_append, htl, hp]
      · have := congrArg List.length e1
        simp only [List.length_append] at this ⊢
        rw [Nat.sub_mul]; omega
theorem view_part {w : World} {b : Nat} {E : Enc} {x : SV} {L : List E.α} (hw : E.wf L) (h : viewIs w b E x L) {lo hi : Nat} (h1 : lo ≤ hi) (h2 : hi ≤ L.length) : viewIs w b E (x.sub E.sz lo hi) ((L.take hi).drop lo) := by
  cases x with
  | nil => have h : L = [] := h; subst h; show _ = []; simp
  | «at» b' o len cap =>
    obtain ⟨rfl, rfl, hlc, hb, hc⟩ := h
    have hwt : E.wf (L.take hi) := Enc.wf_sub hw fun y hy => List.mem_of_mem_take hy
    have hws : E.wf ((L.take hi).drop lo) := Enc.wf_sub hwt fun y hy => List.mem_of_mem_drop hy
    have hln : ((L.take hi).drop lo).length = hi - lo := by simp; omega
    refine ⟨rfl, by rw [hln], by omega, hb, fun j v hv => ?_⟩
    have hj : j < (hi - lo) * E.sz := by
      have := (List.getElem?_eq_some_iff.1 hv).1
      rwa [E.vals_len hws, hln] at this
    have hcl : ¬ cap = lo := by
      intro e
      have : hi - lo = 0 := by omega
      rw [this] at hj; omega
    rw [if_neg hcl, Nat.add_assoc]
    refine hc _ _ ?_
    have e1 := (E.vals_split hw hi).2
    have e2 := (E.vals_split hwt lo).1
    rw [← e2, ← e1, List.getElem?_drop, List.getElem?_take] at hv
    split at hv
    · exact hv
    · cases hv
theorem own_view {w : World} {b : Nat} {T : TypeId} {E : Enc} {x : SV} {L : List E.α} (hi : (HB.own T E x L).Is w b) : viewIs w b E x L := by
  obtain ⟨hw, h⟩ := hi
  cases x with
  | nil => exact h
  | «at» b' o len cap =>
    have hc : ∀ j v, (E.vals L)[j]? = some v → w.cell? ⟨b, o + j, none⟩ = some v := fun j v hv => own_cell h hv
    obtain ⟨rfl, rfl, pre, post, fl, fh, hh, hf, hp, hlc, hcap⟩ := h
    exact ⟨rfl, rfl, hlc, (Array.getElem?_eq_some_iff.1 hh).1, hc⟩
theorem var_view {w : World} {b : Nat} {T : TypeId} {l : List Sg} {E : Enc} {x : SV} {L : List E.α} {off cap : Nat} (hlt : b < w.heap.size) (hcell : ∀ j v, (svals l)[j]? = some v → w.cell? ⟨b, j, none⟩ = some v) (hx : x = .at b off L.length cap) (hc : L.length ≤ cap) (he : (E.vals L) = ((svals l).drop off).take (L.length * E.sz)) : viewIs w b E x L := by
  subst hx
  exact ⟨rfl, rfl, hc, hlt, fun j v hv => hcell _ _ (sub_get he hv)⟩

def HB.m (b : Nat) (hb : HB) (b' : Nat) (hb' : HB) (K : Prop) : Prop :=
  match hb, hb' with
  | .var T l, .var T' l' => (match Nat.beq T T' with | true => Chk (b' = b) (sgm l l' K) | false => False)
  | .ro l, .ro l' => Chk (b' = b) (sgm l l' K)
  | .ro l, .var _ l' => Chk (b' = b) (sgm l l' K)
  | .own T E x L, .own T' E' x' L' => (match Nat.beq T T' with | true => Chk (b = x.blk) (OwnM x' L' x L K) | false => False)
  | .view E x L, .own _ E' x' L' => Chk (b = x.blk) (OwnM x' L' x L K)
  | .view E x L, .view E' x' L' => Chk (b = x.blk) (OwnM x' L' x L K)
  | .view E x L, .var _ l' => Chk (b = x.blk) (ViewM b' l' x L K)
  | .view E x L, .ro l' => Chk (b = x.blk) (ViewM b' l' x L K)
  | .obj o, .obj o' => Chk (b' = b ∧ o' = o) K
  | .grw T E x L, .grw T' E' x' L' => (match Nat.beq T T' with | true => Chk (b = x.blk) (OwnS x' L' x L K) | false => False)
  | .view E x L, .grw _ E' x' L' => Chk (b = x.blk) (OwnM x' L' x L K)
  | .sem X, .sem X' => Chk (b' = b ∧ X' = X) K
  | _, _ => False

/-- What is wanted follows from what is there. -/
def EntOk (H : Heap) (k b : Nat) (hb : HB) : Prop :=
  (¬ hb.occ ∧ (∀ c, ¬ hb.rd b c) ∧ ∀ w b, hb.Is w b) ∨ ∃ b' hb', hget H k = some (b', hb') ∧ (∀ w, hb'.Is w b' → hb.Is w b) ∧ (hb.isRw = true → hb'.isRw = true) ∧ (∀ w, hb'.Is w b' → hb.occ → hb'.occ ∧ b = b') ∧ ∀ w, hb'.Is w b' → ∀ c, hb.rd b c → hb'.rd b' c

theorem HB.m_ok0 {b b' : Nat} {hb hb' : HB} {K : Prop} (h : HB.m b hb b' hb' K) : K ∧ (∀ w, hb'.Is w b' → hb.Is w b) ∧ (hb.isRw = true → hb'.isRw = true) ∧ ∀ w, hb'.Is w b' → hb.occ → hb'.occ ∧ b = b' := by
  have wfc : ∀ {E : Enc} {L : List E.α} {lo hi : Nat}, E.wf L → E.wf ((L.take hi).drop lo) := fun hw => Enc.wf_sub hw fun y hy => List.mem_of_mem_take (List.mem_of_mem_drop hy)
  have oblk : ∀ {w : World} {b : Nat} {T : TypeId} {E : Enc} {x : SV} {L : List E.α}, ownIs w b T E x L → x ≠ .nil → x.blk = b := by
    intro w b T E x L h hn
    cases x with
    | nil => exact (hn rfl).elim
    | «at» b' o len cap => exact h.1
  have vblk : ∀ {w : World} {b : Nat} {E : Enc} {x : SV} {L : List E.α}, viewIs w b E x L → x ≠ .nil → x.blk = b := by
    intro w b E x L h hn
    cases x with
    | nil => exact (hn rfl).elim
    | «at» b' o len cap => exact h.1
  have onil : ∀ {w : World} {b c : Nat} {T : TypeId} {E : Enc} {x : SV} {L : List E.α}, ownIs w b T E x L → (x ≠ .nil → b = c) → ownIs w c T E x L := by
    intro w b c T E x L h hbc
    cases x with
    | nil => exact h
    | «at» b' o len cap => rw [← hbc (by intro h; cases h)]; exact h
  have vnil : ∀ {w : World} {b c : Nat} {E : Enc} {x : SV} {L : List E.α}, viewIs w b E x L → (x ≠ .nil → b = c) → viewIs w c E x L := by
    intro w b c E x L h hbc
    cases x with
    | nil => exact h
    | «at» b' o len cap => rw [← hbc (by intro h; cases h)]; exact h
  have gnil : ∀ {w : World} {b c : Nat} {T : TypeId} {E : Enc} {x : SV} {L : List E.α}, (HB.grw T E x L).Is w b → (x ≠ .nil → b = c) → (HB.grw T E x L).Is w c := by
    intro w b c T E x L h hbc
    cases x with
    | nil => exact h
    | «at» b' o len cap => rw [← hbc (by intro h; cases h)]; exact h
  unfold HB.m at h
  split at h
  · rename_i T l T' l'
    split at h
    · rename_i hT
      have hT := Nat.eq_of_beq_eq_true hT
      subst hT
      obtain ⟨rfl, h⟩ := h
      obtain ⟨hK, e, hw⟩ := sgm_ok h
      exact ⟨hK, fun w ⟨lo, hi, h1, h2, h3⟩ => ⟨lo, hi, by rw [← e]; exact h1, by rw [← e]; exact h2, hw h3⟩, fun _ => rfl, fun _ _ _ => ⟨trivial, rfl⟩⟩
    · exact h.elim
  · obtain ⟨rfl, h⟩ := h
    obtain ⟨hK, e, hw⟩ := sgm_ok h
    exact ⟨hK, fun w ⟨h1, h2, h3⟩ => ⟨h1, by rw [← e]; exact h2, hw h3⟩, fun h => (by cases h), fun _ _ _ => ⟨trivial, rfl⟩⟩
  · obtain ⟨rfl, h⟩ := h
    obtain ⟨hK, e, hw⟩ := sgm_ok h
    refine ⟨hK, fun w hi => ⟨hi.rlt rfl, ?_, hw hi.cwf⟩, fun h => (by cases h), fun _ _ _ => ⟨trivial, rfl⟩⟩
    rw [← e]; exact fun j v hv => var_cell hi hv
  · rename_i T E x L T' E' x' L'
    split at h
    · rename_i hT
      have hT := Nat.eq_of_beq_eq_true hT
      subst hT
      obtain ⟨rfl, hK, rfl, h⟩ := h
      rcases h with ⟨rfl, rfl⟩ | ⟨lo, hi, h1, h2, rfl, rfl⟩
      · exact ⟨hK, fun w hi => ⟨hi.1, onil hi.2 fun hn => (oblk hi.2 hn).symm⟩, fun _ => rfl, fun w hi ho => ⟨ho, oblk hi.2 ho⟩⟩
      · refine ⟨hK, fun w hi => ⟨wfc hi.1, onil (own_part hi.1 hi.2 h1 h2) fun hn => ?_⟩, fun _ => rfl, fun w hi ho => ⟨fun e => ho (SV.sub_nil.2 e), ?_⟩⟩
        · rw [SV.sub_blk]; exact (oblk hi.2 fun e => hn (SV.sub_nil.2 e)).symm
        · rw [SV.sub_blk]; exact oblk hi.2 fun e => ho (SV.sub_nil.2 e)
    · exact h.elim
  · rename_i E x L T' E' x' L'
    obtain ⟨rfl, hK, rfl, h⟩ := h
    rcases h with ⟨rfl, rfl⟩ | ⟨lo, hi, h1, h2, rfl, rfl⟩
    · exact ⟨hK, fun w hi => ⟨hi.1, vnil (own_view hi) fun hn => (oblk hi.2 hn).symm⟩, fun h => (by cases h), fun w hi ho => ⟨ho, oblk hi.2 ho⟩⟩
    · refine ⟨hK, fun w hi => ⟨wfc hi.1, vnil (view_part hi.1 (own_view hi) h1 h2) fun hn => ?_⟩, fun h => (by cases h), fun w hi ho => ⟨fun e => ho (SV.sub_nil.2 e), ?_⟩⟩
      · rw [SV.sub_blk]; exact (oblk hi.2 fun e => hn (SV.sub_nil.2 e)).symm
      · rw [SV.sub_blk]; exact oblk hi.2 fun e => ho (SV.sub_nil.2 e)
  · rename_i E x L E' x' L'
    obtain ⟨rfl, hK, rfl, h⟩ := h
    rcases h with ⟨rfl, rfl⟩ | ⟨lo, hi, h1, h2, rfl, rfl⟩
    · exact ⟨hK, fun w hi => ⟨hi.1, vnil hi.2 fun hn => (vblk hi.2 hn).symm⟩, fun h => (by cases h), fun w hi ho => ⟨ho, vblk hi.2 ho⟩⟩
    · refine ⟨hK, fun w hi => ⟨wfc hi.1, vnil (view_part hi.1 hi.2 h1 h2) fun hn => ?_⟩, fun h => (by cases h), fun w hi ho => ⟨fun e => ho (SV.sub_nil.2 e), ?_⟩⟩
      · rw [SV.sub_blk]; exact (vblk hi.2 fun e => hn (SV.sub_nil.2 e)).symm
      · rw [SV.sub_blk]; exact vblk hi.2 fun e => ho (SV.sub_nil.2 e)
  · rename_i E x L T' l'
    obtain ⟨rfl, hK, off, cap, rfl, hc, hw, he⟩ := h
    exact ⟨hK, fun w hi => ⟨hw, var_view (T := T') (hi.rlt rfl) (fun j v hv => var_cell hi hv) rfl hc he⟩, fun h => (by cases h), fun _ _ _ => ⟨trivial, rfl⟩⟩
  · rename_i E x L l'
    obtain ⟨rfl, hK, off, cap, rfl, hc, hw, he⟩ := h
    exact ⟨hK, fun w hi => ⟨hw, var_view (T := 0) hi.1 hi.2.1 rfl hc he⟩, fun h => (by cases h), fun _ _ _ => ⟨trivial, rfl⟩⟩
  · obtain ⟨⟨rfl, rfl⟩, h⟩ := h
    exact ⟨h, fun _ hi => hi, fun _ => rfl, fun _ _ _ => ⟨trivial, rfl⟩⟩
  · rename_i T E x L T' E' x' L'
    split at h
    · rename_i hT
      have hT := Nat.eq_of_beq_eq_true hT
      subst hT
      obtain ⟨rfl, hK, rfl, rfl, rfl⟩ := h
      exact ⟨hK, fun w hi => gnil hi fun hn => (vblk (grw_view hi) hn).symm, fun _ => rfl, fun w hi ho => ⟨ho, vblk (grw_view hi) ho⟩⟩
    · exact h.elim
  · rename_i E x L T' E' x' L'
    obtain ⟨rfl, hK, rfl, h⟩ := h
    rcases h with ⟨rfl, rfl⟩ | ⟨lo, hi, h1, h2, rfl, rfl⟩
    · exact ⟨hK, fun w hi => ⟨hi.1, vnil (grw_view hi) fun hn => (vblk (grw_view hi) hn).symm⟩, fun h => (by cases h), fun w hi ho => ⟨ho, vblk (grw_view hi) ho⟩⟩
    · refine ⟨hK, fun w hi => ⟨wfc hi.1, vnil (view_part hi.1 (grw_view hi) h1 h2) fun hn => ?_⟩, fun h => (by cases h), fun w hi ho => ⟨fun e => ho (SV.sub_nil.2 e), ?_⟩⟩
      · rw [SV.sub_blk]; exact (vblk (grw_view hi) fun e => hn (SV.sub_nil.2 e)).symm
      · rw [SV.sub_blk]; exact vblk (grw_view hi) fun e => ho (SV.sub_nil.2 e)
  · obtain ⟨⟨rfl, rfl⟩, h⟩ := h
    exact ⟨h, fun _ hi => hi, fun hr => hr, fun _ _ ho => ⟨ho, rfl⟩⟩
  · exact h.elim
theorem HB.m_plain {b b' : Nat} {hb hb' : HB} {K : Prop} (h : HB.m b hb b' hb' K) : (hb.plain ∧ hb'.plain) ∨ (b' = b ∧ hb' = hb) := by
  unfold HB.m at h
  split at h <;> first
    | exact .inl ⟨trivial, trivial⟩
    | (obtain ⟨⟨rfl, rfl⟩, _⟩ := h; exact .inr ⟨rfl, rfl⟩)
    | exact h.elim
theorem HB.m_ok {b b' : Nat} {hb hb' : HB} {K : Prop} (h : HB.m b hb b' hb' K) : K ∧ (∀ w, hb'.Is w b' → hb.Is w b) ∧ (hb.isRw = true → hb'.isRw = true) ∧ (∀ w, hb'.Is w b' → hb.occ → hb'.occ ∧ b = b') ∧ ∀ w, hb'.Is w b' → ∀ c, hb.rd b c → hb'.rd b' c := by
  obtain ⟨h1, h2, h3, h4⟩ := HB.m_ok0 h
  refine ⟨h1, h2, h3, h4, fun w hi c hc => ?_⟩
  rcases HB.m_plain h with ⟨p1, p2⟩ | ⟨rfl, rfl⟩
  · obtain ⟨ho, rfl⟩ := (HB.rd_plain p1).1 hc
    obtain ⟨ho', e⟩ := h4 w hi ho
    exact (HB.rd_plain p2).2 ⟨ho', e⟩
  · exact hc

def hmatch (H : Heap) : Heap → Prop → Prop
  | [], K => K
  | (k, b, hb) :: r, K => (match hget H k with
    | some (b', hb') => HB.m b hb b' hb' (hmatch H r K)
    | none => (match hb with
      | .own _ _ x L => Chk (x = .nil ∧ L = []) (hmatch H r K)
      | .view _ x L => Chk (x = .nil ∧ L = []) (hmatch H r K)
      | .grw _ _ x L => Chk (x = .nil ∧ L = []) (hmatch H r K)
      | _ => False))
theorem hmatch_ok {H : Heap} : ∀ {H1 : Heap} {K : Prop}, hmatch H H1 K → K ∧ ∀ k b hb, hget H1 k = some (b, hb) → EntOk H k b hb := by
  intro H1
  induction H1 with
  | nil => intro K h; exact ⟨h, fun k b hb h => by cases h⟩
  | cons e r ih =>
    obtain ⟨k, b, hb⟩ := e
    intro K h
    have fin : hmatch H r K → EntOk H k b hb → K ∧ ∀ t c x, hget ((k, b, hb) :: r) t = some (c, x) → EntOk H t c x := by
      intro h he
      obtain ⟨hK, hr⟩ := ih h
      refine ⟨hK, fun t c x ht => ?_⟩
      rw [hget_cons] at ht
      split at ht
      · rename_i e'; subst e'; cases ht; exact he
      · exact hr t c x ht
    unfold hmatch at h
    split at h
    · rename_i b' hb' hg
      obtain ⟨h, h1, h2, h3, h4⟩ := HB.m_ok h
      exact fin h (.inr ⟨b', hb', hg, h1, h2, h3, h4⟩)
    · split at h
      · obtain ⟨⟨rfl, rfl⟩, h⟩ := h
        exact fin h (.inl ⟨fun h => h rfl, fun c h => h.1 rfl, fun w b => ⟨(by intro x hx; cases hx), rfl⟩⟩)
      · obtain ⟨⟨rfl, rfl⟩, h⟩ := h
        exact fin h (.inl ⟨fun h => h rfl, fun c h => h.1 rfl, fun w b => ⟨(by intro x hx; cases hx), rfl⟩⟩)
      · obtain ⟨⟨rfl, rfl⟩, h⟩ := h
        exact fin h (.inl ⟨fun h => h rfl, fun c h => h.1 rfl, fun w b => ⟨(by intro x hx; cases hx), rfl⟩⟩)
      · exact h.elim
theorem EntOk.rd {H : Heap} {k b : Nat} {hb : HB} (h : EntOk H k b hb) {C : Ctx} {w : World} (hw : Rep C H w) {c : Nat} (hc : hb.rd b c) : ∃ b' hb', hget H k = some (b', hb') ∧ hb'.rd b' c := by
  rcases h with ⟨_, hn, _⟩ | ⟨b', hb', hg, _, _, _, hr⟩
  · exact (hn c hc).elim
  · exact ⟨b', hb', hg, hr w (hw.is _ _ _ hg) c hc⟩
theorem EntOk.is {H : Heap} {k b : Nat} {hb : HB} (h : EntOk H k b hb) {C : Ctx} {w : World} (hw : Rep C H w) : hb.Is w b := by
  rcases h with ⟨_, _, hi⟩ | ⟨b', hb', hg, hi, _⟩
  · exact hi w b
  · exact hi w (hw.is _ _ _ hg)
theorem Rep.match {C : Ctx} {H H1 : Heap} {w : World} (h : Rep C H w) (hs : ∀ k b hb, hget H1 k = some (b, hb) → EntOk H k b hb) : Rep C H1 w := by
  refine ⟨fun k b hb hk => (hs k b hb hk).is h, fun k k' b b' hb hb' hk hk' hne hr o1 o2 => ?_, fun k b hb hk hr o1 => ?_, fun k b hb c hk hc => ?_, h.frm⟩
  · rcases hs k b hb hk with ⟨hn, _⟩ | ⟨c, x, hg, hi, h2, h3, h4⟩
    · exact (hn o1).elim
    · obtain ⟨c', x', hg', o2'⟩ := (hs k' b' hb' hk').rd h o2
      obtain ⟨p1, rfl⟩ := h3 w (h.is _ _ _ hg) o1
      exact h.apart k k' _ _ x x' hg hg' hne (h2 hr) p1 o2'
  · rcases hs k b hb hk with ⟨hn, _⟩ | ⟨c, x, hg, hi, h2, h3, _⟩
    · exact (hn o1).elim
    · obtain ⟨p1, rfl⟩ := h3 w (h.is _ _ _ hg) o1
      exact h.own k _ x hg (h2 hr) p1
  · obtain ⟨c', x', hg', hc'⟩ := (hs k b hb hk).rd h hc
    exact h.known _ _ _ _ hg' hc'

/-! ### Loops -/
/-- What a round asks. -/
def roundQ {α : Type} (st : α → Tm × Heap) (I : α → Prop) (μ : α → Nat) (x : α) (Q : Ex → Tm → Heap → Prop) : Ex → Tm → Heap → Prop
  | .normal, T, H => ∃ y, I y ∧ μ y < μ x ∧ tmatch T (st y).1 (hmatch H (st y).2 True)
  | e, T, H => Q e T H

theorem LoopG.of {C : Ctx} {body : Code} {T : Tm} {H : Heap} {Q : Ex → Tm → Heap → Prop} {α : Type} (st : α → Tm × Heap) (I : α → Prop) (μ : α → Nat) (x0 : α)
    (h0 : I x0 ∧ tmatch T (st x0).1 (hmatch H (st x0).2 True))
    (round : ∀ x, I x → sx C body (st x).1 (st x).2 (roundQ st I μ x Q)) : LoopG C body T H Q := by
  refine ⟨fun a w ha hw => ?_⟩
  let Inv : α → Act → World → Prop := fun x a w => I x ∧ Fits C (st x).1 a ∧ Rep C (st x).2 w
  have key : ∀ (x : α) a w, Inv x a w → (Code.loop body).wp C.P (QK C Q) a w := by
    intro x a w hI
    refine wp_loop (fun a w => ∃ x, Inv x a w) (fun a w => Classical.epsilon fun n => ∃ x, Inv x a w ∧ μ x = n ∧ ∀ y, Inv y a w → μ x ≤ μ y) ⟨x, hI⟩ ?_
    rintro a w ⟨y, hy⟩
    -- the least measure of this state
    have least : ∀ a w, (∃ x, Inv x a w) → ∃ n x, Inv x a w ∧ μ x = n ∧ ∀ y, Inv y a w → μ x ≤ μ y := by
      intro a w
      have aux : ∀ n x, Inv x a w → μ x = n → ∃ n x, Inv x a w ∧ μ x = n ∧ ∀ y, Inv y a w → μ x ≤ μ y := by
        intro n
        induction n using Nat.strongRecOn with
        | _ n ih =>
          intro x hx hn
          by_cases hmin : ∀ y, Inv y a w → μ x ≤ μ y
          · exact ⟨_, x, hx, rfl, hmin⟩
          · obtain ⟨y, hy⟩ := Classical.not_forall.1 hmin
            obtain ⟨hy1, hy2⟩ := Classical.not_imp.1 hy
            exact ih (μ y) (by omega) y hy1 rfl
      rintro ⟨z, hz⟩
      exact aux _ z hz rfl
    obtain ⟨z, hz, hzn, hzmin⟩ := Classical.epsilon_spec (least a w ⟨y, hy⟩)
    obtain ⟨hI', ha', hw'⟩ := hz
    refine wp_mono (sx_ok (round z hI') ha' hw') fun e a2 w2 hh => ?_
    cases e with
    | normal =>
      obtain ⟨T', H', ha2, hw2, u, hu, hlt, hT⟩ := hh
      obtain ⟨hH, hT⟩ := tmatch_ok hT
      have hinv : Inv u a2 w2 := ⟨hu, ha2.match hT, hw2.match (hmatch_ok hH).2⟩
      refine ⟨⟨u, hinv⟩, ?_⟩
      obtain ⟨v, hv, hvn, hvmin⟩ := Classical.epsilon_spec (least a2 w2 ⟨u, hinv⟩)
      rw [← hvn, ← hzn]
      exact Nat.lt_of_le_of_lt (hvmin u hinv) hlt
    | exit i => exact hh
    | ret => exact hh
    | goto l => exact hh.elim
    | panic ch => exact hh.elim
    | outgrown => exact hh.elim
  obtain ⟨hH, hT⟩ := tmatch_ok h0.2
  exact key x0 a w ⟨h0.1, ha.match hT, hw.match (hmatch_ok hH).2⟩

def pickT (T : Tm) : List Nat → (Tm → Prop) → Prop
  | [], K => K []
  | t :: r, K => (match tget T t with | some v => pickT T r fun R => K ((t, v) :: R) | none => False)
def pickH (H : Heap) : List Nat → (Heap → Prop) → Prop
  | [], K => K []
  | t :: r, K => (match hget H t with | some (b, hb) => pickH H r fun R => K ((t, b, hb) :: R) | none => False)
theorem pickT_ok {T : Tm} : ∀ {l : List Nat} {K : Tm → Prop}, pickT T l K → ∃ R, K R ∧ ∀ t v, tget R t = some v → tget T t = some v := by
  intro l
  induction l with
  | nil => intro K h; exact ⟨[], h, fun t v h => by cases h⟩
  | cons t l ih =>
    intro K h
    unfold pickT at h
    split at h
    · rename_i v hv
      obtain ⟨R, hK, hR⟩ := ih h
      refine ⟨_, hK, fun t' v' h' => ?_⟩
      rw [tget_cons] at h'
      split at h'
      · rename_i e; subst e; cases h'; exact hv
      · exact hR _ _ h'
    · exact h.elim
theorem pickH_ok {H : Heap} : ∀ {l : List Nat} {K : Heap → Prop}, pickH H l K → ∃ R, K R ∧ ∀ t v, hget R t = some v → hget H t = some v := by
  intro l
  induction l with
  | nil => intro K h; exact ⟨[], h, fun t v h => by cases h⟩
  | cons t l ih =>
    intro K h
    unfold pickH at h
    split at h
    · rename_i b hb hv
      obtain ⟨R, hK, hR⟩ := ih h
      refine ⟨_, hK, fun t' v' h' => ?_⟩
      rw [hget_cons] at h'
      split at h'
      · rename_i e; subst e; cases h'; exact hv
      · exact hR _ _ h'
    · exact h.elim
universe u
def appL {α : Type u} : List α → List α → List α
  | [], r => r
  | x :: l, r => x :: appL l r
/-- The blocks' numbers, of what is told anew: those that the names have; a slice tells its own. -/
def pickB (H : Heap) : List (Nat × HB) → (List Nat → Prop) → Prop
  | [], K => K []
  | (k, _) :: r, K => (match hget H k with
    | some (b, _) => pickB H r fun bs => K (b :: bs)
    | none => pickB H r fun bs => K (0 :: bs))
theorem pickB_ok {H : Heap} : ∀ {l : List (Nat × HB)} {K : List Nat → Prop}, pickB H l K → ∃ bs, K bs := by
  intro l
  induction l with
  | nil => intro K h; exact ⟨_, h⟩
  | cons e l ih =>
    intro K h
    unfold pickB at h
    split at h
    · obtain ⟨bs, h⟩ := ih h; exact ⟨_, h⟩
    · obtain ⟨bs, h⟩ := ih h; exact ⟨_, h⟩
def fillB : List Nat → List (Nat × HB) → Heap
  | _, [] => []
  | [], (k, .own T E x L) :: r => (k, x.blk, .own T E x L) :: fillB [] r
  | [], (k, .view E x L) :: r => (k, x.blk, .view E x L) :: fillB [] r
  | [], (k, .grw T E x L) :: r => (k, x.blk, .grw T E x L) :: fillB [] r
  | [], (k, .var T l) :: r => (k, 0, .var T l) :: fillB [] r
  | [], (k, .ro l) :: r => (k, 0, .ro l) :: fillB [] r
  | [], (k, .obj o) :: r => (k, 0, .obj o) :: fillB [] r
  | [], (k, .sem o) :: r => (k, 0, .sem o) :: fillB [] r
  | _ :: bs, (k, .own T E x L) :: r => (k, x.blk, .own T E x L) :: fillB bs r
  | _ :: bs, (k, .view E x L) :: r => (k, x.blk, .view E x L) :: fillB bs r
  | _ :: bs, (k, .grw T E x L) :: r => (k, x.blk, .grw T E x L) :: fillB bs r
  | b :: bs, (k, .var T l) :: r => (k, b, .var T l) :: fillB bs r
  | b :: bs, (k, .ro l) :: r => (k, b, .ro l) :: fillB bs r
  | b :: bs, (k, .obj o) :: r => (k, b, .obj o) :: fillB bs r
  | b :: bs, (k, .sem o) :: r => (k, b, .sem o) :: fillB bs r
/-- A loop: some slots and blocks stay as they are (ks, hs), some are told (upd, updH). -/
theorem LoopG.auto {C : Ctx} {body : Code} {T : Tm} {H : Heap} {Q : Ex → Tm → Heap → Prop} {α : Type} (ks hs : List Nat) (upd : α → Tm) (updH : α → List (Nat × HB)) (I : α → Prop) (μ : α → Nat) (x0 : α)
    (h : pickT T ks fun T0 => pickH H hs fun H0 => pickB H (updH x0) fun bs => (I x0 ∧ tmatch T (appL (upd x0) T0) (hmatch H (appL (fillB bs (updH x0)) H0) True)) ∧
      ∀ x, I x → sx C body (appL (upd x) T0) (appL (fillB bs (updH x)) H0) (roundQ (fun x => (appL (upd x) T0, appL (fillB bs (updH x)) H0)) I μ x Q)) : LoopG C body T H Q := by
  obtain ⟨T0, h, _⟩ := pickT_ok h
  obtain ⟨H0, h, _⟩ := pickH_ok h
  obtain ⟨bs, h⟩ := pickB_ok h
  exact LoopG.of (fun x => (appL (upd x) T0, appL (fillB bs (updH x)) H0)) I μ x0 h.1 h.2
/-- Where ways meet again: some slots and blocks stay as they are, some are told. -/
def joinQ {α : Type} (st : α → Tm × Heap) (I : α → Prop) (Q : Ex → Tm → Heap → Prop) : Ex → Tm → Heap → Prop
  | .normal, T, H => ∃ y, I y ∧ tmatch T (st y).1 (hmatch H (st y).2 True)
  | e, T, H => Q e T H
theorem CondG.join {C : Ctx} {c : Operand} {x y : Code} {T : Tm} {H : Heap} {Q : Ex → Tm → Heap → Prop} {α : Type} (ks hs : List Nat) (upd : α → Tm) (updH : α → List (Nat × HB)) (I : α → Prop) (x0 : α)
    (h : pickT T ks fun T0 => pickH H hs fun H0 => pickB H (updH x0) fun bs => CondG C c x y T H (joinQ (fun x => (appL (upd x) T0, appL (fillB bs (updH x)) H0)) I Q) ∧
      ∀ x, I x → Q .normal (appL (upd x) T0) (appL (fillB bs (updH x)) H0)) : CondG C c x y T H Q := by
  obtain ⟨T0, h, _⟩ := pickT_ok h
  obtain ⟨H0, h, _⟩ := pickH_ok h
  obtain ⟨bs, h, hk⟩ := pickB_ok h
  refine ⟨fun a w ha hw => wp_mono (h.go a w ha hw) fun e a' w' hh => ?_⟩
  cases e with
  | normal =>
    obtain ⟨T', H', ha', hw', x, hx, hT⟩ := hh
    obtain ⟨hH, hT⟩ := tmatch_ok hT
    exact ⟨_, _, ha'.match hT, hw'.match (hmatch_ok hH).2, hk x hx⟩
  | exit i => exact hh
  | ret => exact hh
  | goto l => exact hh.elim
  | panic ch => exact hh.elim
  | outgrown => exact hh.elim
abbrev vi (n : Int) : TV := .b (.one (.int .i64 n))
abbrev vs (s : List UInt8) : TV := .b (.one (.str s))
abbrev vb (x : Bool) : TV := .b (.one (.bool x))
abbrev v8 (x : UInt8) : TV := .b (.one (.w8 x))
abbrev v32 (x : BitVec 32) : TV := .b (.one (.w32 x))
abbrev v64 (x : BitVec 64) : TV := .b (.one (.w64 x))
abbrev vl (k : Nat) (x : SV) : TV := .b (.one (.lst k x))
abbrev vp (k b : Nat) : TV := .b (.one (.ptr ⟨k, b, .lit 0⟩))
abbrev va (l : List Sg) : TV := .b (.agg l)
end Go.SY

/- Contracts of functions; calls. -/
set_option linter.unusedSimpArgs false
set_option linter.unusedVariables false
namespace Go.SY

/-- The blocks that a call may write. -/
def FG (G : Heap) (b : Nat) : Prop := ∃ k hb, hget G k = some (b, hb) ∧ hb.isRw = true ∧ hb.occ
/-- The blocks that a call is told of. -/
def KG (G : Heap) (c : Nat) : Prop := ∃ k b hb, hget G k = some (b, hb) ∧ hb.rd b c
abbrev ctxOf (R : Pr) (N : Nat) (G : Heap) (w : World) : Ctx := ⟨R, N, w, FG G, KG G⟩
theorem Rep.ctx {R R' : Pr} {N N' : Nat} {w0 : World} {F K : Nat → Prop} {H : Heap} {w : World} (h : Rep ⟨R, N, w0, F, K⟩ H w) : Rep ⟨R', N', w0, F, K⟩ H w :=
  ⟨h.is, h.apart, h.own, h.known, ⟨h.frm.os, h.frm.tape, h.frm.output, h.frm.size, h.frm.block⟩⟩
theorem Rep.frame {R R' : Pr} {N N' : Nat} {w0 : World} {F F' K K' : Nat → Prop} {H : Heap} {w : World} (h : Rep ⟨R, N, w0, F, K⟩ H w) (hF : ∀ b, F b ↔ F' b) (hK : ∀ b, K b ↔ K' b) : Rep ⟨R', N', w0, F', K'⟩ H w :=
  ⟨h.is, h.apart, fun k b hb hk hr ho => (h.own k b hb hk hr ho).imp id (hF b).1, fun k b hb c hk hc => (h.known k b hb c hk hc).imp id (hK c).1, ⟨h.frm.os, h.frm.tape, h.frm.output, h.frm.size, fun b hb hn => h.frm.block b hb fun hh => hn ((hF b).1 hh)⟩⟩

def FnOk (P : Program) (f : FuncId) : Prop := ∃ fn, P.funcs[f]? = some fn ∧ (fn.name == "runtime.NumGoroutine") = false ∧ fn.body.isNone = false

/-- A function's contract: called with these values, where memory holds G, it hands back one of v and leaves H'. -/
structure Ctr (R : Pr) (f : FuncId) (args : List TV) (G : Heap) {X : Type} (I : X → Prop) (v : X → TV) (H' : X → Heap) : Prop where
  fn : FnOk R.P f
  go : ∀ w, Rep (ctxOf R 0 G w) G w → (∀ v ∈ args, v.wf) → Calls R.P f (args.map TV.val).toArray w fun e w' => ∃ x, I x ∧ e = .returned (TV.val (v x)) ∧ (v x).wf ∧ Rep (ctxOf R 0 G w) (H' x) w'
/-- One answer; what is known stays as it is, or nothing of it is told. -/
abbrev CtrP (R : Pr) (f : FuncId) (args : List TV) (G : Heap) (v : TV) : Prop := Ctr R f args G (fun _ : Unit => True) (fun _ => v) (fun _ => [])
/-- One answer, and what memory holds. -/
abbrev CtrU (R : Pr) (f : FuncId) (args : List TV) (G : Heap) (v : TV) (H' : Heap) : Prop := Ctr R f args G (fun _ : Unit => True) (fun _ => v) (fun _ => H')

/-! ### The end of a body -/
def resOne (P : Program) (T : Tm) (H : Heap) (r : ResultVar) (K : BV → Prop) : Prop :=
  match r with
  | .tmp t => (match tget T t with | some (.b v) => K v | _ => False)
  | .cell a ty => (match tget T a with | some (.b (.one c)) => qload P H ty c K | _ => False)
def resAll (P : Program) (T : Tm) (H : Heap) : List ResultVar → (List BV → Prop) → Prop
  | [], K => K []
  | r :: l, K => resOne P T H r fun v => resAll P T H l fun vs => K (v :: vs)
def ResG (P : Program) (T : Tm) (H : Heap) (rs : List ResultVar) (K : TV → Prop) : Prop :=
  match rs with
  | [r] => resOne P T H r fun v => K (.b v)
  | rs => resAll P T H rs fun vs => K (.tup vs)

def resSem (a : Act) (r : ResultVar) : Sem Value :=
  match r with
  | .tmp t => pure (a.tmps.getD t undef)
  | .cell p t => do loadVar t (← asAddr (a.tmps.getD p undef))

theorem resOne_ok {C : Ctx} {T : Tm} {H : Heap} {r : ResultVar} {K : BV → Prop} (h : resOne C.P T H r K) {a : Act} {w : World} (ha : Fits C T a) (hw : Rep C H w) :
    ∃ v, K v ∧ v.wf ∧ (resSem a r).run C.P w = .ok v.val w := by
  cases r with
  | tmp t =>
    unfold resOne at h
    dsimp only at h
    split at h
    · rename_i v hv; exact ⟨v, h, ha.wf t _ hv, by simp only [resSem, Sem.run_pure]; rw [ha.tmps t _ hv]; rfl⟩
    · exact h.elim
  | cell p ty =>
    unfold resOne at h
    dsimp only at h
    split at h
    · rename_i c hc
      obtain ⟨v, hv, hvw, hr⟩ := qload_ok h hw.hwf
      refine ⟨v, hv, hvw, ?_⟩
      have hr := hr C w hw
      have e := ha.tmps p _ hc
      unfold qload at h
      split at h
      · simp only [Instr.loadAt, Instr.sureAddr, SC.val, Pt.value, Sem.run_bind, Sem.run_pure, Result.andThen_ok] at hr
        simp only [resSem, e, TV.val, BV.val, SC.val, Pt.value, asAddr, Sem.run_bind, Sem.run_pure, Result.andThen_ok]
        exact hr
      · exact h.elim
    · exact h.elim

theorem resAll_ok {C : Ctx} {T : Tm} {H : Heap} {a : Act} {w : World} (ha : Fits C T a) (hw : Rep C H w) : ∀ {l : List ResultVar} {K : List BV → Prop}, resAll C.P T H l K →
    ∃ vs, K vs ∧ bwf vs ∧ vs.length = l.length ∧ (l.mapM (resSem a)).run C.P w = .ok (vs.map BV.val) w := by
  intro l
  induction l with
  | nil => intro K h; exact ⟨[], h, trivial, rfl, rfl⟩
  | cons r l ih =>
    intro K h
    obtain ⟨v, hv, hvw, hr⟩ := resOne_ok h ha hw
    obtain ⟨vs, hvs, hvsw, hl, hrs⟩ := ih hv
    refine ⟨v :: vs, hvs, ⟨hvw, hvsw⟩, by simp [hl], ?_⟩
    rw [List.mapM_cons]
    simp only [Sem.run_bind, hr, Result.andThen_ok, hrs, Sem.run_pure, List.map_cons]

theorem results_sem (fn : Func) (a : Act) : results fn a.tmps = (do let vs ← fn.results.mapM (resSem a); pure (if h : vs.size = 1 then vs[0] else .tuple vs)) := rfl

theorem ResG_ok {C : Ctx} {T : Tm} {H : Heap} {fn : Func} {K : TV → Prop} {a : Act} {w : World} (h : ResG C.P T H fn.results.toList K) (ha : Fits C T a) (hw : Rep C H w) :
    ∃ v, K v ∧ v.wf ∧ (results fn a.tmps).run C.P w = .ok v.val w := by
  have e : fn.results = fn.results.toList.toArray := by simp
  unfold ResG at h
  split at h
  · rename_i r hr
    obtain ⟨v, hv, hvw, hrun⟩ := resOne_ok h ha hw
    refine ⟨_, hv, hvw, ?_⟩
    rw [results_sem, e, hr, List.mapM_toArray]
    simp only [List.mapM_cons, List.mapM_nil, Sem.run_bind, Sem.run_map, Sem.run_pure, Result.andThen_ok, hrun]
    simp [TV.val]
  · rename_i rs hne
    obtain ⟨vs, hvs, hvsw, hl, hrun⟩ := resAll_ok ha hw h
    refine ⟨_, hvs, hvsw, ?_⟩
    rw [results_sem, e, List.mapM_toArray]
    simp only [Sem.run_bind, Sem.run_map, hrun, Result.andThen_ok]
    have hne1 : (vs.map BV.val).toArray.size ≠ 1 := by
      simp only [List.size_toArray, List.length_map, hl]
      intro h1
      obtain ⟨r, hr⟩ := List.length_eq_one_iff.1 h1
      exact hne r hr
    rw [dif_neg hne1]
    rfl

/-- The frame of a call. -/
def frame : Nat → List TV → Tm
  | _, [] => []
  | n, v :: l => (n, v) :: frame (n + 1) l
theorem frame_get : ∀ (l : List TV) (n t : Nat) (v : TV), tget (frame n l) t = some v → n ≤ t ∧ l[t - n]? = some v := by
  intro l
  induction l with
  | nil => intro n t v h; cases h
  | cons u l ih =>
    intro n t v h
    unfold frame at h
    rw [tget_cons] at h
    split at h
    · rename_i e; subst e; cases h; simp
    · obtain ⟨h1, h2⟩ := ih (n + 1) t v h
      refine ⟨by omega, ?_⟩
      rw [show t - n = (t - (n + 1)) + 1 by omega]; simpa using h2

/-- Keys that come once. -/
def once : Heap → Bool
  | [] => true
  | (k, _, _) :: r => (match hget r k with | some _ => false | none => true) && once r

/-! ### Other names -/
def ren (l : List (Nat × Nat)) (k : Nat) : Nat :=
  match l with
  | [] => k
  | (a, b) :: r => match Nat.beq a k with | true => b | false => ren r k
def Pt.ren (l : List (Nat × Nat)) (p : Pt) : Pt := ⟨SY.ren l p.key, p.blk, p.off⟩
def SC.ren (l : List (Nat × Nat)) : SC → SC
  | .ptr ⟨k, b, o⟩ => .ptr ⟨SY.ren l k, b, o⟩
  | .lst k x => .lst (SY.ren l k) x
  | .part k x sz lo hi => .part (SY.ren l k) x sz lo hi
  | .sl k b base o sz len cap => .sl (SY.ren l k) b base o sz len cap
  | .mp k b => .mp (SY.ren l k) b
  | .ch k b => .ch (SY.ren l k) b
  | .fn f a c => .fn f (a.map (Pt.ren l)) (c.map (Pt.ren l))
  | c => c
theorem SC.ren_val (l : List (Nat × Nat)) (c : SC) : (c.ren l).val = c.val := by
  cases c <;> simp [SC.ren, SC.val, Pt.value, Pt.addr, Function.comp_def, Pt.ren]
def sren (l : List (Nat × Nat)) : List Sg → List Sg
  | [] => []
  | .c x :: r => .c (x.ren l) :: sren l r
  | .arr s n L :: r => .arr s n L :: sren l r
theorem sren_ok (l : List (Nat × Nat)) : ∀ r : List Sg, svals (sren l r) = svals r ∧ (swf (sren l r) ↔ swf r) ∧ slen (sren l r) = slen r := by
  intro r
  induction r with
  | nil => exact ⟨rfl, Iff.rfl, rfl⟩
  | cons g r ih =>
    obtain ⟨h1, h2, h3⟩ := ih
    cases g with
    | c x =>
      refine ⟨?_, ?_, ?_⟩
      · simp only [svals, sren, scs, Sg.cs, List.map_append, List.map_cons, List.map_nil, SC.ren_val] at h1 ⊢; rw [h1]
      · simp [sren, swf, Sg.wf, h2]
      · simp [sren, slen, Sg.len, h3]
    | arr s n L =>
      refine ⟨?_, ?_, ?_⟩
      · simp only [svals, sren, scs, List.map_append] at h1 ⊢; rw [h1]
      · simp [sren, swf, h2]
      · simp [sren, slen, h3]
def BV.ren (l : List (Nat × Nat)) : BV → BV
  | .one c => .one (c.ren l)
  | .agg a => .agg (sren l a)
theorem BV.ren_val (l : List (Nat × Nat)) (x : BV) : (x.ren l).val = x.val := by
  cases x <;> simp [BV.ren, BV.val, SC.ren_val, (sren_ok l _).1]
theorem BV.ren_wf (l : List (Nat × Nat)) (x : BV) : (x.ren l).wf ↔ x.wf := by
  cases x with
  | one c => exact ⟨fun _ => bone_wf c, fun _ => bone_wf _⟩
  | agg a => exact (sren_ok l a).2.1
def bren (l : List (Nat × Nat)) : List BV → List BV
  | [] => []
  | v :: r => v.ren l :: bren l r
theorem bren_ok (l : List (Nat × Nat)) : ∀ r, (bren l r).map BV.val = r.map BV.val ∧ (bwf (bren l r) ↔ bwf r) := by
  intro r
  induction r with
  | nil => exact ⟨rfl, Iff.rfl⟩
  | cons v r ih => exact ⟨by simp [bren, BV.ren_val, ih.1], by simp [bren, bwf, BV.ren_wf, ih.2]⟩
def TV.ren (l : List (Nat × Nat)) : TV → TV
  | .b x => .b (x.ren l)
  | .tup a => .tup (bren l a)
theorem TV.ren_val (l : List (Nat × Nat)) (x : TV) : (x.ren l).val = x.val := by
  cases x <;> simp [TV.ren, TV.val, BV.ren_val, (bren_ok l _).1]
theorem TV.ren_wf (l : List (Nat × Nat)) (x : TV) : (x.ren l).wf ↔ x.wf := by
  cases x with
  | b x => exact BV.ren_wf l x
  | tup a => exact (bren_ok l a).2
def aren (l : List (Nat × Nat)) : List TV → List TV
  | [] => []
  | v :: r => v.ren l :: aren l r
theorem aren_val (l : List (Nat × Nat)) : ∀ r, (aren l r).map TV.val = r.map TV.val := by
  intro r
  induction r with
  | nil => rfl
  | cons v r ih => simp [aren, TV.ren_val, ih]
def HB.ren (l : List (Nat × Nat)) : HB → HB
  | .var T c => .var T (sren l c)
  | .ro c => .ro (sren l c)
  | hb => hb
theorem HB.ren_is (l : List (Nat × Nat)) (x : HB) (w : World) (b : Nat) : (x.ren l).Is w b ↔ x.Is w b := by
  cases x <;> simp [HB.ren, HB.Is, (sren_ok l _).1, (sren_ok l _).2.1]
theorem HB.ren_rw (l : List (Nat × Nat)) (x : HB) : (x.ren l).isRw = x.isRw := by cases x <;> rfl
theorem HB.ren_occ (l : List (Nat × Nat)) (x : HB) : (x.ren l).occ ↔ x.occ := by cases x <;> rfl
theorem HB.ren_rd (l : List (Nat × Nat)) (x : HB) (b c : Nat) : (x.ren l).rd b c ↔ x.rd b c := by cases x <;> exact Iff.rfl
def hren (l : List (Nat × Nat)) : Heap → Heap
  | [] => []
  | (k, b, hb) :: r => (SY.ren l k, b, hb.ren l) :: hren l r

theorem hren_get {l : List (Nat × Nat)} : ∀ {H : Heap}, once H = true → ∀ t b hb, hget (hren l H) t = some (b, hb) → ∃ k hb0, hget H k = some (b, hb0) ∧ hb = hb0.ren l ∧ t = SY.ren l k := by
  intro H
  induction H with
  | nil => intro _ t b hb h; cases h
  | cons e r ih =>
    obtain ⟨k, b0, hb0⟩ := e
    intro ho t b hb h
    simp only [once, Bool.and_eq_true] at ho
    unfold hren at h
    rw [hget_cons] at h
    split at h
    · rename_i e; cases h; exact ⟨k, hb0, by rw [hget_cons, if_pos rfl], rfl, e.symm⟩
    · obtain ⟨k', hb', h1, h2, h3⟩ := ih ho.2 t b hb h
      refine ⟨k', hb', ?_, h2, h3⟩
      rw [hget_cons]
      split
      · rename_i e; subst e
        have := ho.1
        rw [h1] at this; cases this
      · exact h1
theorem hren_put {l : List (Nat × Nat)} : ∀ {H : Heap}, once (hren l H) = true → ∀ k b hb, hget H k = some (b, hb) → hget (hren l H) (SY.ren l k) = some (b, hb.ren l) := by
  intro H
  induction H with
  | nil => intro _ k b hb h; cases h
  | cons e r ih =>
    obtain ⟨k0, b0, hb0⟩ := e
    intro ho k b hb h
    simp only [hren, once, Bool.and_eq_true] at ho
    rw [hget_cons] at h
    unfold hren
    rw [hget_cons]
    split at h
    · rename_i e; subst e; cases h; rw [if_pos rfl]
    · have := ih ho.2 k b hb h
      split
      · rename_i e
        have h1 := ho.1
        rw [e, this] at h1; cases h1
      · exact this
theorem hren_inj {l : List (Nat × Nat)} : ∀ {H : Heap}, once (hren l H) = true → ∀ k k' x x', hget H k = some x → hget H k' = some x' → SY.ren l k = SY.ren l k' → k = k' := by
  intro H
  induction H with
  | nil => intro _ k k' x x' h; cases h
  | cons e r ih =>
    obtain ⟨k0, b0, hb0⟩ := e
    intro ho k k' x x' h h' hkk
    simp only [hren, once, Bool.and_eq_true] at ho
    rw [hget_cons] at h h'
    split at h <;> split at h'
    · rename_i e1 e2; exact e1.symm.trans e2
    · rename_i e1 _
      obtain ⟨b', hb'⟩ := x'
      have h3 := hren_put ho.2 k' b' hb' h'
      have h1 := ho.1
      rw [e1, hkk, h3] at h1; cases h1
    · rename_i _ e1
      obtain ⟨b', hb'⟩ := x
      have h3 := hren_put ho.2 k b' hb' h
      have h1 := ho.1
      rw [e1, ← hkk, h3] at h1; cases h1
    · exact ih ho.2 k k' x x' h h' hkk
theorem Rep.ren {C : Ctx} {H : Heap} {w : World} (h : Rep C H w) (l : List (Nat × Nat)) (ho : once H = true) : Rep C (hren l H) w := by
  refine ⟨fun t b hb ht => ?_, fun t t' b b' hb hb' ht ht' hne hr o1 o2 => ?_, fun t b hb ht hr o1 => ?_, fun t b hb c ht hc => ?_, h.frm⟩
  · obtain ⟨k, hb0, h1, rfl, _⟩ := hren_get ho t b hb ht
    exact (HB.ren_is l hb0 w b).2 (h.is k b hb0 h1)
  · obtain ⟨k, hb0, h1, rfl, rfl⟩ := hren_get ho t b hb ht
    obtain ⟨k', hb0', h1', rfl, rfl⟩ := hren_get ho t' b' hb' ht'
    rw [HB.ren_rw] at hr
    rw [HB.ren_occ] at o1
    rw [HB.ren_rd] at o2
    exact h.apart k k' b b' hb0 hb0' h1 h1' (fun e => hne (by rw [e])) hr o1 o2
  · obtain ⟨k, hb0, h1, rfl, _⟩ := hren_get ho t b hb ht
    rw [HB.ren_rw] at hr
    rw [HB.ren_occ] at o1
    exact h.own k b hb0 h1 hr o1
  · obtain ⟨k, hb0, h1, rfl, _⟩ := hren_get ho t b hb ht
    rw [HB.ren_rd] at hc
    exact h.known k b hb0 c h1 hc
theorem FG.ren {l : List (Nat × Nat)} {G : Heap} (h1 : once G = true) (h2 : once (hren l G) = true) (b : Nat) : FG (hren l G) b ↔ FG G b := by
  constructor
  · rintro ⟨t, hb, ht, hr, ho⟩
    obtain ⟨k, hb0, hk, rfl, _⟩ := hren_get h1 t b hb ht
    rw [HB.ren_rw] at hr
    rw [HB.ren_occ] at ho
    exact ⟨k, hb0, hk, hr, ho⟩
  · rintro ⟨k, hb, hk, hr, ho⟩
    exact ⟨_, _, hren_put h2 k b hb hk, by rw [HB.ren_rw]; exact hr, (HB.ren_occ l hb).2 ho⟩
theorem KG.ren {l : List (Nat × Nat)} {G : Heap} (h1 : once G = true) (h2 : once (hren l G) = true) (c : Nat) : KG (hren l G) c ↔ KG G c := by
  constructor
  · rintro ⟨t, b, hb, ht, hc⟩
    obtain ⟨k, hb0, hk, rfl, _⟩ := hren_get h1 t b hb ht
    exact ⟨k, b, hb0, hk, (HB.ren_rd l hb0 b c).1 hc⟩
  · rintro ⟨k, b, hb, hk, hc⟩
    exact ⟨_, b, _, hren_put h2 k b hb hk, (HB.ren_rd l hb b c).2 hc⟩
/-- What memory holds is told by what its cells hold: the keys are names. -/
theorem Rep.back {C : Ctx} {H : Heap} {w : World} (l : List (Nat × Nat)) (h : Rep C (hren l H) w) (ho : once (hren l H) = true) : Rep C H w := by
  refine ⟨fun t b hb ht => ?_, fun t t' b b' hb hb' ht ht' hne hr o1 o2 => ?_, fun t b hb ht hr o1 => ?_, fun t b hb c ht hc => ?_, h.frm⟩
  · exact (HB.ren_is l hb w b).1 (h.is _ _ _ (hren_put ho t b hb ht))
  · exact h.apart _ _ b b' _ _ (hren_put ho t b hb ht) (hren_put ho t' b' hb' ht') (fun e => hne (hren_inj ho t t' _ _ ht ht' e)) (by rw [HB.ren_rw]; exact hr) ((HB.ren_occ l hb).2 o1) ((HB.ren_rd l hb' b' b).2 o2)
  · exact h.own _ _ _ (hren_put ho t b hb ht) (by rw [HB.ren_rw]; exact hr) ((HB.ren_occ l hb).2 o1)
  · exact h.known _ b _ c (hren_put ho t b hb ht) ((HB.ren_rd l hb b c).2 hc)

/-! ### The end, and the contract -/
/-- What is known at the end is what the contract tells. -/
structure Fin {X : Type} (H : Heap) (I : X → Prop) (v : X → TV) (H' : X → Heap) (u : TV) : Prop where
  go : ∃ x, I x ∧ u.val = (v x).val ∧ (u.wf → (v x).wf) ∧ ∀ C w, Rep C H w → Rep C (H' x) w
theorem Fin.mk' {X : Type} {H : Heap} {I : X → Prop} {v : X → TV} {H' : X → Heap} {u : TV} (x : X) (hI : I x) (h : (v x).m u (hmatch H (H' x) True)) : Fin H I v H' u := by
  obtain ⟨e, hw, h⟩ := TV.m_ok h
  exact ⟨x, hI, e, hw, fun C w hr => hr.match (hmatch_ok h).2⟩
theorem Fin.ren {X : Type} {H : Heap} {I : X → Prop} {v : X → TV} {H' : X → Heap} {u : TV} (l : List (Nat × Nat)) (ks : List Nat) (x : X) (hI : I x)
    (h : pickH H ks fun H2 => once H2 = true ∧ (v x).m (u.ren l) (hmatch (hren l H2) (H' x) True)) : Fin H I v H' u := by
  obtain ⟨H2, ⟨ho, h⟩, hs⟩ := pickH_ok h
  obtain ⟨e, hw, h⟩ := TV.m_ok h
  rw [TV.ren_val] at e
  exact ⟨x, hI, e, fun hu => hw ((TV.ren_wf l u).2 hu), fun C w hr => ((hr.sub hs).ren l ho).match (hmatch_ok h).2⟩
/-- Nothing of memory is told. -/
theorem Fin.pure {H : Heap} {v u : TV} (h : v.m u True) : Fin H (fun _ : Unit => True) (fun _ => v) (fun _ => []) u := Fin.mk' () trivial (by
  obtain ⟨e, hw, _⟩ := TV.m_ok h
  exact h)

def endQ {X : Type} (P : Program) (rs : List ResultVar) (I : X → Prop) (v : X → TV) (H' : X → Heap) : Ex → Tm → Heap → Prop
  | .exit _, _, _ => False
  | _, T, H => ResG P T H rs fun u => Fin H I v H' u
def awf : List TV → Prop
  | [] => True
  | v :: l => v.wf ∧ awf l
theorem awf_of : ∀ {l : List TV}, (∀ v ∈ l, v.wf) → awf l
  | [], _ => trivial
  | v :: l, h => ⟨h v (List.mem_cons_self ..), awf_of fun u hu => h u (List.mem_cons_of_mem _ hu)⟩
def gwf : Heap → Prop
  | [] => True
  | (_, _, hb) :: r => hb.cwf ∧ gwf r
theorem gwf_of : ∀ {G : Heap}, once G = true → HWf G → gwf G
  | [], _, _ => trivial
  | (k, b, hb) :: r, ho, h => by
    simp only [once, Bool.and_eq_true] at ho
    refine ⟨h k b hb (by rw [hget_cons, if_pos rfl]), gwf_of ho.2 fun t c x ht => h t c x ?_⟩
    rw [hget_cons]
    split
    · rename_i e; subst e
      have := ho.1
      rw [ht] at this; cases this
    · exact ht

theorem Ctr.of {R : Pr} {f : FuncId} {fn : Func} {c : Code} {args : List TV} {G : Heap} {X : Type} {I : X → Prop} {v : X → TV} {H' : X → Heap} (hf : R.P.funcs[f]? = some fn) (hb : fn.body = some c)
    (hn : (fn.name == "runtime.NumGoroutine") = false) (hl : (Nat.ble args.length fn.ntmps && once G) = true)
    (h : awf args → gwf G → ∀ w0, sx (ctxOf R fn.ntmps G w0) c (frame 0 args) G (endQ R.P fn.results.toList I v H')) : Ctr R f args G I v H' := by
  rw [Bool.and_eq_true] at hl
  have hG := hl.2
  have hl := Nat.le_of_ble_eq_true hl.1
  refine ⟨⟨fn, hf, hn, by simp [hb]⟩, fun w hw hwf => ?_⟩
  refine calls_of_wp hf hb ?_
  have ha : Fits (ctxOf R fn.ntmps G w) (frame 0 args) { tmps := (args.map TV.val).toArray ++ Array.replicate (fn.ntmps - (args.map TV.val).toArray.size) undef, defers := [] } := by
    refine ⟨fun t v ht => ?_, fun t v ht => ?_, by simp; omega, rfl⟩
    · obtain ⟨_, h2⟩ := frame_get args 0 t v ht
      have hlt : t < args.length := by
        have := (List.getElem?_eq_some_iff.1 h2).1; omega
      have hv : args[t] = v := by
        have := (List.getElem?_eq_some_iff.1 h2).2; simpa using this
      simp only [Array.getD_eq_getD_getElem?]
      rw [Array.getElem?_append_left (by simpa using hlt)]
      simp [hlt, hv]
    · obtain ⟨_, h2⟩ := frame_get args 0 t v ht
      exact hwf v (List.mem_of_getElem? h2)
  refine wp_mono (sx_ok (h (awf_of hwf) (gwf_of hG hw.hwf) w) ha hw.ctx) fun e a' w' hh => ?_
  have fin : ∀ T' H1, Fits (ctxOf R fn.ntmps G w) T' a' → Rep (ctxOf R fn.ntmps G w) H1 w' → (ResG R.P T' H1 fn.results.toList fun u => Fin H1 I v H' u) →
      a'.defers = [] ∧ ∃ u, (results fn a'.tmps).run R.P w' = .ok u w' ∧ ∃ x, I x ∧ Ending.returned u = .returned (TV.val (v x)) ∧ (v x).wf ∧ Rep (ctxOf R 0 G w) (H' x) w' := by
    intro T' H1 ha' hw' hr
    obtain ⟨u, ⟨x, hI, e, hvw, hrep⟩, huw, hrun⟩ := ResG_ok (C := ctxOf R fn.ntmps G w) (fn := fn) hr ha' hw'
    exact ⟨ha'.defers, u.val, hrun, x, hI, by rw [e], hvw huw, (hrep _ _ hw').ctx⟩
  cases e with
  | normal => obtain ⟨T', H1, ha', hw', hr⟩ := hh; exact fin T' H1 ha' hw' hr
  | ret => obtain ⟨T', H1, ha', hw', hr⟩ := hh; exact fin T' H1 ha' hw' hr
  | exit i => obtain ⟨T', H1, _, _, hr⟩ := hh; exact hr.elim
  | goto l => exact hh.elim
  | panic ch => exact hh.elim
  | outgrown => exact hh.elim

/-! ### A call by its contract -/
def amatch : List TV → List TV → Prop → Prop
  | [], [], K => K
  | v :: l, u :: r, K => v.m u (amatch l r K)
  | _, _, _ => False
theorem amatch_ok : ∀ {l r : List TV} {K : Prop}, amatch l r K → K ∧ r.map TV.val = l.map TV.val ∧ ((∀ v ∈ r, v.wf) → ∀ v ∈ l, v.wf) := by
  intro l
  induction l with
  | nil => intro r K h; cases r with
    | nil => exact ⟨h, rfl, fun _ => by simp⟩
    | cons => exact h.elim
  | cons v l ih => intro r K h; cases r with
    | nil => exact h.elim
    | cons u r =>
      obtain ⟨e, hw, h⟩ := TV.m_ok (x := v) (y := u) h
      obtain ⟨hK, e2, hw2⟩ := ih h
      refine ⟨hK, by simp [e, e2], fun hh x hx => ?_⟩
      rcases List.mem_cons.1 hx with rfl | hx
      · exact hw (hh u (List.mem_cons_self ..))
      · exact hw2 (fun y hy => hh y (List.mem_cons_of_mem _ hy)) x hx
def rwKey (G : Heap) (k : Nat) : Bool :=
  match hget G k with
  | some (_, hb) => hb.isRw
  | none => false
/-- What is not the call's to write. -/
def others (G : Heap) : Heap → Heap
  | [] => []
  | (k, b, hb) :: r => (match rwKey G k with | true => others G r | false => (k, b, hb) :: others G r)
theorem others_get {G : Heap} : ∀ {H : Heap} {k : Nat} {x : Nat × HB}, hget (others G H) k = some x → rwKey G k = false ∧ hget H k = some x := by
  intro H
  induction H with
  | nil => intro k x h; cases h
  | cons e r ih =>
    obtain ⟨k0, b0, hb0⟩ := e
    intro k x h
    unfold others at h
    split at h
    · rename_i hr
      obtain ⟨h1, h2⟩ := ih h
      refine ⟨h1, ?_⟩
      rw [hget_cons]
      split
      · rename_i e; subst e; rw [hr] at h1; cases h1
      · exact h2
    · rename_i hr
      rw [hget_cons] at h
      split at h
      · rename_i e; subst e; cases h; exact ⟨hr, by rw [hget_cons, if_pos rfl]⟩
      · rename_i e
        obtain ⟨h1, h2⟩ := ih h
        exact ⟨h1, by rw [hget_cons, if_neg e]; exact h2⟩
theorem hget_app (A B : Heap) (k : Nat) : hget (appL A B) k = match hget A k with | some x => some x | none => hget B k := by
  induction A with
  | nil => rfl
  | cons e r ih =>
    obtain ⟨k0, b0, hb0⟩ := e
    show hget ((k0, b0, hb0) :: appL r B) k = _
    rw [hget_cons, hget_cons]
    split
    · rfl
    · exact ih

theorem match_rep {R : Pr} {C : Ctx} {H G : Heap} {w : World} (hs : ∀ k b hb, hget G k = some (b, hb) → EntOk H k b hb) (hw : Rep C H w) : Rep (ctxOf R 0 G w) G w := by
  have h := hw.match hs
  exact ⟨h.is, h.apart, fun k b hb hk hr ho => .inr ⟨k, hb, hk, hr, ho⟩, fun k b hb c hk hc => .inr ⟨k, b, hb, hk, hc⟩, ⟨rfl, rfl, rfl, Nat.le_refl _, fun _ _ _ => rfl⟩⟩
def rwOnly : Heap → Heap
  | [] => []
  | (k, b, hb) :: r => (match hb.isRw with | true => (k, b, hb) :: rwOnly r | false => rwOnly r)
theorem rwOnly_get : ∀ {H : Heap} {k : Nat} {x : Nat × HB}, once H = true → hget (rwOnly H) k = some x → hget H k = some x ∧ x.2.isRw = true := by
  intro H
  induction H with
  | nil => intro k x _ h; cases h
  | cons e r ih =>
    obtain ⟨k0, b0, hb0⟩ := e
    intro k x ho h
    simp only [once, Bool.and_eq_true] at ho
    unfold rwOnly at h
    have later : hget (rwOnly r) k = some x → hget ((k0, b0, hb0) :: r) k = some x ∧ x.2.isRw = true := by
      intro h
      obtain ⟨h1, h2⟩ := ih ho.2 h
      refine ⟨?_, h2⟩
      rw [hget_cons]
      split
      · rename_i e; subst e
        have := ho.1
        rw [h1] at this; cases this
      · exact h1
    split at h
    · rename_i hr
      rw [hget_cons] at h
      split at h
      · rename_i e; subst e; cases h; exact ⟨by rw [hget_cons, if_pos rfl], hr⟩
      · exact later h
    · exact later h
/-- What is known behind a call. -/
def mergeG (G H' H : Heap) : Heap := appL (rwOnly H') (others G H)
theorem merge_frm {R : Pr} {C : Ctx} {H G H' : Heap} {w w' : World} (hs : ∀ k b hb, hget G k = some (b, hb) → EntOk H k b hb) (hw : Rep C H w) (hw' : Rep (ctxOf R 0 G w) H' w') : Frm C w' := by
  refine ⟨hw'.frm.os.trans hw.frm.os, hw'.frm.tape.trans hw.frm.tape, hw'.frm.output.trans hw.frm.output, Nat.le_trans hw.frm.size hw'.frm.size, fun b hlt hF => ?_⟩
  have hlt2 : b < w.heap.size := Nat.lt_of_lt_of_le hlt hw.frm.size
  refine (hw'.frm.block b hlt2 fun hG => ?_).trans (hw.frm.block b hlt hF)
  obtain ⟨k, hb, hk, hr, ho⟩ := hG
  rcases hs k b hb hk with ⟨hn, _⟩ | ⟨c, x, hg, hi, h2, h3, _⟩
  · exact (hn ho).elim
  · obtain ⟨p1, rfl⟩ := h3 w (hw.is _ _ _ hg) ho
    rcases hw.own k b x hg (h2 hr) p1 with h | h
    · omega
    · exact hF h
/-- A block that may be written is one of the caller's own. -/
theorem merge_F {C : Ctx} {H G : Heap} {w : World} (hs : ∀ k b hb, hget G k = some (b, hb) → EntOk H k b hb) (hw : Rep C H w) {b : Nat} (h : FG G b) : ∃ k x, hget H k = some (b, x) ∧ x.isRw = true ∧ x.occ ∧ rwKey G k = true := by
  obtain ⟨k, hb, hk, hr, ho⟩ := h
  rcases hs k b hb hk with ⟨hn, _⟩ | ⟨c, x, hg, hi, h2, h3, _⟩
  · exact (hn ho).elim
  · obtain ⟨p1, rfl⟩ := h3 w (hw.is _ _ _ hg) ho
    exact ⟨k, x, hg, h2 hr, p1, by unfold rwKey; rw [hk]; exact hr⟩
theorem merge_rep {R : Pr} {C : Ctx} {H G H' : Heap} {w w' : World} (hs : ∀ k b hb, hget G k = some (b, hb) → EntOk H k b hb) (ho : once H' = true) (hw : Rep C H w) (hw' : Rep (ctxOf R 0 G w) H' w') :
    Rep C (mergeG G H' H) w' := by
  have frmF := fun b (h : FG G b) => merge_F hs hw h
  have keep : ∀ k b hb c, hget (others G H) k = some (b, hb) → hb.rd b c → ¬ FG G c := by
    intro k b hb c hk ho hF
    obtain ⟨hn, hg⟩ := others_get hk
    obtain ⟨k2, x, hg2, hr2, ho2, hrk⟩ := frmF c hF
    have : k2 ≠ k := fun e => by subst e; rw [hrk] at hn; cases hn
    exact hw.apart k2 k c b x hb hg2 hg this hr2 ho2 ho
  have get : ∀ k b hb, hget (mergeG G H' H) k = some (b, hb) → (hget H' k = some (b, hb) ∧ hb.isRw = true) ∨ hget (others G H) k = some (b, hb) := by
    intro k b hb h
    unfold mergeG at h
    rw [hget_app] at h
    split at h
    · rename_i e; cases h; exact .inl (rwOnly_get ho e)
    · exact .inr h
  -- a block that the callee may write is no other one's
  have mixed : ∀ k k' b b' hb hb', hget H' k = some (b, hb) → hb.isRw = true → hb.occ → hget (others G H) k' = some (b', hb') → ¬ hb'.rd b' b := by
    intro k k' b b' hb hb' h1 hr ho h2 ho2
    have hlt := (hw.is _ _ _ (others_get h2).2).rlt ho2
    rcases hw'.own k b hb h1 hr ho with h | h
    · simp only at h; omega
    · exact keep k' b' hb' b h2 ho2 h
  refine ⟨fun k b hb hk => ?_, fun k k' b b' hb hb' hk hk' hne hr o1 o2 => ?_, fun k b hb hk hr o1 => ?_, fun k b hb c hk hc => ?_, merge_frm hs hw hw'⟩
  · rcases get k b hb hk with ⟨h, _⟩ | h
    · exact hw'.is _ _ _ h
    · have hi := hw.is _ _ _ (others_get h).2
      exact hi.of_block hw'.frm.size fun c hc => hw'.frm.block c (hi.rlt hc) (keep k b hb c h hc)
  · rcases get k b hb hk with ⟨h1, r1⟩ | h1 <;> rcases get k' b' hb' hk' with ⟨h2, r2⟩ | h2
    · exact hw'.apart k k' b b' hb hb' h1 h2 hne hr o1 o2
    · exact mixed k k' b b' hb hb' h1 hr o1 h2 o2
    · obtain rfl := HB.rd_one (HB.rw_single r2) o2
      by_cases oc : hb'.occ
      · exact mixed k' k b b hb' hb h2 r2 oc h1 (HB.rd_self hr o1)
      · -- what reads its own block, and is not there: told by what the callee knew
        rcases hw'.known k' b hb' b h2 o2 with h | ⟨k2, b2, x2, hk2, hc2⟩
        · have := (hw.is _ _ _ (others_get h1).2).lt hr o1
          simp only at h; omega
        · cases hb' with
          | sem X => exact oc (X.one r2 b b o2).2
          | own T E x L => exact oc o2.1
          | view E x L => exact oc o2.1
          | grw T E x L => exact oc o2.1
          | _ => exact oc trivial
    · exact hw.apart k k' b b' hb hb' (others_get h1).2 (others_get h2).2 hne hr o1 o2
  · rcases get k b hb hk with ⟨h, _⟩ | h
    · rcases hw'.own k b hb h hr o1 with h | h
      · simp only at h; exact .inl (Nat.le_trans hw.frm.size h)
      · obtain ⟨k2, x, hg, hr2, ho2, _⟩ := frmF b h
        exact hw.own k2 b x hg hr2 ho2
    · exact hw.own k b hb (others_get h).2 hr o1
  · rcases get k b hb hk with ⟨h, _⟩ | h
    · rcases hw'.known k b hb c h hc with h | ⟨k2, b2, x2, hk2, hc2⟩
      · simp only at h; exact .inl (Nat.le_trans hw.frm.size h)
      · obtain ⟨b3, x3, hg3, hc3⟩ := (hs k2 b2 x2 hk2).rd hw hc2
        exact hw.known _ _ _ _ hg3 hc3
    · exact hw.known k b hb c (others_get h).2 hc
/-! What is only looked at comes back too -/
def roOnly : Heap → Heap
  | [] => []
  | (k, b, hb) :: r => (match hb.isRw with | true => roOnly r | false => (k, b, hb) :: roOnly r)
theorem roOnly_get : ∀ {H : Heap} {k : Nat} {x : Nat × HB}, once H = true → hget (roOnly H) k = some x → hget H k = some x ∧ x.2.isRw = false := by
  intro H
  induction H with
  | nil => intro k x _ h; cases h
  | cons e r ih =>
    obtain ⟨k0, b0, hb0⟩ := e
    intro k x ho h
    simp only [once, Bool.and_eq_true] at ho
    unfold roOnly at h
    have later : hget (roOnly r) k = some x → hget ((k0, b0, hb0) :: r) k = some x ∧ x.2.isRw = false := by
      intro h
      obtain ⟨h1, h2⟩ := ih ho.2 h
      refine ⟨?_, h2⟩
      rw [hget_cons]
      split
      · rename_i e; subst e
        have := ho.1
        rw [h1] at this; cases this
      · exact h1
    split at h
    · exact later h
    · rename_i hr
      rw [hget_cons] at h
      split at h
      · rename_i e; subst e; cases h; exact ⟨by rw [hget_cons, if_pos rfl], hr⟩
      · exact later h
theorem roOnly_has : ∀ {H : Heap} {k b : Nat} {hb : HB}, hget H k = some (b, hb) → hb.isRw = false → ∃ x, hget (roOnly H) k = some x := by
  intro H
  induction H with
  | nil => intro k b hb h; cases h
  | cons e r ih =>
    obtain ⟨k0, b0, hb0⟩ := e
    intro k b hb h hr
    rw [hget_cons] at h
    unfold roOnly
    split at h
    · rename_i e; subst e; cases h; rw [hr]; exact ⟨_, by rw [hget_cons, if_pos rfl]⟩
    · obtain ⟨x, hx⟩ := ih h hr
      split
      · exact ⟨x, hx⟩
      · rw [hget_cons]; split
        · exact ⟨_, rfl⟩
        · exact ⟨x, hx⟩
/-- What is known behind a call that hands back looks. -/
def mergeV (G H' H : Heap) : Heap := appL H' (appL (roOnly G) (others G H))
theorem merge_repV {R : Pr} {C : Ctx} {H G H' : Heap} {w w' : World} (hs : ∀ k b hb, hget G k = some (b, hb) → EntOk H k b hb) (ho : once G = true) (hw : Rep C H w) (hw' : Rep (ctxOf R 0 G w) H' w') :
    Rep C (mergeV G H' H) w' := by
  have frmF := fun b (h : FG G b) => merge_F hs hw h
  -- what was known ahead of the call, and stays
  have old : ∀ k b hb, hget (appL (roOnly G) (others G H)) k = some (b, hb) → hb.Is w b ∧ (∀ c, hb.rd b c → ¬ FG G c ∧ ∃ b' x, hget H k = some (b', x) ∧ x.rd b' c) ∧ (hb.isRw = true → hget G k = none ∧ hget H k = some (b, hb)) := by
    intro k b hb h
    rw [hget_app] at h
    split at h
    · rename_i e
      cases h
      obtain ⟨hk, hr⟩ := roOnly_get ho e
      refine ⟨(hs k b hb hk).is hw, fun c hc => ⟨?_, (hs k b hb hk).rd hw hc⟩, fun h => (by rw [hr] at h; cases h)⟩
      rintro ⟨k2, hb2, hk2, hr2, ho2⟩
      have hne : k2 ≠ k := fun e => by subst e; rw [hk] at hk2; cases hk2; rw [hr] at hr2; cases hr2
      exact (match_rep (R := R) hs hw).apart k2 k c b hb2 hb hk2 hk hne hr2 ho2 hc
    · rename_i e
      obtain ⟨hn, hg⟩ := others_get h
      refine ⟨hw.is _ _ _ hg, fun c hc => ⟨fun hF => ?_, b, hb, hg, hc⟩, fun hr => ⟨?_, hg⟩⟩
      · obtain ⟨k2, x, hg2, hr2, ho2, hrk⟩ := frmF c hF
        have : k2 ≠ k := fun e => by subst e; rw [hrk] at hn; cases hn
        exact hw.apart k2 k c b x hb hg2 hg this hr2 ho2 hc
      · cases hG : hget G k with
        | none => rfl
        | some x =>
          obtain ⟨b2, x⟩ := x
          exfalso
          cases hx : x.isRw with
          | true => unfold rwKey at hn; rw [hG] at hn; simp only at hn; rw [hx] at hn; cases hn
          | false => obtain ⟨y, hy⟩ := roOnly_has hG hx; rw [hy] at e; cases e
  have get : ∀ k b hb, hget (mergeV G H' H) k = some (b, hb) → hget H' k = some (b, hb) ∨ hget (appL (roOnly G) (others G H)) k = some (b, hb) := by
    intro k b hb h
    unfold mergeV at h
    rw [hget_app] at h
    split at h
    · rename_i e; cases h; exact .inl e
    · exact .inr h
  refine ⟨fun k b hb hk => ?_, fun k k' b b' hb hb' hk hk' hne hr o1 o2 => ?_, fun k b hb hk hr o1 => ?_, fun k b hb c hk hc => ?_, merge_frm hs hw hw'⟩
  · rcases get k b hb hk with h | h
    · exact hw'.is _ _ _ h
    · obtain ⟨hi, hc, _⟩ := old k b hb h
      exact hi.of_block hw'.frm.size fun c hcc => hw'.frm.block c (hi.rlt hcc) (hc c hcc).1
  · rcases get k b hb hk with h1 | h1 <;> rcases get k' b' hb' hk' with h2 | h2
    · exact hw'.apart k k' b b' hb hb' h1 h2 hne hr o1 o2
    · obtain ⟨hi, hc, _⟩ := old k' b' hb' h2
      have hlt := hi.rlt o2
      rcases hw'.own k b hb h1 hr o1 with h | h
      · simp only at h; omega
      · exact (hc b o2).1 h
    · obtain ⟨hi, hc, hg⟩ := old k b hb h1
      obtain ⟨hG, hH⟩ := hg hr
      have hlt := hi.lt hr o1
      rcases hw'.known k' b' hb' b h2 o2 with h | ⟨k2, b2, x2, hk2, hc2⟩
      · simp only at h; omega
      · obtain ⟨b3, x3, hg3, hc3⟩ := (hs k2 b2 x2 hk2).rd hw hc2
        have hne2 : k ≠ k2 := fun e => by subst e; rw [hG] at hk2; cases hk2
        exact hw.apart k k2 b b3 hb x3 hH hg3 hne2 hr o1 hc3
    · obtain ⟨_, _, hg⟩ := old k b hb h1
      obtain ⟨_, hH⟩ := hg hr
      obtain ⟨_, hc, _⟩ := old k' b' hb' h2
      obtain ⟨_, b3, x3, hg3, hc3⟩ := hc b o2
      exact hw.apart k k' b b3 hb x3 hH hg3 hne hr o1 hc3
  · rcases get k b hb hk with h | h
    · rcases hw'.own k b hb h hr o1 with h | h
      · simp only at h; exact .inl (Nat.le_trans hw.frm.size h)
      · obtain ⟨k2, x, hg, hr2, ho2, _⟩ := frmF b h
        exact hw.own k2 b x hg hr2 ho2
    · obtain ⟨_, _, hg⟩ := old k b hb h
      exact hw.own k b hb (hg hr).2 hr o1
  · rcases get k b hb hk with h | h
    · rcases hw'.known k b hb c h hc with h | ⟨k2, b2, x2, hk2, hc2⟩
      · simp only at h; exact .inl (Nat.le_trans hw.frm.size h)
      · obtain ⟨b3, x3, hg3, hc3⟩ := (hs k2 b2 x2 hk2).rd hw hc2
        exact hw.known _ _ _ _ hg3 hc3
    · obtain ⟨_, hcc, _⟩ := old k b hb h
      obtain ⟨_, b3, x3, hg3, hc3⟩ := hcc c hc
      exact hw.known _ _ _ _ hg3 hc3

theorem aren_wf {l : List (Nat × Nat)} {r : List TV} (h : ∀ v ∈ aren l r, v.wf) : ∀ v ∈ r, v.wf := by
  induction r with
  | nil => intro v hv; cases hv
  | cons u r ih =>
    intro v hv
    rcases List.mem_cons.1 hv with rfl | hv
    · exact (TV.ren_wf l _).1 (h _ (List.mem_cons_self ..))
    · exact ih (fun x hx => h x (List.mem_cons_of_mem _ hx)) v hv
/-- The call rule: the contract's keys by 'l' the caller's. -/
theorem CallG.use {C : Ctx} {f : FuncId} {args : List TV} {T : Tm} {H : Heap} {K : TV → Heap → Prop} {args' : List TV} {G : Heap} {X : Type} {I : X → Prop} {v : X → TV} {H' : X → Heap} (l : List (Nat × Nat))
    (hs : Ctr C.R f args' G I v H') (ho : (once G && once (hren l G)) = true)
    (h : amatch (aren l args') args (hmatch H (hren l G) (∀ x, I x → (once (H' x) && once (hren l (H' x))) = true ∧ K ((v x).ren l) (mergeG (hren l G) (hren l (H' x)) H)))) : CallG C f args T H K := by
  rw [Bool.and_eq_true] at ho
  obtain ⟨h, hv, hwf⟩ := amatch_ok h
  obtain ⟨h, he⟩ := hmatch_ok h
  refine ⟨.inl ⟨hs.fn, fun a w ha hw hargs => ?_⟩⟩
  have hg : Rep (ctxOf C.R 0 (hren l G) w) (hren l G) w := match_rep he hw
  have hg' : Rep (ctxOf C.R 0 G w) G w := (hg.back l ho.2).frame (FG.ren ho.1 ho.2) (KG.ren ho.1 ho.2)
  have hw2 : ∀ v ∈ args', v.wf := fun v hv => (TV.ren_wf l v).1 (hwf hargs _ (by
    have : ∀ {r : List TV}, v ∈ r → v.ren l ∈ aren l r := by
      intro r
      induction r with
      | nil => intro h; cases h
      | cons u r ih =>
        intro h
        rcases List.mem_cons.1 h with rfl | h
        · exact List.mem_cons_self ..
        · exact List.mem_cons_of_mem _ (ih h)
    exact this hv))
  rw [aren_val] at hv
  rw [hv]
  refine (hs.go w hg' hw2).mono ?_
  rintro e w' ⟨x, hI, he', hvw, hw'⟩
  obtain ⟨ho2, hK⟩ := h x hI
  rw [Bool.and_eq_true] at ho2
  have hw3 : Rep (ctxOf C.R 0 (hren l G) w) (hren l (H' x)) w' := (hw'.ren l ho2.1).frame (fun b => (FG.ren ho.1 ho.2 b).symm) (fun b => (KG.ren ho.1 ho.2 b).symm)
  exact ⟨(v x).ren l, _, by rw [he', TV.ren_val], (TV.ren_wf l _).2 hvw, merge_rep he ho2.2 hw hw3, hK⟩
/-- The same, where the arguments are the contract's as they stand. -/
theorem CallG.eq {C : Ctx} {f : FuncId} {args : List TV} {T : Tm} {H : Heap} {K : TV → Heap → Prop} {args' : List TV} {G : Heap} {X : Type} {I : X → Prop} {v : X → TV} {H' : X → Heap} (l : List (Nat × Nat))
    (hs : Ctr C.R f args' G I v H') (ha : aren l args' = args) (ho : (once G && once (hren l G)) = true)
    (h : hmatch H (hren l G) (∀ x, I x → (once (H' x) && once (hren l (H' x))) = true ∧ K ((v x).ren l) (mergeG (hren l G) (hren l (H' x)) H))) : CallG C f args T H K := by
  subst ha
  rw [Bool.and_eq_true] at ho
  obtain ⟨h, he⟩ := hmatch_ok h
  refine ⟨.inl ⟨hs.fn, fun a w ha hw hargs => ?_⟩⟩
  have hg : Rep (ctxOf C.R 0 (hren l G) w) (hren l G) w := match_rep he hw
  have hg' : Rep (ctxOf C.R 0 G w) G w := (hg.back l ho.2).frame (FG.ren ho.1 ho.2) (KG.ren ho.1 ho.2)
  have hw2 : ∀ v ∈ args', v.wf := fun v hv => (TV.ren_wf l v).1 (hargs _ (by
    have : ∀ {r : List TV}, v ∈ r → v.ren l ∈ aren l r := by
      intro r
      induction r with
      | nil => intro h; cases h
      | cons u r ih =>
        intro h
        rcases List.mem_cons.1 h with rfl | h
        · exact List.mem_cons_self ..
        · exact List.mem_cons_of_mem _ (ih h)
    exact this hv))
  rw [aren_val]
  refine (hs.go w hg' hw2).mono ?_
  rintro e w' ⟨x, hI, he', hvw, hw'⟩
  obtain ⟨ho2, hK⟩ := h x hI
  rw [Bool.and_eq_true] at ho2
  have hw3 : Rep (ctxOf C.R 0 (hren l G) w) (hren l (H' x)) w' := (hw'.ren l ho2.1).frame (fun b => (FG.ren ho.1 ho.2 b).symm) (fun b => (KG.ren ho.1 ho.2 b).symm)
  exact ⟨(v x).ren l, _, by rw [he', TV.ren_val], (TV.ren_wf l _).2 hvw, merge_rep he ho2.2 hw hw3, hK⟩
/-- One answer. -/
theorem CallG.one {C : Ctx} {f : FuncId} {args : List TV} {T : Tm} {H : Heap} {K : TV → Heap → Prop} {args' : List TV} {G : Heap} {v : TV} {H' : Heap} (l : List (Nat × Nat))
    (hs : CtrU C.R f args' G v H') (ha : aren l args' = args) (ho : (once G && once (hren l G) && (once H' && once (hren l H'))) = true)
    (h : hmatch H (hren l G) (K (v.ren l) (mergeG (hren l G) (hren l H') H))) : CallG C f args T H K := by
  subst ha
  simp only [Bool.and_eq_true] at ho
  obtain ⟨⟨ho1, ho2⟩, ho3, ho4⟩ := ho
  obtain ⟨h, he⟩ := hmatch_ok h
  refine ⟨.inl ⟨hs.fn, fun a w ha hw hargs => ?_⟩⟩
  have hg : Rep (ctxOf C.R 0 (hren l G) w) (hren l G) w := match_rep he hw
  have hg' : Rep (ctxOf C.R 0 G w) G w := (hg.back l ho2).frame (FG.ren ho1 ho2) (KG.ren ho1 ho2)
  rw [aren_val]
  refine (hs.go w hg' (aren_wf hargs)).mono ?_
  rintro e w' ⟨x, _, he', hvw, hw'⟩
  have hw3 : Rep (ctxOf C.R 0 (hren l G) w) (hren l H') w' := (hw'.ren l ho3).frame (fun b => (FG.ren ho1 ho2 b).symm) (fun b => (KG.ren ho1 ho2 b).symm)
  exact ⟨v.ren l, _, by rw [he', TV.ren_val], (TV.ren_wf l _).2 hvw, merge_rep he ho4 hw hw3, h⟩
def rwNone : Heap → Bool
  | [] => true
  | (_, _, hb) :: r => !hb.isRw && rwNone r
theorem rwNone_ok : ∀ {G : Heap}, rwNone G = true → ∀ k b hb, hget G k = some (b, hb) → hb.isRw = false := by
  intro G
  induction G with
  | nil => intro _ k b hb h; cases h
  | cons e r ih =>
    obtain ⟨k0, b0, hb0⟩ := e
    intro h k b hb hk
    simp only [rwNone, Bool.and_eq_true, Bool.not_eq_true'] at h
    rw [hget_cons] at hk
    split at hk
    · cases hk; exact h.1
    · exact ih h.2 k b hb hk
/-- The same for a call that writes nothing that is known, and has one answer. -/
theorem CallQ.use {C : Ctx} {f : FuncId} {args : List TV} {T : Tm} {H : Heap} {K : TV → Prop} {args' : List TV} {G : Heap} {v : TV} (l : List (Nat × Nat))
    (hs : CtrP C.R f args' G v) (ho : (once G && once (hren l G) && rwNone G) = true) (hvw : v.wf)
    (h : amatch (aren l args') args (hmatch H (hren l G) (K v))) : CallQ C f args T H K := by
  simp only [Bool.and_eq_true] at ho
  obtain ⟨ho, hro⟩ := ho
  obtain ⟨h, hv, hwf⟩ := amatch_ok h
  obtain ⟨h, he⟩ := hmatch_ok h
  refine ⟨hs.fn, fun hargs => ?_⟩
  have hw2 : ∀ v ∈ args', v.wf := fun v hv => (TV.ren_wf l v).1 (hwf hargs _ (by
    have : ∀ {r : List TV}, v ∈ r → v.ren l ∈ aren l r := by
      intro r
      induction r with
      | nil => intro h; cases h
      | cons u r ih =>
        intro h
        rcases List.mem_cons.1 h with rfl | h
        · exact List.mem_cons_self ..
        · exact List.mem_cons_of_mem _ (ih h)
    exact this hv))
  rw [aren_val] at hv
  have hF : ∀ b, ¬ FG G b := by
    rintro b ⟨k, hb, hk, hr, _⟩
    rw [rwNone_ok hro k b hb hk] at hr; cases hr
  refine ⟨v, h, hvw, fun w hw => ?_⟩
  rw [hv]
  have hg : Rep (ctxOf C.R 0 (hren l G) w) (hren l G) w := match_rep he hw
  have hg' : Rep (ctxOf C.R 0 G w) G w := (hg.back l ho.2).frame (FG.ren ho.1 ho.2) (KG.ren ho.1 ho.2)
  refine (hs.go w hg' hw2).mono ?_
  rintro e w' ⟨x, _, he', _, hw'⟩
  exact ⟨he', hw.move hw'.frm.os hw'.frm.tape hw'.frm.output hw'.frm.size fun b hb => hw'.frm.block b hb (hF b)⟩

/-- The same, where the arguments are the contract's as they stand. -/
theorem CallQ.eq {C : Ctx} {f : FuncId} {args : List TV} {T : Tm} {H : Heap} {K : TV → Prop} {args' : List TV} {G : Heap} {v : TV} (l : List (Nat × Nat))
    (hs : CtrP C.R f args' G v) (ha : aren l args' = args) (ho : (once G && once (hren l G) && rwNone G) = true) (hvw : v.wf)
    (h : hmatch H (hren l G) (K v)) : CallQ C f args T H K := by
  subst ha
  simp only [Bool.and_eq_true] at ho
  obtain ⟨ho, hro⟩ := ho
  obtain ⟨h, he⟩ := hmatch_ok h
  refine ⟨hs.fn, fun hargs => ?_⟩
  have hF : ∀ b, ¬ FG G b := by
    rintro b ⟨k, hb, hk, hr, _⟩
    rw [rwNone_ok hro k b hb hk] at hr; cases hr
  refine ⟨v, h, hvw, fun w hw => ?_⟩
  rw [aren_val]
  have hg : Rep (ctxOf C.R 0 (hren l G) w) (hren l G) w := match_rep he hw
  have hg' : Rep (ctxOf C.R 0 G w) G w := (hg.back l ho.2).frame (FG.ren ho.1 ho.2) (KG.ren ho.1 ho.2)
  refine (hs.go w hg' (aren_wf hargs)).mono ?_
  rintro e w' ⟨x, _, he', _, hw'⟩
  exact ⟨he', hw.move hw'.frm.os hw'.frm.tape hw'.frm.output hw'.frm.size fun b hb => hw'.frm.block b hb (hF b)⟩

/-- A law: nothing that was there is written. -/
theorem Ctr.law {R : Pr} {f : FuncId} {args : List TV} {G : Heap} {v : TV} (h : CtrP R f args G v) (ho : (once G && rwNone G) = true) (hargs : ∀ v ∈ args, v.wf)
    {w : World} (hw : ∀ k b hb, hget G k = some (b, hb) → hb.Is w b) :
    Calls R.P f (args.map TV.val).toArray w fun e w' => e = .returned v.val ∧ RowKit.Below w.heap.size w w' := by
  rw [Bool.and_eq_true] at ho
  have hF : ∀ b, ¬ FG G b := by
    rintro b ⟨k, hb, hk, hr, _⟩
    rw [rwNone_ok ho.2 k b hb hk] at hr; cases hr
  have hrep : Rep (ctxOf R 0 G w) G w := ⟨hw, fun k k' b b' hb hb' hk _ _ hr o1 => (hF b ⟨k, hb, hk, hr, o1⟩).elim, fun k b hb hk hr o1 => (hF b ⟨k, hb, hk, hr, o1⟩).elim, fun k b hb c hk hc => .inr ⟨k, b, hb, hk, hc⟩, ⟨rfl, rfl, rfl, Nat.le_refl _, fun _ _ _ => rfl⟩⟩
  refine (h.go w hrep hargs).mono ?_
  rintro e w' ⟨x, _, he, _, hw'⟩
  exact ⟨he, hw'.frm.os, hw'.frm.tape, hw'.frm.output, hw'.frm.size, fun b hb => hw'.frm.block b hb (hF b)⟩
/-- A contract told of other values that are the same, or of less. -/
theorem Ctr.mono {R : Pr} {f : FuncId} {args : List TV} {G : Heap} {X Y : Type} {I : X → Prop} {v : X → TV} {H' : X → Heap} {J : Y → Prop} {u : Y → TV} {H2 : Y → Heap} (h : Ctr R f args G I v H')
    (hp : ∀ x, I x → ∃ y, J y ∧ u y = v x ∧ H2 y = H' x) : Ctr R f args G J u H2 :=
  ⟨h.fn, fun w hw ha => (h.go w hw ha).mono fun e w' ⟨x, hx, he, hv, hr⟩ => by
    obtain ⟨y, hy, e1, e2⟩ := hp x hx
    exact ⟨y, hy, by rw [he, e1], by rw [e1]; exact hv, by rw [e2]; exact hr⟩⟩
end Go.SY
