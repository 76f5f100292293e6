/- A function's body, step by step: the code. -/
import Derived.Test.YtiijaiiejogbjaaDoorSxWp
set_option linter.unusedSimpArgs false
set_option linter.unusedVariables false
namespace Go.SX

inductive Ex where
  | normal
  | ret
  | exit (id : Nat)

def QK (C : Ctx) (Q : Ex → Tm → Heap → Prop) : Exit → Act → World → Prop
  | .normal, a, w => Holds C (Q .normal) a w
  | .ret, a, w => Holds C (Q .ret) a w
  | .exit id, a, w => Holds C (Q (.exit id)) a w
  | _, _, _ => False

/-- A call of a Go function: what is asked of it. -/
structure CallG (C : Ctx) (f : FuncId) (args : List Value) (T : Tm) (H : Heap) (K : TV → Heap → Prop) : Prop where
  fn : ∃ fn, C.P.funcs[f]? = some fn ∧ (fn.name == "runtime.NumGoroutine") = false ∧ fn.body.isNone = false
  go : ∀ a w, Fits C T a → Rep C H w → Calls C.P f args.toArray w fun e w' => ∃ v H', e = .returned (TV.val v) ∧ Rep C H' w' ∧ K v H'

structure LoopG (C : Ctx) (body : Code) (T : Tm) (H : Heap) (Q : Ex → Tm → Heap → Prop) : Prop where
  go : ∀ a w, Fits C T a → Rep C H w → (Code.loop body).wp C.P (QK C Q) a w

structure RangeG (C : Ctx) (f : Operand) (params : Array Tmp) (assign body : Code) (T : Tm) (H : Heap) (Q : Ex → Tm → Heap → Prop) : Prop where
  go : ∀ a w, Fits C T a → Rep C H w → (Code.rangeFunc f params assign body).wp C.P (QK C Q) a w

structure Draw (C : Ctx) (id : Nat) (ops : List Oper) (T : Tm) (H : Heap) (Q : Ex → Tm → Heap → Prop) : Prop where
  go : ∀ a w, Fits C T a → Rep C H w → (Code.region id ops.toArray true).wp C.P (QK C Q) a w

/-- Another operation: what is asked of it. -/
structure OpG (C : Ctx) (o : Oper) (T : Tm) (H : Heap) (K : Tm → Heap → Prop) : Prop where
  go : ∀ a w, Fits C T a → Rep C H w → ∀ Q, o.wp C.P a w (Holds C K) Q

def evAll (T : Tm) : List Operand → Option (List TV)
  | [] => some []
  | x :: l => match ev T x, evAll T l with
    | some v, some r => some (v :: r)
    | _, _ => none
theorem evAll_ok {C : Ctx} {T : Tm} {a : Act} (h : Fits C T a) : ∀ {l : List Operand} {r : List TV}, evAll T l = some r → l.map a.eval = r.map TV.val := by
  intro l
  induction l with
  | nil => intro r h; cases h; rfl
  | cons x l ih =>
    intro r hr
    unfold evAll at hr
    split at hr
    · rename_i v r' h1 h2
      cases hr
      simp [ev_ok h h1, ih h2]
    · cases hr

/-- The arguments of a call as values. -/
def argsOf (first caps : List Pt) (l : List TV) : List Value := first.map Pt.value ++ l.map TV.val ++ caps.map Pt.value

def mop (C : Ctx) (T : Tm) (H : Heap) (o : Oper) (K : Tm → Heap → Prop) : Prop :=
  match o.op, o.dst with
  | .alloc e, some d => (match Nat.blt d C.N with
    | true => zeroCT C.P e fun c => New fun b => K ((d, .b (.one (.ptr ⟨d, b, .lit 0⟩))) :: T) ((d, b, .full e c) :: H)
    | false => False)
  | .box e x, some d => (match Nat.blt d C.N, evb T x with
    | true, some v => New fun b => K ((d, .b (.one (.ptr ⟨d, b, .lit 0⟩))) :: T) ((d, b, .full e v.ct) :: H)
    | _, _ => False)
  | .store t x v, none => (match ev1 T x, evb T v with
    | some c, some v => mstore C.P T H t c v fun H' => K T H'
    | _, _ => False)
  | .convert s t x, some d => (match Nat.blt d C.N, ev1 T x with
    | true, some c => mbytes C.P s t c fun e l => New fun b => ∀ n : Nat, K ((d, .b (.one (.sl d b 0 0 1 l.length (l.length + n)))) :: T) ((d, b, .full e (.ints .u8 (numsOf l ++ List.replicate n 0))) :: H)
    | _, _ => False)
  | .buildSlice t len parts, some d => (match Nat.blt d C.N, evParts T parts.toList with
    | true, some ps => mbuildSlice C.P t len ps fun e sz c => New fun b => K ((d, .b (.one (.sl d b 0 0 sz len len))) :: T) ((d, b, .full e c) :: H)
    | _, _ => False)
  | .makeSlice t l c, some d => (match Nat.blt d C.N, ev1 T l, ev1 T c with
    | true, some (.int _ l), some (.int _ c) => mmake C.P t l c fun e sz ct => New fun b => K ((d, .b (.one (.sl d b 0 0 sz l.toNat c.toNat))) :: T) ((d, b, .full e ct) :: H)
    | _, _, _ => False)
  | .call c, dst => (match c.callee, c.args.toList, c.argTypes.toList, dst with
    | .builtin .append, [s, x], [st, xt], some d => (match ev1 T s, ev1 T x, C.P.underlying st with
      | some s, some x, some (.slice e) => (match bytB C.P e, zeroB C.P e, C.P.underlying xt with
        | some (bytes + 1), some [.int k (.ofNat 0)], some (.slice _) => Chk (sizB C.P e = some 1) (mappendI C.P C.N d T H e k (bytes + 1) s x K)
        | some (bytes + 1), some [.int k (.ofNat 0)], some .string => Chk (sizB C.P e = some 1) (mappendI C.P C.N d T H e k (bytes + 1) s x K)
        | some (bytes + 1), some z, some (.slice _) => Chk (sizB C.P e = some (llen z)) (lit (llen z) fun sz => mappendR C.P C.N d T H e sz (bytes + 1) s x K)
        | _, _, _ => False)
      | _, _, _ => False)
    | .builtin .copy, [x, y], [dt, _], dst => (match ev1 T x, ev1 T y, C.P.underlying dt with
      | some c, some v, some (.slice e) => (match C.P.underlying e with
        | some (.int k) => Chk (sizB C.P e = some 1) (mcopy C.P H k c v fun n H' => putK C.N dst (.b (.one (.int .i64 n))) T H' K)
        | _ => False)
      | _, _, _ => False)
    | .value f, args, _, dst => (match ev1 T f, evAll T args with
      | some (.fn (.func g) first caps), some l => CallG C g (argsOf first caps l) T H fun v H' => putK C.N dst v T H' K
      | _, _ => OpG C o T H K)
    | _, _, _, _ => OpG C o T H K)
  | _, _ => OpG C o T H K

theorem upon_value {C : Ctx} {o : Oper} {a : Act} {w w' : World} {v : Value} {next : Act → World → Prop} {Q : Exit → Act → World → Prop}
    (hr : (execOp a.eval o).run C.P w = .ok (.value v) w') (h : next (a.put o.dst v) w') : o.wp C.P a w next Q := by
  unfold Oper.wp; rw [hr]; exact h

theorem mop_ok {C : Ctx} {T : Tm} {H : Heap} {o : Oper} {K : Tm → Heap → Prop} (h : mop C T H o K) {a : Act} {w : World} (ha : Fits C T a) (hw : Rep C H w) (Q : Exit → Act → World → Prop) :
    o.wp C.P a w (Holds C K) Q := by
  unfold mop at h
  split at h
  · rename_i e d ho hd
    split at h
    · rename_i hlt
      obtain ⟨c, hK, hwf, hz⟩ := zeroCT_ok h
      obtain ⟨v, hv, hc⟩ := hz w
      refine upon_value (v := (TV.b (.one (.ptr ⟨d, w.heap.size, .lit 0⟩))).val) (w' := w.alloc (.cells c.vals.toArray e)) ?_ ?_
      · simp only [execOp, ho, Instr.alloc, Sem.run_bind, hv, Result.andThen_ok, newVar, newRow, hc, run_newObj, Sem.run_pure]; rfl
      · rw [hd]
        exact ⟨_, _, ha.put hlt _, hw.push d hwf, hK.go _⟩
    · exact h.elim
  · rename_i e x d ho hd
    split at h
    · rename_i v hlt hv
      have hc : (a.eval x).cells = v.ct.vals.toArray := by rw [evb_ok ha hv, BV.ct_vals, ← BV.val_cells]
      refine upon_value (v := (TV.b (.one (.ptr ⟨d, w.heap.size, .lit 0⟩))).val) (w' := w.alloc (.cells v.ct.vals.toArray e)) ?_ ?_
      · simp only [execOp, ho, Instr.box, Sem.run_bind, Result.andThen_ok, newVar, newRow, hc, run_newObj, Sem.run_pure]; rfl
      · rw [hd]
        exact ⟨_, _, ha.put hlt _, hw.push d v.ct_wf, h.go _⟩
    · exact h.elim
  · rename_i t x v ho hd
    split at h
    · rename_i c bv hc hv
      obtain ⟨w', H', hr, hw', hK⟩ := mstore_ok h hw
      unfold Oper.wp
      have : (execOp a.eval o).run C.P w = .ok .skip w' := by
        simp only [execOp, ho, ev1_ok ha hc, evb_ok ha hv, Sem.run_bind, hr, Result.andThen_ok, Sem.run_pure]
      rw [this]
      show Holds C K (a.put o.dst undef) w'
      rw [hd]
      exact ⟨_, _, ha, hw', hK⟩
    · exact h.elim
  · rename_i s t x d ho hd
    split at h
    · rename_i c hlt hc
      obtain ⟨e, l, hK, n, w', hr, hw'⟩ := mbytes_ok h d hw
      refine upon_value (v := (TV.b (.one (.sl d w.heap.size 0 0 1 l.length (l.length + n)))).val) (w' := w') ?_ ?_
      · simp only [execOp, ho, ev1_ok ha hc, Sem.run_bind, hr, Result.andThen_ok, Sem.run_pure]; rfl
      · rw [hd]
        exact ⟨_, _, ha.put hlt _, hw', hK.go _ _⟩
    · exact h.elim
  · rename_i t len parts d ho hd
    split at h
    · rename_i ps hlt hps
      obtain ⟨e, sz, c, hK, hwf, hr⟩ := mbuildSlice_ok h
      have hr := hr w (parts.map fun (i, x) => (i, a.eval x)) (by rw [Array.toList_map, ← evParts_ok ha hps])
      refine upon_value (v := (TV.b (.one (.sl d w.heap.size 0 0 sz len len))).val) (w' := w.alloc (.cells c.vals.toArray e)) ?_ ?_
      · simp only [execOp, ho, Sem.run_bind, hr, Result.andThen_ok, Sem.run_pure]
        simp [TV.val, BV.val, SC.val]
      · rw [hd]
        exact ⟨_, _, ha.put hlt _, hw.push d hwf, hK.go _⟩
    · exact h.elim
  · rename_i t l c d ho hd
    split at h
    · rename_i k1 l' k2 c' hlt hl hc
      obtain ⟨e, sz, ct, hK, hwf, hr⟩ := mmake_ok h
      have e1 : a.eval l = .int k1 l' := ev1_ok ha hl
      have e2 : a.eval c = .int k2 c' := ev1_ok ha hc
      refine upon_value (v := (TV.b (.one (.sl d w.heap.size 0 0 sz l'.toNat c'.toNat))).val) (w' := w.alloc (.cells ct.vals.toArray e)) ?_ ?_
      · simp only [execOp, ho, e1, e2, Sem.run_bind, hr, Result.andThen_ok, Sem.run_pure]
        simp [TV.val, BV.val, SC.val]
      · rw [hd]
        exact ⟨_, _, ha.put hlt _, hw.push d hwf, hK.go _⟩
    · exact h.elim
  · rename_i dst c ho
    split at h
    · rename_i s x st xt d hc hargs hts hd
      split at h
      · rename_i s' x' e hs hx hst
        have e1 : c.args.map a.eval = #[s'.val, x'.val] := arr_of (by rw [Array.toList_map, hargs]; simp [ev1_ok ha hs, ev1_ok ha hx])
        have e2 : c.argTypes = #[st, xt] := arr_of hts
        have fin : ∀ {v w'}, (Builtin.append_ #[st, xt] o.type #[s'.val, x'.val]).run C.P w = .ok v w' → Holds C K (a.put (some d) v) w' → o.wp C.P a w (Holds C K) Q := by
          intro v w' hr hh
          refine upon_value (v := v) (w' := w') ?_ (by rw [hd]; exact hh)
          simp only [execOp, ho, resolve, hc, e1, e2, Sem.run_bind, Sem.run_pure, Result.andThen_ok, invoke, builtin, hr]
        have info : ∀ {bytes sz : Nat}, bytB C.P e = some bytes → sizB C.P e = some sz → ∃ i, C.P.info? e = some i ∧ i.size = sz ∧ i.bytes = bytes := by
          intro bytes sz hb hs
          unfold bytB at hb; unfold sizB at hs
          cases hi : C.P.info? e with
          | none => rw [hi] at hb; cases hb
          | some i => rw [hi] at hb hs; cases hb; cases hs; exact ⟨i, rfl, rfl, rfl⟩
        split at h
        · rename_i bytes k e' hb hz hxt
          obtain ⟨hsz, h⟩ := h
          obtain ⟨v, w', hr, hh⟩ := mappendI_ok (ty := o.type) ⟨hst, .inl ⟨e', hxt⟩, info hb hsz⟩ hz (Nat.succ_ne_zero _) h ha hw
          exact fin hr hh
        · rename_i bytes k hb hz hxt
          obtain ⟨hsz, h⟩ := h
          obtain ⟨v, w', hr, hh⟩ := mappendI_ok (ty := o.type) ⟨hst, .inr hxt, info hb hsz⟩ hz (Nat.succ_ne_zero _) h ha hw
          exact fin hr hh
        · rename_i bytes z e' _ hb hz hxt
          obtain ⟨hsz, h⟩ := h
          obtain ⟨v, w', hr, hh⟩ := mappendR_ok (ty := o.type) ⟨hst, .inl ⟨e', hxt⟩, info hb hsz⟩ hz (llen_eq z).symm (Nat.succ_ne_zero _) (lit_ok h) ha hw
          exact fin hr hh
        · exact h.elim
      · exact h.elim
    · rename_i _ x y dt yt hc hargs hts
      split at h
      · rename_i c' v e hx hy hdt
        split at h
        · rename_i k hk
          obtain ⟨hsz, h⟩ := h
          have e1 : c.args.map a.eval = #[c'.val, v.val] := arr_of (by rw [Array.toList_map, hargs]; simp [ev1_ok ha hx, ev1_ok ha hy])
          have e2 : c.argTypes = #[dt, yt] := arr_of hts
          obtain ⟨n, w', H', hr, hw', hK⟩ := mcopy_ok (xt := yt) (ty := o.type) hdt hsz h hw
          refine upon_value (v := .int .i64 n) (w' := w') ?_ ?_
          · simp only [execOp, ho, resolve, hc, e1, e2, Sem.run_bind, Sem.run_pure, Result.andThen_ok, invoke, builtin, hr]
          · exact putK_ok (v := .b (.one (.int .i64 n))) hK ha hw'
        · exact h.elim
      · exact h.elim
    · rename_i _ _ _ _ f hc
      split at h
      · rename_i g first caps l hf hl
        obtain ⟨⟨fn, hfn, hname, hbody⟩, hgo⟩ := h
        have e0 : a.eval f = .func (.func g) (first.map Pt.value).toArray (caps.map Pt.value).toArray := ev1_ok ha hf
        have e1 : c.args.map a.eval = (l.map TV.val).toArray := arr_of (by rw [Array.toList_map, evAll_ok ha hl])
        have hr : (execOp a.eval o).run C.P w = .ok (.enter g (argsOf first caps l).toArray) w := by
          simp only [execOp, ho, resolve, hc, e0, e1, Deferred.ofValue, Sem.run_bind, Sem.run_pure, Result.andThen_ok, invoke, callFunc, run_program, hfn, hname, hbody, Bool.false_eq_true, if_false]
          simp [argsOf]
        unfold Oper.wp
        rw [hr]
        show Calls C.P g _ w _
        refine (hgo a w ha hw).mono ?_
        rintro e w' ⟨v, H', rfl, hw', hK⟩
        exact putK_ok hK ha hw'
      · exact h.go a w ha hw Q
    · exact h.go a w ha hw Q
  · exact h.go a w ha hw Q

/-- Does an operation leave memory alone? -/
def isQ (P : Program) (o : Oper) : Bool :=
  match o.op with
  | .move _ | .assign _ | .pick .. | .load .. | .nilCheck _ | .binOp .. | .unOp .. | .makeFunc .. | .slice .. | .fieldAddr .. | .field .. | .indexAddr .. | .index .. | .extract .. | .build .. => true
  | .convert _ d _ => (match P.underlying d with | some (.slice _) => false | _ => true)
  | .call c => (match c.callee with | .builtin .len => true | .builtin .max => true | .builtin .min => true | _ => false)
  | _ => false

def sxOp (C : Ctx) (T : Tm) (H : Heap) (o : Oper) (K : Tm → Heap → Prop) : Prop :=
  match isQ C.P o with
  | true => qop C.P T H o fun v => putK C.N o.dst v T H K
  | false => mop C T H o K

theorem sxOp_ok {C : Ctx} {T : Tm} {H : Heap} {o : Oper} {K : Tm → Heap → Prop} (h : sxOp C T H o K) {a : Act} {w : World} (ha : Fits C T a) (hw : Rep C H w) (Q : Exit → Act → World → Prop) :
    o.wp C.P a w (Holds C K) Q := by
  unfold sxOp at h
  split at h
  · obtain ⟨v, hv, hr⟩ := qop_ok h hw.hwf
    exact upon_value (hr C a w ha hw) (putK_ok hv ha hw)
  · exact mop_ok h ha hw Q

/-- Is an operation carried out? -/
def sxGuard (all : List Oper) (T : Tm) (o : Oper) (A B : Prop) : Prop :=
  match o.guard with
  | none => A
  | some (j, want) => (match lget all j with
    | some oj => (match oj.dst with
      | some d => (match tget T d with
        | some (.b (.one (.bool b))) => (match want with
          | true => Br b A B
          | false => Br b B A)
        | _ => False)
      | none => False)
    | none => False)

def skipK (N : Nat) (dst : Option Nat) (T : Tm) (H : Heap) (K : Tm → Heap → Prop) : Prop := putK N dst (.tup []) T H K

def sxOps (C : Ctx) (all : List Oper) : List Oper → Tm → Heap → (Tm → Heap → Prop) → Prop
  | [], T, H, K => K T H
  | o :: r, T, H, K => sxGuard all T o (sxOp C T H o fun T' H' => sxOps C all r T' H' K) (skipK C.N o.dst T H fun T' H' => sxOps C all r T' H' K)

theorem sxGuard_ok {C : Ctx} {all : List Oper} {T : Tm} {o : Oper} {A B : Prop} (h : sxGuard all T o A B) {a : Act} (ha : Fits C T a) :
    (Region.wanted o (yielded all.toArray a.tmps) = true ∧ A) ∨ (Region.wanted o (yielded all.toArray a.tmps) = false ∧ B) := by
  unfold sxGuard at h
  split at h
  · rename_i hg; exact .inl ⟨by simp [Region.wanted, hg], h⟩
  · rename_i j want hg
    split at h
    · rename_i oj hj
      split at h
      · rename_i d hd
        split at h
        · rename_i b hb
          have hv := ha.tmps d _ hb
          have hlt : d < a.tmps.size := by
            rcases Nat.lt_or_ge d a.tmps.size with h | h
            · exact h
            · exfalso
              have h1 : a.tmps.getD d undef = undef := by simp [Array.getD, Nat.not_lt.2 h]
              rw [h1] at hv; simp [undef, TV.val, BV.val, SC.val] at hv
          have hy : yielded all.toArray a.tmps j = some b := by
            rw [lget_eq] at hj
            have h2 : a.tmps[d]? = some (Value.bool b) := by
              have : a.tmps.getD d undef = a.tmps[d] := by simp [Array.getD, hlt]
              rw [this] at hv
              rw [Array.getElem?_eq_getElem hlt, hv]; rfl
            simp [yielded, hj, hd, h2]
          have hwant : Region.wanted o (yielded all.toArray a.tmps) = (some b == some want) := by simp [Region.wanted, hg, hy]
          rw [hwant]
          cases want <;> cases b <;> dsimp only at h
          · exact .inl ⟨rfl, h.f rfl⟩
          · exact .inr ⟨rfl, h.t rfl⟩
          · exact .inr ⟨rfl, h.f rfl⟩
          · exact .inl ⟨rfl, h.t rfl⟩
        · exact h.elim
      · exact h.elim
    · exact h.elim

theorem sxOps_ok {C : Ctx} {all : List Oper} {Q' : Exit → Act → World → Prop} : ∀ {l : List Oper} {T : Tm} {H : Heap} {K : Tm → Heap → Prop}, sxOps C all l T H K →
    (∀ a w, Holds C K a w → Q' .normal a w) → ∀ {a : Act} {w : World}, Fits C T a → Rep C H w → wpList C.P all.toArray Q' l a w := by
  intro l
  induction l with
  | nil => intro T H K h hQ a w ha hw; exact hQ _ _ ⟨_, _, ha, hw, h⟩
  | cons o r ih =>
    intro T H K h hQ a w ha hw
    unfold wpList
    unfold sxOps at h
    rcases sxGuard_ok h ha with ⟨hg, h⟩ | ⟨hg, h⟩
    · rw [if_pos hg]
      refine .inl (Oper.wp_mono (fun a' w' hh => ?_) (sxOp_ok h ha hw Q'))
      obtain ⟨T', H', ha', hw', hK⟩ := hh
      exact ih hK hQ ha' hw'
    · rw [if_neg (by simp [hg])]
      obtain ⟨T', H', ha', hw', hK⟩ := putK_ok (v := .tup []) h ha hw
      exact ih hK hQ ha' hw'

/-- The code. -/
def sx (C : Ctx) : Code → Tm → Heap → (Ex → Tm → Heap → Prop) → Prop
  | .skip, T, H, Q => Q .normal T H
  | .label _, T, H, Q => Q .normal T H
  | .region id ops draw, T, H, Q => (match draw with
    | false => sxOps C ops.toList ops.toList T H (Q .normal)
    | true => Draw C id ops.toList T H Q)
  | .seq x y, T, H, Q => sx C x T H fun e T' H' => match e with | .normal => sx C y T' H' Q | .ret => Q .ret T' H' | .exit i => Q (.exit i) T' H'
  | .cond c x y, T, H, Q => (match ev1 T c with
    | some (.bool b) => Br b (sx C x T H Q) (sx C y T H Q)
    | _ => False)
  | .block id x, T, H, Q => sx C x T H fun e T' H' => match e with | .normal => Q .normal T' H' | .ret => Q .ret T' H' | .exit i => (match Nat.beq i id with | true => Q .normal T' H' | false => Q (.exit i) T' H')
  | .loop x, T, H, Q => LoopG C x T H Q
  | .rangeFunc f ps as x, T, H, Q => RangeG C f ps as x T H Q
  | .exit i, T, H, Q => Q (.exit i) T H
  | .ret, T, H, Q => Q .ret T H
  | _, _, _, _ => False

theorem QK_mono {C : Ctx} {Q : Ex → Tm → Heap → Prop} {Q' : Exit → Act → World → Prop} (h : ∀ e a w, QK C Q e a w → Q' e a w) {c : Code} {a : Act} {w : World} (hh : c.wp C.P (QK C Q) a w) : c.wp C.P Q' a w :=
  wp_mono hh h

theorem sx_ok {C : Ctx} : ∀ {c : Code} {T : Tm} {H : Heap} {Q : Ex → Tm → Heap → Prop}, sx C c T H Q → ∀ {a : Act} {w : World}, Fits C T a → Rep C H w → c.wp C.P (QK C Q) a w := by
  intro c
  induction c with
  | skip => intro T H Q h a w ha hw; exact wp_skip ⟨_, _, ha, hw, h⟩
  | label l => intro T H Q h a w ha hw; exact wp_label ⟨_, _, ha, hw, h⟩
  | region id ops draw =>
    intro T H Q h a w ha hw
    unfold sx at h
    cases draw with
    | false => exact wp_region_list (sxOps_ok h (fun a w hh => hh) ha hw)
    | true => exact h.go a w ha hw
  | seq x y ihx ihy =>
    intro T H Q h a w ha hw
    unfold sx at h
    refine wp_seq (wp_mono (ihx h ha hw) fun e a' w' hh => ?_)
    cases e <;> simp only [QK, Exit.then] at hh ⊢
    · obtain ⟨T', H', ha', hw', hK⟩ := hh; exact ihy hK ha' hw'
    · obtain ⟨T', H', ha', hw', hK⟩ := hh; exact ⟨T', H', ha', hw', hK⟩
    · obtain ⟨T', H', ha', hw', hK⟩ := hh; exact ⟨T', H', ha', hw', hK⟩
  | cond c x y ihx ihy =>
    intro T H Q h a w ha hw
    unfold sx at h
    split at h
    · rename_i b hb
      have e : a.eval c = .bool b := ev1_ok ha hb
      refine wp_cond e ?_
      cases b
      · exact ihy (h.f rfl) ha hw
      · exact ihx (h.t rfl) ha hw
    · exact h.elim
  | block id x ih =>
    intro T H Q h a w ha hw
    unfold sx at h
    refine wp_block (wp_mono (ih h ha hw) fun e a' w' hh => ?_)
    cases e with
    | exit i =>
      simp only [QK, Exit.inBlock] at hh ⊢
      obtain ⟨T', H', ha', hw', hK⟩ := hh
      split
      · rename_i e; subst e; simp only [Nat.beq_refl] at hK; exact ⟨T', H', ha', hw', hK⟩
      · rename_i e
        have : Nat.beq i id = false := by
          cases h' : Nat.beq i id with
          | false => rfl
          | true => exact absurd (Nat.eq_of_beq_eq_true h') e
        simp only [this] at hK; exact ⟨T', H', ha', hw', hK⟩
    | _ => exact hh
  | loop x _ => intro T H Q h a w ha hw; exact h.go a w ha hw
  | rangeFunc f ps as x _ _ => intro T H Q h a w ha hw; exact h.go a w ha hw
  | exit i => intro T H Q h a w ha hw; exact wp_exit ⟨_, _, ha, hw, h⟩
  | ret => intro T H Q h a w ha hw; exact wp_ret ⟨_, _, ha, hw, h⟩
  | _ => intro T H Q h; exact h.elim

end Go.SX
