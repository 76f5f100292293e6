/- Operations that leave memory alone. -/
import Derived.Test.YtiijaiiejogbjaaDoorSxLook
import Derived.Laws.BytesArg
import Derived.Laws.Slices
import Derived.Laws.Strings
import Derived.Laws.BytesString
set_option linter.unusedSimpArgs false
set_option linter.unusedVariables false
namespace Go.SX

/-! ### Numbers -/
structure Wr (k : IntKind) (e : Int) (K : Int → Prop) : Prop where
  go : K (k.wrap e)
def iand (k : IntKind) (a b : Int) : Int := k.wrap ((BitVec.ofInt k.bits a &&& BitVec.ofInt k.bits b).toNat)
def ior (k : IntKind) (a b : Int) : Int := k.wrap ((BitVec.ofInt k.bits a ||| BitVec.ofInt k.bits b).toNat)
def ixor (k : IntKind) (a b : Int) : Int := k.wrap ((BitVec.ofInt k.bits a ^^^ BitVec.ofInt k.bits b).toNat)
def iandn (k : IntKind) (a b : Int) : Int := k.wrap ((BitVec.ofInt k.bits a &&& ~~~ BitVec.ofInt k.bits b).toNat)
def inot (k : IntKind) (a : Int) : Int := ixor k (if k.signed then -1 else k.max) a
def ishl (k : IntKind) (a b : Int) : Int := k.wrap (a * 2 ^ (min b.toNat k.bits))
def ishr (k : IntKind) (a b : Int) : Int := a.fdiv (2 ^ (min b.toNat k.bits))
def bat (s : List UInt8) (n : Int) : Int := ((s.getD n.toNat 0).toNat : Int)
def bytesOf (l : List Int) : List UInt8 := l.map fun n => UInt8.ofNat n.toNat
def numsOf (s : List UInt8) : List Int := s.map fun b => (b.toNat : Int)

def qint (op : BinOp) (k : IntKind) (a b : Int) (K : SC → Prop) : Prop :=
  match op with
  | .add => Wr k (a + b) fun z => K (.int k z)
  | .sub => Wr k (a - b) fun z => K (.int k z)
  | .mul => Wr k (a * b) fun z => K (.int k z)
  | .quo => Chk (b ≠ 0) (Wr k (a.tdiv b) fun z => K (.int k z))
  | .rem => Chk (b ≠ 0) (K (.int k (a.tmod b)))
  | .and => K (.int k (iand k a b))
  | .or => K (.int k (ior k a b))
  | .xor => K (.int k (ixor k a b))
  | .andNot => K (.int k (iandn k a b))
  | .eql => K (.bool (decide (a = b)))
  | .neq => K (.bool (decide (a ≠ b)))
  | .lss => K (.bool (decide (a < b)))
  | .leq => K (.bool (decide (a ≤ b)))
  | .gtr => K (.bool (decide (b < a)))
  | .geq => K (.bool (decide (b ≤ a)))
  | _ => False

def qstr (op : BinOp) (s t : List UInt8) (K : SC → Prop) : Prop :=
  match op with
  | .add => Chk (s.length + t.length ≤ 9223372036854775807) (K (.str (s ++ t)))
  | .eql => K (.bool (decide (s = t)))
  | .neq => K (.bool (!decide (s = t)))
  | .lss => K (.bool (Op.bytesLess s t))
  | .leq => K (.bool (Op.bytesLess s t || decide (s = t)))
  | .gtr => K (.bool (!(Op.bytesLess s t || decide (s = t))))
  | .geq => K (.bool (!Op.bytesLess s t))
  | _ => False

/-- Two cells alike? -/
def ceq (P : Program) (t : TypeId) (x y : SC) (K : Bool → Prop) : Prop :=
  match P.underlying t, x, y with
  | some .bool, .bool a, .bool b => K (a == b)
  | some (.pointer _), .nilp, .nilp => K true
  | some (.pointer _), .nilp, .ptr _ => K false
  | some (.pointer _), .ptr _, .nilp => K false
  | some (.pointer e), .ptr p, .ptr q => (match sizB P e with
    | some (_ + 1) => Chk (p.blk = q.blk) (K (decide (p.off.val = q.off.val)))
    | _ => False)
  | some (.slice _), .nilsl, .nilsl => K true
  | some (.slice _), .nilsl, .sl .. => K false
  | some (.slice _), .sl .., .nilsl => K false
  | some (.map _ _), .nilmp, .nilmp => K true
  | some (.map _ _), .nilmp, .mp .. => K false
  | some (.map _ _), .mp .., .nilmp => K false
  | some (.func _ _ _), .nilfn, .nilfn => K true
  | some (.func _ _ _), .nilfn, .fn .. => K false
  | some (.func _ _ _), .fn .., .nilfn => K false
  | _, _, _ => False

def qbin (P : Program) (op : BinOp) (xt : TypeId) (x y : SC) (K : SC → Prop) : Prop :=
  match x, y with
  | .int k a, .int k' b => (match op with
    | .shl => Chk (0 ≤ b) (K (.int k (ishl k a b)))
    | .shr => Chk (0 ≤ b) (K (.int k (ishr k a b)))
    | op => (match decide (k = k') with | true => qint op k a b K | false => False))
  | .str s, .str t => qstr op s t K
  | x, y => (match op with
    | .eql => ceq P xt x y fun r => K (.bool r)
    | .neq => ceq P xt x y fun r => K (.bool (!r))
    | _ => False)

theorem qint_ok {P : Program} {op : BinOp} {xt : TypeId} {k : IntKind} {a b : Int} {K : SC → Prop} (h : qint op k a b K) (hs : op ≠ .shl) (hs' : op ≠ .shr) :
    ∃ v, K v ∧ ∀ w, (binOp op xt (.int k a) (.int k b)).run P w = .ok v.val w := by
  unfold qint at h
  split at h
  · exact ⟨_, h.go, fun w => by rw [binOp_add]; rfl⟩
  · exact ⟨_, h.go, fun w => by rw [binOp_sub]; rfl⟩
  · exact ⟨_, h.go, fun w => by rw [binOp_mul]; rfl⟩
  · exact ⟨_, h.go.go, fun w => by have := h.ok; rw [binOp_quo]; simp [Op.intDiv, SC.val, this]⟩
  · exact ⟨_, h.go, fun w => by have := h.ok; rw [binOp_rem]; simp [Op.intDiv, SC.val, this]⟩
  · exact ⟨_, h, fun w => by rw [binOp_and]; rfl⟩
  · exact ⟨_, h, fun w => by rw [binOp_or]; rfl⟩
  · exact ⟨_, h, fun w => by rw [binOp_xor]; rfl⟩
  · exact ⟨_, h, fun w => by rw [binOp_andNot]; rfl⟩
  · exact ⟨_, h, fun w => by rw [binOp_eql]; rfl⟩
  · exact ⟨_, h, fun w => by rw [binOp_neq, show (a != b) = decide (a ≠ b) by by_cases h : a = b <;> simp [h]]; rfl⟩
  · exact ⟨_, h, fun w => by rw [binOp_lss]; rfl⟩
  · exact ⟨_, h, fun w => by rw [binOp_leq]; rfl⟩
  · exact ⟨_, h, fun w => by rw [binOp_gtr]; rfl⟩
  · exact ⟨_, h, fun w => by rw [binOp_geq]; rfl⟩
  · exact h.elim

theorem str_toList (s : List UInt8) : (⟨⟨s⟩⟩ : ByteArray).toList = s := ByteArray.toList_mk s
theorem beq_dec (s t : List UInt8) : (s == t) = decide (s = t) := by
  by_cases h : s = t <;> simp [h]

theorem qstr_ok {P : Program} {op : BinOp} {xt : TypeId} {s t : List UInt8} {K : SC → Prop} (h : qstr op s t K) :
    ∃ v, K v ∧ ∀ w, (binOp op xt (SC.str s).val (SC.str t).val).run P w = .ok v.val w := by
  unfold qstr at h
  have e1 : (⟨⟨s⟩⟩ : ByteArray).size = s.length := rfl
  have e2 : (⟨⟨t⟩⟩ : ByteArray).size = t.length := rfl
  split at h
  · refine ⟨_, h.go, fun w => ?_⟩
    have := h.ok
    have hle : ¬ (((⟨⟨s⟩⟩ : ByteArray).size + (⟨⟨t⟩⟩ : ByteArray).size : Nat) : Int) > IntKind.i64.max := by rw [e1, e2, IntKind.max_i64]; omega
    simp only [SC.val, binOp_string_add, Op.stringOp, if_neg hle]
    have : (⟨⟨s⟩⟩ : ByteArray) ++ ⟨⟨t⟩⟩ = ⟨⟨s ++ t⟩⟩ := by
      apply ByteArray.ext; simp [ByteArray.data_append]
    rw [this]; rfl
  all_goals first
    | exact h.elim
    | exact ⟨_, h, fun w => by simp [SC.val, binOp, Op.stringOp, str_toList, beq_dec]⟩

theorem equal_open : ∃ d, ∀ t x y, Op.equal t x y = Op.equalIn (d + 1) t x y := ⟨9999, fun _ _ _ => rfl⟩

theorem ceq_ok {P : Program} {t : TypeId} {x y : SC} {K : Bool → Prop} (h : ceq P t x y K) : ∃ r, K r ∧ ∀ w, (Op.equal t x.val y.val).run P w = .ok r w := by
  obtain ⟨d, hd⟩ := equal_open
  unfold ceq at h
  split at h
  all_goals first
    | exact h.elim
    | (rename_i hu
       refine ⟨_, h, fun w => ?_⟩
       rw [hd]
       simp [Op.equalIn, run_underlying hu, SC.val, Pt.value]; done)
    | skip
  rename_i e p q hu
  split at h
  · rename_i n hn
    refine ⟨_, h.go, fun w => ?_⟩
    have hb := h.ok
    rw [hd]
    simp only [Op.equalIn, Sem.run_bind, run_underlying hu, Result.andThen_ok, SC.val, Pt.value, sizB_run hn]
    simp only [ne_eq, Nat.add_eq_zero_iff, Nat.succ_ne_zero, and_false, not_false_eq_true, if_true, sameAddr, Pt.addr, hb, beq_self_eq_true]
    simp only [Sem.run_ite, Sem.run_pure, if_true]
    have : ((⟨q.blk, p.off.val, none⟩ : Addr) == ⟨q.blk, q.off.val, none⟩) = decide (p.off.val = q.off.val) := by
      by_cases hh : p.off.val = q.off.val <;> simp [hh]
    simp [this]
  · exact h.elim

theorem guard_ok {op : BinOp} {t : TypeId} {x y : Operand} {v : SC} {u : Value} (h : v.val ≠ .nilIface) : eqGuard op t x y v.val u = pure () := by
  cases v <;> (first | (simp [SC.val, Pt.value, eqGuard_at_int, eqGuard_at_bool, eqGuard_at_string, eqGuard_at_pointer, eqGuard_at_slice, eqGuard_at_map, eqGuard_at_chan, eqGuard_at_func, eqGuard_at_nilFunc]; done) | skip)
  rename_i v hv
  simp only [SC.val] at *
  cases v <;> first
    | (simp [Value.oneCell'] at hv; done)
    | exact (h rfl).elim
    | (cases op <;> rfl)

theorem qbin_ok {P : Program} {op : BinOp} {xt : TypeId} {x y : SC} {K : SC → Prop} (h : qbin P op xt x y K) (X Y : Operand) :
    ∃ v, K v ∧ ∀ w, (do eqGuard op xt X Y x.val y.val; binOp op xt x.val y.val : Sem Value).run P w = .ok v.val w := by
  unfold qbin at h
  split at h
  · rename_i k a k' b
    have hg : eqGuard op xt X Y (SC.int k a).val (SC.int k' b).val = pure () := guard_ok (by simp [SC.val])
    split at h
    · refine ⟨_, h.go, fun w => ?_⟩
      have := h.ok
      rw [hg]
      simp only [pure_bind, SC.val, binOp_shl, Op.shift, ishl, if_neg (Int.not_lt.2 this)]
      rfl
    · refine ⟨_, h.go, fun w => ?_⟩
      have := h.ok
      rw [hg]
      simp only [pure_bind, SC.val, binOp_shr, Op.shift, ishr, if_neg (Int.not_lt.2 this)]
      rfl
    · rename_i hn1 hn2
      split at h
      · rename_i hk
        have hk : k = k' := of_decide_eq_true hk
        subst hk
        obtain ⟨v, hv, hr⟩ := qint_ok (P := P) (xt := xt) h hn1 hn2
        exact ⟨v, hv, fun w => by rw [hg]; simpa [SC.val] using hr w⟩
      · exact h.elim
  · rename_i s t
    have hg : eqGuard op xt X Y (SC.str s).val (SC.str t).val = pure () := guard_ok (by simp [SC.val])
    obtain ⟨v, hv, hr⟩ := qstr_ok (P := P) (xt := xt) h
    exact ⟨v, hv, fun w => by rw [hg]; simpa using hr w⟩
  · have hx : ∀ {K' : Bool → Prop}, ceq P xt x y K' → x.val ≠ .nilIface := fun h e => by
      unfold ceq at h
      split at h <;> first | exact h.elim | (simp [SC.val, Pt.value] at e)
    split at h
    · obtain ⟨r, hr, hw⟩ := ceq_ok h
      refine ⟨_, hr, fun w => ?_⟩
      rw [guard_ok (hx h)]
      have : binOp .eql xt x.val y.val = (do pure (.bool (← Op.equal xt x.val y.val))) := by
        unfold ceq at h
        split at h <;> first | exact h.elim | rfl
      rw [this]; simp [hw]; rfl
    · obtain ⟨r, hr, hw⟩ := ceq_ok h
      refine ⟨_, hr, fun w => ?_⟩
      rw [guard_ok (hx h)]
      have : binOp .neq xt x.val y.val = (do pure (.bool (!(← Op.equal xt x.val y.val)))) := by
        unfold ceq at h
        split at h <;> first | exact h.elim | rfl
      rw [this]; simp [hw]; rfl
    · exact h.elim

def qun (op : UnOp) (x : SC) (K : SC → Prop) : Prop :=
  match op, x with
  | .neg, .int k n => Wr k (0 - n) fun z => K (.int k z)
  | .xor, .int k n => K (.int k (inot k n))
  | .not, .bool b => K (.bool (!b))
  | _, _ => False
theorem qun_ok {P : Program} {op : UnOp} {x : SC} {K : SC → Prop} (h : qun op x K) : ∃ v, K v ∧ ∀ w, (Op.unary op x.val).run P w = .ok v.val w := by
  unfold qun at h
  split at h
  · exact ⟨_, h.go, fun w => by simp [Op.unary, Op.intArith, SC.val]⟩
  · exact ⟨_, h, fun w => by simp [Op.unary, Op.intBits, SC.val, inot, ixor]⟩
  · exact ⟨_, h, fun w => by simp [Op.unary, SC.val]⟩
  · exact h.elim

/-! ### Slices of texts, rows and arrays -/
def evo (T : Tm) : Option Operand → Option (Option Int)
  | none => some none
  | some x => match ev1 T x with
    | some (.int _ n) => some (some n)
    | _ => none

def qslice (P : Program) (t : TypeId) (x : SC) (lo hi : Option Int) (K : SC → Prop) : Prop :=
  match P.underlying t, x with
  | some .string, .str s => (match lo, hi with
    | none, none => K (.str s)
    | some l, none => Chk (0 ≤ l ∧ l ≤ s.length) (K (.str (s.drop l.toNat)))
    | none, some h => Chk (0 ≤ h ∧ h ≤ s.length) (K (.str (s.take h.toNat)))
    | some l, some h => Chk (0 ≤ l ∧ l ≤ h ∧ h ≤ s.length) (K (.str ((s.take h.toNat).drop l.toNat))))
  | some (.slice e), .sl key b base o sz len cap => (match sizB P e with
    | some sz' => Chk (sz' = sz) (match lo, hi with
      | none, none => K (.sl key b base o sz len cap)
      | none, some h => Chk (0 ≤ h ∧ h ≤ cap) (K (.sl key b base o sz h.toNat cap))
      | some l, none => Chk (0 ≤ l ∧ l ≤ len ∧ len ≤ cap) (Some_ (fun o' => l.toNat < cap → o' = o + l.toNat) fun o' => K (.sl key b base o' sz (len - l.toNat) (cap - l.toNat)))
      | some l, some h => Chk (0 ≤ l ∧ l ≤ h ∧ h ≤ cap) (Some_ (fun o' => l.toNat < cap → o' = o + l.toNat) fun o' => K (.sl key b base o' sz (h.toNat - l.toNat) (cap - l.toNat))))
    | none => False)
  | some (.slice e), .nilsl => (match sizB P e with
    | some _ => Chk (lo.getD 0 = 0 ∧ hi.getD 0 = 0) (K .nilsl)
    | none => False)
  | some (.array n e), .ptr ⟨key, b, .lit 0⟩ => (match sizB P e with
    | some sz => lit sz fun sz => (match lo, hi with
      | none, none => K (.sl key b 0 0 sz n n)
      | none, some h => Chk (0 ≤ h ∧ h ≤ n) (K (.sl key b 0 0 sz h.toNat n))
      | some l, none => Chk (0 ≤ l ∧ l ≤ n) (Some_ (fun o' => l.toNat < n → o' = l.toNat) fun o' => K (.sl key b 0 o' sz (n - l.toNat) (n - l.toNat)))
      | some l, some h => Chk (0 ≤ l ∧ l ≤ h ∧ h ≤ n) (Some_ (fun o' => l.toNat < n → o' = l.toNat) fun o' => K (.sl key b 0 o' sz (h.toNat - l.toNat) (n - l.toNat))))
    | none => False)
  | _, _ => False

theorem extract_str (s : List UInt8) (l h : Nat) : (⟨⟨s⟩⟩ : ByteArray).extract l h = ⟨⟨(s.take h).drop l⟩⟩ := by
  apply ByteArray.ext
  simp [ByteArray.data_extract, List.drop_take]

theorem sub_addr {m l : Nat} (b base o sz : Nat) : ∃ o', (l < m → o' = o + l) ∧
    (if m = l then some (⟨b, base + o * sz, none⟩ : Addr) else (some (⟨b, base + o * sz, none⟩ : Addr)).map (·.add (l * sz))) = some ⟨b, base + o' * sz, none⟩ := by
  by_cases h : m = l
  · exact ⟨o, fun h' => by omega, by rw [if_pos h]⟩
  · refine ⟨o + l, fun _ => rfl, ?_⟩
    rw [if_neg h]
    simp only [Option.map_some]
    rw [add_addr, Nat.add_mul, Nat.add_assoc]

theorem qslice_ok {P : Program} {t : TypeId} {x : SC} {lo hi : Option Int} {K : SC → Prop} (h : qslice P t x lo hi K) :
    ∃ v, K v ∧ ∀ w (lk hk : IntKind), (Instr.sliceAt t x.val (lo.map (Value.int lk)) (hi.map (Value.int hk)) none).run P w = .ok v.val w := by
  unfold qslice at h
  split at h
  · rename_i s hu
    have es : (⟨⟨s⟩⟩ : ByteArray).size = s.length := rfl
    split at h
    · exact ⟨_, h, fun w lk hk => by simp [Instr.sliceAt, Instr.slice, run_underlying hu, Instr.sliceBounds, SC.val, extract_str, es]⟩
    · obtain ⟨⟨h1, h2⟩, h⟩ := h
      exact ⟨_, h, fun w lk hk => by simp [Instr.sliceAt, Instr.slice, run_underlying hu, Instr.sliceBounds, SC.val, extract_str, es, run_sliceBound, h1, h2]⟩
    · obtain ⟨⟨h1, h2⟩, h⟩ := h
      exact ⟨_, h, fun w lk hk => by simp [Instr.sliceAt, Instr.slice, run_underlying hu, Instr.sliceBounds, SC.val, extract_str, es, run_sliceBound, h1, h2]⟩
    · obtain ⟨⟨h1, h2, h3⟩, h⟩ := h
      rename_i l hh
      have e : ((hh.toNat : Nat) : Int) = hh := Int.toNat_of_nonneg (by omega)
      exact ⟨_, h, fun w lk hk => by simp [Instr.sliceAt, Instr.slice, run_underlying hu, Instr.sliceBounds, SC.val, extract_str, es, run_sliceBound, h1, h2, h3, e, show 0 ≤ hh by omega]⟩
  · rename_i e key b base o sz len cap hu
    split at h
    · rename_i sz' hsz
      obtain ⟨rfl, h⟩ := h
      split at h
      · refine ⟨_, h, fun w lk hk => ?_⟩
        obtain ⟨o', _, ho⟩ := sub_addr (m := cap) (l := 0) b base o sz'
        simp [Instr.sliceAt, Instr.slice, run_underlying hu, Instr.sliceBounds, SC.val, sizB_run hsz, add_addr]
      · obtain ⟨⟨h1, h2⟩, h⟩ := h
        refine ⟨_, h, fun w lk hk => ?_⟩
        simp [Instr.sliceAt, Instr.slice, run_underlying hu, Instr.sliceBounds, SC.val, sizB_run hsz, add_addr, run_sliceBound, h1, h2]
      · rename_i l
        obtain ⟨⟨h1, h2, h3⟩, h⟩ := h
        obtain ⟨o', ho, he⟩ := sub_addr (m := cap) (l := l.toNat) b base o sz'
        refine ⟨_, h.go o' ho, fun w lk hk => ?_⟩
        simp only [Instr.sliceAt, Instr.slice, Sem.run_bind, run_underlying hu, Instr.sliceBounds, SC.val, sizB_run hsz, run_sliceBound w _ _ _ _ h1 h2, Option.map_some, Option.map_none, Sem.run_pure, Result.andThen_ok]
        simp only [Option.map_some] at he
        rw [he]
      · rename_i l hh
        obtain ⟨⟨h1, h2, h3⟩, h⟩ := h
        obtain ⟨o', ho, he⟩ := sub_addr (m := cap) (l := l.toNat) b base o sz'
        refine ⟨_, h.go o' ho, fun w lk hk => ?_⟩
        have e : ((hh.toNat : Nat) : Int) = hh := Int.toNat_of_nonneg (by omega)
        simp only [Instr.sliceAt, Instr.slice, Sem.run_bind, run_underlying hu, Instr.sliceBounds, SC.val, sizB_run hsz, run_sliceBound w _ _ _ _ (show 0 ≤ hh by omega) h3, run_sliceBound w lk l hh.toNat _ h1 (by omega),
          Option.map_some, Option.map_none, Sem.run_pure, Result.andThen_ok, Option.isSome_none, Bool.false_eq_true, if_false]
        simp only [Option.map_some] at he
        rw [he]
    · exact h.elim
  · rename_i e hu
    split at h
    · rename_i n hs
      obtain ⟨⟨h1, h2⟩, h⟩ := h
      refine ⟨_, h, fun w lk hk => ?_⟩
      cases lo <;> cases hi <;> simp only [Option.getD_none, Option.getD_some] at h1 h2 <;> subst_vars <;>
        simp [Instr.sliceAt, Instr.slice, run_underlying hu, Instr.sliceBounds, SC.val, sizB_run hs, run_sliceBound]
    · exact h.elim
  · rename_i n e key b hu
    split at h
    · rename_i sz hsz
      replace h := lit_ok h
      have sub : ∀ l : Nat, ∃ o', (l < n → o' = l) ∧ (if n = l then (⟨b, 0, none⟩ : Addr) else (⟨b, 0, none⟩ : Addr).add (l * sz)) = ⟨b, 0 + o' * sz, none⟩ := fun l => by
        by_cases h : n = l
        · exact ⟨0, fun h' => by omega, by rw [if_pos h]; simp⟩
        · exact ⟨l, fun _ => rfl, by rw [if_neg h, add_addr]⟩
      split at h
      · refine ⟨_, h, fun w lk hk => ?_⟩
        simp [Instr.sliceAt, run_underlying hu, Instr.sliceBounds, SC.val, Pt.value, Pt.addr, Off.val, Instr.sureAddr, sizB_run hsz, add_addr]
      · obtain ⟨⟨h1, h2⟩, h⟩ := h
        refine ⟨_, h, fun w lk hk => ?_⟩
        simp [Instr.sliceAt, run_underlying hu, Instr.sliceBounds, SC.val, Pt.value, Pt.addr, Off.val, Instr.sureAddr, sizB_run hsz, add_addr, run_sliceBound, h1, h2]
      · rename_i l
        obtain ⟨⟨h1, h2⟩, h⟩ := h
        obtain ⟨o', ho, he⟩ := sub l.toNat
        refine ⟨_, h.go o' ho, fun w lk hk => ?_⟩
        simp only [Instr.sliceAt, Sem.run_bind, run_underlying hu, Instr.sliceBounds, SC.val, Pt.value, Pt.addr, Off.val, Instr.sureAddr, sizB_run hsz, run_sliceBound w _ _ _ _ h1 h2, Option.map_some, Option.map_none, Sem.run_pure, Result.andThen_ok]
        rw [he]
      · rename_i l hh
        obtain ⟨⟨h1, h2, h3⟩, h⟩ := h
        obtain ⟨o', ho, he⟩ := sub l.toNat
        refine ⟨_, h.go o' ho, fun w lk hk => ?_⟩
        have e : ((hh.toNat : Nat) : Int) = hh := Int.toNat_of_nonneg (by omega)
        simp only [Instr.sliceAt, Sem.run_bind, run_underlying hu, Instr.sliceBounds, SC.val, Pt.value, Pt.addr, Off.val, Instr.sureAddr, sizB_run hsz, run_sliceBound w _ _ _ _ (show 0 ≤ hh by omega) h3, run_sliceBound w lk l hh.toNat _ h1 (by omega),
          Option.map_some, Option.map_none, Sem.run_pure, Result.andThen_ok, Option.isSome_none, Bool.false_eq_true, if_false]
        rw [he]
    · exact h.elim
  · exact h.elim
end Go.SX
