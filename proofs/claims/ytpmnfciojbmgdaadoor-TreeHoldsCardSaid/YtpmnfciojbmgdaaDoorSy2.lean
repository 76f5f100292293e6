/- A walk engine: what a call computes, symbolically (part 2). -/
import Derived.Test.YtpmnfciojbmgdaaDoorSy1
import Derived.ChangeKeysEq
import Derived.Lib.ConvBytes
/- Two arrays or structs: alike? -/
set_option linter.unusedSimpArgs false
set_option linter.unusedVariables false
namespace Go.SY

/-- This holds, and the kernel sees it. -/
structure KChk (b : Bool) (K : Prop) : Prop where
  ok : b = true
  go : K

def leafEq (P : Program) (t : TypeId) (x y : SC) (K : Bool → Prop) : Prop :=
  match P.underlying t, x, y with
  | some (.int _), .int k a, .int k' b => (match decide (k = k') with | true => K (decide (a = b)) | false => False)
  | some (.int _), .w8 a, .w8 b => K (decide (a = b))
  | some (.int _), .w32 a, .w32 b => K (decide (a = b))
  | some (.int _), .w64 a, .w64 b => K (decide (a = b))
  | some .string, .str a, .str b => K (decide (a = b))
  | some .bool, .bool a, .bool b => K (decide (a = b))
  | _, _, _ => False

theorem u8_eq (a b : UInt8) : ((a.toNat : Int) == (b.toNat : Int)) = decide (a = b) := by
  by_cases h : a = b
  · simp [h]
  · have : a.toNat ≠ b.toNat := fun e => h (UInt8.toNat_inj.1 e)
    simp [h]; omega
theorem bv_eq {n : Nat} (a b : BitVec n) : ((a.toNat : Int) == (b.toNat : Int)) = decide (a = b) := by
  by_cases h : a = b
  · simp [h]
  · have : a.toNat ≠ b.toNat := fun e => h (BitVec.eq_of_toNat_eq e)
    simp [h]; omega

theorem leafEq_ok {P : Program} {t : TypeId} {x y : SC} {K : Bool → Prop} (h : leafEq P t x y K) : ∃ r, K r ∧ ∀ d w, (Op.equalIn (d + 1) t x.val y.val).run P w = .ok r w := by
  unfold leafEq at h
  split at h
  · rename_i k0 k a k' b hu
    split at h
    · rename_i hk; have := of_decide_eq_true hk; subst this
      exact ⟨_, h, fun d w => by
        simp only [SC.val]; rw [run_equalIn_int w d t _ _ _ _ hu]; congr 1⟩
    · exact h.elim
  · rename_i k0 a b hu; exact ⟨_, h, fun d w => by simp only [SC.val]; rw [run_equalIn_int w d t _ _ _ _ hu, u8_eq]⟩
  · rename_i k0 a b hu; exact ⟨_, h, fun d w => by simp only [SC.val]; rw [run_equalIn_int w d t _ _ _ _ hu, bv_eq]⟩
  · rename_i k0 a b hu; exact ⟨_, h, fun d w => by simp only [SC.val]; rw [run_equalIn_int w d t _ _ _ _ hu, bv_eq]⟩
  · rename_i a b hu; exact ⟨_, h, fun d w => by simp only [SC.val]; rw [run_equalIn_string w d t _ _ hu]; rw [str_toList, str_toList, beq_dec]⟩
  · rename_i a b hu; exact ⟨_, h, fun d w => by simp only [SC.val]; rw [run_equalIn_bool' w d t _ _ hu]; cases a <;> cases b <;> rfl⟩
  · exact h.elim

/-- Scalars that are such a type's. -/
def skFits (P : Program) (e : TypeId) : Sk → Bool
  | .u8 | .u32 | .u64 => (match P.underlying e with | some (.int _) => true | _ => false)
  | .int _ => (match P.underlying e with | some (.int _) => true | _ => false)
  | .str => (match P.underlying e with | some .string => true | _ => false)
  | .bool => (match P.underlying e with | some .bool => true | _ => false)
theorem sk_leaf {P : Program} {e : TypeId} : ∀ {s : Sk}, skFits P e s = true → ∀ a b : s.α, ∃ r : Bool, (r = true ↔ a = b) ∧ ∀ d w, (Op.equalIn (d + 1) e (s.enc a).val (s.enc b).val).run P w = .ok r w := by
  intro s hs a b
  cases s <;> simp only [skFits] at hs <;> split at hs <;> first | cases hs | skip
  all_goals
    rename_i hu
    obtain ⟨r, hr, h⟩ := leafEq_ok (P := P) (t := e) (x := Sk.enc _ a) (y := Sk.enc _ b) (K := fun r => r = true ↔ a = b) (by unfold leafEq; rw [hu]; simp)
    exact ⟨r, hr, h⟩

theorem items_ok {P : Program} {e : TypeId} {s : Sk} (hs : skFits P e s = true) (ha : aggB P e = some false) (d : Nat) (w : World) (L L' : List s.α) : ∀ (k i : Nat), L.length = i + k → L'.length = i + k →
    ∃ r : Bool, (r = true ↔ L.drop i = L'.drop i) ∧ (Op.eqItems (d + 1) e 1 (svals [.arr s (i + k) L]).toArray (svals [.arr s (i + k) L']).toArray (List.range' i k)).run P w = .ok r w := by
  intro k
  induction k with
  | zero =>
    intro i h1 h2
    refine ⟨true, ?_, by simp [Op.eqItems]⟩
    rw [List.drop_of_length_le (by omega), List.drop_of_length_le (by omega)]; simp
  | succ k ih =>
    intro i h1 h2
    obtain ⟨r', hr', hx⟩ := ih (i + 1) (by omega) (by omega)
    obtain ⟨r, hr, hy⟩ := sk_leaf hs (L.getD i s.dflt) (L'.getD i s.dflt)
    have e1 : (scs [Sg.arr s (i + (k + 1)) L])[i]? = some (s.enc (L.getD i s.dflt)) := by
      simp only [scs, Sg.cs, List.append_nil]; exact arr_get (by omega)
    have e2 : (scs [Sg.arr s (i + (k + 1)) L'])[i]? = some (s.enc (L'.getD i s.dflt)) := by
      simp only [scs, Sg.cs, List.append_nil]; exact arr_get (by omega)
    have e3 : svals [Sg.arr s (i + 1 + k) L] = svals [Sg.arr s (i + (k + 1)) L] := rfl
    have e4 : svals [Sg.arr s (i + 1 + k) L'] = svals [Sg.arr s (i + (k + 1)) L'] := rfl
    rw [e3, e4] at hx
    refine ⟨r && r', ?_, ?_⟩
    · rw [List.drop_eq_getElem_cons (by omega : i < L.length), List.drop_eq_getElem_cons (by omega : i < L'.length), Bool.and_eq_true, hr, hr', List.cons.injEq]
      simp [List.getD_eq_getElem?_getD, show i < L.length by omega, show i < L'.length by omega]
    · simp only [List.range'_succ, Op.eqItems, Sem.run_bind, Nat.mul_one, part_one ha e1, part_one ha e2, Result.andThen_ok, hy, Sem.run_ite, hx]
      cases r <;> simp

def skEq : (s : Sk) → List s.α → (s' : Sk) → List s'.α → (Bool → Prop) → Prop
  | .u8, L, .u8, L', K => K (decide (L = L'))
  | .u32, L, .u32, L', K => K (decide (L = L'))
  | .u64, L, .u64, L', K => K (decide (L = L'))
  | .bool, L, .bool, L', K => K (decide (L = L'))
  | .str, L, .str, L', K => K (decide (L = L'))
  | .int k, L, .int k', L', K => (match decide (k = k') with | true => K (decide (L = L')) | false => False)
  | _, _, _, _, _ => False
theorem skEq_ok {s s' : Sk} {L : List s.α} {L' : List s'.α} {K : Bool → Prop} (h : skEq s L s' L' K) : ∃ (e : s' = s) (r : Bool), K r ∧ (r = true ↔ L = e ▸ L') := by
  unfold skEq at h
  split at h
  all_goals first
    | exact ⟨rfl, _, h, by simp⟩
    | (split at h
       · rename_i hk; have := of_decide_eq_true hk; subst this; exact ⟨rfl, _, h, by simp⟩
       · exact h.elim)
    | exact h.elim

def eqf (P : Program) (E : TypeId → BV → BV → (Bool → Prop) → Prop) (l m : List Sg) : List Field → (Bool → Prop) → Prop
  | [], K => K true
  | f :: fs, K => KChk (f.name != "_") (qpart P f.type l f.offset fun a => qpart P f.type m f.offset fun b => E f.type a b fun r => eqf P E l m fs fun r' => K (r && r'))
def eqv (P : Program) : Nat → TypeId → BV → BV → (Bool → Prop) → Prop
  | _, t, .one a, .one b, K => leafEq P t a b K
  | d + 1, t, .agg l, .agg m, K => (match P.underlying t with
    | some (.struct fs) => KChk (!P.stoodInHeld t) (eqf P (eqv P d) l m fs.toList K)
    | some (.array n e) => (match sizB P e, aggB P e, l, m with
      | some 1, some false, [.arr s k L], [.arr s' k' L'] => (match Nat.beq k n, Nat.beq k' n, skFits P e s with | true, true, true => skEq s L s' L' K | _, _, _ => False)
      | _, _, _, _ => False)
    | _ => False)
  | _, _, _, _, _ => False

theorem eqf_ok {P : Program} {E : TypeId → BV → BV → (Bool → Prop) → Prop} {d : Nat} (hE : ∀ t x y K, x.wf → y.wf → E t x y K → ∃ r, K r ∧ ∀ n w, d < n → (Op.equalIn n t x.val y.val).run P w = .ok r w) {l m : List Sg} (hl : swf l) (hm : swf m) :
    ∀ {fs : List Field} {K : Bool → Prop}, eqf P E l m fs K → ∃ r, K r ∧ ∀ n w, d < n → (Op.eqFields n (svals l).toArray (svals m).toArray fs).run P w = .ok r w := by
  intro fs
  induction fs with
  | nil => intro K h; exact ⟨true, h, fun n w hn => by simp [Op.eqFields]⟩
  | cons f fs ih =>
    intro K h
    obtain ⟨hn, h⟩ := h
    obtain ⟨a, h, haw, ha⟩ := qpart_ok h hl
    obtain ⟨b, h, hbw, hb⟩ := qpart_ok h hm
    obtain ⟨r, h, hr⟩ := hE _ _ _ _ haw hbw h
    obtain ⟨r', h, hr'⟩ := ih h
    refine ⟨_, h, fun n w hd => ?_⟩
    have hn : f.name ≠ "_" := by simpa using hn
    simp only [Op.eqFields, if_pos hn, Sem.run_bind, ha, hb, hr n _ hd, Result.andThen_ok, Sem.run_ite, hr' n _ hd, Sem.run_pure]
    cases r <;> simp

theorem eqv_ok {P : Program} : ∀ {d : Nat} {t : TypeId} {x y : BV} {K : Bool → Prop}, x.wf → y.wf → eqv P d t x y K → ∃ r, K r ∧ ∀ n w, d < n → (Op.equalIn n t x.val y.val).run P w = .ok r w := by
  intro d
  induction d with
  | zero =>
    intro t x y K hx hy h
    cases x <;> cases y <;> simp only [eqv] at h
    obtain ⟨r, h1, h2⟩ := leafEq_ok h
    exact ⟨r, h1, fun n w hn => by obtain ⟨n, rfl⟩ : ∃ m, n = m + 1 := ⟨n - 1, by omega⟩; exact h2 _ w⟩
  | succ d ih =>
    intro t x y K hx hy h
    cases x with
    | one a =>
      cases y with
      | one b =>
        obtain ⟨r, h1, h2⟩ := leafEq_ok h
        exact ⟨r, h1, fun n w hn => by obtain ⟨n, rfl⟩ : ∃ m, n = m + 1 := ⟨n - 1, by omega⟩; exact h2 _ w⟩
      | agg m => exact h.elim
    | agg l =>
      cases y with
      | one b => exact h.elim
      | agg m =>
        simp only [eqv] at h
        split at h
        · rename_i fs hu
          obtain ⟨hs, h⟩ := h
          have hf : P.fieldsOf t = fs := by simp [Program.fieldsOf, hu]
          obtain ⟨r, hr, he⟩ := eqf_ok (d := d) (fun t x y K hx hy h => ih hx hy h) hx hy h
          refine ⟨r, hr, fun n w hn => ?_⟩
          obtain ⟨n, rfl⟩ : ∃ m, n = m + 1 := ⟨n - 1, by omega⟩
          simp only [BV.val]
          rw [run_equalIn_agg w n t _ _ (by rw [hf]; exact hu) (by simpa using hs), hf]
          exact he n w (by omega)
        · rename_i n e hu
          split at h
          · rename_i s k L s' k' L' hsz ha
            split at h
            · rename_i hk hk' hs
              have hk := Nat.eq_of_beq_eq_true hk
              have hk' := Nat.eq_of_beq_eq_true hk'
              subst hk'
              subst hk
              obtain ⟨hse, r, hr, hiff⟩ := skEq_ok h
              subst hse
              have hL : L.length = k := hx.1
              have hL' : L'.length = k := hy.1
              refine ⟨r, hr, fun n w hn => ?_⟩
              obtain ⟨n, rfl⟩ : ∃ m, n = m + 1 + 1 := ⟨n - 2, by omega⟩
              obtain ⟨r', hr', hrun⟩ := items_ok hs ha n w L L' k 0 (by omega) (by omega)
              have er : r' = r := by
                apply Bool.eq_iff_iff.2; rw [hr', hiff]; simp
              have hi : ∃ i, P.info? e = some i ∧ i.size = 1 := by
                unfold sizB at hsz
                split at hsz
                · rename_i i hi; exact ⟨i, hi, by injection hsz⟩
                · cases hsz
              obtain ⟨i, hi, hi1⟩ := hi
              have hc : P.cellsOf e = 1 := by simp [Program.cellsOf, hi, hi1]
              simp only [BV.val]
              rw [run_equalIn_array w (n + 1) _ _ hu hi, hc, List.range_eq_range', ← er]
              simpa using hrun
            · exact h.elim
          · exact h.elim
        · exact h.elim
/-- '==' and '!=' of arrays and structs. -/
def qeq (P : Program) (op : BinOp) (t : TypeId) (x y : BV) (K : Bool → Prop) : Prop :=
  match op with
  | .eql => KChk (!P.eqGuardType P.depth t) (eqv P 8 t x y K)
  | .neq => KChk (!P.eqGuardType P.depth t) (eqv P 8 t x y fun r => K (!r))
  | _ => False
theorem qeq_ok {P : Program} {op : BinOp} {t : TypeId} {l m : List Sg} {K : Bool → Prop} (h : qeq P op t (.agg l) (.agg m) K) (hl : swf l) (hm : swf m) (X Y : Operand) :
    ∃ v, K v ∧ ∀ w, (do eqGuard op t X Y (BV.agg l).val (BV.agg m).val; binOp op t (BV.agg l).val (BV.agg m).val : Sem Value).run P w = .ok (SC.bool v).val w := by
  unfold qeq at h
  split at h
  · obtain ⟨hg, h⟩ := h
    obtain ⟨r, hr, he⟩ := eqv_ok (x := .agg l) (y := .agg m) hl hm h
    refine ⟨_, hr, fun w => ?_⟩
    have e := he 10000 w (by omega)
    simp only [BV.val] at e
    simp only [BV.val, Sem.run_bind, run_eqGuard_agg w _ _ _ _ _ _ (by simpa using hg), Result.andThen_ok, run_eql_struct, e, SC.val]
  · obtain ⟨hg, h⟩ := h
    obtain ⟨r, hr, he⟩ := eqv_ok (x := .agg l) (y := .agg m) hl hm h
    refine ⟨_, hr, fun w => ?_⟩
    have e := he 10000 w (by omega)
    simp only [BV.val] at e
    simp only [BV.val, Sem.run_bind, run_eqGuard_agg w _ _ _ _ _ _ (by simpa using hg), Result.andThen_ok, run_neq_struct, e, SC.val]
  · exact h.elim
end Go.SY

/- One operation that leaves memory alone. -/
set_option linter.unusedSimpArgs false
set_option linter.unusedVariables false
namespace Go.SY

/-! ### Zero values -/
def beqL {α : Type} (f : α → α → Bool) : List α → List α → Bool
  | [], [] => true
  | a :: l, b :: r => f a b && beqL f l r
  | _, _ => false
theorem beqL_ok {α : Type} {f : α → α → Bool} (hf : ∀ a b, f a b = true → a = b) : ∀ {l r : List α}, beqL f l r = true → l = r
  | [], [], _ => rfl
  | a :: l, b :: r, h => by
    simp only [beqL, Bool.and_eq_true] at h
    rw [hf _ _ h.1, beqL_ok hf h.2]
  | [], _ :: _, h => by simp [beqL] at h
  | _ :: _, [], h => by simp [beqL] at h
/-- Is a cell the zero of its kind, and the same as another one? -/
def SC.zeq : SC → SC → Bool
  | .int k (.ofNat 0), .int k' (.ofNat 0) => decide (k = k')
  | .w8 x, .w8 y => decide (x = y)
  | .w32 x, .w32 y => decide (x = y)
  | .w64 x, .w64 y => decide (x = y)
  | .bool x, .bool y => decide (x = y)
  | .str [], .str [] => true
  | .nilp, .nilp => true
  | .nilsl, .nilsl => true
  | .nilfn, .nilfn => true
  | .nilmp, .nilmp => true
  | .nilch, .nilch => true
  | .raw .nilIface _, .raw .nilIface _ => true
  | _, _ => false
theorem SC.zeq_ok : ∀ (a b : SC), a.zeq b = true → a = b := by
  intro a b h
  unfold SC.zeq at h
  split at h <;> first
    | rfl
    | (have := of_decide_eq_true h; subst this; rfl)
    | cases h
def skZ : SC → Option Sk
  | .int k _ => some (.int k)
  | .w8 _ => some .u8
  | .w32 _ => some .u32
  | .w64 _ => some .u64
  | .bool _ => some .bool
  | .str _ => some .str
  | _ => none
def repl {α : Type} : Nat → List α → List α
  | 0, _ => []
  | n + 1, l => l ++ repl n l
mutual
def zsg (P : Program) : Nat → TypeId → Option (List Sg)
  | 0, _ => none
  | f + 1, t => (match P.underlying t with
    | some .bool => some [.c (.bool false)]
    | some (.int .u8) => some [.c (.w8 0)]
    | some (.int .u32) => some [.c (.w32 0)]
    | some (.int .u64) => some [.c (.w64 0)]
    | some (.int k) => some [.c (.int k (.ofNat 0))]
    | some .string => some [.c (.str [])]
    | some (.pointer _) => some [.c .nilp]
    | some (.slice _) => some [.c .nilsl]
    | some (.map _ _) => some [.c .nilmp]
    | some (.chan _ _) => some [.c .nilch]
    | some (.func _ _ _) => some [.c .nilfn]
    | some (.interface _) => some [.c (.raw .nilIface rfl)]
    | some (.array n e) => (match zsg P f e with
      | some [.c c] => (match skZ c with
        | some s => some [.arr s n (List.replicate n s.dflt)]
        | none => some (repl n [.c c]))
      | some [.arr s m _] => some [.arr s (n * m) (List.replicate (n * m) s.dflt)]
      | some l => some (repl n l)
      | none => none)
    | some (.struct fs) => zsgs P f fs.toList
    | _ => none)
def zsgs (P : Program) : Nat → List Field → Option (List Sg)
  | _, [] => some []
  | 0, _ :: _ => none
  | f + 1, x :: l => (match zsg P f x.type, zsgs P f l with
    | some a, some b => some (a ++ b)
    | _, _ => none)
end
def swfB : List Sg → Bool
  | [] => true
  | .c _ :: l => swfB l
  | .arr _ n L :: l => Nat.beq (llen L) n && swfB l
theorem swfB_ok : ∀ {l : List Sg}, swfB l = true → swf l
  | [], _ => trivial
  | .c _ :: l, h => ⟨trivial, swfB_ok h⟩
  | .arr _ n L :: l, h => by
    simp only [swfB, Bool.and_eq_true] at h
    have := Nat.eq_of_beq_eq_true h.1
    rw [llen_eq] at this
    exact ⟨this, swfB_ok h.2⟩
def cstAll : List Value → Option (List SC)
  | [] => some []
  | v :: l => match cst1 v, cstAll l with
    | some c, some r => some (c :: r)
    | _, _ => none
theorem cstAll_ok : ∀ {l : List Value} {r : List SC}, cstAll l = some r → l = r.map SC.val := by
  intro l
  induction l with
  | nil => intro r h; cases h; rfl
  | cons v l ih =>
    intro r h
    unfold cstAll at h
    split at h
    · rename_i c r' h1 h2
      cases h
      simp [← cst1_ok h1, ← ih h2]
    · cases h

def zeroB (P : Program) (t : TypeId) : Option (List SC) :=
  match P.info? t with
  | some i => (match i.zero with
    | some v => cstAll v.cells.toList
    | none => none)
  | none => none
theorem zeroB_ok {P : Program} {t : TypeId} {l : List SC} (h : zeroB P t = some l) (w : World) : ∃ v, (zeroValue t).run P w = .ok v w ∧ v.cells = (l.map SC.val).toArray := by
  unfold zeroB at h
  split at h
  · rename_i i hi
    split at h
    · rename_i v hv
      refine ⟨v, by simp [zeroValue, typeInfo, hi, hv], ?_⟩
      rw [← cstAll_ok h]
    · cases h
  · cases h

theorem zeroB_val {P : Program} {e : TypeId} {l : List SC} (h : zeroB P e = some l) : ∃ z, (∀ w, (zeroValue e).run P w = .ok z w) ∧ z.cells = (l.map SC.val).toArray := by
  unfold zeroB at h
  split at h
  · rename_i i hi
    split at h
    · rename_i v hv
      exact ⟨v, fun w => by simp [zeroValue, typeInfo, hi, hv], by rw [← cstAll_ok h]⟩
    · cases h
  · cases h
def splitK : List Sg → (List Sg → Prop) → Prop
  | [], K => K []
  | g :: l, K => splitK l fun r => K (g :: r)
theorem splitK_ok : ∀ {l : List Sg} {K : List Sg → Prop}, splitK l K → K l := by
  intro l
  induction l with
  | nil => intro K h; exact h
  | cons g l ih => intro K h; exact ih (K := fun r => K (g :: r)) h
/-- A type's zero value. -/
def zeroG (P : Program) (t : TypeId) (K : List Sg → Prop) : Prop :=
  match zsg P 12 t, zeroB P t with
  | some l, some cs => (match beqL SC.zeq (scs l) cs, swfB l with
    | true, true => splitK l K
    | _, _ => False)
  | _, _ => False
theorem zeroG_ok {P : Program} {t : TypeId} {K : List Sg → Prop} (h : zeroG P t K) : ∃ l, K l ∧ swf l ∧ ∃ z, (∀ w, (zeroValue t).run P w = .ok z w) ∧ z.cells = (svals l).toArray := by
  unfold zeroG at h
  split at h
  · rename_i l cs hl hc
    split at h
    · rename_i h1 h2
      obtain ⟨z, hz, he⟩ := zeroB_val hc
      exact ⟨l, splitK_ok h, swfB_ok h2, z, hz, by rw [he, ← beqL_ok SC.zeq_ok h1]; rfl⟩
    · exact h.elim
  · exact h.elim

/-! ### Values out of parts -/
def fillG (place : Nat → Option (Nat × Nat)) (l : List Sg) : List (Nat × BV) → (List Sg → Prop) → Prop
  | [], K => K l
  | (i, v) :: rest, K => (match place i with
    | some (off, size) => (match Nat.beq (slen v.sg) size with
      | true => (match v with
        | .one c => segPut l off c fun r => fillG place r rest K
        | .agg g => segPutA l off g fun r => fillG place r rest K)
      | false => False)
    | none => False)
theorem foldl_over (v : List Value) : ∀ (off j : Nat) (cells : Array Value),
    (v.toArray.zipIdx j).foldl (fun cs (x : Value × Nat) => cs.setIfInBounds (off + x.2) x.1) cells = (over cells.toList (off + j) v).toArray := by
  induction v with
  | nil => intro off j cells; rfl
  | cons x v ih =>
    intro off j cells
    have : ((x :: v).toArray.zipIdx j).toList = (x, j) :: (v.toArray.zipIdx (j + 1)).toList := by simp [List.zipIdx_cons]
    rw [← Array.foldl_toList, this, List.foldl_cons, Array.foldl_toList, ih]
    simp [over, Nat.add_assoc]

theorem fillG_ok {place : Nat → Option (Nat × Nat)} : ∀ {l : List (Nat × BV)} {s : List Sg} {K : List Sg → Prop}, fillG place s l K → swf s → (∀ p ∈ l, p.2.wf) →
    ∃ r, K r ∧ swf r ∧ slen r = slen s ∧ Instr.fill place (svals s).toArray (l.map fun p => (p.1, p.2.val)) = some (svals r).toArray := by
  intro l
  induction l with
  | nil => intro s K h hs _; exact ⟨s, h, hs, rfl, rfl⟩
  | cons p l ih =>
    intro s K h hs hw
    obtain ⟨i, v⟩ := p
    have hv : v.wf := hw _ (List.mem_cons_self ..)
    unfold fillG at h
    split at h
    · rename_i off size hp
      split at h
      · rename_i hb
        have hb := Nat.eq_of_beq_eq_true hb
        have key : ∀ r, swf r → scs r = putL (scs s) off (scs v.sg) → off + slen v.sg ≤ slen s → fillG place r l K →
            ∃ r', K r' ∧ swf r' ∧ slen r' = slen s ∧ Instr.fill place (svals s).toArray (((i, v) :: l).map fun p => (p.1, p.2.val)) = some (svals r').toArray := by
          intro r hr he hle hrest
          obtain ⟨r', hK, h1, h2, h3⟩ := ih hrest hr fun p hp => hw p (List.mem_cons_of_mem _ hp)
          have hrl : slen r = slen s := by
            rw [← scs_len hr, ← scs_len hs, he, putL]
            have := scs_len hv
            have := scs_len hs
            simp only [List.length_append, List.length_take, List.length_drop]; omega
          refine ⟨r', hK, h1, h2.trans hrl, ?_⟩
          simp only [List.map_cons, Instr.fill, hp]
          have hc : v.val.cells = v.cells.toArray := by rw [← BV.val_cells]
          have hcs : v.cells.length = size := by rw [← hb]; exact svals_len hv
          have hsl := svals_len hs
          rw [hc]
          simp only [List.size_toArray, hcs, ne_eq, not_true_eq_false, decide_false, Bool.false_or]
          rw [if_neg (by simp [hsl]; omega)]
          have := foldl_over v.cells off 0 (svals s).toArray
          simp only [Nat.add_zero] at this
          rw [this, ← h3]
          congr 2
          rw [over_put _ _ _ (by simp only [hsl, hcs]; omega)]
          exact (svals_put he).symm
        split at h
        · rename_i c
          obtain ⟨r, hr, h1, h2, h3⟩ := segPut_ok h hs
          exact key r h1 h2 (by show off + 1 ≤ _; omega) hr
        · rename_i g
          obtain ⟨r, hr, h1, h2, h3⟩ := segPutA_ok h hs hv
          exact key r h1 h2 h3 hr
      · exact h.elim
    · exact h.elim

def evParts (T : Tm) : List (Nat × Operand) → Option (List (Nat × BV))
  | [] => some []
  | (i, x) :: l => match evb T x, evParts T l with
    | some v, some r => some ((i, v) :: r)
    | _, _ => none
theorem evParts_ok {C : Ctx} {T : Tm} {a : Act} (h : Fits C T a) : ∀ {l : List (Nat × Operand)} {r : List (Nat × BV)}, evParts T l = some r →
    (l.map fun p => (p.1, a.eval p.2)) = r.map fun p => (p.1, p.2.val) := by
  intro l
  induction l with
  | nil => intro r h; cases h; rfl
  | cons p l ih =>
    intro r hr
    obtain ⟨i, x⟩ := p
    unfold evParts at hr
    split at hr
    · rename_i v r' h1 h2
      cases hr
      simp [evb_ok h h1, ih h2]
    · cases hr

theorem evParts_wf {T : Tm} (h : TWf T) : ∀ {l : List (Nat × Operand)} {r : List (Nat × BV)}, evParts T l = some r → ∀ p ∈ r, p.2.wf := by
  intro l
  induction l with
  | nil => intro r h; cases h; simp
  | cons p l ih =>
    intro r hr
    obtain ⟨i, x⟩ := p
    unfold evParts at hr
    split at hr
    · rename_i v r' h1 h2
      cases hr
      intro p hp
      rcases List.mem_cons.1 hp with rfl | hp
      · exact evb_wfT h h1
      · exact ih h2 p hp
    · cases hr
def pplaces (P : Program) : List Field → Option (List (Nat × Nat))
  | [] => some []
  | f :: l => match sizB P f.type, pplaces P l with
    | some n, some r => some ((f.offset, n) :: r)
    | _, _ => none
theorem pplaces_ok {P : Program} {w : World} : ∀ {l : List Field} {r : List (Nat × Nat)}, pplaces P l = some r →
    (l.mapM (fun f => do pure (f.offset, ← sizeOf f.type) : Field → Sem (Nat × Nat))).run P w = .ok r w := by
  intro l
  induction l with
  | nil => intro r h; cases h; rfl
  | cons f l ih =>
    intro r h
    unfold pplaces at h
    split at h
    · rename_i n r' h1 h2
      cases h
      rw [List.mapM_cons]
      simp only [Sem.run_bind, sizB_run h1, Result.andThen_ok, Sem.run_pure, ih h2]
    · cases h

def qbuild (P : Program) (t : TypeId) (parts : List (Nat × BV)) (K : BV → Prop) : Prop :=
  match P.underlying t with
  | some (.struct fs) => (match pplaces P fs.toList with
    | some ps => zeroG P t fun z => fillG (fun i => lget ps i) z parts fun r => K (.agg r)
    | none => False)
  | some (.array _ e) => (match sizB P e with
    | some sz => zeroG P t fun z => fillG (fun i => some (i * sz, sz)) z parts fun r => K (.agg r)
    | none => False)
  | _ => False
theorem qbuild_ok {P : Program} {t : TypeId} {parts : List (Nat × BV)} {K : BV → Prop} (h : qbuild P t parts K) (hp : ∀ p ∈ parts, p.2.wf) :
    ∃ v, K v ∧ v.wf ∧ ∀ w (ps : Array (Nat × Value)), ps.toList = (parts.map fun p => (p.1, p.2.val)) → (Instr.build t ps).run P w = .ok v.val w := by
  unfold qbuild at h
  split at h
  · rename_i fs hu
    split at h
    · rename_i pl hpl
      obtain ⟨z, hz, hzw, v, hv, hc⟩ := zeroG_ok h
      obtain ⟨r, hr, hrw, _, he⟩ := fillG_ok hz hzw hp
      refine ⟨_, hr, hrw, fun w ps hps => ?_⟩
      have hm : (fs.mapM (fun f => do pure (f.offset, ← sizeOf f.type) : Field → Sem (Nat × Nat))).run P w = .ok pl.toArray w := by
        have := pplaces_ok (w := w) hpl
        rw [← Array.toArray_toList (xs := fs), List.mapM_toArray, Sem.run_map, this]
        rfl
      have e : (fun i => lget pl i) = fun i => pl.toArray[i]? := by funext i; simp [lget_eq]
      rw [e] at he
      simp only [Instr.build, Sem.run_bind, hv, Result.andThen_ok, Sem.run_pure, run_underlying hu, hm, hc, hps, he]
      rfl
    · exact h.elim
  · rename_i n e hu
    split at h
    · rename_i sz hs
      obtain ⟨z, hz, hzw, v, hv, hc⟩ := zeroG_ok h
      obtain ⟨r, hr, hrw, _, he⟩ := fillG_ok hz hzw hp
      refine ⟨_, hr, hrw, fun w ps hps => ?_⟩
      simp only [Instr.build, Sem.run_bind, hv, Result.andThen_ok, Sem.run_pure, run_underlying hu, sizB_run hs, hc, hps, he]
      rfl
    · exact h.elim
  · exact h.elim

def ev1s (T : Tm) : List Operand → Option (List SC)
  | [] => some []
  | x :: l => match ev1 T x, ev1s T l with
    | some c, some r => some (c :: r)
    | _, _ => none
theorem ev1s_ok {C : Ctx} {T : Tm} {a : Act} (h : Fits C T a) : ∀ {l : List Operand} {r : List SC}, ev1s T l = some r → l.map a.eval = r.map SC.val := by
  intro l
  induction l with
  | nil => intro r h; cases h; rfl
  | cons x l ih =>
    intro r hr
    unfold ev1s at hr
    split at hr
    · rename_i c r' h1 h2
      cases hr
      simp [ev1_ok h h1, ih h2]
    · cases hr

def ptsOf : List SC → Option (List Pt)
  | [] => some []
  | .ptr p :: l => (match ptsOf l with | some r => some (p :: r) | none => none)
  | _ => none
theorem ptsOf_ok : ∀ {l : List SC} {r : List Pt}, ptsOf l = some r → l.map SC.val = r.map Pt.value := by
  intro l
  induction l with
  | nil => intro r h; cases h; rfl
  | cons c l ih =>
    intro r h
    cases c <;> simp only [ptsOf] at h <;> try (cases h; done)
    split at h
    · rename_i r' hr; cases h; simp [SC.val, ih hr]
    · cases h

def qmm (mx : Bool) (k : IntKind) (x : Int) : List SC → (Int → Prop) → Prop
  | [], K => K x
  | .int _ y :: l, K => (match mx with
    | true => qmm mx k (if y > x then y else x) l K
    | false => qmm mx k (if y < x then y else x) l K)
  | _, _ => False
theorem qmax_ok {P : Program} {k : IntKind} : ∀ {l : List SC} {x : Int} {K : Int → Prop}, qmm true k x l K →
    ∃ v, K v ∧ ∀ w, ((l.map SC.val).foldlM Builtin.max2 (.int k x)).run P w = .ok (.int k v) w := by
  intro l
  induction l with
  | nil => intro x K h; exact ⟨x, h, fun w => rfl⟩
  | cons c l ih =>
    intro x K h
    cases c <;> simp only [qmm] at h
    obtain ⟨v, hv, hr⟩ := ih h
    refine ⟨v, hv, fun w => ?_⟩
    simp only [List.map_cons, SC.val, List.foldlM_cons, Builtin.max2, Sem.run_bind, Sem.run_pure, Result.andThen_ok]
    exact hr w
theorem qmin_ok {P : Program} {k : IntKind} : ∀ {l : List SC} {x : Int} {K : Int → Prop}, qmm false k x l K →
    ∃ v, K v ∧ ∀ w, ((l.map SC.val).foldlM Builtin.min2 (.int k x)).run P w = .ok (.int k v) w := by
  intro l
  induction l with
  | nil => intro x K h; exact ⟨x, h, fun w => rfl⟩
  | cons c l ih =>
    intro x K h
    cases c <;> simp only [qmm] at h
    obtain ⟨v, hv, hr⟩ := ih h
    refine ⟨v, hv, fun w => ?_⟩
    simp only [List.map_cons, SC.val, List.foldlM_cons, Builtin.min2, Sem.run_bind, Sem.run_pure, Result.andThen_ok]
    exact hr w

def qlen (P : Program) (H : Heap) (t : TypeId) (x : BV) (K : Int → Prop) : Prop :=
  match P.underlying t, x with
  | some .string, .one (.str s) => K s.length
  | some (.slice _), .one (.lst k x) => lstOf H k x fun _ L => K L.length
  | some (.slice _), .one (.part k x _ lo hi) => lstOf H k x fun _ L => Chk (lo ≤ hi ∧ hi ≤ L.length) (K ((hi - lo : Nat) : Int))
  | some (.slice _), .one (.sl _ _ _ _ _ len _) => K len
  | some (.slice _), .one .nilsl => K 0
  | some (.array n _), _ => K n
  | some (.map _ _), .one .nilmp => K 0
  | _, _ => False
theorem qlen_ok {P : Program} {H : Heap} {t ty : TypeId} {x : BV} {K : Int → Prop} (h : qlen P H t x K) (hw1 : HWf H) : ∃ n, K n ∧ ∀ C w, Rep C H w → (Builtin.len_ #[t] ty #[x.val]).run P w = .ok (.int .i64 n) w := by
  unfold qlen at h
  split at h
  · rename_i s hu
    refine ⟨_, h, fun _ w _ => ?_⟩
    have : (⟨⟨s⟩⟩ : ByteArray).size = s.length := rfl
    simp [Builtin.len_, run_underlying hu, BV.val, SC.val, goInt, this]
  · rename_i e k x hu
    obtain ⟨E, L, hK, _, hI⟩ := lstOf_ok h hw1
    refine ⟨_, hK, fun C w hw => ?_⟩
    have hl := (hI C).len w hw
    cases x with
    | nil => have hl : L = [] := hl; subst hl; simp [Builtin.len_, run_underlying hu, BV.val, SC.val, SV.val, goInt]
    | «at» b o len cap => obtain ⟨rfl, _⟩ := hl; simp [Builtin.len_, run_underlying hu, BV.val, SC.val, SV.val, goInt]
  · rename_i e k x sz lo hi hu
    obtain ⟨E, L, hK, _, hI⟩ := lstOf_ok h hw1
    obtain ⟨⟨h1, h2⟩, hK⟩ := hK
    refine ⟨_, hK, fun C w hw => ?_⟩
    have hl := (hI C).len w hw
    cases x with
    | nil =>
      have hl : L = [] := hl
      subst hl
      have e1 : hi = 0 := by simpa using h2
      subst e1
      simp [Builtin.len_, run_underlying hu, BV.val, SC.val, SV.val, SV.sub, goInt]
    | «at» b o len cap => simp [Builtin.len_, run_underlying hu, BV.val, SC.val, SV.val, SV.sub, goInt]
  · rename_i hu; exact ⟨_, h, fun _ w _ => by simp [Builtin.len_, run_underlying hu, BV.val, SC.val, goInt]⟩
  · rename_i hu; exact ⟨_, h, fun _ w _ => by simp [Builtin.len_, run_underlying hu, BV.val, SC.val, goInt]⟩
  · rename_i hu; exact ⟨_, h, fun _ w _ => by simp [Builtin.len_, run_underlying hu, goInt]⟩
  · rename_i hu; exact ⟨_, h, fun _ w _ => by simp [Builtin.len_, run_underlying hu, BV.val, SC.val, goInt]⟩
  · exact h.elim

/-- All of them. -/
def qop (P : Program) (T : Tm) (H : Heap) (o : Oper) (K : TV → Prop) : Prop :=
  match o.op with
  | .move x => (match ev T x with | some v => K v | none => False)
  | .assign x => (match ev T x with | some v => K v | none => False)
  | .pick c a b => (match ev1 T c, ev T a, ev T b with
    | some (.bool t), some u, some v => Br t (K u) (K v)
    | _, _, _ => False)
  | .load t x => (match ev1 T x with | some c => qload P H t c fun v => K (.b v) | none => False)
  | .nilCheck x => (match ev1 T x with
    | some (.ptr p) => K (.b (.one (.ptr p)))
    | some (.fn (.func f) a b) => K (.b (.one (.fn (.func f) a b)))
    | some (.fn (.yield l) a b) => K (.b (.one (.fn (.yield l) a b)))
    | _ => False)
  | .binOp op t x y _ => (match evb T x, evb T y with
    | some (.one c), some (.one d) => qbin P op t c d fun v => K (.b (.one v))
    | some (.agg l), some (.agg m) => qeq P op t (.agg l) (.agg m) fun r => K (.b (.one (.bool r)))
    | _, _ => False)
  | .unOp op _ x => (match ev1 T x with | some c => qun op c fun v => K (.b (.one v)) | none => False)
  | .convert s d x => (match ev1 T x with | some c => qconv P H s d c fun v => K (.b (.one v)) | none => False)
  | .makeFunc f first caps => (match ev1s T first.toList, ev1s T caps.toList with
    | some a, some b => (match ptsOf a, ptsOf b with
      | some a, some b => K (.b (.one (.fn f a b)))
      | _, _ => False)
    | _, _ => False)
  | .slice t x lo hi none => (match ev1 T x, evo T lo, evo T hi with
    | some c, some l, some h => qslice P H t c l h fun v => K (.b (.one v))
    | _, _, _ => False)
  | .fieldAddr t x f => (match ev1 T x with | some c => qfieldAddr P t c f fun v => K (.b (.one v)) | none => False)
  | .field t x f => (match evb T x with | some v => qfield P t v f fun v => K (.b v) | none => False)
  | .indexAddr t x i => (match ev1 T x, ev1n T i with
    | some c, some n => qindexAddr P H t c n fun v => K (.b (.one v))
    | _, _ => False)
  | .index t x i => (match evb T x, ev1n T i with
    | some v, some n => qindex P t v n fun v => K (.b v)
    | _, _ => False)
  | .extract x i => (match ev T x with
    | some (.tup l) => (match lget l i with | some v => K (.b v) | none => False)
    | _ => False)
  | .build t parts => (match evParts T parts.toList with
    | some ps => qbuild P t ps fun v => K (.b v)
    | none => False)
  | .call c => (match c.callee, c.args.toList, c.argTypes.toList with
    | .builtin .len, [x], [t] => (match evb T x with | some v => qlen P H t v fun n => K (.b (.one (.int .i64 n))) | none => False)
    | .builtin .max, x :: l, _ => (match ev1 T x, ev1s T l with
      | some (.int k n), some cs => qmm true k n cs fun z => K (.b (.one (.int k z)))
      | _, _ => False)
    | .builtin .min, x :: l, _ => (match ev1 T x, ev1s T l with
      | some (.int k n), some cs => qmm false k n cs fun z => K (.b (.one (.int k z)))
      | _, _ => False)
    | _, _, _ => False)
  | _ => False

theorem arr_of {α : Type} {x : Array α} {l : List α} (h : x.toList = l) : x = l.toArray := by rw [← h]
theorem bwf_get : ∀ {l : List BV} {i : Nat} {v : BV}, bwf l → l[i]? = some v → v.wf
  | [], i, v, _, h => by simp at h
  | x :: l, 0, v, hw, h => by simp at h; subst h; exact hw.1
  | x :: l, i + 1, v, hw, h => bwf_get hw.2 (by simpa using h)

theorem qop_ok {P : Program} {T : Tm} {H : Heap} {o : Oper} {K : TV → Prop} (h : qop P T H o K) (hw1 : HWf H) (hT : TWf T) :
    ∃ v, K v ∧ v.wf ∧ ∀ C a w, Fits C T a → Rep C H w → (execOp a.eval o).run P w = .ok (.value v.val) w := by
  unfold qop at h
  split at h
  · rename_i x ho
    split at h
    · rename_i v hv; exact ⟨v, h, ev_wfT hT hv, fun C a w ha hw => by simp [execOp, ho, ev_ok ha hv]⟩
    · exact h.elim
  · rename_i x ho
    split at h
    · rename_i v hv; exact ⟨v, h, ev_wfT hT hv, fun C a w ha hw => by simp [execOp, ho, ev_ok ha hv]⟩
    · exact h.elim
  · rename_i c x y ho
    split at h
    · rename_i t u v hc hx hy
      cases t with
      | true => exact ⟨_, h.t rfl, ev_wfT hT hx, fun C a w ha hw => by have e : a.eval c = Value.bool _ := ev1_ok ha hc; simp [execOp, ho, e, ev_ok ha hx, asBool]⟩
      | false => exact ⟨_, h.f rfl, ev_wfT hT hy, fun C a w ha hw => by have e : a.eval c = Value.bool _ := ev1_ok ha hc; simp [execOp, ho, e, ev_ok ha hy, asBool]⟩
    · exact h.elim
  · rename_i t x ho
    split at h
    · rename_i c hc
      obtain ⟨v, hv, hvw, hr⟩ := qload_ok h hw1
      exact ⟨_, hv, hvw, fun C a w ha hw => by simp only [execOp, ho, ev1_ok ha hc, Sem.run_bind, hr C w hw, Result.andThen_ok, Sem.run_pure]; rfl⟩
    · exact h.elim
  · rename_i x ho
    split at h
    · rename_i p hc; refine ⟨_, h, one_wf _, fun C a w ha hw => ?_⟩; simp [execOp, ho, ev1_ok ha hc, SC.val, Pt.value, TV.val, BV.val]
    · rename_i f A B hc; refine ⟨_, h, one_wf _, fun C a w ha hw => ?_⟩; simp [execOp, ho, ev1_ok ha hc, SC.val, Pt.value, TV.val, BV.val]
    · rename_i f A B hc; refine ⟨_, h, one_wf _, fun C a w ha hw => ?_⟩; simp [execOp, ho, ev1_ok ha hc, SC.val, Pt.value, TV.val, BV.val]
    · exact h.elim
  · rename_i op t x y yt ho
    split at h
    · rename_i c d hc hd
      obtain ⟨v, hv, hr⟩ := qbin_ok h x y
      refine ⟨_, hv, one_wf _, fun C a w ha hw => ?_⟩
      have := hr w
      have e1 : a.eval x = c.val := evb_ok ha hc
      have e2 : a.eval y = d.val := evb_ok ha hd
      simp only [execOp, ho, e1, e2, Sem.run_bind] at this ⊢
      rw [this]; rfl
    · rename_i l m hc hd
      obtain ⟨v, hv, hr⟩ := qeq_ok h (evb_wfT hT hc) (evb_wfT hT hd) x y
      refine ⟨_, hv, one_wf _, fun C a w ha hw => ?_⟩
      have := hr w
      simp only [execOp, ho, evb_ok ha hc, evb_ok ha hd, Sem.run_bind] at this ⊢
      rw [this]; rfl
    · exact h.elim
  · rename_i op t x ho
    split at h
    · rename_i c hc
      obtain ⟨v, hv, hr⟩ := qun_ok (P := P) h
      exact ⟨_, hv, one_wf _, fun C a w ha hw => by simp only [execOp, ho, ev1_ok ha hc, Sem.run_bind, hr, Result.andThen_ok, Sem.run_pure]; rfl⟩
    · exact h.elim
  · rename_i s d x ho
    split at h
    · rename_i c hc
      obtain ⟨v, hv, hr⟩ := qconv_ok h hw1
      exact ⟨_, hv, one_wf _, fun C a w ha hw => by simp only [execOp, ho, ev1_ok ha hc, Sem.run_bind, hr C w hw, Result.andThen_ok, Sem.run_pure]; rfl⟩
    · exact h.elim
  · rename_i f first caps ho
    split at h
    · rename_i A B hA hB
      split at h
      · rename_i A' B' hA' hB'
        refine ⟨_, h, one_wf _, fun C a w ha hw => ?_⟩
        have e1 : first.map a.eval = (A'.map Pt.value).toArray := arr_of (by rw [Array.toList_map, ev1s_ok ha hA, ptsOf_ok hA'])
        have e2 : caps.map a.eval = (B'.map Pt.value).toArray := arr_of (by rw [Array.toList_map, ev1s_ok ha hB, ptsOf_ok hB'])
        simp only [execOp, ho, e1, e2, Instr.makeFunc, Sem.run_bind, Sem.run_pure, Result.andThen_ok]; rfl
      · exact h.elim
    · exact h.elim
  · rename_i t x lo hi ho
    split at h
    · rename_i c l h' hc hl hh
      obtain ⟨v, hv, hr⟩ := qslice_ok h hw1
      refine ⟨_, hv, one_wf _, fun C a w ha hw => ?_⟩
      have key : ∀ {x : Option Operand} {l : Option Int}, evo T x = some l → ∃ k : IntKind, x.map a.eval = l.map (Value.int k) := by
        intro x l hx
        cases x with
        | none => cases hx; exact ⟨.i64, rfl⟩
        | some x =>
          simp only [evo] at hx
          split at hx
          · rename_i n hk; cases hx; obtain ⟨k, hk⟩ := ev1n_ok ha hk; exact ⟨k, by simp [hk]⟩
          · cases hx
      obtain ⟨k1, e1⟩ := key hl
      obtain ⟨k2, e2⟩ := key hh
      simp only [execOp, ho, ev1_ok ha hc, Sem.run_bind, e1, e2, Option.map_none, hr C w _ _ hw, Result.andThen_ok, Sem.run_pure]; rfl
    · exact h.elim
  · rename_i t x f ho
    split at h
    · rename_i c hc
      obtain ⟨v, hv, hr⟩ := qfieldAddr_ok h
      exact ⟨_, hv, one_wf _, fun C a w ha hw => by simp only [execOp, ho, ev1_ok ha hc, Sem.run_bind, hr, Result.andThen_ok, Sem.run_pure]; rfl⟩
    · exact h.elim
  · rename_i t x f ho
    split at h
    · rename_i c hc
      obtain ⟨v, hv, hvw, hr⟩ := qfield_ok h (evb_wfT hT hc)
      exact ⟨_, hv, hvw, fun C a w ha hw => by simp only [execOp, ho, evb_ok ha hc, Sem.run_bind, hr, Result.andThen_ok, Sem.run_pure]; rfl⟩
    · exact h.elim
  · rename_i t x i ho
    split at h
    · rename_i c n hc hn
      obtain ⟨v, hv, hr⟩ := qindexAddr_ok h hw1
      exact ⟨_, hv, one_wf _, fun C a w ha hw => by obtain ⟨k, e⟩ := ev1n_ok ha hn; simp only [execOp, ho, ev1_ok ha hc, e, Sem.run_bind, hr C w k hw, Result.andThen_ok, Sem.run_pure]; rfl⟩
    · exact h.elim
  · rename_i t x i ho
    split at h
    · rename_i c n hc hn
      obtain ⟨v, hv, hvw, hr⟩ := qindex_ok h (evb_wfT hT hc)
      exact ⟨_, hv, hvw, fun C a w ha hw => by obtain ⟨k, e⟩ := ev1n_ok ha hn; simp only [execOp, ho, evb_ok ha hc, e, Sem.run_bind, hr, Result.andThen_ok, Sem.run_pure]; rfl⟩
    · exact h.elim
  · rename_i x i ho
    split at h
    · rename_i l hl
      split at h
      · rename_i v hv
        rw [lget_eq] at hv
        refine ⟨_, h, bwf_get (ev_wfT hT hl) hv, fun C a w ha hw => ?_⟩
        simp [execOp, ho, ev_ok ha hl, TV.val, Instr.extract, hv]
      · exact h.elim
    · exact h.elim
  · rename_i t parts ho
    split at h
    · rename_i ps hps
      obtain ⟨v, hv, hvw, hr⟩ := qbuild_ok h (evParts_wf hT hps)
      refine ⟨_, hv, hvw, fun C a w ha hw => ?_⟩
      have := hr w (parts.map fun (i, x) => (i, a.eval x)) (by rw [Array.toList_map, ← evParts_ok ha hps])
      simp only [execOp, ho, Sem.run_bind, this, Result.andThen_ok, Sem.run_pure]; rfl
    · exact h.elim
  · rename_i c ho
    split at h
    · rename_i x t hc hx ht
      split at h
      · rename_i v hv
        obtain ⟨n, hn, hr⟩ := qlen_ok (ty := o.type) h hw1
        refine ⟨_, hn, one_wf _, fun C a w ha hw => ?_⟩
        have e1 : c.args.map a.eval = #[v.val] := arr_of (by rw [Array.toList_map, hx]; simp [evb_ok ha hv])
        have e2 : c.argTypes = #[t] := arr_of ht
        simp only [execOp, ho, resolve, hc, e1, e2, Sem.run_bind, Sem.run_pure, Result.andThen_ok, invoke, builtin, hr C w hw]; rfl
      · exact h.elim
    · rename_i x l hc hx
      split at h
      · rename_i k n cs hk hcs
        obtain ⟨z, hz, hr⟩ := qmax_ok (P := P) h
        refine ⟨_, hz, one_wf _, fun C a w ha hw => ?_⟩
        have e1 : c.args.map a.eval = (Value.int k n :: cs.map SC.val).toArray := arr_of (by rw [Array.toList_map, hx, List.map_cons, ev1s_ok ha hcs, ev1_ok ha hk]; rfl)
        simp only [execOp, ho, resolve, hc, e1, Sem.run_bind, Sem.run_pure, Result.andThen_ok, invoke, builtin, Builtin.max_, hr]; rfl
      · exact h.elim
    · rename_i x l hc hx
      split at h
      · rename_i k n cs hk hcs
        obtain ⟨z, hz, hr⟩ := qmin_ok (P := P) h
        refine ⟨_, hz, one_wf _, fun C a w ha hw => ?_⟩
        have e1 : c.args.map a.eval = (Value.int k n :: cs.map SC.val).toArray := arr_of (by rw [Array.toList_map, hx, List.map_cons, ev1s_ok ha hcs, ev1_ok ha hk]; rfl)
        simp only [execOp, ho, resolve, hc, e1, Sem.run_bind, Sem.run_pure, Result.andThen_ok, invoke, builtin, Builtin.min_, hr]; rfl
      · exact h.elim
    · exact h.elim
  · exact h.elim
end Go.SY

/- Operations that write or make memory: variables, stores, rows that are made. -/
set_option linter.unusedSimpArgs false
set_option linter.unusedVariables false
namespace Go.SY

def Holds (C : Ctx) (K : Tm → Heap → Prop) (a : Act) (w : World) : Prop := ∃ T H, Fits C T a ∧ Rep C H w ∧ K T H

/-- A value is stored in its slot. -/
def putK (N : Nat) (dst : Option Nat) (v : TV) (T : Tm) (H : Heap) (K : Tm → Heap → Prop) : Prop :=
  match dst with
  | some d => (match Nat.blt d N with | true => K ((d, v) :: T) H | false => False)
  | none => K T H
theorem putK_ok {C : Ctx} {dst : Option Nat} {v : TV} {T : Tm} {H : Heap} {K : Tm → Heap → Prop} {a : Act} {w : World} (h : putK C.N dst v T H K) (hv : v.wf) (ha : Fits C T a) (hw : Rep C H w) :
    Holds C K (a.put dst v.val) w := by
  unfold putK at h
  split at h
  · rename_i d
    split at h
    · rename_i hd; exact ⟨_, _, ha.put hd hv, hw, h⟩
    · exact h.elim
  · exact ⟨_, _, ha, hw, h⟩

theorem var_new {w : World} {T : TypeId} {l : List Sg} (hwf : swf l) : (HB.var T l).Is (w.alloc (.cells (svals l).toArray T)) w.heap.size :=
  ⟨0, 0, heap_alloc_new _ _, .inl (Nat.le_refl _), hwf⟩
theorem Rep.push {C : Ctx} {H : Heap} {w : World} (h : Rep C H w) (k : Nat) {T : TypeId} {l : List Sg} (hwf : swf l) :
    Rep C ((k, w.heap.size, .var T l) :: H) (w.alloc (.cells (svals l).toArray T)) :=
  h.alloc k _ _ (fun _ => Nat.le_refl _) (var_new hwf) rfl rfl rfl (by simp) (fun b hb => heap_alloc_old _ _ hb)
theorem own_new {w : World} {T : TypeId} {E : Enc} {L : List E.α} {post : List Value} {n cap : Nat} (hwf : E.wf L) (hn : n = L.length) (hc : n ≤ cap) (hp : cap * E.sz ≤ (E.vals L).length + post.length) :
    (HB.own T E (.at w.heap.size 0 n cap) L).Is (w.alloc (.cells (E.vals L ++ post).toArray T)) w.heap.size :=
  ⟨hwf, rfl, hn, [], post, 0, 0, heap_alloc_new _ _, .inl (Nat.le_refl _), rfl, hc, hp⟩
theorem Rep.pushOwn {C : Ctx} {H : Heap} {w : World} (h : Rep C H w) (k : Nat) {T : TypeId} {E : Enc} {L : List E.α} {post : List Value} {n cap : Nat} (hwf : E.wf L) (hn : n = L.length) (hc : n ≤ cap) (hp : cap * E.sz ≤ (E.vals L).length + post.length) :
    Rep C ((k, w.heap.size, .own T E (.at w.heap.size 0 n cap) L) :: H) (w.alloc (.cells (E.vals L ++ post).toArray T)) :=
  h.alloc k _ _ (fun _ => Nat.le_refl _) (own_new hwf hn hc hp) rfl rfl rfl (by simp) (fun b hb => heap_alloc_old _ _ hb)

/-! ### A store -/
def mstore (P : Program) (H : Heap) (t : TypeId) (x : SC) (v : BV) (K : Heap → Prop) : Prop :=
  match x, sizB P t with
  | .ptr ⟨key, b, off⟩, some n => (match hget H key with
    | some (b', hb) => Chk (b = b') (match Nat.beq (slen v.sg) n with | true => hb.put off v fun hb' => K ((key, b, hb') :: H) | false => False)
    | none => False)
  | _, _ => False
theorem mstore_ok {C : Ctx} {H : Heap} {t : TypeId} {x : SC} {v : BV} {K : Heap → Prop} {w : World} (h : mstore C.P H t x v K) (hv : v.wf) (hw : Rep C H w) :
    ∃ w' H', (Instr.storeAt t x.val v.val).run C.P w = .ok () w' ∧ Rep C H' w' ∧ K H' := by
  unfold mstore at h
  split at h
  · rename_i key b off n hn
    split at h
    · rename_i b' hb hg
      obtain ⟨rfl, h⟩ := h
      split at h
      · rename_i hb'
        have hb' := Nat.eq_of_beq_eq_true hb'
        obtain ⟨hb2, w', hK, hr, ho, hi, hrun, e1, e2, e3, e4, e5⟩ := HB.put_ok (P := C.P) (t := t) h (hw.is _ _ _ hg) hv (by rw [hn, BV.cells, svals_len hv, hb'])
        refine ⟨w', _, ?_, hw.write hg hr ho hi e1 e2 e3 (by omega) (fun c _ hc => e5 c hc), hK⟩
        simp only [Instr.storeAt, Instr.sureAddr, SC.val, Pt.value, Pt.addr, Sem.run_bind, Sem.run_pure, Result.andThen_ok, hrun]
      · exact h.elim
    · exact h.elim
  · exact h.elim

/-! ### What the elements of a slice are -/
def encOf (R : Pr) (e : TypeId) : Option Enc :=
  match R.P.underlying e with
  | some (.int .u8) => some (.sc .u8)
  | some (.int .u32) => some (.sc .u32)
  | some (.int .u64) => some (.sc .u64)
  | some (.int k) => some (.sc (.int k))
  | some .string => some (.sc .str)
  | some .bool => some (.sc .bool)
  | _ => R.E e
def bytB (P : Program) (t : TypeId) : Option Nat :=
  match P.info? t with
  | some i => some i.bytes
  | none => none
/-- An element's type: its encoding, its zero. -/
def elemK (R : Pr) (e : TypeId) (K : (E : Enc) → E.α → Prop) : Prop :=
  match encOf R e with
  | some E => zeroG R.P e fun z => (match E.dec z, sizB R.P e with
    | some z, some sz => (match Nat.beq sz E.sz with | true => K E z | false => False)
    | _, _ => False)
  | none => False
structure ElemOk (P : Program) (e : TypeId) (E : Enc) (z : E.α) : Prop where
  zero : ∃ v, (∀ w, (zeroValue e).run P w = .ok v w) ∧ v.cells = (svals (E.enc z)).toArray
  wf : swf (E.enc z)
  size : sizB P e = some E.sz
theorem elemK_ok {R : Pr} {e : TypeId} {K : (E : Enc) → E.α → Prop} (h : elemK R e K) : ∃ (E : Enc) (z : E.α), K E z ∧ ElemOk R.P e E z := by
  unfold elemK at h
  split at h
  · rename_i E hE
    obtain ⟨l, hl, hw, v, hv, hc⟩ := zeroG_ok h
    split at hl
    · rename_i z sz hz hs
      split at hl
      · rename_i hb
        have hb := Nat.eq_of_beq_eq_true hb
        have he := E.decOk _ _ hz
        exact ⟨E, z, hl, ⟨v, hv, by rw [hc, he]⟩, by rw [he]; exact hw, by rw [hs, hb]⟩
      · exact hl.elim
    · exact hl.elim
  · exact h.elim
theorem zeros_of {E : Enc} {z : E.α} (hz : swf (E.enc z)) (n : Nat) : Builtin.zeroCells (svals (E.enc z)).toArray n = (E.vals (List.replicate n z)).toArray := by
  have hwf : E.wf (List.replicate n z) := fun x hx => by rw [(List.mem_replicate.1 hx).2]; exact hz
  have hlen : (E.vals (List.replicate n z)).length = n * E.sz := by rw [E.vals_len hwf]; simp
  have hzl : (svals (E.enc z)).length = E.sz := by rw [svals_len hz, E.len]
  apply Array.ext
  · simp only [Builtin.zeroCells, Array.size_map, Array.size_range, List.size_toArray, hzl, hlen]
  · intro i h1 h2
    have hi : i < n * E.sz := by simpa [hlen] using h2
    have hpos : 0 < E.sz := by
      rcases Nat.eq_zero_or_pos E.sz with h | h
      · rw [h] at hi; simp at hi
      · exact h
    have hm : i % E.sz < E.sz := Nat.mod_lt _ hpos
    have hd : i / E.sz < n := (Nat.div_lt_iff_lt_mul hpos).2 hi
    have hg := E.vals_get hwf (i := i / E.sz) (j := i % E.sz) (by simpa using hd) hm
    rw [show i / E.sz * E.sz + i % E.sz = i by rw [Nat.mul_comm]; exact Nat.div_add_mod i E.sz] at hg
    have hgd : (List.replicate n z).getD (i / E.sz) E.dflt = z := by simp [List.getD_eq_getElem?_getD, hd]
    rw [hgd] at hg
    have e2 : (E.vals (List.replicate n z)).toArray[i] = (svals (E.enc z))[i % E.sz]'(by rw [hzl]; exact hm) := by
      rw [List.getElem?_eq_getElem (by rw [hlen]; exact hi), List.getElem?_eq_getElem (by rw [hzl]; exact hm)] at hg
      simpa using hg
    rw [e2]
    have hm2 : i % (svals (E.enc z)).length < (svals (E.enc z)).length := by rw [hzl]; exact hm
    simp [Builtin.zeroCells, hzl, hm]
theorem range_zeros {E : Enc} {z : E.α} {v : Value} (hz : swf (E.enc z)) (hv : v.cells = (svals (E.enc z)).toArray) (n : Nat) :
    ((Array.range (n * E.sz)).map fun i => v.cells[i % v.cells.size]!) = (E.vals (List.replicate n z)).toArray := by
  have h := zeros_of hz n
  have hzl : (svals (E.enc z)).length = E.sz := by rw [svals_len hz, E.len]
  rw [hv, ← h]
  simp only [Builtin.zeroCells, List.size_toArray, hzl]

/-- The elements that a slice is made of, in their order. -/
def decAll (E : Enc) : Nat → List (Nat × BV) → Option (List E.α)
  | _, [] => some []
  | i, (j, v) :: l => (match Nat.beq i j, E.dec v.sg, decAll E (i + 1) l with
    | true, some x, some r => some (x :: r)
    | _, _, _ => none)
theorem fill_all {E : Enc} : ∀ {l : List (Nat × BV)} {i : Nat} {L : List E.α} {done rest : List Value}, decAll E i l = some L → (∀ p ∈ l, p.2.wf) → done.length = i * E.sz → rest.length = l.length * E.sz →
    Instr.fill (fun i => some (i * E.sz, E.sz)) (done ++ rest).toArray (l.map fun p => (p.1, p.2.val)) = some (done ++ E.vals L).toArray ∧ E.wf L ∧ L.length = l.length := by
  intro l
  induction l with
  | nil =>
    intro i L done rest h _ _ hr
    cases h
    have : rest = [] := List.eq_nil_of_length_eq_zero (by simpa using hr)
    subst this
    exact ⟨rfl, (by intro x hx; cases hx), rfl⟩
  | cons p l ih =>
    intro i L done rest h hw hd hr
    obtain ⟨j, v⟩ := p
    unfold decAll at h
    split at h
    · rename_i x r hb hx hrr
      have hb := Nat.eq_of_beq_eq_true hb
      subst hb
      cases h
      have he := E.decOk _ _ hx
      have hv : v.wf := hw _ (List.mem_cons_self ..)
      have hvl : v.cells.length = E.sz := by rw [BV.cells, svals_len hv, ← he, E.len]
      have hwx : swf (E.enc x) := by rw [he]; exact hv
      have hc : v.val.cells = v.cells.toArray := by rw [← BV.val_cells]
      have hrl : rest.length = E.sz + l.length * E.sz := by rw [hr, List.length_cons, Nat.succ_mul]; omega
      have hov : over (done ++ rest) (i * E.sz) v.cells = (done ++ v.cells) ++ rest.drop E.sz := by
        rw [← hd, over_append _ _ _ (by omega), hvl]
      obtain ⟨h1, h2, h3⟩ := ih (done := done ++ v.cells) (rest := rest.drop E.sz) hrr (fun p hp => hw p (List.mem_cons_of_mem _ hp)) (by simp [hd, hvl, Nat.succ_mul]) (by simp; omega)
      refine ⟨?_, ?_, by simp [h3]⟩
      · simp only [List.map_cons, Instr.fill, hc, List.size_toArray, hvl, ne_eq, not_true_eq_false, decide_false, Bool.false_or]
        rw [if_neg (by simp [hd]; omega)]
        have := foldl_over v.cells (i * E.sz) 0 (done ++ rest).toArray
        simp only [Nat.add_zero] at this
        rw [this, hov, h1]
        have : E.vals (x :: r) = v.cells ++ E.vals r := by simp [Enc.vals, he, BV.cells]
        rw [this, List.append_assoc]
      · intro y hy
        rcases List.mem_cons.1 hy with rfl | hy
        · exact hwx
        · exact h2 y hy
    · cases h

def mbuildSlice (R : Pr) (t : TypeId) (len : Nat) (parts : List (Nat × BV)) (K : TypeId → (E : Enc) → List E.α → Prop) : Prop :=
  match R.P.underlying t with
  | some (.slice e) => elemK R e fun E z => (match decAll E 0 parts, Nat.beq (llen parts) len, Nat.ble (len * E.sz) 16777216 with
    | some L, true, true => K e E L
    | _, _, _ => False)
  | _ => False
theorem mbuildSlice_ok {R : Pr} {t : TypeId} {len : Nat} {parts : List (Nat × BV)} {K : TypeId → (E : Enc) → List E.α → Prop} (h : mbuildSlice R t len parts K) (hp : ∀ p ∈ parts, p.2.wf) :
    ∃ (e : TypeId) (E : Enc) (L : List E.α), K e E L ∧ E.wf L ∧ L.length = len ∧ ∀ w (ps : Array (Nat × Value)), ps.toList = (parts.map fun p => (p.1, p.2.val)) →
      (Instr.buildSlice t len ps).run R.P w = .ok (.slice (some ⟨w.heap.size, 0, none⟩) len len) (w.alloc (.cells (E.vals L ++ []).toArray e)) := by
  unfold mbuildSlice at h
  split at h
  · rename_i e hu
    obtain ⟨E, z, h, hz⟩ := elemK_ok h
    split at h
    · rename_i L hL hb hle
      have hb := Nat.eq_of_beq_eq_true hb
      rw [llen_eq] at hb
      have hle := Nat.le_of_ble_eq_true hle
      obtain ⟨v, hv, hvc⟩ := hz.zero
      have hwr : E.wf (List.replicate len z) := fun x hx => by rw [(List.mem_replicate.1 hx).2]; exact hz.wf
      obtain ⟨h1, h2, h3⟩ := fill_all (E := E) (done := []) (rest := E.vals (List.replicate len z)) hL hp (by simp) (by rw [E.vals_len hwr, hb]; simp)
      refine ⟨e, E, L, h, h2, by rw [h3, hb], fun w ps hps => ?_⟩
      have hgt : ¬ len * E.sz > 2 ^ 24 := by omega
      have hz1 := range_zeros hz.wf hvc len
      have he : Instr.fill (fun i => some (i * E.sz, E.sz)) (E.vals (List.replicate len z)).toArray (parts.map fun p => (p.1, p.2.val)) = some (E.vals L ++ []).toArray := by simpa using h1
      by_cases h0 : len * E.sz = 0
      · have hnil : E.vals (List.replicate len z) = [] := List.eq_nil_of_length_eq_zero (by rw [E.vals_len hwr]; simpa using h0)
        rw [hnil] at he
        have h4 : ¬ (0 : Nat) > 2 ^ 24 := by omega
        have he' : Instr.fill (fun i => some (i * E.sz, E.sz)) #[] (parts.map fun p => (p.1, p.2.val)) = some (E.vals L ++ []).toArray := he
        simp only [Instr.buildSlice, Sem.run_bind, run_underlying hu, Result.andThen_ok, sizB_run hz.size, h0, if_neg h4, if_true, Sem.run_pure, hps, Array.range_zero', Array.map_empty, he', newRow, run_newObj]
        rfl
      · simp only [Instr.buildSlice, Sem.run_bind, run_underlying hu, Result.andThen_ok, sizB_run hz.size, if_neg h0, if_neg hgt, Sem.run_pure, hv, hz1, hps, he, newRow, run_newObj]
        rfl
    · exact h.elim
  · exact h.elim

def mmake (R : Pr) (t : TypeId) (l c : Int) (K : TypeId → (E : Enc) → List E.α → Prop) : Prop :=
  match R.P.underlying t with
  | some (.slice e) => elemK R e fun E z => (match bytB R.P e with
    | some bytes => Chk (0 ≤ l ∧ l ≤ c ∧ bytes * c ≤ 281474976710656 ∧ c < 9223372036854775808) (K e E (List.replicate l.toNat z))
    | none => False)
  | _ => False
theorem mmake_ok {R : Pr} {t : TypeId} {l c : Int} {K : TypeId → (E : Enc) → List E.α → Prop} (h : mmake R t l c K) :
    ∃ (e : TypeId) (E : Enc) (L : List E.α) (post : List Value), K e E L ∧ E.wf L ∧ L.length = l.toNat ∧ l.toNat ≤ c.toNat ∧ c.toNat * E.sz ≤ (E.vals L).length + post.length ∧ ∀ w (k1 k2 : IntKind),
      (Instr.makeSlice t (.int k1 l) (.int k2 c)).run R.P w = .ok (.slice (some ⟨w.heap.size, 0, none⟩) l.toNat c.toNat) (w.alloc (.cells (E.vals L ++ post).toArray e)) := by
  unfold mmake at h
  split at h
  · rename_i e hu
    obtain ⟨E, z, h, hz⟩ := elemK_ok h
    split at h
    · rename_i bytes hb
      obtain ⟨⟨h1, h2, h3, h4⟩, h⟩ := h
      obtain ⟨i, hi, hib⟩ : ∃ i, R.P.info? e = some i ∧ i.bytes = bytes := by
        unfold bytB at hb; split at hb
        · rename_i i hi; exact ⟨i, hi, by cases hb; rfl⟩
        · cases hb
      have hwr : ∀ n, E.wf (List.replicate n z) := fun n x hx => by rw [(List.mem_replicate.1 hx).2]; exact hz.wf
      refine ⟨e, E, _, E.vals (List.replicate (c.toNat - l.toNat) z), h, hwr _, by simp, by omega, ?_, fun w k1 k2 => ?_⟩
      · rw [E.vals_len (hwr _), E.vals_len (hwr _), ← Nat.add_mul]
        simp only [List.length_replicate]
        exact Nat.mul_le_mul_right _ (by omega)
      · have hti : ∀ w, (typeInfo e).run R.P w = .ok i w := fun w => by simp [typeInfo, hi]
        have w1 : IntKind.i64.wrap l = l := IntWalk.i64_in _ (by omega)
        have w2 : IntKind.i64.wrap c = c := IntWalk.i64_in _ (by omega)
        have n1 : (decide (c < 0) || decide ((i.bytes : Int) * c > 2 ^ 48)) = false := by
          rw [hib]; simp; omega
        have n2 : decide (l < 0) = false := by simp; omega
        have n3 : decide (l > c) = false := by simp; omega
        obtain ⟨v, hv, hvc⟩ := hz.zero
        have hz1 := range_zeros hz.wf hvc c.toNat
        have hsplit : E.vals (List.replicate l.toNat z) ++ E.vals (List.replicate (c.toNat - l.toNat) z) = E.vals (List.replicate c.toNat z) := by
          rw [← E.vals_append, List.replicate_append_replicate, show l.toNat + (c.toNat - l.toNat) = c.toNat by omega]
        rw [hsplit]
        by_cases h0 : c.toNat * E.sz = 0
        · have hnil : E.vals (List.replicate c.toNat z) = [] := List.eq_nil_of_length_eq_zero (by rw [E.vals_len (hwr _)]; simpa using h0)
          rw [hnil]
          simp only [Instr.makeSlice, Sem.run_bind, run_underlying hu, Result.andThen_ok, asInt, asIntOf, Sem.run_pure, hti, w1, w2, n1, n2, n3, Bool.or_self, Bool.false_eq_true, if_false, run_askRoom, sizB_run hz.size, h0, if_true, Array.range_zero', Array.map_empty, newRow, run_newObj]
          rfl
        · simp only [Instr.makeSlice, Sem.run_bind, run_underlying hu, Result.andThen_ok, asInt, asIntOf, Sem.run_pure, hti, w1, w2, n1, n2, n3, Bool.or_self, Bool.false_eq_true, if_false, run_askRoom, sizB_run hz.size, if_neg h0, hv, hz1, newRow, run_newObj]
          rfl
    · exact h.elim
  · exact h.elim

/-- '[]byte(s)'. -/
def mbytes (P : Program) (s d : TypeId) (x : SC) (K : TypeId → List UInt8 → Prop) : Prop :=
  match P.underlying s, P.underlying d, x with
  | some .string, some (.slice e), .str l => (match P.underlying e with
    | some (.int .u8) => K e l
    | _ => False)
  | _, _, _ => False
theorem mbytes_ok {C : Ctx} {H : Heap} {s d : TypeId} {x : SC} {K : TypeId → List UInt8 → Prop} (h : mbytes C.P s d x K) (key : Nat) {w : World} (hw : Rep C H w) :
    ∃ e l, K e l ∧ ∃ (y : SV) (w' : World), (convert s d x.val).run C.P w = .ok y.val w' ∧ Rep C ((key, y.blk, .own e (.sc .u8) y l) :: H) w' := by
  unfold mbytes at h
  split at h
  · rename_i e l hs hd
    split at h
    · rename_i he
      refine ⟨e, l, h, ?_⟩
      have hr := Lib.run_convert_string_bytes (P := C.P) w s d e ⟨⟨l⟩⟩ hs hd he
      have hsz : (⟨⟨l⟩⟩ : ByteArray).size = l.length := rfl
      rw [hsz] at hr
      have hge : l.length ≤ grownCap w l.length 0 e := by unfold grownCap; simp only [Question.cut]; omega
      refine ⟨.at w.heap.size 0 l.length (grownCap w l.length 0 e), Lib.bytesWorld w e ⟨⟨l⟩⟩, hr, ?_⟩
      have hcells : Lib.bytesCells w e ⟨⟨l⟩⟩ = ((Enc.sc .u8).vals l ++ (List.replicate (grownCap w l.length 0 e - l.length) (Value.int .u8 0))).toArray := by
        rw [u8_vals]
        simp [Lib.bytesCells, hsz, Function.comp_def]
      have hnew := Lib.bytesWorld_at_new w e ⟨⟨l⟩⟩
      rw [hcells] at hnew
      have hvl : ((Enc.sc .u8).vals l).length = l.length := by rw [u8_vals]; simp
      refine hw.alloc key _ _ (fun _ => Nat.le_refl _) ⟨w8_wf l, rfl, rfl, [], _, _, _, hnew, .inr (by simp [hvl]), rfl, hge, ?_⟩ rfl rfl rfl (by rw [Lib.bytesWorld_size]; omega) (fun b hb => Lib.bytesWorld_at_old w e _ b hb)
      rw [hvl]; simp [Enc.sz]; omega
    · exact h.elim
  · exact h.elim
end Go.SY

/- 'append' and 'copy'. -/
set_option linter.unusedSimpArgs false
set_option linter.unusedVariables false
namespace Go.SY

def growCap (need cap : Nat) : Nat := Builtin.nextslicecap need cap
theorem growBy_le (n : Nat) : ∀ (r c : Nat), c ≤ n + (n + 768) / 4 → Builtin.growBy n r c ≤ n + (n + 768) / 4 := by
  intro r
  induction r with
  | zero => intro c h; simpa [Builtin.growBy] using h
  | succ r ih =>
    intro c h
    unfold Builtin.growBy
    split
    · exact h
    · exact ih _ (by omega)
theorem growCap_le {need cap : Nat} (h : cap < need) : Builtin.nextslicecap need cap ≤ 2 * need + 192 := by
  unfold Builtin.nextslicecap
  split
  · omega
  · split
    · omega
    · have := growBy_le need 4 cap (by omega)
      omega

structure AppT (P : Program) (st xt e : TypeId) (size bytes : Nat) : Prop where
  st : P.underlying st = some (.slice e)
  xt : (∃ e', P.underlying xt = some (.slice e')) ∨ P.underlying xt = some .string
  info : ∃ i, P.info? e = some i ∧ i.size = size ∧ i.bytes = bytes

theorem zeroCells_len (z : Array Value) (n : Nat) : (Builtin.zeroCells z n).size = n * z.size := by simp [Builtin.zeroCells]

theorem run_append_in {P : Program} {st xt ty e : TypeId} {size bytes n : Nat} (ht : AppT P st xt e size bytes) {w w' : World} {base : Option Addr} {len cap : Nat} {x : Value}
    (hn : (Builtin.lenOf x).run P w = .ok n w) {new : Array Value} (hf : (Builtin.firstCells size n x).run P w = .ok new w) (hle : len + n ≤ cap)
    (hs : (match base with | some a => storeCells (a.add (len * size)) new.toList | none => pure () : Sem Unit).run P w = .ok () w') :
    (Builtin.append_ #[st, xt] ty #[.slice base len cap, x]).run P w = .ok (.slice base (len + n) cap) w' := by
  obtain ⟨hst, hxt, i, hi, rfl, rfl⟩ := ht
  have hsz : (sizeOf e).run P w = .ok i.size w := sizeOf_run hi
  rcases hxt with ⟨e', hd⟩ | hd <;> cases base
  all_goals first
    | (simp only [Sem.run_pure, Result.ok.injEq, true_and] at hs
       subst hs
       simp [Builtin.append_, run_underlying hst, run_underlying hd, hsz, hn, hle, hf]; done)
    | (simp [Builtin.append_, run_underlying hst, run_underlying hd, hsz, hn, hle, hf, hs]; done)

theorem run_append_new {P : Program} {st xt ty e : TypeId} {size bytes n : Nat} (ht : AppT P st xt e size bytes) {w : World} {base : Option Addr} {len cap : Nat} {x : Value}
    (hn : (Builtin.lenOf x).run P w = .ok n w) {new old : Array Value} (hf : ∀ w' : World, w' = { w with drawn := w.drawn + 1 } → (Builtin.firstCells size n x).run P w' = .ok new w')
    (ho : ∀ w' : World, w' = { w with drawn := w.drawn + 1 } → (Builtin.firstCells size len (.slice base len cap)).run P w' = .ok old w')
    (hgt : cap < len + n) (hb : (2 * (len + n) + 192) * bytes ≤ 281474976710656) (hi64 : len + n < 9223372036854775808) {z : Value} (hz : ∀ w, (zeroValue e).run P w = .ok z w) (hb0 : bytes ≠ 0) :
    ∃ c, len + n ≤ c ∧ (Builtin.append_ #[st, xt] ty #[.slice base len cap, x]).run P w =
      .ok (.slice (some ⟨w.heap.size, 0, none⟩) (len + n) c) (({ w with drawn := w.drawn + 1 } : World).alloc (.cells (old ++ new ++ Builtin.zeroCells z.cells (c - (len + n))) e)) := by
  obtain ⟨hst, hxt, i, hi, rfl, rfl⟩ := ht
  have hsz : (sizeOf e).run P w = .ok i.size w := sizeOf_run hi
  have hti : ∀ w, (typeInfo e).run P w = .ok i w := fun w => by simp [typeInfo, hi]
  have hcap : Builtin.nextslicecap (len + n) cap * i.bytes ≤ 2 ^ 48 := by
    have h1 := Nat.mul_le_mul_right i.bytes (growCap_le hgt)
    omega
  refine ⟨len + n + w.tape w.drawn (.appendCap (len + n) cap e) % (2 ^ 63 - (len + n)), by omega, ?_⟩
  have hns : ¬ len + n ≤ cap := by omega
  have hc2 : ¬ Builtin.nextslicecap (len + n) cap * i.bytes > 2 ^ 48 := by omega
  rcases hxt with ⟨e', hd⟩ | hd
  all_goals
    simp only [Builtin.append_, List.getElem?_toArray, List.getElem?_cons_zero, List.getElem?_cons_succ, Sem.run_bind, run_underlying hst, Result.andThen_ok, hsz, Sem.run_pure, run_underlying hd, Bool.false_eq_true, if_false,
      hn, if_neg hns, hti, hb0, or_self, and_false, if_neg hc2, run_choose, Question.forced, Question.cut, run_askRoom, ho _ rfl, hf _ rfl, Bool.not_false, if_true, hz, newRow, run_newObj]
    rfl

/-- The same elements, of the same kind. -/
structure Same {E' : Enc} (L : List E'.α) (E : Enc) (K : List E.α → Prop) : Prop where
  go : ∃ h : E' = E, K (h ▸ L)
theorem Same.rfl {E : Enc} {L : List E.α} {K : List E.α → Prop} (h : K L) : Same L E K := ⟨_root_.rfl, h⟩

/-- What an append puts behind. -/
def srcK (H : Heap) (E : Enc) (x : SC) (K : List E.α → Prop) : Prop :=
  match x with
  | .nilsl => K []
  | .str s => (match E, K with | .sc .u8, K => K s | _, _ => False)
  | .lst k x => lstOf H k x fun _ L => Same L E K
  | .part k x sz lo hi => lstOf H k x fun E' L => (match Nat.beq sz E'.sz with
    | true => Chk (lo ≤ hi ∧ hi ≤ L.length) (Same ((L.take hi).drop lo) E K)
    | false => False)
  | .sl .. => (match E, K with | .sc .u8, K => bytesIn H x K | _, _ => False)
  | _ => False
def Src (C : Ctx) (H : Heap) (x : SC) (size n : Nat) (vs : List Value) : Prop :=
  ∀ w, Rep C H w → (Builtin.lenOf x.val).run C.P w = .ok n w ∧ ∀ m, m ≤ n → (Builtin.firstCells size m x.val).run C.P w = .ok (vs.take (m * size)).toArray w
theorem Cells.src {C : Ctx} {H : Heap} {x : SC} {sz n : Nat} {vs : List Value} (h : Cells C H x sz n vs) : Src C H x sz n vs := fun w hw => by
  obtain ⟨hl, h⟩ := h w hw
  rcases h with ⟨cap, e, rfl⟩ | ⟨b, o, cap, e, hc⟩
  · rw [e]
    refine ⟨by simp [Builtin.lenOf], fun m hm => ?_⟩
    have : m = 0 := by omega
    subst this
    simp [Builtin.firstCells]
  · rw [e]
    refine ⟨by simp [Builtin.lenOf], fun m hm => ?_⟩
    simp only [Builtin.firstCells]
    have hb : m * sz ≤ n * sz := Nat.mul_le_mul_right _ hm
    refine run_loadCells (by rw [List.length_take, hl]; omega) fun j v hv => hc j v ?_
    rw [List.getElem?_take] at hv
    split at hv
    · exact hv
    · cases hv
theorem srcK_ok {H : Heap} {E : Enc} {x : SC} {K : List E.α → Prop} (h : srcK H E x K) (hw1 : HWf H) : ∃ L : List E.α, K L ∧ E.wf L ∧ ∀ C, Src C H x E.sz L.length (E.vals L) := by
  unfold srcK at h
  split at h
  · exact ⟨[], h, (by intro x hx; cases hx), fun C => Cells.src (fun w hw => ⟨by simp [Enc.vals], .inl ⟨0, rfl, rfl⟩⟩)⟩
  · rename_i s
    split at h
    · rename_i K
      refine ⟨s, h, w8_wf s, fun C w hw => ⟨by simp [SC.val, Builtin.lenOf, ByteArray.size], fun m hm => ?_⟩⟩
      rw [u8_vals]
      simp only [SC.val, Builtin.firstCells, extract_str, Sem.run_pure, List.drop_zero]
      congr 1
      simp [List.map_take, Function.comp_def, Enc.sz]
    · exact h.elim
  · rename_i k x
    obtain ⟨E', L, ⟨rfl, h⟩, hwL, hI⟩ := lstOf_ok h hw1
    exact ⟨L, h, hwL, fun C => (Cells.of (hI C) hwL).src⟩
  · rename_i k x sz lo hi
    have h0 := h
    clear h
    obtain ⟨E', L, h, hwL, hI⟩ := lstOf_ok h0 hw1
    clear h0
    split at h
    · rename_i hb
      have hb := Nat.eq_of_beq_eq_true hb
      subst hb
      obtain ⟨⟨h1, h2⟩, ⟨rfl, h⟩⟩ := h
      refine ⟨_, h, Enc.wf_sub hwL fun y hy => List.mem_of_mem_take (List.mem_of_mem_drop hy), fun C => ?_⟩
      have := Cells.ofPart (hI C) hwL h1 h2
      have e : ((L.take hi).drop lo).length = hi - lo := by simp; omega
      show Src C H _ _ ((L.take hi).drop lo).length (E'.vals ((L.take hi).drop lo))
      rw [e]
      exact this.src
    · exact h.elim
  · split at h
    · obtain ⟨L, hL, hc⟩ := bytesIn_ok h hw1
      refine ⟨L, hL, w8_wf L, fun C => ?_⟩
      rw [u8_vals]
      exact (hc C).src
    · exact h.elim
  · exact h.elim

def appOk (bytes n : Nat) : Prop := (2 * n + 192) * bytes ≤ 281474976710656 ∧ n < 9223372036854775808
def mappend (R : Pr) (N d : Nat) (T : Tm) (H : Heap) (e : TypeId) (bytes : Nat) (s x : SC) (K : Tm → Heap → Prop) : Prop :=
  match s with
  | .nilsl => elemK R e fun E _ => srcK H E x fun new => Chk ((2 * new.length + 192) * bytes ≤ 281474976710656 ∧ new.length < 9223372036854775808) (New fun y : SV => (match Nat.blt d N with
      | true => K ((d, .b (.one (.lst d y))) :: T) ((d, y.blk, .own e E y new) :: H)
      | false => False))
  | .lst k z => (match hget H k with
    | some (_, .own e' E z' L) => Chk (z = z' ∧ e' = e) (elemK R e fun E' _ => srcK H E x fun new => Same L E' fun _ => Chk ((2 * (L.length + new.length) + 192) * bytes ≤ 281474976710656 ∧ L.length + new.length < 9223372036854775808) (New fun y : SV => (match Nat.blt d N with
      | true => K ((d, .b (.one (.lst k y))) :: T) ((k, y.blk, .own e E y (L ++ new)) :: hdel H k)
      | false => False)))
    | _ => False)
  | _ => False

theorem SV.val_at (b o len cap : Nat) : (SC.lst 0 (.at b o len cap)).val = .slice (some ⟨b, o, none⟩) len cap := rfl

theorem run_append_grow {C : Ctx} {H : Heap} {w : World} {st xt ty e : TypeId} {bytes : Nat} {E : Enc} (ht : AppT C.P st xt e E.sz bytes) (hb0 : bytes ≠ 0) {x : SC} {new : List E.α} (hnw : E.wf new)
    (hsrc : Src C H x E.sz new.length (E.vals new)) {base : Option Addr} {len cap : Nat} {old : List E.α} (how : E.wf old) (hol : old.length = len)
    (ho : ∀ w, Rep C H w → (Builtin.firstCells E.sz len (.slice base len cap)).run C.P w = .ok (E.vals old).toArray w)
    (hgt : cap < len + new.length) (hb : (2 * (len + new.length) + 192) * bytes ≤ 281474976710656) (hi64 : len + new.length < 9223372036854775808) {z : E.α} (hz : ElemOk C.P e E z) (hw : Rep C H w) (k : Nat) :
    ∃ (y : SV) (w' : World), (Builtin.append_ #[st, xt] ty #[.slice base len cap, x.val]).run C.P w = .ok y.val w' ∧ Rep C ((k, y.blk, .own e E y (old ++ new)) :: H) w' := by
  obtain ⟨v, hv, hvc⟩ := hz.zero
  have hd : Rep C H { w with drawn := w.drawn + 1 } := hw.drew _
  have htk : (E.vals new).take (new.length * E.sz) = E.vals new := List.take_of_length_le (by rw [E.vals_len hnw]; exact Nat.le_refl _)
  obtain ⟨c, hc, hr⟩ := run_append_new (ty := ty) ht (hsrc w hw).1 (fun w' e => (hsrc w' (by subst e; exact hd)).2 _ (Nat.le_refl _)) (fun w' e => ho w' (by subst e; exact hd)) hgt hb hi64 hv hb0
  rw [htk, hvc, zeros_of hz.wf] at hr
  have hcells : (E.vals old).toArray ++ (E.vals new).toArray ++ (E.vals (List.replicate (c - (len + new.length)) z)).toArray = (E.vals (old ++ new) ++ E.vals (List.replicate (c - (len + new.length)) z)).toArray := by
    rw [E.vals_append]; simp
  rw [hcells] at hr
  have hwr : E.wf (List.replicate (c - (len + new.length)) z) := fun x hx => by rw [(List.mem_replicate.1 hx).2]; exact hz.wf
  refine ⟨.at w.heap.size 0 (len + new.length) c, _, hr, hd.pushOwn k (Enc.wf_append how hnw) (by simp [hol]) hc ?_⟩
  rw [E.vals_len (Enc.wf_append how hnw), E.vals_len hwr, ← Nat.add_mul]
  simp only [List.length_append, List.length_replicate]
  exact Nat.mul_le_mul_right _ (by omega)

theorem mappend_ok {C : Ctx} {d : Nat} {T : Tm} {H : Heap} {st xt ty e : TypeId} {bytes : Nat} {s x : SC} {K : Tm → Heap → Prop} {a : Act} {w : World}
    (ht : ∀ sz, sizB C.P e = some sz → AppT C.P st xt e sz bytes) (hb0 : bytes ≠ 0) (h : mappend C.R C.N d T H e bytes s x K) (ha : Fits C T a) (hw : Rep C H w) :
    ∃ v w', (Builtin.append_ #[st, xt] ty #[s.val, x.val]).run C.P w = .ok v w' ∧ Holds C K (a.put (some d) v) w' := by
  unfold mappend at h
  split at h
  · obtain ⟨E, z, h, hz⟩ := elemK_ok h
    obtain ⟨new, h, hnw, hsrc⟩ := srcK_ok h hw.hwf
    obtain ⟨⟨hb1, hb2⟩, h⟩ := h
    have hat := ht _ hz.size
    have hfin : ∀ (y : SV) (w' : World), (Builtin.append_ #[st, xt] ty #[SC.nilsl.val, x.val]).run C.P w = .ok y.val w' → Rep C ((d, y.blk, .own e E y new) :: H) w' →
        ∃ v w', (Builtin.append_ #[st, xt] ty #[SC.nilsl.val, x.val]).run C.P w = .ok v w' ∧ Holds C K (a.put (some d) v) w' := by
      intro y w' hr hrep
      have h := h.go y
      split at h
      · rename_i hd
        exact ⟨_, w', hr, _, _, ha.put hd (one_wf (.lst d y)), hrep, h⟩
      · exact h.elim
    by_cases hn0 : new = []
    · subst hn0
      refine hfin .nil w (run_append_in (w' := w) hat ((hsrc C) w hw).1 (((hsrc C) w hw).2 _ (Nat.le_refl _)) (by simp) (by simp)) ?_
      exact hw.alloc d _ _ (fun h => (h rfl).elim) ⟨(by intro x hx; cases hx), rfl⟩ rfl rfl rfl (Nat.le_refl _) (fun _ _ => rfl)
    · have hpos : 0 < new.length := List.length_pos_iff.2 hn0
      obtain ⟨y, w', hr, hrep⟩ := run_append_grow (ty := ty) hat hb0 hnw (hsrc C) (base := none) (len := 0) (cap := 0) (old := []) (by intro x hx; cases hx) rfl (fun w _ => by simp [Builtin.firstCells, Enc.vals]) (by omega) (by simpa using hb1) (by simpa using hb2) hz hw d
      exact hfin y w' hr (by simpa using hrep)
  · rename_i k z
    split at h
    · rename_i b e' E z' L hg
      obtain ⟨⟨rfl, rfl⟩, h⟩ := h
      obtain ⟨E', z0, h, hz⟩ := elemK_ok h
      obtain ⟨new, h, hnw, hsrc⟩ := srcK_ok h hw.hwf
      obtain ⟨⟨rfl, ⟨hb1, hb2⟩, h⟩⟩ := h
      have hat := ht _ hz.size
      have hwL : E.wf L := hw.hwf _ _ _ hg
      have hcell := (LstIs.ofOwn (C := C) hg)
      have hfin : ∀ (y : SV) (w' : World), (Builtin.append_ #[st, xt] ty #[z.val, x.val]).run C.P w = .ok y.val w' → Rep C ((k, y.blk, .own e' E y (L ++ new)) :: hdel H k) w' →
          ∃ v w', (Builtin.append_ #[st, xt] ty #[(SC.lst k z).val, x.val]).run C.P w = .ok v w' ∧ Holds C K (a.put (some d) v) w' := by
        intro y w' hr hrep
        have h := h.go y
        split at h
        · rename_i hd
          exact ⟨_, w', hr, _, _, ha.put hd (one_wf (.lst k y)), hrep, h⟩
        · exact h.elim
      have hgrow : ∀ {base : Option Addr} {cap : Nat}, z.val = .slice base L.length cap → cap < L.length + new.length → (∀ w, Rep C H w → (Builtin.firstCells E.sz L.length (.slice base L.length cap)).run C.P w = .ok (E.vals L).toArray w) →
          ∃ v w', (Builtin.append_ #[st, xt] ty #[(SC.lst k z).val, x.val]).run C.P w = .ok v w' ∧ Holds C K (a.put (some d) v) w' := by
        intro base cap hz1 hgt hold
        obtain ⟨y, w', hr, hrep⟩ := run_append_grow (ty := ty) hat hb0 hnw (hsrc C) (base := base) (len := L.length) (cap := cap) (old := L) hwL rfl hold hgt hb1 hb2 hz hw k
        refine hfin y w' (by rw [hz1]; exact hr) (hrep.sub fun t u hu => ?_)
        rw [hget_cons] at hu ⊢
        split
        · rename_i e; rw [if_pos e] at hu; exact hu
        · rename_i e; rw [if_neg e, hget_del, if_neg e] at hu; exact hu
      have hI := (hw.is _ _ _ hg).2
      cases z with
      | nil =>
        have hI : L = [] := hI
        subst hI
        by_cases hn0 : new = []
        · subst hn0
          refine hfin .nil w (run_append_in (w' := w) hat ((hsrc C) w hw).1 (((hsrc C) w hw).2 _ (Nat.le_refl _)) (by simp) (by simp)) ?_
          exact (hw.del k).alloc k _ _ (fun h => (h rfl).elim) ⟨(by intro x hx; cases hx), rfl⟩ rfl rfl rfl (Nat.le_refl _) (fun _ _ => rfl)
        · have hpos : 0 < new.length := List.length_pos_iff.2 hn0
          exact hgrow (base := none) (cap := 0) rfl (by simpa using hpos) (fun w _ => by simp [Builtin.firstCells, Enc.vals])
      | «at» b' o len cap =>
        obtain ⟨rfl, rfl, pre, post, lo, hi', hh, hf, hp, hlc, hcap⟩ := hI
        have hLv := E.vals_len hwL
        have hNv := E.vals_len hnw
        have htk : (E.vals new).take (new.length * E.sz) = E.vals new := List.take_of_length_le (by rw [hNv]; exact Nat.le_refl _)
        by_cases hle : L.length + new.length ≤ cap
        · have hlt : L.length * E.sz + new.length * E.sz ≤ cap * E.sz := by rw [← Nat.add_mul]; exact Nat.mul_le_mul_right _ hle
          obtain ⟨w', hr, hb, e1, e2, e3, e4, e5⟩ := run_storeCells (P := C.P) (b := b') (o := o + L.length * E.sz) (E.vals new) 0 w (pre ++ E.vals L ++ post)
            (by intro v hv; obtain ⟨x, _, hv⟩ := List.mem_flatMap.1 hv; exact svals_one _ v hv) hh hf (by simp only [List.length_append]; omega)
          have hov : over (pre ++ E.vals L ++ post) (o + L.length * E.sz + 0) (E.vals new) = pre ++ E.vals (L ++ new) ++ post.drop (E.vals new).length := by
            have : o + L.length * E.sz + 0 = (pre ++ E.vals L).length := by simp only [List.length_append, hp, hLv]; omega
            rw [this, over_append _ _ _ (by omega), E.vals_append]; simp
          rw [hov] at hb
          have hlen2 : (pre ++ E.vals (L ++ new) ++ post.drop (E.vals new).length).length = (pre ++ E.vals L ++ post).length := by rw [← hov, over_length]
          have hown : (HB.own e' E (.at b' o (L.length + new.length) cap) (L ++ new)).Is w' b' :=
            ⟨Enc.wf_append hwL hnw, rfl, by simp, pre, post.drop (E.vals new).length, lo, hi', hb, by rw [hlen2]; exact hf, hp, hle, by rw [E.vals_append]; simp only [List.length_append, List.length_drop]; omega⟩
          have hw' := hw.write (hb' := .own e' E (.at b' o (L.length + new.length) cap) (L ++ new)) hg rfl (by intro h; cases h) hown e1 e2 e3 (by omega) (fun c _ hc => e5 c hc)
          refine hfin (.at b' o (L.length + new.length) cap) w' (run_append_in (w' := w') hat ((hsrc C) w hw).1 (((hsrc C) w hw).2 _ (Nat.le_refl _)) hle ?_) (hw'.sub fun t u hu => ?_)
          · rw [htk]
            simp only [add_addr]
            exact hr
          · rw [hget_cons] at hu ⊢
            split
            · rename_i e; rw [if_pos e] at hu; exact hu
            · rename_i e; rw [if_neg e, hget_del, if_neg e] at hu; exact hu
        · refine hgrow rfl (by omega) fun w hw => ?_
          simp only [Builtin.firstCells]
          exact run_loadCells hLv fun j v hv => hcell.cell w hw j v hv
    · exact h.elim
  · exact h.elim

/-! ### 'copy' -/
/-- Scalars put over others in an array. -/
def segOver : List Sg → Nat → Nat → (s : Sk) → List s.α → (List Sg → Prop) → Prop
  | [], _, _, _, _, _ => False
  | .c x :: l, b, i, s, g, K => (match b with | 0 => False | b + 1 => segOver l b i s g fun r => K (.c x :: r))
  | .arr s' m L :: l, b, i, s, g, K => (match b with
    | 0 => if h : s = s' then Chk (i + g.length ≤ m) (K (.arr s' m (L.take i ++ (h ▸ g) ++ L.drop (i + g.length)) :: l)) else False
    | b => (match Nat.ble m b with | true => segOver l (b - m) i s g fun r => K (.arr s' m L :: r) | false => False))
theorem segOver_ok : ∀ {l : List Sg} {b i : Nat} {s : Sk} {g : List s.α} {K : List Sg → Prop}, segOver l b i s g K → swf l → ∃ r, K r ∧ swf r ∧ scs r = putL (scs l) (b + i) (g.map s.enc) ∧ b + i + g.length ≤ slen l := by
  intro l
  induction l with
  | nil => intro b i s g K h; exact h.elim
  | cons x l ih =>
    intro b i s g K h hw
    cases x with
    | c x =>
      cases b with
      | zero => exact h.elim
      | succ b =>
        obtain ⟨r, hr, h1, h2, h3⟩ := ih h hw.2
        exact ⟨_, hr, ⟨trivial, h1⟩, by simp only [scs, Sg.cs, List.singleton_append, show b + 1 + i = (b + i) + 1 by omega, putL_cons, h2], by simp [slen, Sg.len]; omega⟩
    | arr s' m L =>
      have hL : L.length = m := hw.1
      unfold segOver at h
      split at h
      · split at h
        · rename_i e
          subst e
          obtain ⟨hi, h⟩ := h
          refine ⟨_, h, ⟨by simp [Sg.wf, hL]; omega, hw.2⟩, ?_, by simp [slen, Sg.len]; omega⟩
          simp only [scs, Sg.cs, Nat.zero_add, putL, List.map_append, List.map_take, List.map_drop, List.length_map]
          rw [List.take_append_of_le_length (by simp [hL]; omega), List.drop_append_of_le_length (by simp [hL]; omega)]
          simp
        · exact h.elim
      · split at h
        · rename_i hb
          have hb := Nat.le_of_ble_eq_true hb
          obtain ⟨r, hr, h1, h2, h3⟩ := ih h hw.2
          refine ⟨_, hr, ⟨hL, h1⟩, ?_, by simp [slen, Sg.len]; omega⟩
          simp only [scs, Sg.cs, h2]
          rw [putL_app _ _ _ _ (by simp [hL]; omega)]
          simp only [List.length_map, hL]
          congr 2; omega
        · exact h.elim

theorem sc_vals (s : Sk) (L : List s.α) : (Enc.sc s).vals L = (L.map s.enc).map SC.val := by
  induction L with
  | nil => rfl
  | cons x L ih =>
    show _ ++ (Enc.sc s).vals L = _
    rw [ih]; rfl
theorem sc_wf (s : Sk) (L : List s.α) : (Enc.sc s).wf L := fun x _ => ⟨trivial, trivial⟩
/-- The scalars of a slice. -/
def scIn (H : Heap) (s : Sk) (x : SC) (K : List s.α → Prop) : Prop :=
  match x with
  | .nilsl => K []
  | .str t => (match s, K with | .u8, K => K t | _, _ => False)
  | .lst k x => lstOf H k x fun _ L => Same L (.sc s) K
  | .part k x sz lo hi => lstOf H k x fun E' L => (match Nat.beq sz E'.sz with
    | true => Chk (lo ≤ hi ∧ hi ≤ L.length) (Same ((L.take hi).drop lo) (.sc s) K)
    | false => False)
  | .sl k b base o 1 len cap => (match hget H k with
    | some (b', .var _ l) => Chk (b = b') (segTakeEl l base o len fun r => match r with | [.arr s' _ L] => if h : s' = s then K (h ▸ L) else False | _ => False)
    | some (b', .ro l) => Chk (b = b') (segTakeEl l base o len fun r => match r with | [.arr s' _ L] => if h : s' = s then K (h ▸ L) else False | _ => False)
    | _ => False)
  | _ => False
theorem scIn_ok {H : Heap} {s : Sk} {x : SC} {K : List s.α → Prop} (h : scIn H s x K) (hw1 : HWf H) : ∃ L : List s.α, K L ∧ ∀ C, Src C H x 1 L.length ((L.map s.enc).map SC.val) := by
  unfold scIn at h
  split at h
  · exact ⟨[], h, fun C => Cells.src (fun w hw => ⟨by simp, .inl ⟨0, rfl, rfl⟩⟩)⟩
  · rename_i t
    split at h
    · rename_i K
      refine ⟨t, h, fun C w hw => ⟨by simp [SC.val, Builtin.lenOf, ByteArray.size], fun m hm => ?_⟩⟩
      simp only [SC.val, Builtin.firstCells, extract_str, Sem.run_pure, List.drop_zero]
      congr 1
      simp [List.map_take, Function.comp_def, SC.val, Sk.enc]
    · exact h.elim
  · rename_i k x
    obtain ⟨E', L, ⟨rfl, h⟩, hwL, hI⟩ := lstOf_ok h hw1
    refine ⟨L, h, fun C => ?_⟩
    rw [← sc_vals]
    exact (Cells.of (hI C) hwL).src
  · rename_i k x sz lo hi
    have h0 := h
    clear h
    obtain ⟨E', L, h, hwL, hI⟩ := lstOf_ok h0 hw1
    clear h0
    split at h
    · rename_i hb
      have hb := Nat.eq_of_beq_eq_true hb
      subst hb
      obtain ⟨⟨h1, h2⟩, ⟨rfl, h⟩⟩ := h
      refine ⟨_, h, fun C => ?_⟩
      have := Cells.ofPart (hI C) hwL h1 h2
      have e : ((L.take hi).drop lo).length = hi - lo := by simp; omega
      rw [← sc_vals]
      show Src C H _ _ ((L.take hi).drop lo).length ((Enc.sc s).vals ((L.take hi).drop lo))
      rw [e]
      exact this.src
    · exact h.elim
  · rename_i k b base o len cap
    have fin : ∀ {b' : Nat} {l : List Sg} {T : TypeId}, (hget H k = some (b', .var T l) ∨ hget H k = some (b', .ro l)) → b = b' → (segTakeEl l base o len fun r => match r with | [.arr s' _ L] => if h : s' = s then K (h ▸ L) else False | _ => False) → swf l →
        ∃ L : List s.α, K L ∧ ∀ C, Src C H (.sl k b base o 1 len cap) 1 L.length ((L.map s.enc).map SC.val) := by
      intro b' l T hg hb h hwl
      obtain ⟨r, hr, h1, h2, h3⟩ := segTakeEl_ok h hwl
      split at hr
      · rename_i s' n L
        split at hr
        · rename_i e
          subst e
          have hn : L.length = n := h1.1
          subst hn
          have h2 : L.length + 0 = len := h2
          rw [Nat.add_zero] at h2
          subst h2
          refine ⟨L, hr, fun C => ?_⟩
          have := Cells.ofSl (C := C) (cap := cap) (o := o) (sz := 1) (len := L.length) (base := base) (T := T) hg hb (r := [Sg.arr s' L.length L]) (by rw [h3, Nat.mul_one, Nat.mul_one]) (by rw [Nat.mul_one]; rfl) h1
          have e2 : svals [Sg.arr s' L.length L] = (L.map s'.enc).map SC.val := by
            have : scs [Sg.arr s' L.length L] = L.map s'.enc := List.append_nil _
            rw [svals, this]
          rw [e2] at this
          exact this.src
        · exact hr.elim
      · exact hr.elim
    split at h
    · rename_i b' T l hg
      exact fin (.inl hg) h.ok h.go (hw1 _ _ _ hg)
    · rename_i b' l hg
      exact fin (T := 0) (.inr hg) h.ok h.go (hw1 _ _ _ hg)
    · exact h.elim
  · exact h.elim

theorem map_putL {α β : Type} (f : α → β) (l : List α) (n : Nat) (g : List α) : (putL l n g).map f = putL (l.map f) n (g.map f) := by
  simp only [putL, List.map_append, List.map_take, List.map_drop, List.length_map]
def skOf (P : Program) (e : TypeId) : Option Sk :=
  match P.underlying e with
  | some (.int .u8) => some .u8
  | some (.int .u32) => some .u32
  | some (.int .u64) => some .u64
  | some (.int k) => some (.int k)
  | some .string => some .str
  | some .bool => some .bool
  | _ => none
def mcopy (H : Heap) (s : Sk) (dst x : SC) (K : Int → Heap → Prop) : Prop :=
  match dst with
  | .sl key b base o 1 len cap => (match hget H key with
    | some (b', .var T l) => Chk (b = b') (scIn H s x fun src => segOver l base o s (src.take len) fun r => K ((min src.length len : Nat) : Int) ((key, b, .var T r) :: H))
    | _ => False)
  | .lst k z => (match hget H k with
    | some (b, .own T E z' L) => Chk (z = z') (scIn H s x fun src => Same L (.sc s) fun L => K ((min src.length L.length : Nat) : Int) ((k, b, .own T (.sc s) z (src.take L.length ++ L.drop src.length)) :: H))
    | _ => False)
  | _ => False

theorem mcopy_ok {C : Ctx} {H : Heap} {dt xt ty e : TypeId} {s : Sk} {dst x : SC} {K : Int → Heap → Prop} {w : World} (hdt : C.P.underlying dt = some (.slice e)) (hsz : sizB C.P e = some 1)
    (h : mcopy H s dst x K) (hw : Rep C H w) :
    ∃ n w' H', (Builtin.copy_ #[dt, xt] ty #[dst.val, x.val]).run C.P w = .ok (.int .i64 n) w' ∧ Rep C H' w' ∧ K n H' := by
  have run : ∀ {base : Addr} {len cap n : Nat} {vs : List Value} {w' : World}, dst.val = .slice (some base) len cap → Src C H x 1 n vs → (storeCells base (vs.take (min n len)) 0).run C.P w = .ok () w' →
      (Builtin.copy_ #[dt, xt] ty #[dst.val, x.val]).run C.P w = .ok (.int .i64 (min n len : Nat)) w' := by
    intro base len cap n vs w' hd hsrc hs
    obtain ⟨hlen, hfirst⟩ := hsrc w hw
    have hf := hfirst (min n len) (Nat.min_le_left _ _)
    rw [Nat.mul_one] at hf
    have hnm : Nat.min n len = min n len := rfl
    rw [hd]
    simp only [Builtin.copy_, List.getElem?_toArray, List.getElem?_cons_zero, List.getElem?_cons_succ, Sem.run_bind, run_underlying hdt, Result.andThen_ok, sizB_run hsz, Sem.run_pure] at hlen hf ⊢
    simp only [hlen, Result.andThen_ok, hnm, hf, Nat.zero_add, Nat.mul_one]
    simp only [hs, Result.andThen_ok, goInt]
  unfold mcopy at h
  split at h
  · rename_i key b base o len cap
    split at h
    · rename_i b' T l hg
      obtain ⟨rfl, h⟩ := h
      obtain ⟨src, h, hsrc⟩ := scIn_ok h hw.hwf
      obtain ⟨lo, hi', hh, hfz, hwl⟩ := hw.is _ _ _ hg
      obtain ⟨r, hK, hr, hrs, hle⟩ := segOver_ok h hwl
      have hll := svals_len hwl
      have hvs : (((src.map s.enc).map SC.val).take (min src.length len)) = ((src.take len).map s.enc).map SC.val := by
        rw [List.map_take, List.map_take]
        rcases Nat.le_total src.length len with h1 | h1
        · rw [Nat.min_eq_left h1, List.take_of_length_le (by simp), List.take_of_length_le (by simpa using h1)]
        · rw [Nat.min_eq_right h1]
      obtain ⟨w', hrun, hb, e1, e2, e3, e4, e5⟩ := run_storeCells (P := C.P) (b := b) (o := base + o) (((src.take len).map s.enc).map SC.val) 0 w (svals l)
        (by intro v hv; simp only [List.mem_map] at hv; obtain ⟨c, _, rfl⟩ := hv; exact c.oneCell) hh hfz (by simp only [List.length_map, hll]; omega)
      have hov : over (svals l) (base + o + 0) (((src.take len).map s.enc).map SC.val) = svals r := by
        rw [Nat.add_zero, over_put _ _ _ (by simp only [List.length_map, hll]; omega)]
        rw [svals, svals, hrs, map_putL]
      rw [hov] at hb
      have hlr : (svals r).length = (svals l).length := by rw [← hov, over_length]
      refine ⟨_, w', _, run (base := ⟨b, base + o, none⟩) (len := len) (cap := cap) (by simp [SC.val]) (hsrc C) (by rw [hvs]; exact hrun), hw.write (hb' := .var T r) hg rfl trivial ⟨lo, hi', hb, by rw [hlr]; exact hfz, hr⟩ e1 e2 e3 (by omega) (fun c _ hc => e5 c hc), hK⟩
    · exact h.elim
  · rename_i k z
    split at h
    · rename_i b T E z' L hg
      obtain ⟨rfl, h⟩ := h
      obtain ⟨src, h, hsrc⟩ := scIn_ok h hw.hwf
      obtain ⟨rfl, h⟩ := h
      have hI := (hw.is _ _ _ hg).2
      cases z with
      | nil =>
        have hI : L = [] := hI
        subst hI
        refine ⟨_, w, _, ?_, hw.sub (H' := (k, b, .own T (.sc s) .nil (src.take 0 ++ List.drop src.length []))  :: H) (fun t u hu => ?_), h⟩
        · obtain ⟨hlen, hfirst⟩ := (hsrc C) w hw
          have hf := hfirst 0 (Nat.zero_le _)
          have hnm : Nat.min src.length 0 = 0 := Nat.min_zero _
          simp only [Builtin.copy_, List.getElem?_toArray, List.getElem?_cons_zero, List.getElem?_cons_succ, Sem.run_bind, run_underlying hdt, Result.andThen_ok, sizB_run hsz, Sem.run_pure, SC.val, SV.val] at hlen hf ⊢
          simp only [hlen, Result.andThen_ok, hnm, hf]
          simp [goInt]
        · rw [hget_cons] at hu
          split at hu
          · rename_i e; subst e; cases hu; rw [hg]; simp
          · exact hu
      | «at» b' o len cap =>
        obtain ⟨rfl, rfl, pre, post, lo, hi', hh, hf, hp, hlc, hcap⟩ := hI
        have hvl : (Enc.sc s).vals L = (L.map s.enc).map SC.val := sc_vals s L
        have hnl : (Enc.sc s).vals (src.take L.length ++ L.drop src.length) = ((src.take L.length).map s.enc).map SC.val ++ ((L.drop src.length).map s.enc).map SC.val := by rw [sc_vals]; simp
        have hvs : (((src.map s.enc).map SC.val).take (min src.length L.length)) = ((src.take L.length).map s.enc).map SC.val := by
          rw [List.map_take, List.map_take]
          rcases Nat.le_total src.length L.length with h1 | h1
          · rw [Nat.min_eq_left h1, List.take_of_length_le (by simp), List.take_of_length_le (by simpa using h1)]
          · rw [Nat.min_eq_right h1]
        have htl : (src.take L.length).length = min L.length src.length := List.length_take
        obtain ⟨w', hrun, hb, e1, e2, e3, e4, e5⟩ := run_storeCells (P := C.P) (b := b') (o := o) (((src.take L.length).map s.enc).map SC.val) 0 w (pre ++ (Enc.sc s).vals L ++ post)
          (by intro v hv; simp only [List.mem_map] at hv; obtain ⟨c, _, rfl⟩ := hv; exact c.oneCell) hh hf (by simp only [List.length_append, List.length_map, htl, hvl]; omega)
        have hov : over (pre ++ (Enc.sc s).vals L ++ post) (o + 0) (((src.take L.length).map s.enc).map SC.val) = pre ++ (Enc.sc s).vals (src.take L.length ++ L.drop src.length) ++ post := by
          rw [← hp, over_mid _ _ _ _ _ (by simp only [List.length_map, htl, hvl]; omega), over_put _ _ _ (by simp only [List.length_map, htl, hvl]; omega), hnl, putL, hvl]
          simp only [List.take_zero, List.nil_append, List.length_map, htl, Nat.zero_add]
          congr 3
          rw [← List.map_drop, ← List.map_drop]
          congr 2
          rcases Nat.le_total src.length L.length with h1 | h1
          · rw [Nat.min_eq_right h1]
          · rw [Nat.min_eq_left h1, List.drop_of_length_le (Nat.le_refl _), List.drop_of_length_le h1]
        rw [hov] at hb
        have hlr := congrArg List.length hov
        rw [over_length] at hlr
        have hll : (src.take L.length ++ L.drop src.length).length = L.length := by simp only [List.length_append, htl, List.length_drop]; omega
        have hown : (HB.own T (.sc s) (.at b' o L.length cap) (src.take L.length ++ L.drop src.length)).Is w' b' :=
          ⟨sc_wf s _, rfl, hll.symm, pre, post, lo, hi', hb, by rw [← hlr]; exact hf, hp, hlc, by simp only [hnl, List.length_append, List.length_map, htl, List.length_drop] at *; rw [hvl] at hcap; simp only [List.length_map] at hcap; omega⟩
        exact ⟨_, w', _, run (base := ⟨b', o, none⟩) rfl (hsrc C) (by rw [hvs]; exact hrun), hw.write (hb' := .own T (.sc s) (.at b' o L.length cap) (src.take L.length ++ L.drop src.length)) hg rfl (by intro h; cases h) hown e1 e2 e3 (by omega) (fun c _ hc => e5 c hc), h⟩
    · exact h.elim
  · exact h.elim
end Go.SY

/- A function's body, step by step: the code. -/
set_option linter.unusedSimpArgs false
set_option linter.unusedVariables false
namespace Go.SY

inductive Ex where
  | normal
  | ret
  | exit (id : Nat)

def QK (C : Ctx) (Q : Ex → Tm → Heap → Prop) : Exit → Act → World → Prop
  | .normal, a, w => Holds C (Q .normal) a w
  | .ret, a, w => Holds C (Q .ret) a w
  | .exit id, a, w => Holds C (Q (.exit id)) a w
  | _, _, _ => False

/-- A call of a Go function: what is asked of it. -/
structure CallG (C : Ctx) (f : FuncId) (args : List TV) (T : Tm) (H : Heap) (K : TV → Heap → Prop) : Prop where
  fn : ∃ fn, C.P.funcs[f]? = some fn ∧ (fn.name == "runtime.NumGoroutine") = false ∧ fn.body.isNone = false
  go : ∀ a w, Fits C T a → Rep C H w → (∀ v ∈ args, v.wf) → Calls C.P f (args.map TV.val).toArray w fun e w' => ∃ v H', e = .returned (TV.val v) ∧ v.wf ∧ Rep C H' w' ∧ K v H'

structure LoopG (C : Ctx) (body : Code) (T : Tm) (H : Heap) (Q : Ex → Tm → Heap → Prop) : Prop where
  go : ∀ a w, Fits C T a → Rep C H w → (Code.loop body).wp C.P (QK C Q) a w

structure CondG (C : Ctx) (c : Operand) (x y : Code) (T : Tm) (H : Heap) (Q : Ex → Tm → Heap → Prop) : Prop where
  go : ∀ a w, Fits C T a → Rep C H w → (Code.cond c x y).wp C.P (QK C Q) a w

structure RangeG (C : Ctx) (f : Operand) (params : Array Tmp) (assign body : Code) (T : Tm) (H : Heap) (Q : Ex → Tm → Heap → Prop) : Prop where
  go : ∀ a w, Fits C T a → Rep C H w → (Code.rangeFunc f params assign body).wp C.P (QK C Q) a w

structure Draw (C : Ctx) (id : Nat) (ops : List Oper) (T : Tm) (H : Heap) (Q : Ex → Tm → Heap → Prop) : Prop where
  go : ∀ a w, Fits C T a → Rep C H w → (Code.region id ops.toArray true).wp C.P (QK C Q) a w

/-- Another operation: what is asked of it. -/
structure OpG (C : Ctx) (o : Oper) (T : Tm) (H : Heap) (K : Tm → Heap → Prop) : Prop where
  go : ∀ a w, Fits C T a → Rep C H w → ∀ Q, o.wp C.P a w (Holds C K) Q

def evAll (T : Tm) : List Operand → Option (List TV)
  | [] => some []
  | x :: l => match ev T x, evAll T l with
    | some v, some r => some (v :: r)
    | _, _ => none
theorem evAll_ok {C : Ctx} {T : Tm} {a : Act} (h : Fits C T a) : ∀ {l : List Operand} {r : List TV}, evAll T l = some r → l.map a.eval = r.map TV.val := by
  intro l
  induction l with
  | nil => intro r h; cases h; rfl
  | cons x l ih =>
    intro r hr
    unfold evAll at hr
    split at hr
    · rename_i v r' h1 h2
      cases hr
      simp [ev_ok h h1, ih h2]
    · cases hr

theorem evAll_wf {T : Tm} (h : TWf T) : ∀ {l : List Operand} {r : List TV}, evAll T l = some r → ∀ v ∈ r, v.wf := by
  intro l
  induction l with
  | nil => intro r h; cases h; simp
  | cons x l ih =>
    intro r hr
    unfold evAll at hr
    split at hr
    · rename_i v r' h1 h2
      cases hr
      intro u hu
      rcases List.mem_cons.1 hu with rfl | hu
      · exact ev_wfT h h1
      · exact ih h2 u hu
    · cases hr
def ptv (l : List Pt) : List TV := l.map fun p => .b (.one (.ptr p))
def appT : List TV → List TV → List TV
  | [], r => r
  | v :: l, r => v :: appT l r
theorem appT_eq (a b : List TV) : appT a b = a ++ b := by
  induction a with
  | nil => rfl
  | cons v a ih => simp [appT, ih]
/-- The arguments of a call. -/
def argsOf (first caps : List Pt) (l : List TV) : List TV := appT (ptv first) (appT l (ptv caps))
theorem argsOf_val (first caps : List Pt) (l : List TV) : (argsOf first caps l).map TV.val = first.map Pt.value ++ l.map TV.val ++ caps.map Pt.value := by
  simp [argsOf, appT_eq, ptv, TV.val, BV.val, SC.val, Function.comp_def]
theorem argsOf_wf {first caps : List Pt} {l : List TV} (h : ∀ v ∈ l, v.wf) : ∀ v ∈ argsOf first caps l, v.wf := by
  intro v hv
  simp only [argsOf, appT_eq, ptv, List.mem_append, List.mem_map] at hv
  rcases hv with ⟨p, _, rfl⟩ | hv | ⟨p, _, rfl⟩
  · exact one_wf _
  · exact h v hv
  · exact one_wf _
theorem Fits.twf {C : Ctx} {T : Tm} {a : Act} (h : Fits C T a) : TWf T := h.wf

def mop (C : Ctx) (T : Tm) (H : Heap) (o : Oper) (K : Tm → Heap → Prop) : Prop :=
  match o.op, o.dst with
  | .alloc e, some d => (match Nat.blt d C.N with
    | true => zeroG C.P e fun l => New fun b : Nat => K ((d, .b (.one (.ptr ⟨d, b, .lit 0⟩))) :: T) ((d, b, .var e l) :: H)
    | false => False)
  | .box e x, some d => (match Nat.blt d C.N, evb T x with
    | true, some v => New fun b : Nat => K ((d, .b (.one (.ptr ⟨d, b, .lit 0⟩))) :: T) ((d, b, .var e v.sg) :: H)
    | _, _ => False)
  | .store t x v, none => (match ev1 T x, evb T v with
    | some c, some v => mstore C.P H t c v fun H' => K T H'
    | _, _ => False)
  | .convert s t x, some d => (match Nat.blt d C.N, ev1 T x with
    | true, some c => mbytes C.P s t c fun e l => New fun y : SV => K ((d, .b (.one (.lst d y))) :: T) ((d, y.blk, .own e (.sc .u8) y l) :: H)
    | _, _ => False)
  | .buildSlice t len parts, some d => (match Nat.blt d C.N, evParts T parts.toList with
    | true, some ps => mbuildSlice C.R t len ps fun e E L => New fun b : Nat => K ((d, .b (.one (.lst d (.at b 0 len len)))) :: T) ((d, b, .own e E (.at b 0 len len) L) :: H)
    | _, _ => False)
  | .makeSlice t l c, some d => (match Nat.blt d C.N, ev1 T l, ev1 T c with
    | true, some (.int _ l), some (.int _ c) => mmake C.R t l c fun e E L => New fun b : Nat => K ((d, .b (.one (.lst d (.at b 0 l.toNat c.toNat)))) :: T) ((d, b, .own e E (.at b 0 l.toNat c.toNat) L) :: H)
    | _, _, _ => False)
  | .call c, dst => (match c.callee, c.args.toList, c.argTypes.toList, dst with
    | .builtin .append, [s, x], [st, xt], some d => (match ev1 T s, ev1 T x, C.P.underlying st with
      | some s, some x, some (.slice e) => (match bytB C.P e, C.P.underlying xt with
        | some (bytes + 1), some (.slice _) => mappend C.R C.N d T H e (bytes + 1) s x K
        | some (bytes + 1), some .string => mappend C.R C.N d T H e (bytes + 1) s x K
        | _, _ => False)
      | _, _, _ => False)
    | .builtin .copy, [x, y], [dt, _], dst => (match ev1 T x, ev1 T y, C.P.underlying dt with
      | some c, some v, some (.slice e) => (match skOf C.P e, sizB C.P e with
        | some s, some 1 => mcopy H s c v fun n H' => putK C.N dst (.b (.one (.int .i64 n))) T H' K
        | _, _ => False)
      | _, _, _ => False)
    | .value f, args, _, dst => (match ev1 T f, evAll T args with
      | some (.fn (.func g) first caps), some l => CallG C g (argsOf first caps l) T H fun v H' => putK C.N dst v T H' K
      | _, _ => OpG C o T H K)
    | _, _, _, _ => OpG C o T H K)
  | _, _ => OpG C o T H K

theorem upon_value {C : Ctx} {o : Oper} {a : Act} {w w' : World} {v : Value} {next : Act → World → Prop} {Q : Exit → Act → World → Prop}
    (hr : (execOp a.eval o).run C.P w = .ok (.value v) w') (h : next (a.put o.dst v) w') : o.wp C.P a w next Q := by
  unfold Oper.wp; rw [hr]; exact h

theorem mop_ok {C : Ctx} {T : Tm} {H : Heap} {o : Oper} {K : Tm → Heap → Prop} (h : mop C T H o K) {a : Act} {w : World} (ha : Fits C T a) (hw : Rep C H w) (Q : Exit → Act → World → Prop) :
    o.wp C.P a w (Holds C K) Q := by
  unfold mop at h
  split at h
  · rename_i e d ho hd
    split at h
    · rename_i hlt
      obtain ⟨l, hK, hwf, v, hv, hc⟩ := zeroG_ok h
      refine upon_value (v := (TV.b (.one (.ptr ⟨d, w.heap.size, .lit 0⟩))).val) (w' := w.alloc (.cells (svals l).toArray e)) ?_ ?_
      · simp only [execOp, ho, Instr.alloc, Sem.run_bind, hv, Result.andThen_ok, newVar, newRow, hc, run_newObj, Sem.run_pure]; rfl
      · rw [hd]
        exact ⟨_, _, ha.put hlt (one_wf _), hw.push d hwf, hK.go _⟩
    · exact h.elim
  · rename_i e x d ho hd
    split at h
    · rename_i v hlt hv
      have hc : (a.eval x).cells = (svals v.sg).toArray := by rw [evb_ok ha hv, ← show v.cells = svals v.sg from rfl, ← BV.val_cells]
      refine upon_value (v := (TV.b (.one (.ptr ⟨d, w.heap.size, .lit 0⟩))).val) (w' := w.alloc (.cells (svals v.sg).toArray e)) ?_ ?_
      · simp only [execOp, ho, Instr.box, Sem.run_bind, Result.andThen_ok, newVar, newRow, hc, run_newObj, Sem.run_pure]; rfl
      · rw [hd]
        exact ⟨_, _, ha.put hlt (one_wf _), hw.push d (evb_wfT ha.twf hv), h.go _⟩
    · exact h.elim
  · rename_i t x v ho hd
    split at h
    · rename_i c bv hc hv
      obtain ⟨w', H', hr, hw', hK⟩ := mstore_ok h (evb_wfT ha.twf hv) hw
      unfold Oper.wp
      have : (execOp a.eval o).run C.P w = .ok .skip w' := by
        simp only [execOp, ho, ev1_ok ha hc, evb_ok ha hv, Sem.run_bind, hr, Result.andThen_ok, Sem.run_pure]
      rw [this]
      show Holds C K (a.put o.dst undef) w'
      rw [hd]
      exact ⟨_, _, ha, hw', hK⟩
    · exact h.elim
  · rename_i s t x d ho hd
    split at h
    · rename_i c hlt hc
      obtain ⟨e, l, hK, y, w', hr, hw'⟩ := mbytes_ok h d hw
      refine upon_value (v := (TV.b (.one (.lst d y))).val) (w' := w') ?_ ?_
      · simp only [execOp, ho, ev1_ok ha hc, Sem.run_bind, hr, Result.andThen_ok, Sem.run_pure]; rfl
      · rw [hd]
        exact ⟨_, _, ha.put hlt (one_wf _), hw', hK.go _⟩
    · exact h.elim
  · rename_i t len parts d ho hd
    split at h
    · rename_i ps hlt hps
      obtain ⟨e, E, L, hK, hwL, hln, hr⟩ := mbuildSlice_ok h (evParts_wf ha.twf hps)
      have hr := hr w (parts.map fun (i, x) => (i, a.eval x)) (by rw [Array.toList_map, ← evParts_ok ha hps])
      refine upon_value (v := (TV.b (.one (.lst d (.at w.heap.size 0 len len)))).val) (w' := w.alloc (.cells (E.vals L ++ []).toArray e)) ?_ ?_
      · simp only [execOp, ho, Sem.run_bind, hr, Result.andThen_ok, Sem.run_pure]; rfl
      · rw [hd]
        exact ⟨_, _, ha.put hlt (one_wf _), hw.pushOwn d hwL hln.symm (Nat.le_refl _) (by rw [E.vals_len hwL, hln]; exact Nat.le_refl _), hK.go _⟩
    · exact h.elim
  · rename_i t l c d ho hd
    split at h
    · rename_i k1 l' k2 c' hlt hl hc
      obtain ⟨e, E, L, post, hK, hwL, hln, hle, hcap, hr⟩ := mmake_ok h
      have e1 : a.eval l = .int k1 l' := ev1_ok ha hl
      have e2 : a.eval c = .int k2 c' := ev1_ok ha hc
      refine upon_value (v := (TV.b (.one (.lst d (.at w.heap.size 0 l'.toNat c'.toNat)))).val) (w' := w.alloc (.cells (E.vals L ++ post).toArray e)) ?_ ?_
      · simp only [execOp, ho, e1, e2, Sem.run_bind, hr, Result.andThen_ok, Sem.run_pure]; rfl
      · rw [hd]
        exact ⟨_, _, ha.put hlt (one_wf _), hw.pushOwn d hwL hln.symm hle hcap, hK.go _⟩
    · exact h.elim
  · rename_i dst c ho
    split at h
    · rename_i s x st xt d hc hargs hts hd
      split at h
      · rename_i s' x' e hs hx hst
        have e1 : c.args.map a.eval = #[s'.val, x'.val] := arr_of (by rw [Array.toList_map, hargs]; simp [ev1_ok ha hs, ev1_ok ha hx])
        have e2 : c.argTypes = #[st, xt] := arr_of hts
        have fin : ∀ {v w'}, (Builtin.append_ #[st, xt] o.type #[s'.val, x'.val]).run C.P w = .ok v w' → Holds C K (a.put (some d) v) w' → o.wp C.P a w (Holds C K) Q := by
          intro v w' hr hh
          refine upon_value (v := v) (w' := w') ?_ (by rw [hd]; exact hh)
          simp only [execOp, ho, resolve, hc, e1, e2, Sem.run_bind, Sem.run_pure, Result.andThen_ok, invoke, builtin, hr]
        have info : ∀ {bytes : Nat}, bytB C.P e = some bytes → ∀ sz, sizB C.P e = some sz → ∃ i, C.P.info? e = some i ∧ i.size = sz ∧ i.bytes = bytes := by
          intro bytes hb sz hs
          unfold bytB at hb; unfold sizB at hs
          cases hi : C.P.info? e with
          | none => rw [hi] at hb; cases hb
          | some i => rw [hi] at hb hs; cases hb; cases hs; exact ⟨i, rfl, rfl, rfl⟩
        split at h
        · rename_i bytes e' hb hxt
          obtain ⟨v, w', hr, hh⟩ := mappend_ok (ty := o.type) (fun sz hsz => ⟨hst, .inl ⟨e', hxt⟩, info hb sz hsz⟩) (Nat.succ_ne_zero _) h ha hw
          exact fin hr hh
        · rename_i bytes hb hxt
          obtain ⟨v, w', hr, hh⟩ := mappend_ok (ty := o.type) (fun sz hsz => ⟨hst, .inr hxt, info hb sz hsz⟩) (Nat.succ_ne_zero _) h ha hw
          exact fin hr hh
        · exact h.elim
      · exact h.elim
    · rename_i _ x y dt yt hc hargs hts
      split at h
      · rename_i c' v e hx hy hdt
        split at h
        · rename_i s hk hsz
          have e1 : c.args.map a.eval = #[c'.val, v.val] := arr_of (by rw [Array.toList_map, hargs]; simp [ev1_ok ha hx, ev1_ok ha hy])
          have e2 : c.argTypes = #[dt, yt] := arr_of hts
          obtain ⟨n, w', H', hr, hw', hK⟩ := mcopy_ok (xt := yt) (ty := o.type) hdt hsz h hw
          refine upon_value (v := .int .i64 n) (w' := w') ?_ ?_
          · simp only [execOp, ho, resolve, hc, e1, e2, Sem.run_bind, Sem.run_pure, Result.andThen_ok, invoke, builtin, hr]
          · exact putK_ok (v := .b (.one (.int .i64 n))) hK (one_wf _) ha hw'
        · exact h.elim
      · exact h.elim
    · rename_i _ _ _ _ f hc
      split at h
      · rename_i g first caps l hf hl
        obtain ⟨⟨fn, hfn, hname, hbody⟩, hgo⟩ := h
        have e0 : a.eval f = .func (.func g) (first.map Pt.value).toArray (caps.map Pt.value).toArray := ev1_ok ha hf
        have e1 : c.args.map a.eval = (l.map TV.val).toArray := arr_of (by rw [Array.toList_map, evAll_ok ha hl])
        have hr : (execOp a.eval o).run C.P w = .ok (.enter g ((argsOf first caps l).map TV.val).toArray) w := by
          simp only [execOp, ho, resolve, hc, e0, e1, Deferred.ofValue, Sem.run_bind, Sem.run_pure, Result.andThen_ok, invoke, callFunc, run_program, hfn, hname, hbody, Bool.false_eq_true, if_false]
          simp [argsOf_val]
        unfold Oper.wp
        rw [hr]
        show Calls C.P g _ w _
        refine (hgo a w ha hw (argsOf_wf (evAll_wf ha.twf hl))).mono ?_
        rintro e w' ⟨v, H', rfl, hvw, hw', hK⟩
        exact putK_ok hK hvw ha hw'
      · exact h.go a w ha hw Q
    · exact h.go a w ha hw Q
  · exact h.go a w ha hw Q

/-- Does an operation leave memory alone? -/
def isQ (P : Program) (o : Oper) : Bool :=
  match o.op with
  | .move _ | .assign _ | .pick .. | .load .. | .nilCheck _ | .binOp .. | .unOp .. | .makeFunc .. | .slice .. | .fieldAddr .. | .field .. | .indexAddr .. | .index .. | .extract .. | .build .. => true
  | .convert _ d _ => (match P.underlying d with | some (.slice _) => false | _ => true)
  | .call c => (match c.callee with | .builtin .len => true | .builtin .max => true | .builtin .min => true | _ => false)
  | _ => false

def sxOp (C : Ctx) (T : Tm) (H : Heap) (o : Oper) (K : Tm → Heap → Prop) : Prop :=
  match isQ C.P o with
  | true => qop C.P T H o fun v => putK C.N o.dst v T H K
  | false => mop C T H o K

theorem sxOp_ok {C : Ctx} {T : Tm} {H : Heap} {o : Oper} {K : Tm → Heap → Prop} (h : sxOp C T H o K) {a : Act} {w : World} (ha : Fits C T a) (hw : Rep C H w) (Q : Exit → Act → World → Prop) :
    o.wp C.P a w (Holds C K) Q := by
  unfold sxOp at h
  split at h
  · obtain ⟨v, hv, hvw, hr⟩ := qop_ok h hw.hwf ha.twf
    exact upon_value (hr C a w ha hw) (putK_ok hv hvw ha hw)
  · exact mop_ok h ha hw Q

/-- Is an operation carried out? -/
def sxGuard (all : List Oper) (T : Tm) (o : Oper) (A B : Prop) : Prop :=
  match o.guard with
  | none => A
  | some (j, want) => (match lget all j with
    | some oj => (match oj.dst with
      | some d => (match tget T d with
        | some (.b (.one (.bool b))) => (match want with
          | true => Br b A B
          | false => Br b B A)
        | _ => False)
      | none => False)
    | none => False)

def skipK (N : Nat) (dst : Option Nat) (T : Tm) (H : Heap) (K : Tm → Heap → Prop) : Prop := putK N dst (.tup []) T H K

def sxOps (C : Ctx) (all : List Oper) : List Oper → Tm → Heap → (Tm → Heap → Prop) → Prop
  | [], T, H, K => K T H
  | o :: r, T, H, K => sxGuard all T o (sxOp C T H o fun T' H' => sxOps C all r T' H' K) (skipK C.N o.dst T H fun T' H' => sxOps C all r T' H' K)

theorem sxGuard_ok {C : Ctx} {all : List Oper} {T : Tm} {o : Oper} {A B : Prop} (h : sxGuard all T o A B) {a : Act} (ha : Fits C T a) :
    (Region.wanted o (yielded all.toArray a.tmps) = true ∧ A) ∨ (Region.wanted o (yielded all.toArray a.tmps) = false ∧ B) := by
  unfold sxGuard at h
  split at h
  · rename_i hg; exact .inl ⟨by simp [Region.wanted, hg], h⟩
  · rename_i j want hg
    split at h
    · rename_i oj hj
      split at h
      · rename_i d hd
        split at h
        · rename_i b hb
          have hv := ha.tmps d _ hb
          have hlt : d < a.tmps.size := by
            rcases Nat.lt_or_ge d a.tmps.size with h | h
            · exact h
            · exfalso
              have h1 : a.tmps.getD d undef = undef := by simp [Array.getD, Nat.not_lt.2 h]
              rw [h1] at hv; simp [undef, TV.val, BV.val, SC.val] at hv
          have hy : yielded all.toArray a.tmps j = some b := by
            rw [lget_eq] at hj
            have h2 : a.tmps[d]? = some (Value.bool b) := by
              have : a.tmps.getD d undef = a.tmps[d] := by simp [Array.getD, hlt]
              rw [this] at hv
              rw [Array.getElem?_eq_getElem hlt, hv]; rfl
            simp [yielded, hj, hd, h2]
          have hwant : Region.wanted o (yielded all.toArray a.tmps) = (some b == some want) := by simp [Region.wanted, hg, hy]
          rw [hwant]
          cases want <;> cases b <;> dsimp only at h
          · exact .inl ⟨rfl, h.f rfl⟩
          · exact .inr ⟨rfl, h.t rfl⟩
          · exact .inr ⟨rfl, h.f rfl⟩
          · exact .inl ⟨rfl, h.t rfl⟩
        · exact h.elim
      · exact h.elim
    · exact h.elim

theorem sxOps_ok {C : Ctx} {all : List Oper} {Q' : Exit → Act → World → Prop} : ∀ {l : List Oper} {T : Tm} {H : Heap} {K : Tm → Heap → Prop}, sxOps C all l T H K →
    (∀ a w, Holds C K a w → Q' .normal a w) → ∀ {a : Act} {w : World}, Fits C T a → Rep C H w → wpList C.P all.toArray Q' l a w := by
  intro l
  induction l with
  | nil => intro T H K h hQ a w ha hw; exact hQ _ _ ⟨_, _, ha, hw, h⟩
  | cons o r ih =>
    intro T H K h hQ a w ha hw
    unfold wpList
    unfold sxOps at h
    rcases sxGuard_ok h ha with ⟨hg, h⟩ | ⟨hg, h⟩
    · rw [if_pos hg]
      refine .inl (Oper.wp_mono (fun a' w' hh => ?_) (sxOp_ok h ha hw Q'))
      obtain ⟨T', H', ha', hw', hK⟩ := hh
      exact ih hK hQ ha' hw'
    · rw [if_neg (by simp [hg])]
      obtain ⟨T', H', ha', hw', hK⟩ := putK_ok (v := .tup []) h trivial ha hw
      exact ih hK hQ ha' hw'

/-- The code. -/
def sx (C : Ctx) : Code → Tm → Heap → (Ex → Tm → Heap → Prop) → Prop
  | .skip, T, H, Q => Q .normal T H
  | .label _, T, H, Q => Q .normal T H
  | .region id ops draw, T, H, Q => (match draw with
    | false => sxOps C ops.toList ops.toList T H (Q .normal)
    | true => Draw C id ops.toList T H Q)
  | .seq x y, T, H, Q => sx C x T H fun e T' H' => match e with | .normal => sx C y T' H' Q | .ret => Q .ret T' H' | .exit i => Q (.exit i) T' H'
  | .cond c x y, T, H, Q => CondG C c x y T H Q
  | .block id x, T, H, Q => sx C x T H fun e T' H' => match e with | .normal => Q .normal T' H' | .ret => Q .ret T' H' | .exit i => (match Nat.beq i id with | true => Q .normal T' H' | false => Q (.exit i) T' H')
  | .loop x, T, H, Q => LoopG C x T H Q
  | .rangeFunc f ps as x, T, H, Q => RangeG C f ps as x T H Q
  | .exit i, T, H, Q => Q (.exit i) T H
  | .ret, T, H, Q => Q .ret T H
  | _, _, _, _ => False

theorem QK_mono {C : Ctx} {Q : Ex → Tm → Heap → Prop} {Q' : Exit → Act → World → Prop} (h : ∀ e a w, QK C Q e a w → Q' e a w) {c : Code} {a : Act} {w : World} (hh : c.wp C.P (QK C Q) a w) : c.wp C.P Q' a w :=
  wp_mono hh h

theorem sx_ok {C : Ctx} : ∀ {c : Code} {T : Tm} {H : Heap} {Q : Ex → Tm → Heap → Prop}, sx C c T H Q → ∀ {a : Act} {w : World}, Fits C T a → Rep C H w → c.wp C.P (QK C Q) a w := by
  intro c
  induction c with
  | skip => intro T H Q h a w ha hw; exact wp_skip ⟨_, _, ha, hw, h⟩
  | label l => intro T H Q h a w ha hw; exact wp_label ⟨_, _, ha, hw, h⟩
  | region id ops draw =>
    intro T H Q h a w ha hw
    unfold sx at h
    cases draw with
    | false => exact wp_region_list (sxOps_ok h (fun a w hh => hh) ha hw)
    | true => exact h.go a w ha hw
  | seq x y ihx ihy =>
    intro T H Q h a w ha hw
    unfold sx at h
    refine wp_seq (wp_mono (ihx h ha hw) fun e a' w' hh => ?_)
    cases e <;> simp only [QK, Exit.then] at hh ⊢
    · obtain ⟨T', H', ha', hw', hK⟩ := hh; exact ihy hK ha' hw'
    · obtain ⟨T', H', ha', hw', hK⟩ := hh; exact ⟨T', H', ha', hw', hK⟩
    · obtain ⟨T', H', ha', hw', hK⟩ := hh; exact ⟨T', H', ha', hw', hK⟩
  | cond c x y _ _ => intro T H Q h a w ha hw; exact h.go a w ha hw
  | block id x ih =>
    intro T H Q h a w ha hw
    unfold sx at h
    refine wp_block (wp_mono (ih h ha hw) fun e a' w' hh => ?_)
    cases e with
    | exit i =>
      simp only [QK, Exit.inBlock] at hh ⊢
      obtain ⟨T', H', ha', hw', hK⟩ := hh
      split
      · rename_i e; subst e; simp only [Nat.beq_refl] at hK; exact ⟨T', H', ha', hw', hK⟩
      · rename_i e
        have : Nat.beq i id = false := by
          cases h' : Nat.beq i id with
          | false => rfl
          | true => exact absurd (Nat.eq_of_beq_eq_true h') e
        simp only [this] at hK; exact ⟨T', H', ha', hw', hK⟩
    | _ => exact hh
  | loop x _ => intro T H Q h a w ha hw; exact h.go a w ha hw
  | rangeFunc f ps as x _ _ => intro T H Q h a w ha hw; exact h.go a w ha hw
  | exit i => intro T H Q h a w ha hw; exact wp_exit ⟨_, _, ha, hw, h⟩
  | ret => intro T H Q h a w ha hw; exact wp_ret ⟨_, _, ha, hw, h⟩
  | _ => intro T H Q h; exact h.elim

theorem CondG.split {C : Ctx} {c : Operand} {x y : Code} {T : Tm} {H : Heap} {Q : Ex → Tm → Heap → Prop} (h : match ev1 T c with | some (.bool b) => Br b (sx C x T H Q) (sx C y T H Q) | _ => False) : CondG C c x y T H Q := by
  refine ⟨fun a w ha hw => ?_⟩
  split at h
  · rename_i b hb
    have e : a.eval c = .bool b := ev1_ok ha hb
    refine wp_cond e ?_
    cases b
    · exact sx_ok (h.f rfl) ha hw
    · exact sx_ok (h.t rfl) ha hw
  · exact h.elim
end Go.SY

/- Regions that draw their order; loops. -/
set_option linter.unusedSimpArgs false
set_option linter.unusedVariables false
namespace Go.SY

/-! ### Regions that draw -/
/-- A call that leaves all that is known as it is, and hands back one value. -/
structure CallQ (C : Ctx) (f : FuncId) (args : List TV) (T : Tm) (H : Heap) (K : TV → Prop) : Prop where
  fn : ∃ fn, C.P.funcs[f]? = some fn ∧ (fn.name == "runtime.NumGoroutine") = false ∧ fn.body.isNone = false
  go : (∀ v ∈ args, v.wf) → ∃ v, K v ∧ v.wf ∧ ∀ w, Rep C H w → Calls C.P f (args.map TV.val).toArray w fun e w' => e = .returned (TV.val v) ∧ Rep C H w'

def putQ (N : Nat) (dst : Option Nat) (v : TV) (T : Tm) (K : Tm → Prop) : Prop :=
  match dst with
  | some d => (match Nat.blt d N with | true => K ((d, v) :: T) | false => False)
  | none => K T
theorem putQ_ok {C : Ctx} {dst : Option Nat} {v : TV} {T : Tm} {K : Tm → Prop} {a : Act} (h : putQ C.N dst v T K) (hv : v.wf) (ha : Fits C T a) : ∃ T', Fits C T' (a.put dst v.val) ∧ K T' := by
  unfold putQ at h
  split at h
  · split at h
    · rename_i hd; exact ⟨_, ha.put hd hv, h⟩
    · exact h.elim
  · exact ⟨_, ha, h⟩

def sxQop (C : Ctx) (T : Tm) (H : Heap) (o : Oper) (K : TV → Prop) : Prop :=
  match isQ C.P o, o.op with
  | true, _ => qop C.P T H o K
  | false, .call c => (match c.callee with
    | .value f => (match ev1 T f, evAll T c.args.toList with
      | some (.fn (.func g) first caps), some l => CallQ C g (argsOf first caps l) T H K
      | _, _ => False)
    | _ => False)
  | false, _ => False

theorem sxQop_ok {C : Ctx} {T : Tm} {H : Heap} {o : Oper} {K : TV → Prop} (h : sxQop C T H o K) {w1 : World} (hw1 : Rep C H w1) (hT : TWf T) :
    ∃ v, K v ∧ v.wf ∧ ∀ a w, Fits C T a → Rep C H w → o.quietAt C.P a (Rep C H) w v.val := by
  unfold sxQop at h
  split at h
  · obtain ⟨v, hv, hvw, hr⟩ := qop_ok h hw1.hwf hT
    exact ⟨v, hv, hvw, fun a w ha hw => by unfold Oper.quietAt; rw [hr C a w ha hw]; exact ⟨rfl, rfl⟩⟩
  · rename_i c _ ho
    split at h
    · rename_i f hc
      split at h
      · rename_i g first caps l hf hl
        obtain ⟨⟨fn, hfn, hname, hbody⟩, hgo⟩ := h
        obtain ⟨v, hv, hvw, hgo⟩ := hgo (argsOf_wf (evAll_wf hT hl))
        refine ⟨v, hv, hvw, fun a w ha hw => ?_⟩
        have e0 : a.eval f = .func (.func g) (first.map Pt.value).toArray (caps.map Pt.value).toArray := ev1_ok ha hf
        have e1 : c.args.map a.eval = (l.map TV.val).toArray := arr_of (by rw [Array.toList_map, evAll_ok ha hl])
        have hr : (execOp a.eval o).run C.P w = .ok (.enter g ((argsOf first caps l).map TV.val).toArray) w := by
          simp only [execOp, ho, resolve, hc, e0, e1, Deferred.ofValue, Sem.run_bind, Sem.run_pure, Result.andThen_ok, invoke, callFunc, run_program, hfn, hname, hbody, Bool.false_eq_true, if_false]
          simp [argsOf_val]
        unfold Oper.quietAt
        rw [hr]
        exact ⟨rfl, hgo w hw⟩
      · exact h.elim
    · exact h.elim
  · exact h.elim

def sxQ (C : Ctx) (all : List Oper) : List Oper → Tm → Heap → (Tm → Prop) → Prop
  | [], T, _, K => K T
  | o :: r, T, H, K => sxGuard all T o (sxQop C T H o fun v => putQ C.N o.dst v T fun T' => sxQ C all r T' H K) (putQ C.N o.dst (.tup []) T fun T' => sxQ C all r T' H K)

theorem sxQ_ok {C : Ctx} {all : List Oper} {H : Heap} {w1 : World} (hw1 : Rep C H w1) : ∀ {l : List Oper} {T : Tm} {K : Tm → Prop}, sxQ C all l T H K → ∀ {a : Act}, Fits C T a →
    wpQuiet C.P all.toArray (Rep C H) (fun a' => ∃ T', Fits C T' a' ∧ K T') l a := by
  intro l
  induction l with
  | nil => intro T K h a ha; exact ⟨T, ha, h⟩
  | cons o r ih =>
    intro T K h a ha
    unfold sxQ at h
    unfold wpQuiet
    rcases sxGuard_ok h ha with ⟨hg, h⟩ | ⟨hg, h⟩
    · rw [if_pos hg]
      obtain ⟨v, hv, hvw, hr⟩ := sxQop_ok h hw1 ha.twf
      obtain ⟨T', ha', hK⟩ := putQ_ok hv hvw ha
      exact ⟨v.val, fun w hw => hr a w ha hw, ih hK ha'⟩
    · rw [if_neg (by simp [hg])]
      obtain ⟨T', ha', hK⟩ := putQ_ok (v := .tup []) h trivial ha
      exact ih hK ha'

/-- All operations only look. -/
theorem Draw.quiet {C : Ctx} {id : Nat} {ops : List Oper} {T : Tm} {H : Heap} {Q : Ex → Tm → Heap → Prop} (hm : C.P.follows .mixedOrders = true) (hB : Region.lexB .any ops.toArray = true)
    (h : sxQ C ops ops T H fun T' => Q .normal T' H) : Draw C id ops T H Q := by
  refine ⟨fun a w ha hw => ?_⟩
  refine wp_region_quiet (C := Rep C H) hm hB (hw.drew _) ?_
  have := sxQ_ok hw h ha
  have mono : ∀ (l : List Oper) (a : Act), wpQuiet C.P ops.toArray (Rep C H) (fun a' => ∃ T', Fits C T' a' ∧ Q .normal T' H) l a →
      wpQuiet C.P ops.toArray (Rep C H) (fun a' => ∀ w', Rep C H w' → QK C Q .normal a' w') l a := by
    intro l
    induction l with
    | nil => rintro a ⟨T', ha', hQ⟩ w' hw'; exact ⟨T', H, ha', hw', hQ⟩
    | cons o r ih =>
      intro a h
      unfold wpQuiet at h ⊢
      split
      · rename_i hg; rw [if_pos hg] at h; exact Oper.quiet_mono ih h
      · rename_i hg; rw [if_neg hg] at h; exact ih _ h
  exact mono _ _ (by simpa using this)

end Go.SY

/- What is known, held against what is wanted. -/
set_option linter.unusedSimpArgs false
set_option linter.unusedVariables false
namespace Go.SY

def Off.m (o o' : Off) (K : Prop) : Prop :=
  match o, o' with
  | .lit n, .lit n' => (match Nat.beq n n' with | true => K | false => False)
  | .el b i s j, .el b' i' s' j' => Chk (b' = b ∧ i' = i ∧ s' = s ∧ j' = j) K
  | _, _ => False
theorem Off.m_ok {o o' : Off} {K : Prop} (h : o.m o' K) : o'.val = o.val ∧ K := by
  unfold Off.m at h
  split at h
  · split at h
    · rename_i hb; rw [Nat.eq_of_beq_eq_true hb]; exact ⟨rfl, h⟩
    · exact h.elim
  · obtain ⟨⟨rfl, rfl, rfl, rfl⟩, h⟩ := h; exact ⟨rfl, h⟩
  · exact h.elim
/-- x is wanted, y is there. -/
def SC.m (x y : SC) (K : Prop) : Prop :=
  match x, y with
  | .int k n, .int k' n' => (match decide (k = k') with | true => Chk (n' = n) K | false => False)
  | .w8 a, .w8 b => Chk (b = a) K
  | .w32 a, .w32 b => Chk (b = a) K
  | .w64 a, .w64 b => Chk (b = a) K
  | .bool a, .bool b => Chk (b = a) K
  | .str a, .str b => Chk (b = a) K
  | .ptr ⟨k, b, o⟩, .ptr ⟨k', b', o'⟩ => (match Nat.beq k k' with | true => Chk (b' = b) (o.m o' K) | false => False)
  | .lst k x, .lst k' x' => (match Nat.beq k k' with | true => Chk (x' = x) K | false => False)
  | .lst _ x, .nilsl => Chk (SV.nil = x) K
  | .lst k x, .part k' x' sz lo hi => (match Nat.beq k k' with | true => Chk (x'.sub sz lo hi = x) K | false => False)
  | .lst k x, .sl k' b base o sz len cap => (match Nat.beq k k' with | true => Chk (SV.at b (base + o * sz) len cap = x) K | false => False)
  | .nilp, .nilp => K
  | .nilsl, .nilsl => K
  | .nilfn, .nilfn => K
  | .nilmp, .nilmp => K
  | .nilch, .nilch => K
  | x, y => Chk (y = x) K
theorem SC.m_ok {x y : SC} {K : Prop} (h : x.m y K) : y.val = x.val ∧ K := by
  unfold SC.m at h
  split at h
  all_goals first
    | exact ⟨rfl, h⟩
    | (obtain ⟨rfl, h⟩ := h; exact ⟨rfl, h⟩)
    | (split at h
       · obtain ⟨rfl, h⟩ := h; rename_i hb; first | (have := of_decide_eq_true hb; subst this; exact ⟨rfl, h⟩) | exact ⟨rfl, h⟩ | (obtain ⟨e, h⟩ := Off.m_ok h; exact ⟨by simp [SC.val, Pt.value, Pt.addr, e], h⟩)
       · exact h.elim)
    | skip

def sgm : List Sg → List Sg → Prop → Prop
  | [], [], K => K
  | .c x :: l, .c y :: r, K => x.m y (sgm l r K)
  | .arr s n L :: l, .arr s' n' L' :: r, K => (match Nat.beq n n' with
    | true => if h : s' = s then Chk ((h ▸ L') = L) (sgm l r K) else False
    | false => False)
  | _, _, _ => False
theorem sgm_ok : ∀ {l r : List Sg} {K : Prop}, sgm l r K → K ∧ svals r = svals l ∧ (swf r → swf l) := by
  intro l
  induction l with
  | nil =>
    intro r K h
    cases r with
    | nil => exact ⟨h, rfl, id⟩
    | cons g r => cases g <;> exact h.elim
  | cons g l ih =>
    intro r K h
    cases r with
    | nil => cases g <;> exact h.elim
    | cons g' r =>
      cases g with
      | c x =>
        cases g' with
        | c y =>
          obtain ⟨e, h⟩ := SC.m_ok (x := x) (y := y) h
          obtain ⟨hK, e2, hw⟩ := ih h
          refine ⟨hK, ?_, fun hh => ⟨trivial, hw hh.2⟩⟩
          simp only [svals, scs, Sg.cs, List.map_append, List.map_cons, List.map_nil] at e2 ⊢
          rw [e, e2]
        | arr => exact h.elim
      | arr s n L =>
        cases g' with
        | c => exact h.elim
        | arr s' n' L' =>
          unfold sgm at h
          split at h
          · rename_i hb
            have hb := Nat.eq_of_beq_eq_true hb
            split at h
            · rename_i hs
              subst hs hb
              obtain ⟨rfl, h⟩ := h
              obtain ⟨hK, e2, hw⟩ := ih h
              refine ⟨hK, ?_, fun hh => ⟨hh.1, hw hh.2⟩⟩
              simp only [svals, scs, List.map_append] at e2 ⊢
              rw [e2]
            · exact h.elim
          · exact h.elim
def BV.m (x y : BV) (K : Prop) : Prop :=
  match x, y with
  | .one a, .one b => a.m b K
  | .agg l, .agg r => sgm l r K
  | _, _ => False
theorem BV.m_ok {x y : BV} {K : Prop} (h : x.m y K) : y.val = x.val ∧ (y.wf → x.wf) ∧ K := by
  unfold BV.m at h
  split at h
  · obtain ⟨e, h⟩ := SC.m_ok h; exact ⟨e, fun _ => bone_wf _, h⟩
  · obtain ⟨h, e, hw⟩ := sgm_ok h; exact ⟨by simp [BV.val, e], hw, h⟩
  · exact h.elim
def bsm : List BV → List BV → Prop → Prop
  | [], [], K => K
  | x :: l, y :: r, K => x.m y (bsm l r K)
  | _, _, _ => False
theorem bsm_ok : ∀ {l r : List BV} {K : Prop}, bsm l r K → r.map BV.val = l.map BV.val ∧ (bwf r → bwf l) ∧ K := by
  intro l
  induction l with
  | nil => intro r K h; cases r with
    | nil => exact ⟨rfl, id, h⟩
    | cons => exact h.elim
  | cons x l ih => intro r K h; cases r with
    | nil => exact h.elim
    | cons y r =>
      obtain ⟨e, hw, h⟩ := BV.m_ok (x := x) (y := y) h
      obtain ⟨e2, hw2, h⟩ := ih h
      exact ⟨by simp [e, e2], fun hh => ⟨hw hh.1, hw2 hh.2⟩, h⟩
def TV.m (x y : TV) (K : Prop) : Prop :=
  match x, y with
  | .b u, .b v => u.m v K
  | .tup l, .tup r => bsm l r K
  | _, _ => False
theorem TV.m_ok {x y : TV} {K : Prop} (h : x.m y K) : y.val = x.val ∧ (y.wf → x.wf) ∧ K := by
  unfold TV.m at h
  split at h
  · exact BV.m_ok h
  · obtain ⟨e, hw, h⟩ := bsm_ok h; exact ⟨by simp [TV.val, e], hw, h⟩
  · exact h.elim
def tmatch (T : Tm) : Tm → Prop → Prop
  | [], K => K
  | (t, v) :: r, K => (match tget T t with | some u => v.m u (tmatch T r K) | none => False)
theorem tmatch_ok {T : Tm} : ∀ {T1 : Tm} {K : Prop}, tmatch T T1 K → K ∧ ∀ t v, tget T1 t = some v → ∃ u, tget T t = some u ∧ u.val = v.val ∧ (u.wf → v.wf) := by
  intro T1
  induction T1 with
  | nil => intro K h; exact ⟨h, fun t v h => by cases h⟩
  | cons e r ih =>
    obtain ⟨t, v⟩ := e
    intro K h
    unfold tmatch at h
    split at h
    · rename_i u hu
      obtain ⟨e, hw, h⟩ := TV.m_ok h
      obtain ⟨hK, hr⟩ := ih h
      refine ⟨hK, fun t' v' h' => ?_⟩
      rw [tget_cons] at h'
      split at h'
      · rename_i e'; subst e'; cases h'; exact ⟨u, hu, e, hw⟩
      · exact hr t' v' h'
    · exact h.elim
theorem Fits.match {C : Ctx} {T T1 : Tm} {a : Act} (h : Fits C T a) (hs : ∀ t v, tget T1 t = some v → ∃ u, tget T t = some u ∧ u.val = v.val ∧ (u.wf → v.wf)) : Fits C T1 a :=
  ⟨fun t v ht => by obtain ⟨u, hu, e, _⟩ := hs t v ht; rw [h.tmps t u hu, e], fun t v ht => by obtain ⟨u, hu, _, hw⟩ := hs t v ht; exact hw (h.wf t u hu), h.size, h.defers⟩

/-! ### Memory -/
/-- A slice's elements, or a part of them. -/
structure OwnM {E' : Enc} (x' : SV) (L' : List E'.α) {E : Enc} (x : SV) (L : List E.α) (K : Prop) : Prop where
  go : K ∧ ∃ h : E' = E, (x' = x ∧ (h ▸ L') = L) ∨ ∃ lo hi, lo ≤ hi ∧ hi ≤ L'.length ∧ x = x'.sub E.sz lo hi ∧ L = ((h ▸ L').take hi).drop lo
theorem OwnM.same {E : Enc} {x x' : SV} {L L' : List E.α} {K : Prop} (hx : x' = x) (h : L' = L) (hK : K) : OwnM (E' := E) x' L' x L K := ⟨hK, rfl, .inl ⟨hx, h⟩⟩
theorem OwnM.part {E : Enc} {x x' : SV} {L L' : List E.α} {K : Prop} (lo hi : Nat) (hx : x = x'.sub E.sz lo hi) (h1 : lo ≤ hi ∧ hi ≤ L'.length) (h : L = (L'.take hi).drop lo) (hK : K) : OwnM (E' := E) x' L' x L K :=
  ⟨hK, rfl, .inr ⟨lo, hi, h1.1, h1.2, hx, h⟩⟩
/-- A part of an array, looked at as a slice. -/
structure ViewM (b' : Nat) (l : List Sg) {E : Enc} (x : SV) (L : List E.α) (K : Prop) : Prop where
  go : K ∧ ∃ off cap, x = .at b' off L.length cap ∧ L.length ≤ cap ∧ E.wf L ∧ (E.vals L) = ((svals l).drop off).take (L.length * E.sz)
theorem ViewM.arr {b' : Nat} {l : List Sg} {s : Sk} {x : SV} {L : List s.α} {K : Prop} (base o len cap : Nat) (hx : x = .at b' (base + o * 1) len cap) (hc : len ≤ cap) (h : segTakeEl l base o len fun r => r = [.arr s len L]) (hw : swf l) (hK : K) :
    ViewM (E := .sc s) b' l x L K := by
  obtain ⟨r, rfl, h1, h2, h3⟩ := segTakeEl_ok h hw
  have hl : L.length = len := h1.1
  subst hl
  refine ⟨hK, base + o * 1, cap, hx, hc, sc_wf s L, ?_⟩
  have e : svals [Sg.arr s L.length L] = (Enc.sc s).vals L := by
    rw [sc_vals]
    have : scs [Sg.arr s L.length L] = L.map s.enc := List.append_nil _
    rw [svals, this]
  rw [← e, svals_sub h3]
  simp [Enc.sz]

theorem SV.sub_blk (x : SV) (sz lo hi : Nat) : (x.sub sz lo hi).blk = x.blk := by cases x <;> rfl
theorem SV.sub_nil {x : SV} {sz lo hi : Nat} : x.sub sz lo hi = .nil ↔ x = .nil := by cases x <;> simp [SV.sub]
theorem own_part {w : World} {b : Nat} {T : TypeId} {E : Enc} {x : SV} {L : List E.α} (hw : E.wf L) (h : ownIs w b T E x L) {lo hi : Nat} (h1 : lo ≤ hi) (h2 : hi ≤ L.length) : ownIs w b T E (x.sub E.sz lo hi) ((L.take hi).drop lo) := by
  cases x with
  | nil => have h : L = [] := h; subst h; show _ = []; simp
  | «at» b' o len cap =>
    obtain ⟨rfl, rfl, pre, post, fl, fh, hh, hf, hp, hlc, hcap⟩ := h
    have hwt : E.wf (L.take hi) := Enc.wf_sub hw fun y hy => List.mem_of_mem_take hy
    have hws : E.wf ((L.take hi).drop lo) := Enc.wf_sub hwt fun y hy => List.mem_of_mem_drop hy
    have hln : ((L.take hi).drop lo).length = hi - lo := by simp; omega
    have hvl := E.vals_len hw
    have hsl : (E.vals ((L.take hi).drop lo)).length = (hi - lo) * E.sz := by rw [E.vals_len hws, hln]
    have e1 : E.vals L = E.vals (L.take lo) ++ E.vals ((L.take hi).drop lo) ++ E.vals (L.drop hi) := by
      rw [← E.vals_append, ← E.vals_append]
      congr 1
      have : L.take lo = (L.take hi).take lo := by rw [List.take_take, Nat.min_eq_left h1]
      rw [this, List.take_append_drop, List.take_append_drop]
    have htl : (E.vals (L.take lo)).length = lo * E.sz := by rw [E.vals_len (Enc.wf_sub hw fun y hy => List.mem_of_mem_take hy), List.length_take, Nat.min_eq_left (by omega)]
    show ownIs w b' T E (.at b' (if cap = lo then o else o + lo * E.sz) (hi - lo) (cap - lo)) _
    by_cases hcl : cap = lo
    · have e0 : hi = lo := by omega
      have en : (L.take hi).drop lo = [] := List.eq_nil_of_length_eq_zero (by rw [hln]; omega)
      rw [if_pos hcl, en]
      refine ⟨rfl, by simp; omega, pre, E.vals L ++ post, fl, fh, ?_, ?_, hp, by omega, ?_⟩
      · rw [hh]; simp [Enc.vals]
      · simp only [List.length_append, Enc.vals, List.flatMap_nil, List.append_nil, List.length_nil] at hf ⊢; rcases hf with hf | hf
        · exact .inl hf
        · right; omega
      · rw [hcl]; simp
    · rw [if_neg hcl]
      refine ⟨rfl, by rw [hln], pre ++ E.vals (L.take lo), E.vals (L.drop hi) ++ post, fl, fh, ?_, ?_, ?_, by omega, ?_⟩
      · rw [hh, e1]; simp
      · have := congrArg List.length e1
        simp only [List.length_append] at this hf ⊢
        rcases hf with hf | hf
        · exact .inl hf
        · right; omega
      · rw [List.length_append, htl, hp]
      · have := congrArg List.length e1
        simp only [List.length_append] at this ⊢
        rw [Nat.sub_mul]; omega
theorem view_part {w : World} {b : Nat} {E : Enc} {x : SV} {L : List E.α} (hw : E.wf L) (h : viewIs w b E x L) {lo hi : Nat} (h1 : lo ≤ hi) (h2 : hi ≤ L.length) : viewIs w b E (x.sub E.sz lo hi) ((L.take hi).drop lo) := by
  cases x with
  | nil => have h : L = [] := h; subst h; show _ = []; simp
  | «at» b' o len cap =>
    obtain ⟨rfl, rfl, hlc, hb, hc⟩ := h
    have hwt : E.wf (L.take hi) := Enc.wf_sub hw fun y hy => List.mem_of_mem_take hy
    have hws : E.wf ((L.take hi).drop lo) := Enc.wf_sub hwt fun y hy => List.mem_of_mem_drop hy
    have hln : ((L.take hi).drop lo).length = hi - lo := by simp; omega
    refine ⟨rfl, by rw [hln], by omega, hb, fun j v hv => ?_⟩
    have hj : j < (hi - lo) * E.sz := by
      have := (List.getElem?_eq_some_iff.1 hv).1
      rwa [E.vals_len hws, hln] at this
    have hcl : ¬ cap = lo := by
      intro e
      have : hi - lo = 0 := by omega
      rw [this] at hj; omega
    rw [if_neg hcl, Nat.add_assoc]
    refine hc _ _ ?_
    have e1 := (E.vals_split hw hi).2
    have e2 := (E.vals_split hwt lo).1
    rw [← e2, ← e1, List.getElem?_drop, List.getElem?_take] at hv
    split at hv
    · exact hv
    · cases hv
theorem own_view {w : World} {b : Nat} {T : TypeId} {E : Enc} {x : SV} {L : List E.α} (hi : (HB.own T E x L).Is w b) : viewIs w b E x L := by
  obtain ⟨hw, h⟩ := hi
  cases x with
  | nil => exact h
  | «at» b' o len cap =>
    have hc : ∀ j v, (E.vals L)[j]? = some v → w.cell? ⟨b, o + j, none⟩ = some v := fun j v hv => own_cell h hv
    obtain ⟨rfl, rfl, pre, post, fl, fh, hh, hf, hp, hlc, hcap⟩ := h
    exact ⟨rfl, rfl, hlc, (Array.getElem?_eq_some_iff.1 hh).1, hc⟩
theorem var_view {w : World} {b : Nat} {T : TypeId} {l : List Sg} {E : Enc} {x : SV} {L : List E.α} {off cap : Nat} (hlt : b < w.heap.size) (hcell : ∀ j v, (svals l)[j]? = some v → w.cell? ⟨b, j, none⟩ = some v) (hx : x = .at b off L.length cap) (hc : L.length ≤ cap) (he : (E.vals L) = ((svals l).drop off).take (L.length * E.sz)) : viewIs w b E x L := by
  subst hx
  exact ⟨rfl, rfl, hc, hlt, fun j v hv => hcell _ _ (sub_get he hv)⟩

def HB.m (b : Nat) (hb : HB) (b' : Nat) (hb' : HB) (K : Prop) : Prop :=
  match hb, hb' with
  | .var T l, .var T' l' => (match Nat.beq T T' with | true => Chk (b' = b) (sgm l l' K) | false => False)
  | .ro l, .ro l' => Chk (b' = b) (sgm l l' K)
  | .ro l, .var _ l' => Chk (b' = b) (sgm l l' K)
  | .own T E x L, .own T' E' x' L' => (match Nat.beq T T' with | true => Chk (b = x.blk) (OwnM x' L' x L K) | false => False)
  | .view E x L, .own _ E' x' L' => Chk (b = x.blk) (OwnM x' L' x L K)
  | .view E x L, .view E' x' L' => Chk (b = x.blk) (OwnM x' L' x L K)
  | .view E x L, .var _ l' => Chk (b = x.blk) (ViewM b' l' x L K)
  | .view E x L, .ro l' => Chk (b = x.blk) (ViewM b' l' x L K)
  | .obj o, .obj o' => Chk (b' = b ∧ o' = o) K
  | _, _ => False

/-- What is wanted follows from what is there. -/
def EntOk (H : Heap) (k b : Nat) (hb : HB) : Prop :=
  (¬ hb.occ ∧ ∀ w b, hb.Is w b) ∨ ∃ b' hb', hget H k = some (b', hb') ∧ (∀ w, hb'.Is w b' → hb.Is w b) ∧ (hb.isRw = true → hb'.isRw = true) ∧ ∀ w, hb'.Is w b' → hb.occ → hb'.occ ∧ b = b'

theorem HB.m_ok {b b' : Nat} {hb hb' : HB} {K : Prop} (h : HB.m b hb b' hb' K) : K ∧ (∀ w, hb'.Is w b' → hb.Is w b) ∧ (hb.isRw = true → hb'.isRw = true) ∧ ∀ w, hb'.Is w b' → hb.occ → hb'.occ ∧ b = b' := by
  have wfc : ∀ {E : Enc} {L : List E.α} {lo hi : Nat}, E.wf L → E.wf ((L.take hi).drop lo) := fun hw => Enc.wf_sub hw fun y hy => List.mem_of_mem_take (List.mem_of_mem_drop hy)
  have oblk : ∀ {w : World} {b : Nat} {T : TypeId} {E : Enc} {x : SV} {L : List E.α}, ownIs w b T E x L → x ≠ .nil → x.blk = b := by
    intro w b T E x L h hn
    cases x with
    | nil => exact (hn rfl).elim
    | «at» b' o len cap => exact h.1
  have vblk : ∀ {w : World} {b : Nat} {E : Enc} {x : SV} {L : List E.α}, viewIs w b E x L → x ≠ .nil → x.blk = b := by
    intro w b E x L h hn
    cases x with
    | nil => exact (hn rfl).elim
    | «at» b' o len cap => exact h.1
  have onil : ∀ {w : World} {b c : Nat} {T : TypeId} {E : Enc} {x : SV} {L : List E.α}, ownIs w b T E x L → (x ≠ .nil → b = c) → ownIs w c T E x L := by
    intro w b c T E x L h hbc
    cases x with
    | nil => exact h
    | «at» b' o len cap => rw [← hbc (by intro h; cases h)]; exact h
  have vnil : ∀ {w : World} {b c : Nat} {E : Enc} {x : SV} {L : List E.α}, viewIs w b E x L → (x ≠ .nil → b = c) → viewIs w c E x L := by
    intro w b c E x L h hbc
    cases x with
    | nil => exact h
    | «at» b' o len cap => rw [← hbc (by intro h; cases h)]; exact h
  unfold HB.m at h
  split at h
  · rename_i T l T' l'
    split at h
    · rename_i hT
      have hT := Nat.eq_of_beq_eq_true hT
      subst hT
      obtain ⟨rfl, h⟩ := h
      obtain ⟨hK, e, hw⟩ := sgm_ok h
      exact ⟨hK, fun w ⟨lo, hi, h1, h2, h3⟩ => ⟨lo, hi, by rw [← e]; exact h1, by rw [← e]; exact h2, hw h3⟩, fun _ => rfl, fun _ _ _ => ⟨trivial, rfl⟩⟩
    · exact h.elim
  · obtain ⟨rfl, h⟩ := h
    obtain ⟨hK, e, hw⟩ := sgm_ok h
    exact ⟨hK, fun w ⟨h1, h2, h3⟩ => ⟨h1, by rw [← e]; exact h2, hw h3⟩, fun h => (by cases h), fun _ _ _ => ⟨trivial, rfl⟩⟩
  · obtain ⟨rfl, h⟩ := h
    obtain ⟨hK, e, hw⟩ := sgm_ok h
    refine ⟨hK, fun w hi => ⟨hi.lt trivial, ?_, hw hi.cwf⟩, fun h => (by cases h), fun _ _ _ => ⟨trivial, rfl⟩⟩
    rw [← e]; exact fun j v hv => var_cell hi hv
  · rename_i T E x L T' E' x' L'
    split at h
    · rename_i hT
      have hT := Nat.eq_of_beq_eq_true hT
      subst hT
      obtain ⟨rfl, hK, rfl, h⟩ := h
      rcases h with ⟨rfl, rfl⟩ | ⟨lo, hi, h1, h2, rfl, rfl⟩
      · exact ⟨hK, fun w hi => ⟨hi.1, onil hi.2 fun hn => (oblk hi.2 hn).symm⟩, fun _ => rfl, fun w hi ho => ⟨ho, oblk hi.2 ho⟩⟩
      · refine ⟨hK, fun w hi => ⟨wfc hi.1, onil (own_part hi.1 hi.2 h1 h2) fun hn => ?_⟩, fun _ => rfl, fun w hi ho => ⟨fun e => ho (SV.sub_nil.2 e), ?_⟩⟩
        · rw [SV.sub_blk]; exact (oblk hi.2 fun e => hn (SV.sub_nil.2 e)).symm
        · rw [SV.sub_blk]; exact oblk hi.2 fun e => ho (SV.sub_nil.2 e)
    · exact h.elim
  · rename_i E x L T' E' x' L'
    obtain ⟨rfl, hK, rfl, h⟩ := h
    rcases h with ⟨rfl, rfl⟩ | ⟨lo, hi, h1, h2, rfl, rfl⟩
    · exact ⟨hK, fun w hi => ⟨hi.1, vnil (own_view hi) fun hn => (oblk hi.2 hn).symm⟩, fun h => (by cases h), fun w hi ho => ⟨ho, oblk hi.2 ho⟩⟩
    · refine ⟨hK, fun w hi => ⟨wfc hi.1, vnil (view_part hi.1 (own_view hi) h1 h2) fun hn => ?_⟩, fun h => (by cases h), fun w hi ho => ⟨fun e => ho (SV.sub_nil.2 e), ?_⟩⟩
      · rw [SV.sub_blk]; exact (oblk hi.2 fun e => hn (SV.sub_nil.2 e)).symm
      · rw [SV.sub_blk]; exact oblk hi.2 fun e => ho (SV.sub_nil.2 e)
  · rename_i E x L E' x' L'
    obtain ⟨rfl, hK, rfl, h⟩ := h
    rcases h with ⟨rfl, rfl⟩ | ⟨lo, hi, h1, h2, rfl, rfl⟩
    · exact ⟨hK, fun w hi => ⟨hi.1, vnil hi.2 fun hn => (vblk hi.2 hn).symm⟩, fun h => (by cases h), fun w hi ho => ⟨ho, vblk hi.2 ho⟩⟩
    · refine ⟨hK, fun w hi => ⟨wfc hi.1, vnil (view_part hi.1 hi.2 h1 h2) fun hn => ?_⟩, fun h => (by cases h), fun w hi ho => ⟨fun e => ho (SV.sub_nil.2 e), ?_⟩⟩
      · rw [SV.sub_blk]; exact (vblk hi.2 fun e => hn (SV.sub_nil.2 e)).symm
      · rw [SV.sub_blk]; exact vblk hi.2 fun e => ho (SV.sub_nil.2 e)
  · rename_i E x L T' l'
    obtain ⟨rfl, hK, off, cap, rfl, hc, hw, he⟩ := h
    exact ⟨hK, fun w hi => ⟨hw, var_view (T := T') (hi.lt trivial) (fun j v hv => var_cell hi hv) rfl hc he⟩, fun h => (by cases h), fun _ _ _ => ⟨trivial, rfl⟩⟩
  · rename_i E x L l'
    obtain ⟨rfl, hK, off, cap, rfl, hc, hw, he⟩ := h
    exact ⟨hK, fun w hi => ⟨hw, var_view (T := 0) hi.1 hi.2.1 rfl hc he⟩, fun h => (by cases h), fun _ _ _ => ⟨trivial, rfl⟩⟩
  · obtain ⟨⟨rfl, rfl⟩, h⟩ := h
    exact ⟨h, fun _ hi => hi, fun _ => rfl, fun _ _ _ => ⟨trivial, rfl⟩⟩
  · exact h.elim

def hmatch (H : Heap) : Heap → Prop → Prop
  | [], K => K
  | (k, b, hb) :: r, K => (match hget H k with
    | some (b', hb') => HB.m b hb b' hb' (hmatch H r K)
    | none => (match hb with
      | .own _ _ x L => Chk (x = .nil ∧ L = []) (hmatch H r K)
      | .view _ x L => Chk (x = .nil ∧ L = []) (hmatch H r K)
      | _ => False))
theorem hmatch_ok {H : Heap} : ∀ {H1 : Heap} {K : Prop}, hmatch H H1 K → K ∧ ∀ k b hb, hget H1 k = some (b, hb) → EntOk H k b hb := by
  intro H1
  induction H1 with
  | nil => intro K h; exact ⟨h, fun k b hb h => by cases h⟩
  | cons e r ih =>
    obtain ⟨k, b, hb⟩ := e
    intro K h
    have fin : hmatch H r K → EntOk H k b hb → K ∧ ∀ t c x, hget ((k, b, hb) :: r) t = some (c, x) → EntOk H t c x := by
      intro h he
      obtain ⟨hK, hr⟩ := ih h
      refine ⟨hK, fun t c x ht => ?_⟩
      rw [hget_cons] at ht
      split at ht
      · rename_i e'; subst e'; cases ht; exact he
      · exact hr t c x ht
    unfold hmatch at h
    split at h
    · rename_i b' hb' hg
      obtain ⟨h, h1, h2, h3⟩ := HB.m_ok h
      exact fin h (.inr ⟨b', hb', hg, h1, h2, h3⟩)
    · split at h
      · obtain ⟨⟨rfl, rfl⟩, h⟩ := h
        exact fin h (.inl ⟨fun h => h rfl, fun w b => ⟨(by intro x hx; cases hx), rfl⟩⟩)
      · obtain ⟨⟨rfl, rfl⟩, h⟩ := h
        exact fin h (.inl ⟨fun h => h rfl, fun w b => ⟨(by intro x hx; cases hx), rfl⟩⟩)
      · exact h.elim
theorem Rep.match {C : Ctx} {H H1 : Heap} {w : World} (h : Rep C H w) (hs : ∀ k b hb, hget H1 k = some (b, hb) → EntOk H k b hb) : Rep C H1 w := by
  refine ⟨fun k b hb hk => ?_, fun k k' b b' hb hb' hk hk' hne hr o1 o2 => ?_, fun k b hb hk hr o1 => ?_, h.frm⟩
  · rcases hs k b hb hk with ⟨_, hi⟩ | ⟨b', hb', hg, hi, _⟩
    · exact hi w b
    · exact hi w (h.is _ _ _ hg)
  · rcases hs k b hb hk with ⟨hn, _⟩ | ⟨c, x, hg, hi, h2, h3⟩
    · exact (hn o1).elim
    · rcases hs k' b' hb' hk' with ⟨hn, _⟩ | ⟨c', x', hg', hi', h2', h3'⟩
      · exact (hn o2).elim
      · obtain ⟨p1, rfl⟩ := h3 w (h.is _ _ _ hg) o1
        obtain ⟨p2, rfl⟩ := h3' w (h.is _ _ _ hg') o2
        exact h.apart k k' _ _ x x' hg hg' hne (h2 hr) p1 p2
  · rcases hs k b hb hk with ⟨hn, _⟩ | ⟨c, x, hg, hi, h2, h3⟩
    · exact (hn o1).elim
    · obtain ⟨p1, rfl⟩ := h3 w (h.is _ _ _ hg) o1
      exact h.own k _ x hg (h2 hr) p1

/-! ### Loops -/
/-- What a round asks. -/
def roundQ {α : Type} (st : α → Tm × Heap) (I : α → Prop) (μ : α → Nat) (x : α) (Q : Ex → Tm → Heap → Prop) : Ex → Tm → Heap → Prop
  | .normal, T, H => ∃ y, I y ∧ μ y < μ x ∧ tmatch T (st y).1 (hmatch H (st y).2 True)
  | e, T, H => Q e T H

theorem LoopG.of {C : Ctx} {body : Code} {T : Tm} {H : Heap} {Q : Ex → Tm → Heap → Prop} {α : Type} (st : α → Tm × Heap) (I : α → Prop) (μ : α → Nat) (x0 : α)
    (h0 : I x0 ∧ tmatch T (st x0).1 (hmatch H (st x0).2 True))
    (round : ∀ x, I x → sx C body (st x).1 (st x).2 (roundQ st I μ x Q)) : LoopG C body T H Q := by
  refine ⟨fun a w ha hw => ?_⟩
  let Inv : α → Act → World → Prop := fun x a w => I x ∧ Fits C (st x).1 a ∧ Rep C (st x).2 w
  have key : ∀ (x : α) a w, Inv x a w → (Code.loop body).wp C.P (QK C Q) a w := by
    intro x a w hI
    refine wp_loop (fun a w => ∃ x, Inv x a w) (fun a w => Classical.epsilon fun n => ∃ x, Inv x a w ∧ μ x = n ∧ ∀ y, Inv y a w → μ x ≤ μ y) ⟨x, hI⟩ ?_
    rintro a w ⟨y, hy⟩
    -- the least measure of this state
    have least : ∀ a w, (∃ x, Inv x a w) → ∃ n x, Inv x a w ∧ μ x = n ∧ ∀ y, Inv y a w → μ x ≤ μ y := by
      intro a w
      have aux : ∀ n x, Inv x a w → μ x = n → ∃ n x, Inv x a w ∧ μ x = n ∧ ∀ y, Inv y a w → μ x ≤ μ y := by
        intro n
        induction n using Nat.strongRecOn with
        | _ n ih =>
          intro x hx hn
          by_cases hmin : ∀ y, Inv y a w → μ x ≤ μ y
          · exact ⟨_, x, hx, rfl, hmin⟩
          · obtain ⟨y, hy⟩ := Classical.not_forall.1 hmin
            obtain ⟨hy1, hy2⟩ := Classical.not_imp.1 hy
            exact ih (μ y) (by omega) y hy1 rfl
      rintro ⟨z, hz⟩
      exact aux _ z hz rfl
    obtain ⟨z, hz, hzn, hzmin⟩ := Classical.epsilon_spec (least a w ⟨y, hy⟩)
    obtain ⟨hI', ha', hw'⟩ := hz
    refine wp_mono (sx_ok (round z hI') ha' hw') fun e a2 w2 hh => ?_
    cases e with
    | normal =>
      obtain ⟨T', H', ha2, hw2, u, hu, hlt, hT⟩ := hh
      obtain ⟨hH, hT⟩ := tmatch_ok hT
      have hinv : Inv u a2 w2 := ⟨hu, ha2.match hT, hw2.match (hmatch_ok hH).2⟩
      refine ⟨⟨u, hinv⟩, ?_⟩
      obtain ⟨v, hv, hvn, hvmin⟩ := Classical.epsilon_spec (least a2 w2 ⟨u, hinv⟩)
      rw [← hvn, ← hzn]
      exact Nat.lt_of_le_of_lt (hvmin u hinv) hlt
    | exit i => exact hh
    | ret => exact hh
    | goto l => exact hh.elim
    | panic ch => exact hh.elim
    | outgrown => exact hh.elim
  obtain ⟨hH, hT⟩ := tmatch_ok h0.2
  exact key x0 a w ⟨h0.1, ha.match hT, hw.match (hmatch_ok hH).2⟩

def pickT (T : Tm) : List Nat → (Tm → Prop) → Prop
  | [], K => K []
  | t :: r, K => (match tget T t with | some v => pickT T r fun R => K ((t, v) :: R) | none => False)
def pickH (H : Heap) : List Nat → (Heap → Prop) → Prop
  | [], K => K []
  | t :: r, K => (match hget H t with | some (b, hb) => pickH H r fun R => K ((t, b, hb) :: R) | none => False)
theorem pickT_ok {T : Tm} : ∀ {l : List Nat} {K : Tm → Prop}, pickT T l K → ∃ R, K R ∧ ∀ t v, tget R t = some v → tget T t = some v := by
  intro l
  induction l with
  | nil => intro K h; exact ⟨[], h, fun t v h => by cases h⟩
  | cons t l ih =>
    intro K h
    unfold pickT at h
    split at h
    · rename_i v hv
      obtain ⟨R, hK, hR⟩ := ih h
      refine ⟨_, hK, fun t' v' h' => ?_⟩
      rw [tget_cons] at h'
      split at h'
      · rename_i e; subst e; cases h'; exact hv
      · exact hR _ _ h'
    · exact h.elim
theorem pickH_ok {H : Heap} : ∀ {l : List Nat} {K : Heap → Prop}, pickH H l K → ∃ R, K R ∧ ∀ t v, hget R t = some v → hget H t = some v := by
  intro l
  induction l with
  | nil => intro K h; exact ⟨[], h, fun t v h => by cases h⟩
  | cons t l ih =>
    intro K h
    unfold pickH at h
    split at h
    · rename_i b hb hv
      obtain ⟨R, hK, hR⟩ := ih h
      refine ⟨_, hK, fun t' v' h' => ?_⟩
      rw [hget_cons] at h'
      split at h'
      · rename_i e; subst e; cases h'; exact hv
      · exact hR _ _ h'
    · exact h.elim
universe u
def appL {α : Type u} : List α → List α → List α
  | [], r => r
  | x :: l, r => x :: appL l r
/-- The blocks' numbers, of what is told anew: those that the names have; a slice tells its own. -/
def pickB (H : Heap) : List (Nat × HB) → (List Nat → Prop) → Prop
  | [], K => K []
  | (k, _) :: r, K => (match hget H k with
    | some (b, _) => pickB H r fun bs => K (b :: bs)
    | none => pickB H r fun bs => K (0 :: bs))
theorem pickB_ok {H : Heap} : ∀ {l : List (Nat × HB)} {K : List Nat → Prop}, pickB H l K → ∃ bs, K bs := by
  intro l
  induction l with
  | nil => intro K h; exact ⟨_, h⟩
  | cons e l ih =>
    intro K h
    unfold pickB at h
    split at h
    · obtain ⟨bs, h⟩ := ih h; exact ⟨_, h⟩
    · obtain ⟨bs, h⟩ := ih h; exact ⟨_, h⟩
def fillB : List Nat → List (Nat × HB) → Heap
  | _, [] => []
  | [], (k, .own T E x L) :: r => (k, x.blk, .own T E x L) :: fillB [] r
  | [], (k, .view E x L) :: r => (k, x.blk, .view E x L) :: fillB [] r
  | [], (k, .var T l) :: r => (k, 0, .var T l) :: fillB [] r
  | [], (k, .ro l) :: r => (k, 0, .ro l) :: fillB [] r
  | [], (k, .obj o) :: r => (k, 0, .obj o) :: fillB [] r
  | _ :: bs, (k, .own T E x L) :: r => (k, x.blk, .own T E x L) :: fillB bs r
  | _ :: bs, (k, .view E x L) :: r => (k, x.blk, .view E x L) :: fillB bs r
  | b :: bs, (k, .var T l) :: r => (k, b, .var T l) :: fillB bs r
  | b :: bs, (k, .ro l) :: r => (k, b, .ro l) :: fillB bs r
  | b :: bs, (k, .obj o) :: r => (k, b, .obj o) :: fillB bs r
/-- A loop: some slots and blocks stay as they are (ks, hs), some are told (upd, updH). -/
theorem LoopG.auto {C : Ctx} {body : Code} {T : Tm} {H : Heap} {Q : Ex → Tm → Heap → Prop} {α : Type} (ks hs : List Nat) (upd : α → Tm) (updH : α → List (Nat × HB)) (I : α → Prop) (μ : α → Nat) (x0 : α)
    (h : pickT T ks fun T0 => pickH H hs fun H0 => pickB H (updH x0) fun bs => (I x0 ∧ tmatch T (appL (upd x0) T0) (hmatch H (appL (fillB bs (updH x0)) H0) True)) ∧
      ∀ x, I x → sx C body (appL (upd x) T0) (appL (fillB bs (updH x)) H0) (roundQ (fun x => (appL (upd x) T0, appL (fillB bs (updH x)) H0)) I μ x Q)) : LoopG C body T H Q := by
  obtain ⟨T0, h, _⟩ := pickT_ok h
  obtain ⟨H0, h, _⟩ := pickH_ok h
  obtain ⟨bs, h⟩ := pickB_ok h
  exact LoopG.of (fun x => (appL (upd x) T0, appL (fillB bs (updH x)) H0)) I μ x0 h.1 h.2
/-- Where ways meet again: some slots and blocks stay as they are, some are told. -/
def joinQ {α : Type} (st : α → Tm × Heap) (I : α → Prop) (Q : Ex → Tm → Heap → Prop) : Ex → Tm → Heap → Prop
  | .normal, T, H => ∃ y, I y ∧ tmatch T (st y).1 (hmatch H (st y).2 True)
  | e, T, H => Q e T H
theorem CondG.join {C : Ctx} {c : Operand} {x y : Code} {T : Tm} {H : Heap} {Q : Ex → Tm → Heap → Prop} {α : Type} (ks hs : List Nat) (upd : α → Tm) (updH : α → List (Nat × HB)) (I : α → Prop) (x0 : α)
    (h : pickT T ks fun T0 => pickH H hs fun H0 => pickB H (updH x0) fun bs => CondG C c x y T H (joinQ (fun x => (appL (upd x) T0, appL (fillB bs (updH x)) H0)) I Q) ∧
      ∀ x, I x → Q .normal (appL (upd x) T0) (appL (fillB bs (updH x)) H0)) : CondG C c x y T H Q := by
  obtain ⟨T0, h, _⟩ := pickT_ok h
  obtain ⟨H0, h, _⟩ := pickH_ok h
  obtain ⟨bs, h, hk⟩ := pickB_ok h
  refine ⟨fun a w ha hw => wp_mono (h.go a w ha hw) fun e a' w' hh => ?_⟩
  cases e with
  | normal =>
    obtain ⟨T', H', ha', hw', x, hx, hT⟩ := hh
    obtain ⟨hH, hT⟩ := tmatch_ok hT
    exact ⟨_, _, ha'.match hT, hw'.match (hmatch_ok hH).2, hk x hx⟩
  | exit i => exact hh
  | ret => exact hh
  | goto l => exact hh.elim
  | panic ch => exact hh.elim
  | outgrown => exact hh.elim
abbrev vi (n : Int) : TV := .b (.one (.int .i64 n))
abbrev vs (s : List UInt8) : TV := .b (.one (.str s))
abbrev vb (x : Bool) : TV := .b (.one (.bool x))
abbrev v8 (x : UInt8) : TV := .b (.one (.w8 x))
abbrev v32 (x : BitVec 32) : TV := .b (.one (.w32 x))
abbrev v64 (x : BitVec 64) : TV := .b (.one (.w64 x))
abbrev vl (k : Nat) (x : SV) : TV := .b (.one (.lst k x))
abbrev vp (k b : Nat) : TV := .b (.one (.ptr ⟨k, b, .lit 0⟩))
abbrev va (l : List Sg) : TV := .b (.agg l)
end Go.SY
