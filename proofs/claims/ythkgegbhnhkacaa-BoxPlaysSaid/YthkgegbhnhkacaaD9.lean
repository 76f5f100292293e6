/- Package box: its bytes are read. -/
import Derived.Test.YthkgegbhnhkacaaD8
import Derived.Test.YthkgegbhnhkacaaV4
set_option linter.unusedVariables false
set_option linter.unusedSimpArgs false
set_option maxRecDepth 10000
set_option maxHeartbeats 4000000
namespace Go.Proofs.Ythkgegbhnhkacaa
open Go Go.SY
seal sx sxOps

theorem val8_be8 (N : Nat) (hN : N < 2 ^ 64) : ∀ j, j ≤ 8 → val8 (be8 N j) = N / 2 ^ (64 - 8 * j) := by
  intro j
  induction j with
  | zero =>
    intro _
    have h1 : N / 2 ^ 64 = 0 := Nat.div_eq_of_lt hN
    rw [Nat.mul_zero, Nat.sub_zero, h1]; rfl
  | succ j ih =>
    intro hj
    have ih := ih (by omega)
    have hp : 64 - 8 * j = (56 - 8 * j) + 8 := by omega
    have hq : 64 - 8 * (j + 1) = 56 - 8 * j := by omega
    rw [hp, Nat.pow_add, ← Nat.div_div_eq_div_mul] at ih
    rw [hq, be8_succ, val8_snoc, ih, UInt8.toNat_ofNat']
    omega
theorem num_back (n : Int) (rest : List UInt8) (h0 : 0 ≤ n) (hn : n ≤ 9223372036854775807) : numR (num8 n ++ rest, 0) = ((rest, 0), n) := by
  have hl := num8_length n
  have e8 : nz 8 = 8 := rfl
  have hnz : nz n ≤ 9223372036854775807 := by unfold nz; omega
  have hraw : rawR (num8 n ++ rest, 0) 8 = ((rest, 0), num8 n) := by
    unfold rawR
    rw [if_neg (by rw [e8, List.length_append, hl]; omega), e8]
    rw [List.drop_append_of_le_length (by omega), List.take_append_of_le_length (by omega), List.drop_of_length_le (by omega), List.take_of_length_le (by omega)]
    rfl
  have hne : num8 n ≠ [] := fun e => by rw [e] at hl; cases hl
  have hv : val8 (num8 n) = nz n := by
    have := val8_be8 (nz n) (by omega) 8 (by decide)
    rw [show 64 - 8 * 8 = 0 by decide, Nat.pow_zero, Nat.div_one] at this
    exact this
  have hb : ¬ 128 ≤ ((num8 n).getD 0 0).toNat := by
    have : (num8 n).getD 0 0 = UInt8.ofNat (nz n / 2 ^ 56) := rfl
    rw [this, UInt8.toNat_ofNat']
    omega
  have hni : ((nz n : Nat) : Int) = n := by unfold nz; omega
  unfold numR
  rw [hraw]
  rw [if_neg hne, if_neg hb, hv, hni]
theorem num_in2 (b : Nat) (n : Int) (rest : List UInt8) (h0 : 0 ≤ n) (hn : n ≤ 9223372036854775807) :
    CtrU R 45 [vp 0 b] [inV b (num8 n ++ rest, 0)] (vi n) [inV b (rest, 0)] := by
  have h := num_in b (num8 n ++ rest, 0)
  rw [num_back n rest h0 hn] at h
  exact h
/-- An entry as it may be, below the next UID. -/
def okE (n : Int) (e : Ent) : Prop := (1 ≤ e.1 ∧ e.1 < n) ∧ (0 ≤ e.2.1 ∧ e.2.1 ≤ 31) ∧ (1 ≤ e.2.2 ∧ e.2.2 ≤ 1099511627776)
def Good (n : Int) (L : List Ent) : Prop := L.Pairwise (fun a b => a.1 < b.1) ∧ ∀ e ∈ L, okE n e
/-- The UID ahead of one. -/
def lastU (L : List Ent) : Nat → Int
  | 0 => 0
  | i + 1 => (L.getD i (0, 0, 0)).1
theorem Good.at {n : Int} {L : List Ent} (h : Good n L) {i : Nat} (hi : i < L.length) : okE n (L.getD i (0, 0, 0)) := by
  rw [gd_lt hi]; exact h.2 _ (List.getElem_mem _)
theorem Good.lt {n : Int} {L : List Ent} (h : Good n L) {i j : Nat} (hij : i < j) (hj : j < L.length) : (L.getD i (0, 0, 0)).1 < (L.getD j (0, 0, 0)).1 := by
  rw [gd_lt hj, gd_lt (show i < L.length by omega)]
  exact List.pairwise_iff_getElem.1 h.1 i j (by omega) hj hij
theorem Good.last {n : Int} {L : List Ent} (h : Good n L) {i : Nat} (hi : i < L.length) : lastU L i + 1 ≤ (L.getD i (0, 0, 0)).1 := by
  cases i with
  | zero => have := (h.at hi).1.1; show (0 : Int) + 1 ≤ _; omega
  | succ i => have := h.lt (j := i + 1) (Nat.lt_succ_self i) hi; show (L.getD i (0, 0, 0)).1 + 1 ≤ (L.getD (i + 1) (0, 0, 0)).1; omega
theorem Good.last0 {n : Int} {L : List Ent} (h : Good n L) {i : Nat} (hi : i ≤ L.length) : 0 ≤ lastU L i := by
  cases i with
  | zero => exact Int.le_refl 0
  | succ i => have := (h.at (i := i) (by omega)).1.1; show 0 ≤ (L.getD i (0, 0, 0)).1; omega
theorem Good.fil {n : Int} {L : List Ent} (h : Good n L) (p : Ent → Bool) : Good n (L.filter p) :=
  ⟨h.1.filter p, fun e he => h.2 e (List.mem_filter.1 he).1⟩
theorem Good.more {n m : Int} {L : List Ent} (h : Good n L) (hm : n ≤ m) : Good m L := ⟨h.1, fun e he => ⟨⟨(h.2 e he).1.1, Int.lt_of_lt_of_le (h.2 e he).1.2 hm⟩, (h.2 e he).2⟩⟩
theorem Good.snoc {n f m : Int} {L : List Ent} (h : Good n L) (hn : 1 ≤ n) (hf : 0 ≤ f ∧ f ≤ 31) (hm : 1 ≤ m ∧ m ≤ 1099511627776) : Good (n + 1) (L ++ [(n, f, m)]) := by
  refine ⟨List.pairwise_append.2 ⟨h.1, List.pairwise_singleton _ _, fun a ha b hb => ?_⟩, fun e he => ?_⟩
  · rw [List.mem_singleton.1 hb]; exact (h.2 a ha).1.2
  · rcases List.mem_append.1 he with he | he
    · exact (h.more (by omega)).2 e he
    · rw [List.mem_singleton.1 he]; exact ⟨⟨hn, by show n < n + 1; omega⟩, hf, hm⟩
theorem Good.nums {n : Int} {L : List Ent} (h : Good n L) (hn : n ≤ 1099511627776) : ∀ e ∈ L, ∀ m ∈ entN e, okN m := by
  intro e he m hm
  obtain ⟨h1, h2, h3⟩ := h.2 e he
  simp only [entN, List.mem_cons, List.not_mem_nil, or_false] at hm
  unfold okN nz
  rcases hm with rfl | rfl | rfl <;> omega
theorem packB_parts (v n : Int) (L : List Ent) (s : List UInt8) : packB v n L ++ s = num8 v ++ (num8 n ++ (num8 (L.length : Int) ++ (entsB L ++ s))) := by
  unfold packB nums; simp
theorem entsB_parts (L : List Ent) (s : List UInt8) (i : Nat) (hi : i < L.length) : entsB (L.drop i) ++ s = num8 (L.getD i (0, 0, 0)).1 ++ (num8 (L.getD i (0, 0, 0)).2.1 ++ (num8 (L.getD i (0, 0, 0)).2.2 ++ (entsB (L.drop (i + 1)) ++ s))) := by
  rw [entsB_drop L i hi]; unfold entN nums; simp
theorem read_ok (b : Nat) (v n : Int) (L : List Ent) (s : List UInt8) (hL : L.length ≤ 256) (hv : 1 ≤ v ∧ v ≤ 1099511627776) (hn : 1 ≤ n ∧ n ≤ 1099511627776) (hg : Good n L) :
    Ctr R 21 [vp 0 b] [inV b (packB v n L ++ s, 0)] (fun _ : Nat × SV => True) (fun z => .tup [.one (.ptr ⟨14, z.1, .lit 0⟩), .one (.int .i64 0)])
      (fun z => [inV b (s, 0), (14, z.1, .var 62 [.c (.int .i64 v), .c (.int .i64 n), .c (.lst 86 z.2)]), (86, z.2.blk, .own 27 (.st entS) z.2 L)]) := by
  rw [packB_parts]
  refine Ctr.of Try.func21 rfl (by kernel_rfl) rfl fun _ _ w0 => ?_
  have hn1 := num_in2 b v (num8 n ++ (num8 (L.length : Int) ++ (entsB L ++ s))) (by omega) (by omega)
  have hn2 := num_in2 b n (num8 (L.length : Int) ++ (entsB L ++ s)) (by omega) (by omega)
  have hn3 := num_in2 b (L.length : Int) (entsB L ++ s) (by omega) (by omega)
  have hw1 := within_ok v 1 1099511627776
  rw [decide_eq_true hv] at hw1
  have hw2 := within_ok n 1 1099511627776
  rw [decide_eq_true hn] at hw2
  have hl2 : ¬ ((L.length : Int) > 256) := by omega
  repeat ((conv => whnf); with_reducible first | refine Sx.go ?_ | refine Sx.seq ?_ | refine Sx.reg ?_ | refine SxO.cons ?_ | refine SxO.nil ?_ | refine SeqK.normal ?_ | refine SeqK.ret ?_ | refine SeqK.exit ?_ | refine BlkK.normal ?_ | refine BlkK.ret ?_ | refine BlkK.hit ?_ | refine Sx.cond ?_ | refine Sx.block ?_ | refine Sx.loop ?_ | refine Sx.draw ?_ | refine Sx.ret ?_ | refine Sx.exit ?_ | refine Sx.skip ?_ | refine Sx.label ?_ | refine CondG.split ?_ | refine k1 ?_ | refine ke fun _ => ?_ | refine k2 ?_ | refine kg ?_ | refine kf ?_ | refine k3 ?_ | refine k4 ?_ | refine kn ?_ | refine Same.rfl ?_ | refine k5 ?_ | refine k6 ?_ | refine k7 ?_ | refine k8 ?_ | refine k9 ?_ | refine ka ?_ | refine kb ?_ | refine kl ?_ | refine km ?_ | refine kc ?_ | refine kd ?_ | exact True.intro)
  refine CallG.one [] hn1 rfl rfl ?_
  repeat ((conv => whnf); with_reducible first | refine Sx.go ?_ | refine Sx.seq ?_ | refine Sx.reg ?_ | refine SxO.cons ?_ | refine SxO.nil ?_ | refine SeqK.normal ?_ | refine SeqK.ret ?_ | refine SeqK.exit ?_ | refine BlkK.normal ?_ | refine BlkK.ret ?_ | refine BlkK.hit ?_ | refine Sx.cond ?_ | refine Sx.block ?_ | refine Sx.loop ?_ | refine Sx.draw ?_ | refine Sx.ret ?_ | refine Sx.exit ?_ | refine Sx.skip ?_ | refine Sx.label ?_ | refine CondG.split ?_ | refine k1 ?_ | refine ke fun _ => ?_ | refine k2 ?_ | refine kg ?_ | refine kf ?_ | refine k3 ?_ | refine k4 ?_ | refine kn ?_ | refine Same.rfl ?_ | refine k5 ?_ | refine k6 ?_ | refine k7 ?_ | refine k8 ?_ | refine k9 ?_ | refine ka ?_ | refine kb ?_ | refine kl ?_ | refine km ?_ | refine kc ?_ | refine kd ?_ | exact True.intro)
  refine CallG.one [] hn2 rfl rfl ?_
  repeat ((conv => whnf); with_reducible first | refine Sx.go ?_ | refine Sx.seq ?_ | refine Sx.reg ?_ | refine SxO.cons ?_ | refine SxO.nil ?_ | refine SeqK.normal ?_ | refine SeqK.ret ?_ | refine SeqK.exit ?_ | refine BlkK.normal ?_ | refine BlkK.ret ?_ | refine BlkK.hit ?_ | refine Sx.cond ?_ | refine Sx.block ?_ | refine Sx.loop ?_ | refine Sx.draw ?_ | refine Sx.ret ?_ | refine Sx.exit ?_ | refine Sx.skip ?_ | refine Sx.label ?_ | refine CondG.split ?_ | refine k1 ?_ | refine ke fun _ => ?_ | refine k2 ?_ | refine kg ?_ | refine kf ?_ | refine k3 ?_ | refine k4 ?_ | refine kn ?_ | refine Same.rfl ?_ | refine k5 ?_ | refine k6 ?_ | refine k7 ?_ | refine k8 ?_ | refine k9 ?_ | refine ka ?_ | refine kb ?_ | refine kl ?_ | refine km ?_ | refine kc ?_ | refine kd ?_ | exact True.intro)
  rename_i b14
  refine CallG.one [] hn3 rfl rfl ?_
  repeat ((conv => whnf); with_reducible first | refine Sx.go ?_ | refine Sx.seq ?_ | refine Sx.reg ?_ | refine SxO.cons ?_ | refine SxO.nil ?_ | refine SeqK.normal ?_ | refine SeqK.ret ?_ | refine SeqK.exit ?_ | refine BlkK.normal ?_ | refine BlkK.ret ?_ | refine BlkK.hit ?_ | refine Sx.cond ?_ | refine Sx.block ?_ | refine Sx.loop ?_ | refine Sx.draw ?_ | refine Sx.ret ?_ | refine Sx.exit ?_ | refine Sx.skip ?_ | refine Sx.label ?_ | refine CondG.split ?_ | refine k1 ?_ | refine ke fun _ => ?_ | refine k2 ?_ | refine kg ?_ | refine kf ?_ | refine k3 ?_ | refine k4 ?_ | refine kn ?_ | refine Same.rfl ?_ | refine k5 ?_ | refine k6 ?_ | refine k7 ?_ | refine k8 ?_ | refine k9 ?_ | refine ka ?_ | refine kb ?_ | refine kl ?_ | refine km ?_ | refine kc ?_ | refine kd ?_ | exact True.intro)
  refine CallG.p [] hw1 rfl rfl ?_
  repeat ((conv => whnf); with_reducible first | refine Sx.go ?_ | refine Sx.seq ?_ | refine Sx.reg ?_ | refine SxO.cons ?_ | refine SxO.nil ?_ | refine SeqK.normal ?_ | refine SeqK.ret ?_ | refine SeqK.exit ?_ | refine BlkK.normal ?_ | refine BlkK.ret ?_ | refine BlkK.hit ?_ | refine Sx.cond ?_ | refine Sx.block ?_ | refine Sx.loop ?_ | refine Sx.draw ?_ | refine Sx.ret ?_ | refine Sx.exit ?_ | refine Sx.skip ?_ | refine Sx.label ?_ | refine CondG.split ?_ | refine k1 ?_ | refine ke fun _ => ?_ | refine k2 ?_ | refine kg ?_ | refine kf ?_ | refine k3 ?_ | refine k4 ?_ | refine kn ?_ | refine Same.rfl ?_ | refine k5 ?_ | refine k6 ?_ | refine k7 ?_ | refine k8 ?_ | refine k9 ?_ | refine ka ?_ | refine kb ?_ | refine kl ?_ | refine km ?_ | refine kc ?_ | refine kd ?_ | exact True.intro)
  refine CallG.p [] hw2 rfl rfl ?_
  repeat ((conv => whnf); with_reducible first | refine Sx.go ?_ | refine Sx.seq ?_ | refine Sx.reg ?_ | refine SxO.cons ?_ | refine SxO.nil ?_ | refine SeqK.normal ?_ | refine SeqK.ret ?_ | refine SeqK.exit ?_ | refine BlkK.normal ?_ | refine BlkK.ret ?_ | refine BlkK.hit ?_ | refine Sx.cond ?_ | refine Sx.block ?_ | refine Sx.loop ?_ | refine Sx.draw ?_ | refine Sx.ret ?_ | refine Sx.exit ?_ | refine Sx.skip ?_ | refine Sx.label ?_ | refine CondG.split ?_ | refine k1 ?_ | refine ke fun _ => ?_ | refine k2 ?_ | refine kg ?_ | refine kf ?_ | refine k3 ?_ | refine k4 ?_ | refine kn ?_ | refine Same.rfl ?_ | refine k5 ?_ | refine k6 ?_ | refine k7 ?_ | refine k8 ?_ | refine k9 ?_ | refine ka ?_ | refine kb ?_ | refine kl ?_ | refine km ?_ | refine kc ?_ | refine kd ?_ | exact True.intro)
  refine LoopG.two [0, 4] [] (fun (i : Nat) (z : SV) => [(5, vi ((L.length : Int) - i)), (6, vi (lastU L i))]) (fun i z => [(0, .var 82 [.c (.str (entsB (L.drop i) ++ s)), .c (.int .i64 0)]), (14, .var 62 [.c (.int .i64 v), .c (.int .i64 n), .c (.lst 86 z)]), (86, .own 27 (.st entS) z (L.take i))]) (fun i z => i ≤ L.length) (fun i => L.length - i) 0 .nil ?_
  refine ⟨⟨by omega, ?_⟩, fun i z hi => ?_⟩
  · rw [show lastU L 0 = 0 from rfl]
    repeat ((conv => whnf); with_reducible first | refine Sx.go ?_ | refine Sx.seq ?_ | refine Sx.reg ?_ | refine SxO.cons ?_ | refine SxO.nil ?_ | refine SeqK.normal ?_ | refine SeqK.ret ?_ | refine SeqK.exit ?_ | refine BlkK.normal ?_ | refine BlkK.ret ?_ | refine BlkK.hit ?_ | refine Sx.cond ?_ | refine Sx.block ?_ | refine Sx.loop ?_ | refine Sx.draw ?_ | refine Sx.ret ?_ | refine Sx.exit ?_ | refine Sx.skip ?_ | refine Sx.label ?_ | refine CondG.split ?_ | refine k1 ?_ | refine ke fun _ => ?_ | refine k2 ?_ | refine kg ?_ | refine kf ?_ | refine k3 ?_ | refine k4 ?_ | refine kn ?_ | refine Same.rfl ?_ | refine k5 ?_ | refine k6 ?_ | refine k7 ?_ | refine k8 ?_ | refine k9 ?_ | refine ka ?_ | refine kb ?_ | refine kl ?_ | refine km ?_ | refine kc ?_ | refine kd ?_ | exact True.intro)
    refine Chk.mk rfl ?_
    repeat ((conv => whnf); with_reducible first | refine Sx.go ?_ | refine Sx.seq ?_ | refine Sx.reg ?_ | refine SxO.cons ?_ | refine SxO.nil ?_ | refine SeqK.normal ?_ | refine SeqK.ret ?_ | refine SeqK.exit ?_ | refine BlkK.normal ?_ | refine BlkK.ret ?_ | refine BlkK.hit ?_ | refine Sx.cond ?_ | refine Sx.block ?_ | refine Sx.loop ?_ | refine Sx.draw ?_ | refine Sx.ret ?_ | refine Sx.exit ?_ | refine Sx.skip ?_ | refine Sx.label ?_ | refine CondG.split ?_ | refine k1 ?_ | refine ke fun _ => ?_ | refine k2 ?_ | refine kg ?_ | refine kf ?_ | refine k3 ?_ | refine k4 ?_ | refine kn ?_ | refine Same.rfl ?_ | refine k5 ?_ | refine k6 ?_ | refine k7 ?_ | refine k8 ?_ | refine k9 ?_ | refine ka ?_ | refine kb ?_ | refine kl ?_ | refine km ?_ | refine kc ?_ | refine kd ?_ | exact True.intro)
  · have htl : (L.take i).length = i := by rw [List.length_take]; omega
    (repeat ((conv => whnf); with_reducible first | refine Sx.go ?_ | refine Sx.seq ?_ | refine Sx.reg ?_ | refine SxO.cons ?_ | refine SxO.nil ?_ | refine SeqK.normal ?_ | refine SeqK.ret ?_ | refine SeqK.exit ?_ | refine BlkK.normal ?_ | refine BlkK.ret ?_ | refine BlkK.hit ?_ | refine Sx.cond ?_ | refine Sx.block ?_ | refine Sx.loop ?_ | refine Sx.draw ?_ | refine Sx.ret ?_ | refine Sx.exit ?_ | refine Sx.skip ?_ | refine Sx.label ?_ | refine CondG.split ?_ | refine k1 ?_ | refine ke fun _ => ?_ | refine k2 ?_ | refine kg ?_ | refine kf ?_ | refine k3 ?_ | refine k4 ?_ | refine kn ?_ | refine Same.rfl ?_ | refine k5 ?_ | refine k6 ?_ | refine k7 ?_ | refine k8 ?_ | refine k9 ?_ | refine ka ?_ | refine kb ?_ | refine kl ?_ | refine km ?_ | refine kc ?_ | refine kd ?_ | exact True.intro)); refine Br.by (fun g => ?_) (fun g => ?_)
    · have hi2 : i < L.length := by omega
      have ho := hg.at hi2
      have hla := hg.last hi2
      have hl00 := hg.last0 hi
      have hsn : L.take (i + 1) = L.take i ++ [L.getD i (0, 0, 0)] := by rw [List.take_succ_eq_append_getElem hi2, gd_lt hi2]
      have hls : lastU L (i + 1) = (L.getD i (0, 0, 0)).1 := rfl
      obtain ⟨e, he⟩ : ∃ e, e = L.getD i (0, 0, 0) := ⟨_, rfl⟩
      have hpa := entsB_parts L s i hi2
      rw [← he] at ho hla hsn hls hpa
      obtain ⟨l0, hl0⟩ : ∃ l0, l0 = lastU L i := ⟨_, rfl⟩
      rw [← hl0] at hla hl00
      obtain ⟨ho1, ho2, ho3⟩ := ho
      obtain ⟨ho11, ho12⟩ := ho1
      obtain ⟨ho21, ho22⟩ := ho2
      obtain ⟨ho31, ho32⟩ := ho3
      have hm1 := num_in2 b e.1 (num8 e.2.1 ++ (num8 e.2.2 ++ (entsB (L.drop (i + 1)) ++ s))) (by omega) (by omega)
      have hm2 := num_in2 b e.2.1 (num8 e.2.2 ++ (entsB (L.drop (i + 1)) ++ s)) (by omega) (by omega)
      have hm3 := num_in2 b e.2.2 (entsB (L.drop (i + 1)) ++ s) (by omega) (by omega)
      have hv1 := within_ok e.1 (l0 + 1) (n - 1)
      rw [decide_eq_true ⟨hla, by omega⟩] at hv1
      have hv2 := within_ok e.2.2 1 1099511627776
      rw [decide_eq_true ⟨ho31, ho32⟩] at hv2
      have hp : place notFlag [e.2.1] = -1 := by
        have : notFlag e.2.1 = false := by unfold notFlag; rw [decide_eq_true ⟨ho21, ho22⟩]; rfl
        unfold place; rw [this]; rfl
      have hfl : ∀ b, CtrP R 28 [vl 0 (.at b 0 1 1)] [(0, b, .view (.sc (.int .i64)) (.at b 0 1 1) [e.2.1])] (vb true) := fun b => by
        have h := flags_ok (.at b 0 1 1) [e.2.1] (by simp)
        rw [hp] at h; exact h
      rw [hpa, ← hl0]
      repeat ((conv => whnf); with_reducible first | refine Sx.go ?_ | refine Sx.seq ?_ | refine Sx.reg ?_ | refine SxO.cons ?_ | refine SxO.nil ?_ | refine SeqK.normal ?_ | refine SeqK.ret ?_ | refine SeqK.exit ?_ | refine BlkK.normal ?_ | refine BlkK.ret ?_ | refine BlkK.hit ?_ | refine Sx.cond ?_ | refine Sx.block ?_ | refine Sx.loop ?_ | refine Sx.draw ?_ | refine Sx.ret ?_ | refine Sx.exit ?_ | refine Sx.skip ?_ | refine Sx.label ?_ | refine CondG.split ?_ | refine k1 ?_ | refine ke fun _ => ?_ | refine k2 ?_ | refine kg ?_ | refine kf ?_ | refine k3 ?_ | refine k4 ?_ | refine kn ?_ | refine Same.rfl ?_ | refine k5 ?_ | refine k6 ?_ | refine k7 ?_ | refine k8 ?_ | refine k9 ?_ | refine ka ?_ | refine kb ?_ | refine kl ?_ | refine km ?_ | refine kc ?_ | refine kd ?_ | exact True.intro)
      refine CallG.one [] (err_in b (num8 e.1 ++ (num8 e.2.1 ++ (num8 e.2.2 ++ (entsB (L.drop (i + 1)) ++ s))), 0)) rfl rfl ?_
      repeat ((conv => whnf); with_reducible first | refine Sx.go ?_ | refine Sx.seq ?_ | refine Sx.reg ?_ | refine SxO.cons ?_ | refine SxO.nil ?_ | refine SeqK.normal ?_ | refine SeqK.ret ?_ | refine SeqK.exit ?_ | refine BlkK.normal ?_ | refine BlkK.ret ?_ | refine BlkK.hit ?_ | refine Sx.cond ?_ | refine Sx.block ?_ | refine Sx.loop ?_ | refine Sx.draw ?_ | refine Sx.ret ?_ | refine Sx.exit ?_ | refine Sx.skip ?_ | refine Sx.label ?_ | refine CondG.split ?_ | refine k1 ?_ | refine ke fun _ => ?_ | refine k2 ?_ | refine kg ?_ | refine kf ?_ | refine k3 ?_ | refine k4 ?_ | refine kn ?_ | refine Same.rfl ?_ | refine k5 ?_ | refine k6 ?_ | refine k7 ?_ | refine k8 ?_ | refine k9 ?_ | refine ka ?_ | refine kb ?_ | refine kl ?_ | refine km ?_ | refine kc ?_ | refine kd ?_ | exact True.intro)
      refine CallG.one [] hm1 rfl rfl ?_
      repeat ((conv => whnf); with_reducible first | refine Sx.go ?_ | refine Sx.seq ?_ | refine Sx.reg ?_ | refine SxO.cons ?_ | refine SxO.nil ?_ | refine SeqK.normal ?_ | refine SeqK.ret ?_ | refine SeqK.exit ?_ | refine BlkK.normal ?_ | refine BlkK.ret ?_ | refine BlkK.hit ?_ | refine Sx.cond ?_ | refine Sx.block ?_ | refine Sx.loop ?_ | refine Sx.draw ?_ | refine Sx.ret ?_ | refine Sx.exit ?_ | refine Sx.skip ?_ | refine Sx.label ?_ | refine CondG.split ?_ | refine k1 ?_ | refine ke fun _ => ?_ | refine k2 ?_ | refine kg ?_ | refine kf ?_ | refine k3 ?_ | refine k4 ?_ | refine kn ?_ | refine Same.rfl ?_ | refine k5 ?_ | refine k6 ?_ | refine k7 ?_ | refine k8 ?_ | refine k9 ?_ | refine ka ?_ | refine kb ?_ | refine kl ?_ | refine km ?_ | refine kc ?_ | refine kd ?_ | exact True.intro)
      refine CallG.one [] hm2 rfl rfl ?_
      repeat ((conv => whnf); with_reducible first | refine Sx.go ?_ | refine Sx.seq ?_ | refine Sx.reg ?_ | refine SxO.cons ?_ | refine SxO.nil ?_ | refine SeqK.normal ?_ | refine SeqK.ret ?_ | refine SeqK.exit ?_ | refine BlkK.normal ?_ | refine BlkK.ret ?_ | refine BlkK.hit ?_ | refine Sx.cond ?_ | refine Sx.block ?_ | refine Sx.loop ?_ | refine Sx.draw ?_ | refine Sx.ret ?_ | refine Sx.exit ?_ | refine Sx.skip ?_ | refine Sx.label ?_ | refine CondG.split ?_ | refine k1 ?_ | refine ke fun _ => ?_ | refine k2 ?_ | refine kg ?_ | refine kf ?_ | refine k3 ?_ | refine k4 ?_ | refine kn ?_ | refine Same.rfl ?_ | refine k5 ?_ | refine k6 ?_ | refine k7 ?_ | refine k8 ?_ | refine k9 ?_ | refine ka ?_ | refine kb ?_ | refine kl ?_ | refine km ?_ | refine kc ?_ | refine kd ?_ | exact True.intro)
      refine CallG.one [] hm3 rfl rfl ?_
      repeat ((conv => whnf); with_reducible first | refine Sx.go ?_ | refine Sx.seq ?_ | refine Sx.reg ?_ | refine SxO.cons ?_ | refine SxO.nil ?_ | refine SeqK.normal ?_ | refine SeqK.ret ?_ | refine SeqK.exit ?_ | refine BlkK.normal ?_ | refine BlkK.ret ?_ | refine BlkK.hit ?_ | refine Sx.cond ?_ | refine Sx.block ?_ | refine Sx.loop ?_ | refine Sx.draw ?_ | refine Sx.ret ?_ | refine Sx.exit ?_ | refine Sx.skip ?_ | refine Sx.label ?_ | refine CondG.split ?_ | refine k1 ?_ | refine ke fun _ => ?_ | refine k2 ?_ | refine kg ?_ | refine kf ?_ | refine k3 ?_ | refine k4 ?_ | refine kn ?_ | refine Same.rfl ?_ | refine k5 ?_ | refine k6 ?_ | refine k7 ?_ | refine k8 ?_ | refine k9 ?_ | refine ka ?_ | refine kb ?_ | refine kl ?_ | refine km ?_ | refine kc ?_ | refine kd ?_ | exact True.intro)
      refine Draw.tailQ 10 (by kernel_rfl) (by kernel_rfl) ?_
      repeat ((conv => whnf); with_reducible first | refine Sx.go ?_ | refine Sx.seq ?_ | refine Sx.reg ?_ | refine SxO.cons ?_ | refine SxO.nil ?_ | refine SeqK.normal ?_ | refine SeqK.ret ?_ | refine SeqK.exit ?_ | refine BlkK.normal ?_ | refine BlkK.ret ?_ | refine BlkK.hit ?_ | refine Sx.cond ?_ | refine Sx.block ?_ | refine Sx.loop ?_ | refine Sx.draw ?_ | refine Sx.ret ?_ | refine Sx.exit ?_ | refine Sx.skip ?_ | refine Sx.label ?_ | refine CondG.split ?_ | refine k1 ?_ | refine ke fun _ => ?_ | refine k2 ?_ | refine kg ?_ | refine kf ?_ | refine k3 ?_ | refine k4 ?_ | refine kn ?_ | refine Same.rfl ?_ | refine k5 ?_ | refine k6 ?_ | refine k7 ?_ | refine k8 ?_ | refine k9 ?_ | refine ka ?_ | refine kb ?_ | refine kl ?_ | refine km ?_ | refine kc ?_ | refine kd ?_ | exact True.intro)
      refine CallQ.eq [] hv1 rfl rfl ⟨trivial, trivial⟩ ?_
      repeat ((conv => whnf); with_reducible first | refine Sx.go ?_ | refine Sx.seq ?_ | refine Sx.reg ?_ | refine SxO.cons ?_ | refine SxO.nil ?_ | refine SeqK.normal ?_ | refine SeqK.ret ?_ | refine SeqK.exit ?_ | refine BlkK.normal ?_ | refine BlkK.ret ?_ | refine BlkK.hit ?_ | refine Sx.cond ?_ | refine Sx.block ?_ | refine Sx.loop ?_ | refine Sx.draw ?_ | refine Sx.ret ?_ | refine Sx.exit ?_ | refine Sx.skip ?_ | refine Sx.label ?_ | refine CondG.split ?_ | refine k1 ?_ | refine ke fun _ => ?_ | refine k2 ?_ | refine kg ?_ | refine kf ?_ | refine k3 ?_ | refine k4 ?_ | refine kn ?_ | refine Same.rfl ?_ | refine k5 ?_ | refine k6 ?_ | refine k7 ?_ | refine k8 ?_ | refine k9 ?_ | refine ka ?_ | refine kb ?_ | refine kl ?_ | refine km ?_ | refine kc ?_ | refine kd ?_ | exact True.intro)
      refine SxO.step rfl ?_; (repeat ((conv => whnf); with_reducible first | refine Sx.go ?_ | refine Sx.seq ?_ | refine Sx.reg ?_ | refine SxO.cons ?_ | refine SxO.nil ?_ | refine SeqK.normal ?_ | refine SeqK.ret ?_ | refine SeqK.exit ?_ | refine BlkK.normal ?_ | refine BlkK.ret ?_ | refine BlkK.hit ?_ | refine Sx.cond ?_ | refine Sx.block ?_ | refine Sx.loop ?_ | refine Sx.draw ?_ | refine Sx.ret ?_ | refine Sx.exit ?_ | refine Sx.skip ?_ | refine Sx.label ?_ | refine CondG.split ?_ | refine k1 ?_ | refine ke fun _ => ?_ | refine k2 ?_ | refine kg ?_ | refine kf ?_ | refine k3 ?_ | refine k4 ?_ | refine kn ?_ | refine Same.rfl ?_ | refine k5 ?_ | refine k6 ?_ | refine k7 ?_ | refine k8 ?_ | refine k9 ?_ | refine ka ?_ | refine kb ?_ | refine kl ?_ | refine km ?_ | refine kc ?_ | refine kd ?_ | exact True.intro))
      rename_i b67
      refine CallG.p [(0, 67)] (hfl b67) rfl rfl ?_
      repeat ((conv => whnf); with_reducible first | refine Sx.go ?_ | refine Sx.seq ?_ | refine Sx.reg ?_ | refine SxO.cons ?_ | refine SxO.nil ?_ | refine SeqK.normal ?_ | refine SeqK.ret ?_ | refine SeqK.exit ?_ | refine BlkK.normal ?_ | refine BlkK.ret ?_ | refine BlkK.hit ?_ | refine Sx.cond ?_ | refine Sx.block ?_ | refine Sx.loop ?_ | refine Sx.draw ?_ | refine Sx.ret ?_ | refine Sx.exit ?_ | refine Sx.skip ?_ | refine Sx.label ?_ | refine CondG.split ?_ | refine k1 ?_ | refine ke fun _ => ?_ | refine k2 ?_ | refine kg ?_ | refine kf ?_ | refine k3 ?_ | refine k4 ?_ | refine kn ?_ | refine Same.rfl ?_ | refine k5 ?_ | refine k6 ?_ | refine k7 ?_ | refine k8 ?_ | refine k9 ?_ | refine ka ?_ | refine kb ?_ | refine kl ?_ | refine km ?_ | refine kc ?_ | refine kd ?_ | exact True.intro)
      refine CallG.p [] hv2 rfl rfl ?_
      repeat ((conv => whnf); with_reducible first | refine Sx.go ?_ | refine Sx.seq ?_ | refine Sx.reg ?_ | refine SxO.cons ?_ | refine SxO.nil ?_ | refine SeqK.normal ?_ | refine SeqK.ret ?_ | refine SeqK.exit ?_ | refine BlkK.normal ?_ | refine BlkK.ret ?_ | refine BlkK.hit ?_ | refine Sx.cond ?_ | refine Sx.block ?_ | refine Sx.loop ?_ | refine Sx.draw ?_ | refine Sx.ret ?_ | refine Sx.exit ?_ | refine Sx.skip ?_ | refine Sx.label ?_ | refine CondG.split ?_ | refine k1 ?_ | refine ke fun _ => ?_ | refine k2 ?_ | refine kg ?_ | refine kf ?_ | refine k3 ?_ | refine k4 ?_ | refine kn ?_ | refine Same.rfl ?_ | refine k5 ?_ | refine k6 ?_ | refine k7 ?_ | refine k8 ?_ | refine k9 ?_ | refine ka ?_ | refine kb ?_ | refine kl ?_ | refine km ?_ | refine kc ?_ | refine kd ?_ | exact True.intro)
      refine Draw.held [7] (.one 0 (.one 1 (.one 2 (.one 3 (.one 5 (.one 8 (.one 9 (.alt 4 (.alt 6 (.alt 7 (.one 10 (.one 11 (.alt 12 (.one 13 .done) .fin))) .fin) .fin) (.alt 6 (.alt 4 (.alt 7 (.one 10 (.one 11 (.alt 12 (.one 13 .done) .fin))) .fin) .fin) .fin))))))))) (by kernel_rfl) (by kernel_rfl) ?_
      repeat ((conv => whnf); with_reducible first | refine Sx.go ?_ | refine Sx.seq ?_ | refine Sx.reg ?_ | refine SxO.cons ?_ | refine SxO.nil ?_ | refine SeqK.normal ?_ | refine SeqK.ret ?_ | refine SeqK.exit ?_ | refine BlkK.normal ?_ | refine BlkK.ret ?_ | refine BlkK.hit ?_ | refine Sx.cond ?_ | refine Sx.block ?_ | refine Sx.loop ?_ | refine Sx.draw ?_ | refine Sx.ret ?_ | refine Sx.exit ?_ | refine Sx.skip ?_ | refine Sx.label ?_ | refine CondG.split ?_ | refine k1 ?_ | refine ke fun _ => ?_ | refine k2 ?_ | refine kg ?_ | refine kf ?_ | refine k3 ?_ | refine k4 ?_ | refine kn ?_ | refine Same.rfl ?_ | refine k5 ?_ | refine k6 ?_ | refine k7 ?_ | refine k8 ?_ | refine k9 ?_ | refine ka ?_ | refine kb ?_ | refine kl ?_ | refine km ?_ | refine kc ?_ | refine kd ?_ | exact True.intro)
      refine ⟨?_, ?_, trivial⟩
      · repeat ((conv => whnf); with_reducible first | refine Sx.go ?_ | refine Sx.seq ?_ | refine Sx.reg ?_ | refine SxO.cons ?_ | refine SxO.nil ?_ | refine SeqK.normal ?_ | refine SeqK.ret ?_ | refine SeqK.exit ?_ | refine BlkK.normal ?_ | refine BlkK.ret ?_ | refine BlkK.hit ?_ | refine Sx.cond ?_ | refine Sx.block ?_ | refine Sx.loop ?_ | refine Sx.draw ?_ | refine Sx.ret ?_ | refine Sx.exit ?_ | refine Sx.skip ?_ | refine Sx.label ?_ | refine CondG.split ?_ | refine k1 ?_ | refine ke fun _ => ?_ | refine k2 ?_ | refine kg ?_ | refine kf ?_ | refine k3 ?_ | refine k4 ?_ | refine kn ?_ | refine Same.rfl ?_ | refine k5 ?_ | refine k6 ?_ | refine k7 ?_ | refine k8 ?_ | refine k9 ?_ | refine ka ?_ | refine kb ?_ | refine kl ?_ | refine km ?_ | refine kc ?_ | refine kd ?_ | exact True.intro)
        refine ⟨?_, trivial⟩
        repeat ((conv => whnf); with_reducible first | refine Sx.go ?_ | refine Sx.seq ?_ | refine Sx.reg ?_ | refine SxO.cons ?_ | refine SxO.nil ?_ | refine SeqK.normal ?_ | refine SeqK.ret ?_ | refine SeqK.exit ?_ | refine BlkK.normal ?_ | refine BlkK.ret ?_ | refine BlkK.hit ?_ | refine Sx.cond ?_ | refine Sx.block ?_ | refine Sx.loop ?_ | refine Sx.draw ?_ | refine Sx.ret ?_ | refine Sx.exit ?_ | refine Sx.skip ?_ | refine Sx.label ?_ | refine CondG.split ?_ | refine k1 ?_ | refine ke fun _ => ?_ | refine k2 ?_ | refine kg ?_ | refine kf ?_ | refine k3 ?_ | refine k4 ?_ | refine kn ?_ | refine Same.rfl ?_ | refine k5 ?_ | refine k6 ?_ | refine k7 ?_ | refine k8 ?_ | refine k9 ?_ | refine ka ?_ | refine kb ?_ | refine kl ?_ | refine km ?_ | refine kc ?_ | refine kd ?_ | exact True.intro)
        refine ⟨?_, trivial⟩
        repeat ((conv => whnf); with_reducible first | refine Sx.go ?_ | refine Sx.seq ?_ | refine Sx.reg ?_ | refine SxO.cons ?_ | refine SxO.nil ?_ | refine SeqK.normal ?_ | refine SeqK.ret ?_ | refine SeqK.exit ?_ | refine BlkK.normal ?_ | refine BlkK.ret ?_ | refine BlkK.hit ?_ | refine Sx.cond ?_ | refine Sx.block ?_ | refine Sx.loop ?_ | refine Sx.draw ?_ | refine Sx.ret ?_ | refine Sx.exit ?_ | refine Sx.skip ?_ | refine Sx.label ?_ | refine CondG.split ?_ | refine k1 ?_ | refine ke fun _ => ?_ | refine k2 ?_ | refine kg ?_ | refine kf ?_ | refine k3 ?_ | refine k4 ?_ | refine kn ?_ | refine Same.rfl ?_ | refine k5 ?_ | refine k6 ?_ | refine k7 ?_ | refine k8 ?_ | refine k9 ?_ | refine ka ?_ | refine kb ?_ | refine kl ?_ | refine km ?_ | refine kc ?_ | refine kd ?_ | exact True.intro)
        rename_i z2
        refine ⟨?_, trivial⟩
        repeat ((conv => whnf); with_reducible first | refine Sx.go ?_ | refine Sx.seq ?_ | refine Sx.reg ?_ | refine SxO.cons ?_ | refine SxO.nil ?_ | refine SeqK.normal ?_ | refine SeqK.ret ?_ | refine SeqK.exit ?_ | refine BlkK.normal ?_ | refine BlkK.ret ?_ | refine BlkK.hit ?_ | refine Sx.cond ?_ | refine Sx.block ?_ | refine Sx.loop ?_ | refine Sx.draw ?_ | refine Sx.ret ?_ | refine Sx.exit ?_ | refine Sx.skip ?_ | refine Sx.label ?_ | refine CondG.split ?_ | refine k1 ?_ | refine ke fun _ => ?_ | refine k2 ?_ | refine kg ?_ | refine kf ?_ | refine k3 ?_ | refine k4 ?_ | refine kn ?_ | refine Same.rfl ?_ | refine k5 ?_ | refine k6 ?_ | refine k7 ?_ | refine k8 ?_ | refine k9 ?_ | refine ka ?_ | refine kb ?_ | refine kl ?_ | refine km ?_ | refine kc ?_ | refine kd ?_ | exact True.intro)
        refine ⟨i + 1, z2, by omega, (by dsimp only; omega), ?_⟩
        repeat ((conv => whnf); with_reducible first | refine Sx.go ?_ | refine Sx.seq ?_ | refine Sx.reg ?_ | refine SxO.cons ?_ | refine SxO.nil ?_ | refine SeqK.normal ?_ | refine SeqK.ret ?_ | refine SeqK.exit ?_ | refine BlkK.normal ?_ | refine BlkK.ret ?_ | refine BlkK.hit ?_ | refine Sx.cond ?_ | refine Sx.block ?_ | refine Sx.loop ?_ | refine Sx.draw ?_ | refine Sx.ret ?_ | refine Sx.exit ?_ | refine Sx.skip ?_ | refine Sx.label ?_ | refine CondG.split ?_ | refine k1 ?_ | refine ke fun _ => ?_ | refine k2 ?_ | refine kg ?_ | refine kf ?_ | refine k3 ?_ | refine k4 ?_ | refine kn ?_ | refine Same.rfl ?_ | refine k5 ?_ | refine k6 ?_ | refine k7 ?_ | refine k8 ?_ | refine k9 ?_ | refine ka ?_ | refine kb ?_ | refine kl ?_ | refine km ?_ | refine kc ?_ | refine kd ?_ | exact True.intro)
        refine OwnM.same rfl hsn.symm ?_
        repeat ((conv => whnf); with_reducible first | refine Sx.go ?_ | refine Sx.seq ?_ | refine Sx.reg ?_ | refine SxO.cons ?_ | refine SxO.nil ?_ | refine SeqK.normal ?_ | refine SeqK.ret ?_ | refine SeqK.exit ?_ | refine BlkK.normal ?_ | refine BlkK.ret ?_ | refine BlkK.hit ?_ | refine Sx.cond ?_ | refine Sx.block ?_ | refine Sx.loop ?_ | refine Sx.draw ?_ | refine Sx.ret ?_ | refine Sx.exit ?_ | refine Sx.skip ?_ | refine Sx.label ?_ | refine CondG.split ?_ | refine k1 ?_ | refine ke fun _ => ?_ | refine k2 ?_ | refine kg ?_ | refine kf ?_ | refine k3 ?_ | refine k4 ?_ | refine kn ?_ | refine Same.rfl ?_ | refine k5 ?_ | refine k6 ?_ | refine k7 ?_ | refine k8 ?_ | refine k9 ?_ | refine ka ?_ | refine kb ?_ | refine kl ?_ | refine km ?_ | refine kc ?_ | refine kd ?_ | exact True.intro)
      · repeat ((conv => whnf); with_reducible first | refine Sx.go ?_ | refine Sx.seq ?_ | refine Sx.reg ?_ | refine SxO.cons ?_ | refine SxO.nil ?_ | refine SeqK.normal ?_ | refine SeqK.ret ?_ | refine SeqK.exit ?_ | refine BlkK.normal ?_ | refine BlkK.ret ?_ | refine BlkK.hit ?_ | refine Sx.cond ?_ | refine Sx.block ?_ | refine Sx.loop ?_ | refine Sx.draw ?_ | refine Sx.ret ?_ | refine Sx.exit ?_ | refine Sx.skip ?_ | refine Sx.label ?_ | refine CondG.split ?_ | refine k1 ?_ | refine ke fun _ => ?_ | refine k2 ?_ | refine kg ?_ | refine kf ?_ | refine k3 ?_ | refine k4 ?_ | refine kn ?_ | refine Same.rfl ?_ | refine k5 ?_ | refine k6 ?_ | refine k7 ?_ | refine k8 ?_ | refine k9 ?_ | refine ka ?_ | refine kb ?_ | refine kl ?_ | refine km ?_ | refine kc ?_ | refine kd ?_ | exact True.intro)
        refine ⟨?_, trivial⟩
        repeat ((conv => whnf); with_reducible first | refine Sx.go ?_ | refine Sx.seq ?_ | refine Sx.reg ?_ | refine SxO.cons ?_ | refine SxO.nil ?_ | refine SeqK.normal ?_ | refine SeqK.ret ?_ | refine SeqK.exit ?_ | refine BlkK.normal ?_ | refine BlkK.ret ?_ | refine BlkK.hit ?_ | refine Sx.cond ?_ | refine Sx.block ?_ | refine Sx.loop ?_ | refine Sx.draw ?_ | refine Sx.ret ?_ | refine Sx.exit ?_ | refine Sx.skip ?_ | refine Sx.label ?_ | refine CondG.split ?_ | refine k1 ?_ | refine ke fun _ => ?_ | refine k2 ?_ | refine kg ?_ | refine kf ?_ | refine k3 ?_ | refine k4 ?_ | refine kn ?_ | refine Same.rfl ?_ | refine k5 ?_ | refine k6 ?_ | refine k7 ?_ | refine k8 ?_ | refine k9 ?_ | refine ka ?_ | refine kb ?_ | refine kl ?_ | refine km ?_ | refine kc ?_ | refine kd ?_ | exact True.intro)
        refine ⟨?_, trivial⟩
        repeat ((conv => whnf); with_reducible first | refine Sx.go ?_ | refine Sx.seq ?_ | refine Sx.reg ?_ | refine SxO.cons ?_ | refine SxO.nil ?_ | refine SeqK.normal ?_ | refine SeqK.ret ?_ | refine SeqK.exit ?_ | refine BlkK.normal ?_ | refine BlkK.ret ?_ | refine BlkK.hit ?_ | refine Sx.cond ?_ | refine Sx.block ?_ | refine Sx.loop ?_ | refine Sx.draw ?_ | refine Sx.ret ?_ | refine Sx.exit ?_ | refine Sx.skip ?_ | refine Sx.label ?_ | refine CondG.split ?_ | refine k1 ?_ | refine ke fun _ => ?_ | refine k2 ?_ | refine kg ?_ | refine kf ?_ | refine k3 ?_ | refine k4 ?_ | refine kn ?_ | refine Same.rfl ?_ | refine k5 ?_ | refine k6 ?_ | refine k7 ?_ | refine k8 ?_ | refine k9 ?_ | refine ka ?_ | refine kb ?_ | refine kl ?_ | refine km ?_ | refine kc ?_ | refine kd ?_ | exact True.intro)
        rename_i z2
        refine ⟨?_, trivial⟩
        repeat ((conv => whnf); with_reducible first | refine Sx.go ?_ | refine Sx.seq ?_ | refine Sx.reg ?_ | refine SxO.cons ?_ | refine SxO.nil ?_ | refine SeqK.normal ?_ | refine SeqK.ret ?_ | refine SeqK.exit ?_ | refine BlkK.normal ?_ | refine BlkK.ret ?_ | refine BlkK.hit ?_ | refine Sx.cond ?_ | refine Sx.block ?_ | refine Sx.loop ?_ | refine Sx.draw ?_ | refine Sx.ret ?_ | refine Sx.exit ?_ | refine Sx.skip ?_ | refine Sx.label ?_ | refine CondG.split ?_ | refine k1 ?_ | refine ke fun _ => ?_ | refine k2 ?_ | refine kg ?_ | refine kf ?_ | refine k3 ?_ | refine k4 ?_ | refine kn ?_ | refine Same.rfl ?_ | refine k5 ?_ | refine k6 ?_ | refine k7 ?_ | refine k8 ?_ | refine k9 ?_ | refine ka ?_ | refine kb ?_ | refine kl ?_ | refine km ?_ | refine kc ?_ | refine kd ?_ | exact True.intro)
        refine ⟨i + 1, z2, by omega, (by dsimp only; omega), ?_⟩
        repeat ((conv => whnf); with_reducible first | refine Sx.go ?_ | refine Sx.seq ?_ | refine Sx.reg ?_ | refine SxO.cons ?_ | refine SxO.nil ?_ | refine SeqK.normal ?_ | refine SeqK.ret ?_ | refine SeqK.exit ?_ | refine BlkK.normal ?_ | refine BlkK.ret ?_ | refine BlkK.hit ?_ | refine Sx.cond ?_ | refine Sx.block ?_ | refine Sx.loop ?_ | refine Sx.draw ?_ | refine Sx.ret ?_ | refine Sx.exit ?_ | refine Sx.skip ?_ | refine Sx.label ?_ | refine CondG.split ?_ | refine k1 ?_ | refine ke fun _ => ?_ | refine k2 ?_ | refine kg ?_ | refine kf ?_ | refine k3 ?_ | refine k4 ?_ | refine kn ?_ | refine Same.rfl ?_ | refine k5 ?_ | refine k6 ?_ | refine k7 ?_ | refine k8 ?_ | refine k9 ?_ | refine ka ?_ | refine kb ?_ | refine kl ?_ | refine km ?_ | refine kc ?_ | refine kd ?_ | exact True.intro)
        refine OwnM.same rfl hsn.symm ?_
        repeat ((conv => whnf); with_reducible first | refine Sx.go ?_ | refine Sx.seq ?_ | refine Sx.reg ?_ | refine SxO.cons ?_ | refine SxO.nil ?_ | refine SeqK.normal ?_ | refine SeqK.ret ?_ | refine SeqK.exit ?_ | refine BlkK.normal ?_ | refine BlkK.ret ?_ | refine BlkK.hit ?_ | refine Sx.cond ?_ | refine Sx.block ?_ | refine Sx.loop ?_ | refine Sx.draw ?_ | refine Sx.ret ?_ | refine Sx.exit ?_ | refine Sx.skip ?_ | refine Sx.label ?_ | refine CondG.split ?_ | refine k1 ?_ | refine ke fun _ => ?_ | refine k2 ?_ | refine kg ?_ | refine kf ?_ | refine k3 ?_ | refine k4 ?_ | refine kn ?_ | refine Same.rfl ?_ | refine k5 ?_ | refine k6 ?_ | refine k7 ?_ | refine k8 ?_ | refine k9 ?_ | refine ka ?_ | refine kb ?_ | refine kl ?_ | refine km ?_ | refine kc ?_ | refine kd ?_ | exact True.intro)
    · have hh : i = L.length := by omega
      have hsd : entsB (L.drop i) ++ s = s := by rw [hh, List.drop_length]; rfl
      have htk : L.take i = L := by rw [hh, List.take_length]
      rw [hsd, htk]
      repeat ((conv => whnf); with_reducible first | refine Sx.go ?_ | refine Sx.seq ?_ | refine Sx.reg ?_ | refine SxO.cons ?_ | refine SxO.nil ?_ | refine SeqK.normal ?_ | refine SeqK.ret ?_ | refine SeqK.exit ?_ | refine BlkK.normal ?_ | refine BlkK.ret ?_ | refine BlkK.hit ?_ | refine Sx.cond ?_ | refine Sx.block ?_ | refine Sx.loop ?_ | refine Sx.draw ?_ | refine Sx.ret ?_ | refine Sx.exit ?_ | refine Sx.skip ?_ | refine Sx.label ?_ | refine CondG.split ?_ | refine k1 ?_ | refine ke fun _ => ?_ | refine k2 ?_ | refine kg ?_ | refine kf ?_ | refine k3 ?_ | refine k4 ?_ | refine kn ?_ | refine Same.rfl ?_ | refine k5 ?_ | refine k6 ?_ | refine k7 ?_ | refine k8 ?_ | refine k9 ?_ | refine ka ?_ | refine kb ?_ | refine kl ?_ | refine km ?_ | refine kc ?_ | refine kd ?_ | exact True.intro)
      refine CallG.one [] (err_in b (s, 0)) rfl rfl ?_
      repeat ((conv => whnf); with_reducible first | refine Sx.go ?_ | refine Sx.seq ?_ | refine Sx.reg ?_ | refine SxO.cons ?_ | refine SxO.nil ?_ | refine SeqK.normal ?_ | refine SeqK.ret ?_ | refine SeqK.exit ?_ | refine BlkK.normal ?_ | refine BlkK.ret ?_ | refine BlkK.hit ?_ | refine Sx.cond ?_ | refine Sx.block ?_ | refine Sx.loop ?_ | refine Sx.draw ?_ | refine Sx.ret ?_ | refine Sx.exit ?_ | refine Sx.skip ?_ | refine Sx.label ?_ | refine CondG.split ?_ | refine k1 ?_ | refine ke fun _ => ?_ | refine k2 ?_ | refine kg ?_ | refine kf ?_ | refine k3 ?_ | refine k4 ?_ | refine kn ?_ | refine Same.rfl ?_ | refine k5 ?_ | refine k6 ?_ | refine k7 ?_ | refine k8 ?_ | refine k9 ?_ | refine ka ?_ | refine kb ?_ | refine kl ?_ | refine km ?_ | refine kc ?_ | refine kd ?_ | exact True.intro)
      refine Fin.mk' (b14, z) trivial ?_
      repeat ((conv => whnf); with_reducible first | refine Sx.go ?_ | refine Sx.seq ?_ | refine Sx.reg ?_ | refine SxO.cons ?_ | refine SxO.nil ?_ | refine SeqK.normal ?_ | refine SeqK.ret ?_ | refine SeqK.exit ?_ | refine BlkK.normal ?_ | refine BlkK.ret ?_ | refine BlkK.hit ?_ | refine Sx.cond ?_ | refine Sx.block ?_ | refine Sx.loop ?_ | refine Sx.draw ?_ | refine Sx.ret ?_ | refine Sx.exit ?_ | refine Sx.skip ?_ | refine Sx.label ?_ | refine CondG.split ?_ | refine k1 ?_ | refine ke fun _ => ?_ | refine k2 ?_ | refine kg ?_ | refine kf ?_ | refine k3 ?_ | refine k4 ?_ | refine kn ?_ | refine Same.rfl ?_ | refine k5 ?_ | refine k6 ?_ | refine k7 ?_ | refine k8 ?_ | refine k9 ?_ | refine ka ?_ | refine kb ?_ | refine kl ?_ | refine km ?_ | refine kc ?_ | refine kd ?_ | exact True.intro)
end Go.Proofs.Ythkgegbhnhkacaa
