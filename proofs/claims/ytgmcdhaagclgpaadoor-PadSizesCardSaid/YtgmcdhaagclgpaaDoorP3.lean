/- Package pad: pages as a text, as the package and as the document have them. -/
import Derived.Test.YtgmcdhaagclgpaaDoorP2
import Derived.Test.YtgmcdhaagclgpaaDoorV8
import Derived.Test.YtgmcdhaagclgpaaDoorSy4
set_option linter.unusedVariables false
set_option linter.unusedSimpArgs false
set_option maxRecDepth 10000
set_option maxHeartbeats 1000000
namespace Go.Proofs.YtgmcdhaagclgpaaDoor
open Go Go.SY
seal sx sxOps

/-! ### The library's part -/
theorem trim_ok (s : List UInt8) (h : s.length ≤ 1000000000) : CtrP R 25 [vs s, vs [0]] [] (vs (Lib.trimB s 0)) :=
  Ctr.lib ⟨_, Tryd.func25, by kernel_rfl, by kernel_rfl⟩ ⟨trivial, trivial⟩ fun w _ =>
    (Tryd.strings_Trim_one ⟨⟨s⟩⟩ 0 (by decide) w (by show s.length ≤ _; omega)).mono fun e w' ⟨he, hw⟩ => ⟨he, by
      rcases hw with rfl | rfl
      · exact RowKit.Below.refl _ _
      · exact (RowKit.Below.refl _ _).drew⟩
theorem dropWhile_nil (c : UInt8) (l : List UInt8) : l.dropWhile (· == c) = [] ↔ ∀ x ∈ l, x = c := by
  induction l with
  | nil => simp
  | cons a l ih =>
    by_cases h : a = c
    · simp [List.dropWhile_cons, h, ih]
    · simp [List.dropWhile_cons, h]
theorem trim_nil (s : List UInt8) : Lib.trimB s 0 = [] ↔ ∀ x ∈ s, x = 0 := by
  unfold Lib.trimB Lib.trimLeftB Lib.trimRightB
  rw [dropWhile_nil]
  constructor
  · intro h x hx
    have h2 : (s.reverse.dropWhile (· == 0)).reverse = [] := by
      rcases hh : s.reverse.dropWhile (· == 0) with _ | ⟨a, l⟩
      · rfl
      · exfalso
        have ha : a = 0 := h a (by rw [hh]; simp)
        have := List.head?_dropWhile_not (· == (0 : UInt8)) s.reverse
        rw [hh] at this
        simp [ha] at this
    have h3 : s.reverse.dropWhile (· == 0) = [] := List.reverse_eq_nil_iff.1 h2
    exact (dropWhile_nil 0 s.reverse).1 h3 x (by simp [hx])
  · intro h x hx
    have h3 : s.reverse.dropWhile (· == 0) = [] := (dropWhile_nil 0 s.reverse).2 fun y hy => h y (by simpa using hy)
    rw [h3] at hx; cases hx
theorem join_flat (l : List (List UInt8)) : Lib.join l [] = l.flatten := by
  cases l with
  | nil => rfl
  | cons a l =>
    induction l generalizing a with
    | nil => simp [Lib.join, List.intercalate]
    | cons b l ih =>
      have := ih b
      simp only [Lib.join, List.intercalate, List.flatten_cons] at this ⊢
      rw [List.intersperse_cons_cons, List.flatten_cons, List.flatten_cons, this]
      rfl
theorem join_ok (x : SV) (L : List (List UInt8)) (hL : L.length ≤ 1000000) (hF : L.flatten.length ≤ 1000000000) :
    CtrP R 22 [vl 0 x, vs []] [(0, x.blk, .view (.sc .str) x L)] (vs L.flatten) := by
  refine Ctr.lib ⟨_, Tryd.func22, by kernel_rfl, by kernel_rfl⟩ ⟨trivial, trivial⟩ fun w hw => ?_
  obtain ⟨hwf, hv⟩ := hw.is 0 x.blk (.view (.sc .str) x L) rfl
  cases x with
  | nil =>
    obtain rfl : L = [] := hv
    exact (Tryd.strings_Join_none none 0 ⟨#[]⟩ w).mono fun e w' ⟨he, hw⟩ => ⟨he, by rw [hw]; exact RowKit.Below.refl _ _⟩
  | «at» b o len cap =>
    obtain ⟨_, rfl, hlc, hlt, hcell⟩ := hv
    have e : (L.map fun s => (⟨⟨s⟩⟩ : ByteArray)).map (·.data.toList) = L := by rw [List.map_map]; exact List.map_id' L
    have ej : Lib.join ((L.map fun s => (⟨⟨s⟩⟩ : ByteArray)).map (·.data.toList)) [] = L.flatten := by rw [e, join_flat]
    have h := Tryd.strings_Join b o cap (L.map fun s => ⟨⟨s⟩⟩) ⟨#[]⟩ w (fun j y hy => by
      obtain ⟨s, hs, rfl⟩ : ∃ s, L[j]? = some s ∧ (⟨⟨s⟩⟩ : ByteArray) = y := by simpa [List.getElem?_map] using hy
      obtain ⟨hj, hjs⟩ := List.getElem?_eq_some_iff.1 hs
      have hg := Enc.vals_get (E := .sc .str) hwf (i := j) (j := 0) hj (by show 0 < 1; decide)
      refine hcell j _ ?_
      have e1 : j * (Enc.sc .str).sz + 0 = j := by show j * 1 + 0 = j; omega
      rw [e1] at hg
      rw [hg, gd_lt hj, hjs]
      rfl) hlt (by simp; omega) (by simp; omega) (by show (Lib.join _ []).length ≤ _; rw [ej]; omega)
    rw [List.length_map] at h
    refine h.mono fun e w' ⟨he, hw⟩ => ⟨?_, hw⟩
    rw [he]
    show Ending.returned (.string ⟨(Lib.join _ []).toArray⟩) = _
    rw [ej]
    rfl
theorem val8_be8 (N : Nat) (hN : N < 2 ^ 64) : ∀ j, j ≤ 8 → val8 (be8 N j) = N / 2 ^ (64 - 8 * j) := by
  intro j
  induction j with
  | zero =>
    intro _
    have h1 : N / 2 ^ 64 = 0 := Nat.div_eq_of_lt hN
    rw [Nat.mul_zero, Nat.sub_zero, h1]; rfl
  | succ j ih =>
    intro hj
    have ih := ih (by omega)
    have hp : 64 - 8 * j = (56 - 8 * j) + 8 := by omega
    have hq : 64 - 8 * (j + 1) = 56 - 8 * j := by omega
    rw [hp, Nat.pow_add, ← Nat.div_div_eq_div_mul] at ih
    rw [hq, be8_succ, val8_snoc, ih, UInt8.toNat_ofNat']
    omega
theorem num_back (n : Int) (rest : List UInt8) (hn : nz n ≤ 9223372036854775807) : numR (num8 n ++ rest, 0) = ((rest, 0), (nz n : Int)) := by
  have hl := num8_length n
  have e8 : nz 8 = 8 := rfl
  have hraw : rawR (num8 n ++ rest, 0) 8 = ((rest, 0), num8 n) := by
    unfold rawR
    rw [if_neg (by rw [e8, List.length_append, hl]; omega), e8]
    rw [List.drop_append_of_le_length (by omega), List.take_append_of_le_length (by omega), List.drop_of_length_le (by omega), List.take_of_length_le (by omega)]
    rfl
  have hne : num8 n ≠ [] := fun e => by rw [e] at hl; cases hl
  have hv : val8 (num8 n) = nz n := by
    have := val8_be8 (nz n) (by omega) 8 (by decide)
    rw [show 64 - 8 * 8 = 0 by decide, Nat.pow_zero, Nat.div_one] at this
    exact this
  have hb : ¬ 128 ≤ ((num8 n).getD 0 0).toNat := by
    have : (num8 n).getD 0 0 = UInt8.ofNat (nz n / 2 ^ 56) := rfl
    rw [this, UInt8.toNat_ofNat']
    omega
  unfold numR
  rw [hraw]
  rw [if_neg hne, if_neg hb, hv]
theorem text_back (s rest : List UInt8) (hs : s.length ≤ 1000000000) : textR (text8 s ++ rest, 0) = ((rest, 0), s) := by
  unfold textR text8
  rw [List.append_assoc, num_back (s.length : Int) (s ++ rest) (by unfold nz; omega)]
  have e : nz ((nz (s.length : Int) : Nat) : Int) = s.length := by unfold nz; omega
  unfold rawR
  rw [e, if_neg (by rw [List.length_append]; omega)]
  simp

theorem byte_val : ∀ (n : Nat) (t : List UInt8), t.length = n → ∀ i, i < n → UInt8.ofNat (val8 t / 2 ^ (8 * (n - 1 - i))) = t.getD i 0 := by
  intro n
  induction n with
  | zero => intro _ _ i hi; omega
  | succ n ih =>
    intro t ht i hi
    obtain ⟨s, x, rfl⟩ : ∃ s x, t = s ++ [x] := ⟨t.dropLast, t.getLast (by intro h; rw [h] at ht; cases ht), (List.dropLast_concat_getLast _).symm⟩
    have hs : s.length = n := by rw [List.length_append] at ht; simpa using ht
    have hx := x.toNat_lt
    rw [val8_snoc]
    by_cases c : i = n
    · subst c
      rw [show i + 1 - 1 - i = 0 by omega, Nat.mul_zero, Nat.pow_zero, Nat.div_one, List.getD_eq_getElem?_getD, List.getElem?_append_right (by omega), hs]
      apply UInt8.toNat_inj.1
      simp
    · have h := ih s hs i (by omega)
      rw [show 8 * (n + 1 - 1 - i) = 8 + 8 * (n - 1 - i) by omega, Nat.pow_add, ← Nat.div_div_eq_div_mul, show (256 * val8 s + x.toNat) / 2 ^ 8 = val8 s by omega, h,
        List.getD_eq_getElem?_getD, List.getD_eq_getElem?_getD, List.getElem?_append_left (by omega)]
theorem be8_val8 (t : List UInt8) (h : t.length = 8) : be8 (val8 t) 8 = t := by
  refine List.ext_getElem (by rw [be8_length, h]) fun i h1 h2 => ?_
  rw [be8_length] at h1
  have := byte_val 8 t h i h1
  rw [gd_lt h2] at this
  simp only [be8, List.getElem_map, List.getElem_range]
  rw [← this, show 56 - 8 * i = 8 * (8 - 1 - i) by omega]
/-- What is read without an error was written so. -/
theorem text_of {A B s : List UInt8} (hA : A.length ≤ 1000000000) (h : textR (A, 0) = ((B, 0), s)) : A = text8 s ++ B := by
  have e8 : nz 8 = 8 := rfl
  by_cases c1 : A.length < 8
  · have h1 : rawR (A, 0) 8 = (([], 2), []) := by unfold rawR; rw [if_pos (by rw [e8]; exact c1)]; rfl
    have h2 : numR (A, 0) = (([], 2), 0) := by unfold numR; rw [h1]; rfl
    unfold textR at h
    rw [h2] at h
    cases h
  · have h1 : rawR (A, 0) 8 = ((A.drop 8, 0), A.take 8) := by unfold rawR; rw [if_neg (by rw [e8]; exact c1)]; rfl
    have ht : (A.take 8).length = 8 := by rw [List.length_take]; omega
    have hne : A.take 8 ≠ [] := fun e => by rw [e] at ht; cases ht
    by_cases c2 : 128 ≤ ((A.take 8).getD 0 0).toNat
    · have h2 : numR (A, 0) = (([], 1), 0) := by unfold numR; rw [h1]; rw [if_neg hne, if_pos c2]; rfl
      unfold textR at h
      rw [h2] at h
      cases h
    · have h2 : numR (A, 0) = ((A.drop 8, 0), (val8 (A.take 8) : Int)) := by unfold numR; rw [h1]; rw [if_neg hne, if_neg c2]
      obtain ⟨n, hn⟩ : ∃ n, n = val8 (A.take 8) := ⟨_, rfl⟩
      have hnz : nz (n : Int) = n := by unfold nz; omega
      unfold textR at h
      rw [h2, ← hn] at h
      unfold rawR at h
      rw [hnz] at h
      by_cases c3 : (A.drop 8).length < n
      · rw [if_pos c3] at h
        have : ((([] : List UInt8), (2 : Int)), ([] : List UInt8)) = ((B, 0), s) := h
        cases this
      · rw [if_neg c3] at h
        have hB : (A.drop 8).drop n = B := congrArg (fun x => x.1.1) h
        have hs : (A.drop 8).take n = s := congrArg (fun x => x.2) h
        have hsl : s.length = n := by rw [← hs, List.length_take]; omega
        have hb := be8_val8 (A.take 8) ht
        rw [← hn] at hb
        unfold text8 num8
        rw [hsl, hnz, hb, ← hs, ← hB, List.append_assoc, List.take_append_drop, List.take_append_drop]
theorem pgs_flat (W : List UInt8) (i : Nat) : (pgs W i).flatten = W.take (240 * i) := by
  induction i with
  | zero => rfl
  | succ i ih =>
    rw [pgs_succ, List.flatten_append, ih, show 240 * (i + 1) = 240 * i + 240 by omega, List.take_add]
    simp
theorem pages_flat (s : List UInt8) (h : 0 < kls s.length) : (pages s).flatten = whole s := by
  unfold pages
  rw [pgs_flat, ← whole_length s h, List.take_length]
theorem pgs_append (a b : List UInt8) (ha : a.length = 240) (i : Nat) : pgs (a ++ b) (i + 1) = a :: pgs b i := by
  unfold pgs
  rw [List.range_succ_eq_map, List.map_cons, List.map_map]
  congr 1
  · simp [List.take_append, ha]
  · refine List.map_congr_left fun j _ => ?_
    show ((a ++ b).drop (240 * (j + 1))).take 240 = _
    rw [List.drop_append, List.drop_of_length_le (by omega), List.nil_append, ha, show 240 * (j + 1) - 240 = 240 * j by omega]
theorem pgs_of (L : List (List UInt8)) (h : ∀ p ∈ L, p.length = 240) : pgs L.flatten L.length = L := by
  induction L with
  | nil => rfl
  | cons a L ih =>
    rw [List.flatten_cons, List.length_cons, pgs_append a L.flatten (h a (by simp)), ih fun p hp => h p (by simp [hp])]
theorem flat_length (L : List (List UInt8)) (h : ∀ p ∈ L, p.length = 240) : L.flatten.length = 240 * L.length := by
  induction L with
  | nil => rfl
  | cons a L ih => rw [List.flatten_cons, List.length_append, List.length_cons, ih fun p hp => h p (by simp [hp]), h a (by simp)]; omega
theorem pages_240 (s : List UInt8) : ∀ p ∈ pages s, p.length = 240 := by
  intro p hp
  unfold pages pgs at hp
  obtain ⟨j, hj, rfl⟩ := List.mem_map.1 hp
  have hj := List.mem_range.1 hj
  have hw := whole_length s (by omega)
  rw [List.length_take, List.length_drop, hw]
  omega
theorem pages_length (s : List UInt8) : (pages s).length = kls s.length := pgs_length _ _
/-- Pages of a text are read so. -/
theorem read_pages (s : List UInt8) (h : 0 < kls s.length) : textR ((pages s).flatten, 0) = ((List.replicate (240 * kls s.length - 8 - s.length) 0, 0), s) := by
  have := kls_le s.length h
  rw [pages_flat s h]
  exact text_back s _ (by omega)
/-- Of such pages there is this text, and whether there is one. -/
def unp (L : List (List UInt8)) : List UInt8 × Bool :=
  if (∀ p ∈ L, p.length = 240) ∧ (textR (L.flatten, 0)).1.2 = 0 ∧ kls (textR (L.flatten, 0)).2.length = L.length ∧ L = pages (textR (L.flatten, 0)).2 then ((textR (L.flatten, 0)).2, true) else ([], false)
theorem unp_pages (s : List UInt8) (h : 0 < kls s.length) : unp (pages s) = (s, true) := by
  unfold unp
  rw [read_pages s h]
  rw [if_pos ⟨pages_240 s, rfl, (pages_length s).symm, rfl⟩]
/-- Only noughts are left just where the pages are those of the text. -/
theorem rest_nought {L : List (List UInt8)} {B s : List UInt8} (h240 : ∀ p ∈ L, p.length = 240) (hL : L.length ≤ 1000000) (hr : textR (L.flatten, 0) = ((B, 0), s)) (hk : kls s.length = L.length) (hk0 : 0 < kls s.length) :
    (∀ x ∈ B, x = 0) ↔ L = pages s := by
  have hle := kls_le s.length hk0
  have hfl := flat_length L h240
  constructor
  · intro hB
    have hA := text_of (by omega) hr
    have hBl : B.length = 240 * kls s.length - 8 - s.length := by
      have := congrArg List.length hA
      rw [hfl, List.length_append, text8_length, ← hk] at this
      omega
    have hBe : B = List.replicate (240 * kls s.length - 8 - s.length) 0 := List.eq_replicate_iff.2 ⟨hBl, hB⟩
    have : L.flatten = whole s := by rw [hA, hBe]; rfl
    have h2 := pgs_of L h240
    rw [this, ← hk] at h2
    exact h2.symm
  · intro hL
    rw [hL, read_pages s hk0] at hr
    have : List.replicate (240 * kls s.length - 8 - s.length) (0 : UInt8) = B := congrArg (fun x => x.1.1) hr
    rw [← this]
    intro x hx
    exact (List.mem_replicate.1 hx).2
end Go.Proofs.YtgmcdhaagclgpaaDoor
