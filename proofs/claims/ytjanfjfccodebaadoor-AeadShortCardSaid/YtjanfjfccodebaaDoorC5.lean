/- The document's ChaCha20: a block. -/
import Derived.Test.YtjanfjfccodebaaDoorC4
set_option linter.unusedVariables false
set_option linter.unusedSimpArgs false
set_option maxRecDepth 10000
set_option maxHeartbeats 8000000
namespace Go.Proofs.YtjanfjfccodebaaDoor
open Go Go.SY Go.Cha

theorem num4_sub (k : List UInt8) (a : Nat) : num4 ((k.take (a + 4)).drop a) 0 = num4 k a := by
  have e : ∀ r, r < 4 → ((k.take (a + 4)).drop a).getD r 0 = k.getD (a + r) 0 := by
    intro r hr
    simp only [List.getD_eq_getElem?_getD, List.getElem?_drop, List.getElem?_take]
    rw [if_pos (by omega)]
  unfold num4
  rw [e 0 (by omega), show (0 + 1) = 1 from rfl, e 1 (by omega), show 0 + 2 = 2 from rfl, e 2 (by omega), show 0 + 3 = 3 from rfl, e 3 (by omega)]
  rfl
theorem nums_append (a b : List (BitVec 32)) : nums (a ++ b) = nums a ++ nums b := List.map_append
theorem byte_of (x : BitVec 32) (s : Nat) : (⟨(x >>> s).setWidth 8⟩ : UInt8) = UInt8.ofNat (x.toNat / 2 ^ s) := by
  apply UInt8.toNat_inj.1
  rw [UInt8.toNat_ofNat']
  show ((x >>> s).setWidth 8).toNat = _
  rw [BitVec.toNat_setWidth, BitVec.toNat_ushiftRight, Nat.shiftRight_eq_div_pow]
theorem byte_int (N : Nat) : (⟨BitVec.ofInt 8 (N : Int)⟩ : UInt8) = UInt8.ofNat N := by
  apply UInt8.toNat_inj.1
  rw [UInt8.toNat_ofNat']
  show (BitVec.ofInt 8 (N : Int)).toNat = _
  rw [BitVec.toNat_ofInt]; omega
theorem byte_mod (N : Nat) : (⟨BitVec.ofInt 8 (Int.tmod (N : Int) 256)⟩ : UInt8) = UInt8.ofNat N := by
  rw [show Int.tmod (N : Int) 256 = ((N % 256 : Nat) : Int) from rfl, byte_int]
  apply UInt8.toNat_inj.1
  rw [UInt8.toNat_ofNat', UInt8.toNat_ofNat']; omega
theorem serial_step (y x : List (BitVec 32)) (i : Nat) (v : Int) (hv : v = ((y.getD i 0 + x.getD i 0).toNat : Int)) :
    serial y x i ++ [(⟨BitVec.ofInt 8 (Int.tmod v 256)⟩ : UInt8), ⟨BitVec.ofInt 8 (Int.tmod (Int.tdiv v 256) 256)⟩, ⟨BitVec.ofInt 8 (Int.tmod (Int.tdiv v 65536) 256)⟩, ⟨BitVec.ofInt 8 (Int.tdiv v 16777216)⟩] = serial y x (i + 1) := by
  rw [serial_succ, hv]
  generalize y.getD i 0 + x.getD i 0 = z
  congr 1
  unfold le4
  rw [show (⟨z.setWidth 8⟩ : UInt8) = ⟨(z >>> 0).setWidth 8⟩ from by simp, byte_of, byte_of, byte_of, byte_of]
  rw [show Int.tdiv (z.toNat : Int) 16777216 = ((z.toNat / 16777216 : Nat) : Int) from rfl, show Int.tdiv (z.toNat : Int) 65536 = ((z.toNat / 65536 : Nat) : Int) from rfl, show Int.tdiv (z.toNat : Int) 256 = ((z.toNat / 256 : Nat) : Int) from rfl]
  rw [byte_int, byte_mod, byte_mod, byte_mod]
  simp
theorem quarters_lo : ∀ j : Nat, j < 4 → quarters.getD j (0, 0, 0, 0) = (j, 4 + j, 8 + j, 12 + j) := by decide
theorem quarters_hi : ∀ j : Nat, j < 4 → quarters.getD (4 + j) (0, 0, 0, 0) = (j, 4 + (j + 1) % 4, 8 + (j + 2) % 4, 12 + (j + 3) % 4) := by decide
theorem part_lo (l : List (BitVec 32)) (j : Nat) (hj : j < 4) : qr (Cha.part l j) j (4 + j) (8 + j) (12 + j) = Cha.part l (j + 1) := by
  show _ = qr (Cha.part l j) (quarters.getD j (0, 0, 0, 0)).1 _ _ _
  rw [quarters_lo j hj]
theorem part_hi (l : List (BitVec 32)) (j : Nat) (hj : j < 4) : qr (Cha.part l (4 + j)) j (4 + (j + 1) % 4) (8 + (j + 2) % 4) (12 + (j + 3) % 4) = Cha.part l (4 + (j + 1)) := by
  show _ = qr (Cha.part l (4 + j)) (quarters.getD (4 + j) (0, 0, 0, 0)).1 (quarters.getD (4 + j) (0, 0, 0, 0)).2.1 (quarters.getD (4 + j) (0, 0, 0, 0)).2.2.1 (quarters.getD (4 + j) (0, 0, 0, 0)).2.2.2
  rw [quarters_hi j hj]
theorem rblock_ok (k : List UInt8) (c : BitVec 32) (n : List UInt8) (hk : k.length = 32) (hn : n.length = 12) :
    CtrP R 25 [vs k, vi c.toNat, vs n] [] (vs (block k c n)) := by
  refine Ctr.of Tryd.func25 rfl (by kernel_rfl) rfl fun _ _ w0 => ?_
  have hs := beg_length k c n
  repeat ((conv => whnf); with_reducible first | refine CondG.split ?_ | refine k1 ?_ | refine ke fun _ => ?_ | refine k2 ?_ | refine kg ?_ | refine kf ?_ | refine k3 ?_ | refine k4 ?_ | refine kn ?_ | refine Same.rfl ?_ | refine k5 ?_ | refine k6 ?_ | refine k7 ?_ | refine k8 ?_ | refine k9 ?_ | refine ka ?_ | refine kb ?_ | refine kl ?_ | refine km ?_ | refine kc ?_ | refine kd ?_ | exact True.intro)
  rename_i b16
  refine LoopG.ren [(16, 29)] [0, 1, 2, 7, 8] [16] ?_
  refine ⟨rfl, ?_⟩
  refine LoopG.two [0, 1, 2] [] (fun (j : Nat) x => [(7, vl 29 x), (8, vi (4 * j : Nat))]) (fun j x => [(29, .own 3 (.sc (.int .i64)) x (nums (begin4 ++ keyW k j)))]) (fun j x => j ≤ 8) (fun j => 8 - j) 0 (.at b16 0 4 4) ?_
  refine ⟨⟨by omega, ?_⟩, fun j x hj => ?_⟩
  · repeat ((conv => whnf); with_reducible first | refine CondG.split ?_ | refine k1 ?_ | refine ke fun _ => ?_ | refine k2 ?_ | refine kg ?_ | refine kf ?_ | refine k3 ?_ | refine k4 ?_ | refine kn ?_ | refine Same.rfl ?_ | refine k5 ?_ | refine k6 ?_ | refine k7 ?_ | refine k8 ?_ | refine k9 ?_ | refine ka ?_ | refine kb ?_ | refine kl ?_ | refine km ?_ | refine kc ?_ | refine kd ?_ | exact True.intro)
    refine OwnM.same (by with_reducible rfl) (by kernel_rfl) ?_
    repeat ((conv => whnf); with_reducible first | refine CondG.split ?_ | refine k1 ?_ | refine ke fun _ => ?_ | refine k2 ?_ | refine kg ?_ | refine kf ?_ | refine k3 ?_ | refine k4 ?_ | refine kn ?_ | refine Same.rfl ?_ | refine k5 ?_ | refine k6 ?_ | refine k7 ?_ | refine k8 ?_ | refine k9 ?_ | refine ka ?_ | refine kb ?_ | refine kl ?_ | refine km ?_ | refine kc ?_ | refine kd ?_ | exact True.intro)
  · have hnl : (nums (begin4 ++ keyW k j)).length = 4 + j := by rw [nums_length, List.length_append, keyW_length]; rfl
    (repeat ((conv => whnf); with_reducible first | refine CondG.split ?_ | refine k1 ?_ | refine ke fun _ => ?_ | refine k2 ?_ | refine kg ?_ | refine kf ?_ | refine k3 ?_ | refine k4 ?_ | refine kn ?_ | refine Same.rfl ?_ | refine k5 ?_ | refine k6 ?_ | refine k7 ?_ | refine k8 ?_ | refine k9 ?_ | refine ka ?_ | refine kb ?_ | refine kl ?_ | refine km ?_ | refine kc ?_ | refine kd ?_ | exact True.intro)); refine Br.by (fun g => ?_) (fun g => ?_)
    · have hj2 : j < 8 := by omega
      repeat ((conv => whnf); with_reducible first | refine CondG.split ?_ | refine k1 ?_ | refine ke fun _ => ?_ | refine k2 ?_ | refine kg ?_ | refine kf ?_ | refine k3 ?_ | refine k4 ?_ | refine kn ?_ | refine Same.rfl ?_ | refine k5 ?_ | refine k6 ?_ | refine k7 ?_ | refine k8 ?_ | refine k9 ?_ | refine ka ?_ | refine kb ?_ | refine kl ?_ | refine km ?_ | refine kc ?_ | refine kd ?_ | exact True.intro)
      refine CallG.p [] (rnumber_ok _ (by rw [List.length_drop, List.length_take]; omega)) rfl rfl ?_
      repeat ((conv => whnf); with_reducible first | refine CondG.split ?_ | refine k1 ?_ | refine ke fun _ => ?_ | refine k2 ?_ | refine kg ?_ | refine kf ?_ | refine k3 ?_ | refine k4 ?_ | refine kn ?_ | refine Same.rfl ?_ | refine k5 ?_ | refine k6 ?_ | refine k7 ?_ | refine k8 ?_ | refine k9 ?_ | refine ka ?_ | refine kb ?_ | refine kl ?_ | refine km ?_ | refine kc ?_ | refine kd ?_ | exact True.intro)
      refine ⟨j + 1, ‹SV›, by omega, (by dsimp only; omega), ?_⟩
      repeat ((conv => whnf); with_reducible first | refine CondG.split ?_ | refine k1 ?_ | refine ke fun _ => ?_ | refine k2 ?_ | refine kg ?_ | refine kf ?_ | refine k3 ?_ | refine k4 ?_ | refine kn ?_ | refine Same.rfl ?_ | refine k5 ?_ | refine k6 ?_ | refine k7 ?_ | refine k8 ?_ | refine k9 ?_ | refine ka ?_ | refine kb ?_ | refine kl ?_ | refine km ?_ | refine kc ?_ | refine kd ?_ | exact True.intro)
      refine OwnM.same (by with_reducible rfl) ?_ ?_
      · rw [show (((4 * j : Nat) : Int) + 4).toNat = 4 * j + 4 by omega, num4_sub, keyW_succ, ← List.append_assoc]; exact (nums_append (begin4 ++ keyW k j) [num4 k (4 * j)]).symm
      repeat ((conv => whnf); with_reducible first | refine CondG.split ?_ | refine k1 ?_ | refine ke fun _ => ?_ | refine k2 ?_ | refine kg ?_ | refine kf ?_ | refine k3 ?_ | refine k4 ?_ | refine kn ?_ | refine Same.rfl ?_ | refine k5 ?_ | refine k6 ?_ | refine k7 ?_ | refine k8 ?_ | refine k9 ?_ | refine ka ?_ | refine kb ?_ | refine kl ?_ | refine km ?_ | refine kc ?_ | refine kd ?_ | exact True.intro)
    · have hj8 : j = 8 := by omega
      have q1 := (num4 n 0).isLt
      repeat ((conv => whnf); with_reducible first | refine CondG.split ?_ | refine k1 ?_ | refine ke fun _ => ?_ | refine k2 ?_ | refine kg ?_ | refine kf ?_ | refine k3 ?_ | refine k4 ?_ | refine kn ?_ | refine Same.rfl ?_ | refine k5 ?_ | refine k6 ?_ | refine k7 ?_ | refine k8 ?_ | refine k9 ?_ | refine ka ?_ | refine kb ?_ | refine kl ?_ | refine km ?_ | refine kc ?_ | refine kd ?_ | exact True.intro)
      refine Draw.heldT [] 12 (.one 0 (.one 1 (.one 2 (.one 3 (.one 5 (.one 6 (.one 8 (.one 9 (.alt 4 (.alt 7 (.alt 10 (.alt 11 .done .fin) .fin) .fin) .fin))))))))) (by kernel_rfl) (by kernel_rfl) ?_
      repeat ((conv => whnf); with_reducible first | refine CondG.split ?_ | refine k1 ?_ | refine ke fun _ => ?_ | refine k2 ?_ | refine kg ?_ | refine kf ?_ | refine k3 ?_ | refine k4 ?_ | refine kn ?_ | refine Same.rfl ?_ | refine k5 ?_ | refine k6 ?_ | refine k7 ?_ | refine k8 ?_ | refine k9 ?_ | refine ka ?_ | refine kb ?_ | refine kl ?_ | refine km ?_ | refine kc ?_ | refine kd ?_ | exact True.intro)
      refine ⟨?_, trivial⟩
      refine CallG.p [] (rnumber_ok _ (by rw [List.length_take]; show min 4 _ = 4; omega)) rfl rfl ?_
      repeat ((conv => whnf); with_reducible first | refine CondG.split ?_ | refine k1 ?_ | refine ke fun _ => ?_ | refine k2 ?_ | refine kg ?_ | refine kf ?_ | refine k3 ?_ | refine k4 ?_ | refine kn ?_ | refine Same.rfl ?_ | refine k5 ?_ | refine k6 ?_ | refine k7 ?_ | refine k8 ?_ | refine k9 ?_ | refine ka ?_ | refine kb ?_ | refine kl ?_ | refine km ?_ | refine kc ?_ | refine kd ?_ | exact True.intro)
      refine ⟨?_, trivial⟩
      refine CallG.p [] (rnumber_ok _ (by rw [List.length_drop, List.length_take]; show min 8 _ - 4 = 4; omega)) rfl rfl ?_
      repeat ((conv => whnf); with_reducible first | refine CondG.split ?_ | refine k1 ?_ | refine ke fun _ => ?_ | refine k2 ?_ | refine kg ?_ | refine kf ?_ | refine k3 ?_ | refine k4 ?_ | refine kn ?_ | refine Same.rfl ?_ | refine k5 ?_ | refine k6 ?_ | refine k7 ?_ | refine k8 ?_ | refine k9 ?_ | refine ka ?_ | refine kb ?_ | refine kl ?_ | refine km ?_ | refine kc ?_ | refine kd ?_ | exact True.intro)
      refine ⟨?_, trivial⟩
      refine CallG.p [] (rnumber_ok _ (by rw [List.length_drop, List.length_take]; show min 12 _ - 8 = 4; omega)) rfl rfl ?_
      repeat ((conv => whnf); with_reducible first | refine CondG.split ?_ | refine k1 ?_ | refine ke fun _ => ?_ | refine k2 ?_ | refine kg ?_ | refine kf ?_ | refine k3 ?_ | refine k4 ?_ | refine kn ?_ | refine Same.rfl ?_ | refine k5 ?_ | refine k6 ?_ | refine k7 ?_ | refine k8 ?_ | refine k9 ?_ | refine ka ?_ | refine kb ?_ | refine kl ?_ | refine km ?_ | refine kc ?_ | refine kd ?_ | exact True.intro)
      refine ⟨?_, trivial⟩
      repeat ((conv => whnf); with_reducible first | refine CondG.split ?_ | refine k1 ?_ | refine ke fun _ => ?_ | refine k2 ?_ | refine kg ?_ | refine kf ?_ | refine k3 ?_ | refine k4 ?_ | refine kn ?_ | refine Same.rfl ?_ | refine k5 ?_ | refine k6 ?_ | refine k7 ?_ | refine k8 ?_ | refine k9 ?_ | refine ka ?_ | refine kb ?_ | refine kl ?_ | refine km ?_ | refine kc ?_ | refine kd ?_ | exact True.intro)
      rename_i x42 b43 y
      have e42 : nums (begin4 ++ keyW k j) ++ [(c.toNat : Int), ((num4 (n.take 4) 0).toNat : Int), ((num4 ((n.take 8).drop 4) 0).toNat : Int), ((num4 ((n.take 12).drop 8) 0).toNat : Int)] = nums (beg k c n) := by
        rw [hj8, show num4 (n.take 4) 0 = num4 n 0 from num4_sub n 0, show num4 ((n.take 8).drop 4) 0 = num4 n 4 from num4_sub n 4, show num4 ((n.take 12).drop 8) 0 = num4 n 8 from num4_sub n 8]
        unfold beg
        rw [List.append_assoc, nums_append _ ([c] ++ keyW n 3)]
        rfl
      refine LoopG.auto [7, 9] [] (fun i : Nat => [(10, vi i)]) (fun i => [(29, .own 3 (.sc (.int .i64)) x42 (nums (beg k c n))), (43, .own 3 (.sc (.int .i64)) y (nums (rounds (beg k c n) i)))]) (fun i => i ≤ 10) (fun i => 10 - i) 0 ?_
      refine ⟨⟨by omega, ?_⟩, fun i hi => ?_⟩
      · repeat ((conv => whnf); with_reducible first | refine CondG.split ?_ | refine k1 ?_ | refine ke fun _ => ?_ | refine k2 ?_ | refine kg ?_ | refine kf ?_ | refine k3 ?_ | refine k4 ?_ | refine kn ?_ | refine Same.rfl ?_ | refine k5 ?_ | refine k6 ?_ | refine k7 ?_ | refine k8 ?_ | refine k9 ?_ | refine ka ?_ | refine kb ?_ | refine kl ?_ | refine km ?_ | refine kc ?_ | refine kd ?_ | exact True.intro)
        refine OwnM.same (by with_reducible rfl) e42 ?_
        repeat ((conv => whnf); with_reducible first | refine CondG.split ?_ | refine k1 ?_ | refine ke fun _ => ?_ | refine k2 ?_ | refine kg ?_ | refine kf ?_ | refine k3 ?_ | refine k4 ?_ | refine kn ?_ | refine Same.rfl ?_ | refine k5 ?_ | refine k6 ?_ | refine k7 ?_ | refine k8 ?_ | refine k9 ?_ | refine ka ?_ | refine kb ?_ | refine kl ?_ | refine km ?_ | refine kc ?_ | refine kd ?_ | exact True.intro)
      · have hrl := rounds_length (beg k c n) i
        rw [hs] at hrl
        (repeat ((conv => whnf); with_reducible first | refine CondG.split ?_ | refine k1 ?_ | refine ke fun _ => ?_ | refine k2 ?_ | refine kg ?_ | refine kf ?_ | refine k3 ?_ | refine k4 ?_ | refine kn ?_ | refine Same.rfl ?_ | refine k5 ?_ | refine k6 ?_ | refine k7 ?_ | refine k8 ?_ | refine k9 ?_ | refine ka ?_ | refine kb ?_ | refine kl ?_ | refine km ?_ | refine kc ?_ | refine kd ?_ | exact True.intro)); refine Br.by (fun g => ?_) (fun g => ?_)
        · have hi2 : i < 10 := by omega
          repeat ((conv => whnf); with_reducible first | refine CondG.split ?_ | refine k1 ?_ | refine ke fun _ => ?_ | refine k2 ?_ | refine kg ?_ | refine kf ?_ | refine k3 ?_ | refine k4 ?_ | refine kn ?_ | refine Same.rfl ?_ | refine k5 ?_ | refine k6 ?_ | refine k7 ?_ | refine k8 ?_ | refine k9 ?_ | refine ka ?_ | refine kb ?_ | refine kl ?_ | refine km ?_ | refine kc ?_ | refine kd ?_ | exact True.intro)
          refine LoopG.auto [7, 9, 10] [29] (fun j : Nat => [(11, vi j)]) (fun j => [(43, .own 3 (.sc (.int .i64)) y (nums (Cha.part (rounds (beg k c n) i) j)))]) (fun j => j ≤ 4) (fun j => 4 - j) 0 ?_
          refine ⟨⟨by omega, ?_⟩, fun j hj => ?_⟩
          · repeat ((conv => whnf); with_reducible first | refine CondG.split ?_ | refine k1 ?_ | refine ke fun _ => ?_ | refine k2 ?_ | refine kg ?_ | refine kf ?_ | refine k3 ?_ | refine k4 ?_ | refine kn ?_ | refine Same.rfl ?_ | refine k5 ?_ | refine k6 ?_ | refine k7 ?_ | refine k8 ?_ | refine k9 ?_ | refine ka ?_ | refine kb ?_ | refine kl ?_ | refine km ?_ | refine kc ?_ | refine kd ?_ | exact True.intro)
            refine OwnM.same (by with_reducible rfl) rfl ?_; (repeat ((conv => whnf); with_reducible first | refine CondG.split ?_ | refine k1 ?_ | refine ke fun _ => ?_ | refine k2 ?_ | refine kg ?_ | refine kf ?_ | refine k3 ?_ | refine k4 ?_ | refine kn ?_ | refine Same.rfl ?_ | refine k5 ?_ | refine k6 ?_ | refine k7 ?_ | refine k8 ?_ | refine k9 ?_ | refine ka ?_ | refine kb ?_ | refine kl ?_ | refine km ?_ | refine kc ?_ | refine kd ?_ | exact True.intro))
          · (repeat ((conv => whnf); with_reducible first | refine CondG.split ?_ | refine k1 ?_ | refine ke fun _ => ?_ | refine k2 ?_ | refine kg ?_ | refine kf ?_ | refine k3 ?_ | refine k4 ?_ | refine kn ?_ | refine Same.rfl ?_ | refine k5 ?_ | refine k6 ?_ | refine k7 ?_ | refine k8 ?_ | refine k9 ?_ | refine ka ?_ | refine kb ?_ | refine kl ?_ | refine km ?_ | refine kc ?_ | refine kd ?_ | exact True.intro)); refine Br.by (fun g => ?_) (fun g => ?_)
            · have hj2 : j < 4 := by omega
              repeat ((conv => whnf); with_reducible first | refine CondG.split ?_ | refine k1 ?_ | refine ke fun _ => ?_ | refine k2 ?_ | refine kg ?_ | refine kf ?_ | refine k3 ?_ | refine k4 ?_ | refine kn ?_ | refine Same.rfl ?_ | refine k5 ?_ | refine k6 ?_ | refine k7 ?_ | refine k8 ?_ | refine k9 ?_ | refine ka ?_ | refine kb ?_ | refine kl ?_ | refine km ?_ | refine kc ?_ | refine kd ?_ | exact True.intro)
              refine CallG.one [(0, 43)] (rquarter_ok y (Cha.part (rounds (beg k c n) i) j) j (4 + j) (8 + j) (12 + j) (by rw [part_length, hrl]) (by omega) (by omega) (by omega) (by omega)) rfl rfl ?_
              repeat ((conv => whnf); with_reducible first | refine CondG.split ?_ | refine k1 ?_ | refine ke fun _ => ?_ | refine k2 ?_ | refine kg ?_ | refine kf ?_ | refine k3 ?_ | refine k4 ?_ | refine kn ?_ | refine Same.rfl ?_ | refine k5 ?_ | refine k6 ?_ | refine k7 ?_ | refine k8 ?_ | refine k9 ?_ | refine ka ?_ | refine kb ?_ | refine kl ?_ | refine km ?_ | refine kc ?_ | refine kd ?_ | exact True.intro)
              refine ⟨j + 1, by omega, (by dsimp only; omega), ?_⟩
              repeat ((conv => whnf); with_reducible first | refine CondG.split ?_ | refine k1 ?_ | refine ke fun _ => ?_ | refine k2 ?_ | refine kg ?_ | refine kf ?_ | refine k3 ?_ | refine k4 ?_ | refine kn ?_ | refine Same.rfl ?_ | refine k5 ?_ | refine k6 ?_ | refine k7 ?_ | refine k8 ?_ | refine k9 ?_ | refine ka ?_ | refine kb ?_ | refine kl ?_ | refine km ?_ | refine kc ?_ | refine kd ?_ | exact True.intro)
              refine OwnM.same (by with_reducible rfl) (by rw [part_lo _ j hj2]) ?_
              repeat ((conv => whnf); with_reducible first | refine CondG.split ?_ | refine k1 ?_ | refine ke fun _ => ?_ | refine k2 ?_ | refine kg ?_ | refine kf ?_ | refine k3 ?_ | refine k4 ?_ | refine kn ?_ | refine Same.rfl ?_ | refine k5 ?_ | refine k6 ?_ | refine k7 ?_ | refine k8 ?_ | refine k9 ?_ | refine ka ?_ | refine kb ?_ | refine kl ?_ | refine km ?_ | refine kc ?_ | refine kd ?_ | exact True.intro)
            · have hj4 : j = 4 := by omega
              repeat ((conv => whnf); with_reducible first | refine CondG.split ?_ | refine k1 ?_ | refine ke fun _ => ?_ | refine k2 ?_ | refine kg ?_ | refine kf ?_ | refine k3 ?_ | refine k4 ?_ | refine kn ?_ | refine Same.rfl ?_ | refine k5 ?_ | refine k6 ?_ | refine k7 ?_ | refine k8 ?_ | refine k9 ?_ | refine ka ?_ | refine kb ?_ | refine kl ?_ | refine km ?_ | refine kc ?_ | refine kd ?_ | exact True.intro)
              refine LoopG.auto [7, 9, 10] [29] (fun j : Nat => [(12, vi j)]) (fun j => [(43, .own 3 (.sc (.int .i64)) y (nums (Cha.part (rounds (beg k c n) i) (4 + j))))]) (fun j => j ≤ 4) (fun j => 4 - j) 0 ?_
              refine ⟨⟨by omega, ?_⟩, fun j hj => ?_⟩
              · repeat ((conv => whnf); with_reducible first | refine CondG.split ?_ | refine k1 ?_ | refine ke fun _ => ?_ | refine k2 ?_ | refine kg ?_ | refine kf ?_ | refine k3 ?_ | refine k4 ?_ | refine kn ?_ | refine Same.rfl ?_ | refine k5 ?_ | refine k6 ?_ | refine k7 ?_ | refine k8 ?_ | refine k9 ?_ | refine ka ?_ | refine kb ?_ | refine kl ?_ | refine km ?_ | refine kc ?_ | refine kd ?_ | exact True.intro)
                refine OwnM.same (by with_reducible rfl) (by rw [hj4]) ?_
                repeat ((conv => whnf); with_reducible first | refine CondG.split ?_ | refine k1 ?_ | refine ke fun _ => ?_ | refine k2 ?_ | refine kg ?_ | refine kf ?_ | refine k3 ?_ | refine k4 ?_ | refine kn ?_ | refine Same.rfl ?_ | refine k5 ?_ | refine k6 ?_ | refine k7 ?_ | refine k8 ?_ | refine k9 ?_ | refine ka ?_ | refine kb ?_ | refine kl ?_ | refine km ?_ | refine kc ?_ | refine kd ?_ | exact True.intro)
              · (repeat ((conv => whnf); with_reducible first | refine CondG.split ?_ | refine k1 ?_ | refine ke fun _ => ?_ | refine k2 ?_ | refine kg ?_ | refine kf ?_ | refine k3 ?_ | refine k4 ?_ | refine kn ?_ | refine Same.rfl ?_ | refine k5 ?_ | refine k6 ?_ | refine k7 ?_ | refine k8 ?_ | refine k9 ?_ | refine ka ?_ | refine kb ?_ | refine kl ?_ | refine km ?_ | refine kc ?_ | refine kd ?_ | exact True.intro)); refine Br.by (fun g => ?_) (fun g => ?_)
                · have hj2 : j < 4 := by omega
                  have m1 : Int.tmod ((j : Int) + 1) 4 = (((j + 1) % 4 : Nat) : Int) := rfl
                  have m2 : Int.tmod ((j : Int) + 2) 4 = (((j + 2) % 4 : Nat) : Int) := rfl
                  have m3 : Int.tmod ((j : Int) + 3) 4 = (((j + 3) % 4 : Nat) : Int) := rfl
                  repeat ((conv => whnf); with_reducible first | refine CondG.split ?_ | refine k1 ?_ | refine ke fun _ => ?_ | refine k2 ?_ | refine kg ?_ | refine kf ?_ | refine k3 ?_ | refine k4 ?_ | refine kn ?_ | refine Same.rfl ?_ | refine k5 ?_ | refine k6 ?_ | refine k7 ?_ | refine k8 ?_ | refine k9 ?_ | refine ka ?_ | refine kb ?_ | refine kl ?_ | refine km ?_ | refine kc ?_ | refine kd ?_ | exact True.intro)
                  refine CallG.one [(0, 43)] (rquarter_ok y (Cha.part (rounds (beg k c n) i) (4 + j)) j (4 + (j + 1) % 4) (8 + (j + 2) % 4) (12 + (j + 3) % 4) (by rw [part_length, hrl]) (by omega) (by omega) (by omega) (by omega)) rfl rfl ?_
                  repeat ((conv => whnf); with_reducible first | refine CondG.split ?_ | refine k1 ?_ | refine ke fun _ => ?_ | refine k2 ?_ | refine kg ?_ | refine kf ?_ | refine k3 ?_ | refine k4 ?_ | refine kn ?_ | refine Same.rfl ?_ | refine k5 ?_ | refine k6 ?_ | refine k7 ?_ | refine k8 ?_ | refine k9 ?_ | refine ka ?_ | refine kb ?_ | refine kl ?_ | refine km ?_ | refine kc ?_ | refine kd ?_ | exact True.intro)
                  refine ⟨j + 1, by omega, (by dsimp only; omega), ?_⟩
                  repeat ((conv => whnf); with_reducible first | refine CondG.split ?_ | refine k1 ?_ | refine ke fun _ => ?_ | refine k2 ?_ | refine kg ?_ | refine kf ?_ | refine k3 ?_ | refine k4 ?_ | refine kn ?_ | refine Same.rfl ?_ | refine k5 ?_ | refine k6 ?_ | refine k7 ?_ | refine k8 ?_ | refine k9 ?_ | refine ka ?_ | refine kb ?_ | refine kl ?_ | refine km ?_ | refine kc ?_ | refine kd ?_ | exact True.intro)
                  refine OwnM.same (by with_reducible rfl) (by rw [part_hi _ j hj2]) ?_
                  repeat ((conv => whnf); with_reducible first | refine CondG.split ?_ | refine k1 ?_ | refine ke fun _ => ?_ | refine k2 ?_ | refine kg ?_ | refine kf ?_ | refine k3 ?_ | refine k4 ?_ | refine kn ?_ | refine Same.rfl ?_ | refine k5 ?_ | refine k6 ?_ | refine k7 ?_ | refine k8 ?_ | refine k9 ?_ | refine ka ?_ | refine kb ?_ | refine kl ?_ | refine km ?_ | refine kc ?_ | refine kd ?_ | exact True.intro)
                · have hj4' : j = 4 := by omega
                  repeat ((conv => whnf); with_reducible first | refine CondG.split ?_ | refine k1 ?_ | refine ke fun _ => ?_ | refine k2 ?_ | refine kg ?_ | refine kf ?_ | refine k3 ?_ | refine k4 ?_ | refine kn ?_ | refine Same.rfl ?_ | refine k5 ?_ | refine k6 ?_ | refine k7 ?_ | refine k8 ?_ | refine k9 ?_ | refine ka ?_ | refine kb ?_ | refine kl ?_ | refine km ?_ | refine kc ?_ | refine kd ?_ | exact True.intro)
                  refine ⟨i + 1, by omega, (by dsimp only; omega), ?_⟩
                  repeat ((conv => whnf); with_reducible first | refine CondG.split ?_ | refine k1 ?_ | refine ke fun _ => ?_ | refine k2 ?_ | refine kg ?_ | refine kf ?_ | refine k3 ?_ | refine k4 ?_ | refine kn ?_ | refine Same.rfl ?_ | refine k5 ?_ | refine k6 ?_ | refine k7 ?_ | refine k8 ?_ | refine k9 ?_ | refine ka ?_ | refine kb ?_ | refine kl ?_ | refine km ?_ | refine kc ?_ | refine kd ?_ | exact True.intro)
                  refine OwnM.same (by with_reducible rfl) (by rw [hj4']; rfl) ?_
                  repeat ((conv => whnf); with_reducible first | refine CondG.split ?_ | refine k1 ?_ | refine ke fun _ => ?_ | refine k2 ?_ | refine kg ?_ | refine kf ?_ | refine k3 ?_ | refine k4 ?_ | refine kn ?_ | refine Same.rfl ?_ | refine k5 ?_ | refine k6 ?_ | refine k7 ?_ | refine k8 ?_ | refine k9 ?_ | refine ka ?_ | refine kb ?_ | refine kl ?_ | refine km ?_ | refine kc ?_ | refine kd ?_ | exact True.intro)
        · have hi10 : i = 10 := by omega
          have hnb : (nums (beg k c n)).length = 16 := by rw [nums_length, hs]
          have hnr : (nums (rounds (beg k c n) i)).length = 16 := by rw [nums_length, hrl]
          repeat ((conv => whnf); with_reducible first | refine CondG.split ?_ | refine k1 ?_ | refine ke fun _ => ?_ | refine k2 ?_ | refine kg ?_ | refine kf ?_ | refine k3 ?_ | refine k4 ?_ | refine kn ?_ | refine Same.rfl ?_ | refine k5 ?_ | refine k6 ?_ | refine k7 ?_ | refine k8 ?_ | refine k9 ?_ | refine ka ?_ | refine kb ?_ | refine kl ?_ | refine km ?_ | refine kc ?_ | refine kd ?_ | exact True.intro)
          rename_i bo
          refine LoopG.two [7, 9, 84] [29, 43] (fun (j : Nat) z => [(13, vl 82 z), (85, vi j)]) (fun j z => [(82, .own 5 (.sc .u8) z (serial (rounds (beg k c n) i) (beg k c n) j))]) (fun j z => j ≤ 16) (fun j => 16 - j) 0 (.at bo 0 0 0) ?_
          refine ⟨⟨by omega, ?_⟩, fun j z hj => ?_⟩
          · repeat ((conv => whnf); with_reducible first | refine CondG.split ?_ | refine k1 ?_ | refine ke fun _ => ?_ | refine k2 ?_ | refine kg ?_ | refine kf ?_ | refine k3 ?_ | refine k4 ?_ | refine kn ?_ | refine Same.rfl ?_ | refine k5 ?_ | refine k6 ?_ | refine k7 ?_ | refine k8 ?_ | refine k9 ?_ | refine ka ?_ | refine kb ?_ | refine kl ?_ | refine km ?_ | refine kc ?_ | refine kd ?_ | exact True.intro)
            refine OwnM.same (by with_reducible rfl) rfl ?_
            repeat ((conv => whnf); with_reducible first | refine CondG.split ?_ | refine k1 ?_ | refine ke fun _ => ?_ | refine k2 ?_ | refine kg ?_ | refine kf ?_ | refine k3 ?_ | refine k4 ?_ | refine kn ?_ | refine Same.rfl ?_ | refine k5 ?_ | refine k6 ?_ | refine k7 ?_ | refine k8 ?_ | refine k9 ?_ | refine ka ?_ | refine kb ?_ | refine kl ?_ | refine km ?_ | refine kc ?_ | refine kd ?_ | exact True.intro)
          · have hsl := serial_length (rounds (beg k c n) i) (beg k c n) j
            (repeat ((conv => whnf); with_reducible first | refine CondG.split ?_ | refine k1 ?_ | refine ke fun _ => ?_ | refine k2 ?_ | refine kg ?_ | refine kf ?_ | refine k3 ?_ | refine k4 ?_ | refine kn ?_ | refine Same.rfl ?_ | refine k5 ?_ | refine k6 ?_ | refine k7 ?_ | refine k8 ?_ | refine k9 ?_ | refine ka ?_ | refine kb ?_ | refine kl ?_ | refine km ?_ | refine kc ?_ | refine kd ?_ | exact True.intro)); refine Br.by (fun g => ?_) (fun g => ?_)
            · have hj2 : j < 16 := by omega
              have g1 : (nums (beg k c n)).getD j (Enc.sc (.int .i64)).dflt = (((beg k c n).getD j 0).toNat : Int) := nums_get _ _
              have g2 : (nums (rounds (beg k c n) i)).getD j (Enc.sc (.int .i64)).dflt = (((rounds (beg k c n) i).getD j 0).toNat : Int) := nums_get _ _
              have b1 := ((beg k c n).getD j 0).isLt
              have b2 := ((rounds (beg k c n) i).getD j 0).isLt
              have g3 : Int.tmod ((nums (beg k c n)).getD j (Enc.sc (.int .i64)).dflt + (nums (rounds (beg k c n) i)).getD j (Enc.sc (.int .i64)).dflt) 4294967296 = ((((rounds (beg k c n) i).getD j 0) + ((beg k c n).getD j 0)).toNat : Int) := by rw [g1, g2, add_nat, BitVec.add_comm]
              have b3 := (((rounds (beg k c n) i).getD j 0) + ((beg k c n).getD j 0)).isLt
              have d1 : Int.tdiv (Int.tmod ((nums (beg k c n)).getD j (Enc.sc (.int .i64)).dflt + (nums (rounds (beg k c n) i)).getD j (Enc.sc (.int .i64)).dflt) 4294967296) 256 = ((((rounds (beg k c n) i).getD j 0 + (beg k c n).getD j 0).toNat / 256 : Nat) : Int) := by rw [g3]; rfl
              have d2 : Int.tdiv (Int.tmod ((nums (beg k c n)).getD j (Enc.sc (.int .i64)).dflt + (nums (rounds (beg k c n) i)).getD j (Enc.sc (.int .i64)).dflt) 4294967296) 65536 = ((((rounds (beg k c n) i).getD j 0 + (beg k c n).getD j 0).toNat / 65536 : Nat) : Int) := by rw [g3]; rfl
              have d3 : Int.tdiv (Int.tmod ((nums (beg k c n)).getD j (Enc.sc (.int .i64)).dflt + (nums (rounds (beg k c n) i)).getD j (Enc.sc (.int .i64)).dflt) 4294967296) 16777216 = ((((rounds (beg k c n) i).getD j 0 + (beg k c n).getD j 0).toNat / 16777216 : Nat) : Int) := by rw [g3]; rfl
              repeat ((conv => whnf); with_reducible first | refine CondG.split ?_ | refine k1 ?_ | refine ke fun _ => ?_ | refine k2 ?_ | refine kg ?_ | refine kf ?_ | refine k3 ?_ | refine k4 ?_ | refine kn ?_ | refine Same.rfl ?_ | refine k5 ?_ | refine k6 ?_ | refine k7 ?_ | refine k8 ?_ | refine k9 ?_ | refine ka ?_ | refine kb ?_ | refine kl ?_ | refine km ?_ | refine kc ?_ | refine kd ?_ | exact True.intro)
              refine Draw.quiet (by kernel_rfl) (by kernel_rfl) ?_
              repeat ((conv => whnf); with_reducible first | refine CondG.split ?_ | refine k1 ?_ | refine ke fun _ => ?_ | refine k2 ?_ | refine kg ?_ | refine kf ?_ | refine k3 ?_ | refine k4 ?_ | refine kn ?_ | refine Same.rfl ?_ | refine k5 ?_ | refine k6 ?_ | refine k7 ?_ | refine k8 ?_ | refine k9 ?_ | refine ka ?_ | refine kb ?_ | refine kl ?_ | refine km ?_ | refine kc ?_ | refine kd ?_ | exact True.intro)
              refine ⟨j + 1, ‹SV›, by omega, (by dsimp only; omega), ?_⟩
              repeat ((conv => whnf); with_reducible first | refine CondG.split ?_ | refine k1 ?_ | refine ke fun _ => ?_ | refine k2 ?_ | refine kg ?_ | refine kf ?_ | refine k3 ?_ | refine k4 ?_ | refine kn ?_ | refine Same.rfl ?_ | refine k5 ?_ | refine k6 ?_ | refine k7 ?_ | refine k8 ?_ | refine k9 ?_ | refine ka ?_ | refine kb ?_ | refine kl ?_ | refine km ?_ | refine kc ?_ | refine kd ?_ | exact True.intro)
              refine OwnM.same (by with_reducible rfl) (serial_step _ _ j _ g3) ?_
              repeat ((conv => whnf); with_reducible first | refine CondG.split ?_ | refine k1 ?_ | refine ke fun _ => ?_ | refine k2 ?_ | refine kg ?_ | refine kf ?_ | refine k3 ?_ | refine k4 ?_ | refine kn ?_ | refine Same.rfl ?_ | refine k5 ?_ | refine k6 ?_ | refine k7 ?_ | refine k8 ?_ | refine k9 ?_ | refine ka ?_ | refine kb ?_ | refine kl ?_ | refine km ?_ | refine kc ?_ | refine kd ?_ | exact True.intro)
            · have hj16 : j = 16 := by omega
              repeat ((conv => whnf); with_reducible first | refine CondG.split ?_ | refine k1 ?_ | refine ke fun _ => ?_ | refine k2 ?_ | refine kg ?_ | refine kf ?_ | refine k3 ?_ | refine k4 ?_ | refine kn ?_ | refine Same.rfl ?_ | refine k5 ?_ | refine k6 ?_ | refine k7 ?_ | refine k8 ?_ | refine k9 ?_ | refine ka ?_ | refine kb ?_ | refine kl ?_ | refine km ?_ | refine kc ?_ | refine kd ?_ | exact True.intro)
              refine Fin.pure ?_
              repeat ((conv => whnf); with_reducible first | refine CondG.split ?_ | refine k1 ?_ | refine ke fun _ => ?_ | refine k2 ?_ | refine kg ?_ | refine kf ?_ | refine k3 ?_ | refine k4 ?_ | refine kn ?_ | refine Same.rfl ?_ | refine k5 ?_ | refine k6 ?_ | refine k7 ?_ | refine k8 ?_ | refine k9 ?_ | refine ka ?_ | refine kb ?_ | refine kl ?_ | refine km ?_ | refine kc ?_ | refine kd ?_ | exact True.intro)
              refine Chk.mk (by rw [hj16, hi10]; rfl) ?_
              repeat ((conv => whnf); with_reducible first | refine CondG.split ?_ | refine k1 ?_ | refine ke fun _ => ?_ | refine k2 ?_ | refine kg ?_ | refine kf ?_ | refine k3 ?_ | refine k4 ?_ | refine kn ?_ | refine Same.rfl ?_ | refine k5 ?_ | refine k6 ?_ | refine k7 ?_ | refine k8 ?_ | refine k9 ?_ | refine ka ?_ | refine kb ?_ | refine kl ?_ | refine km ?_ | refine kc ?_ | refine kd ?_ | exact True.intro)
end Go.Proofs.YtjanfjfccodebaaDoor
