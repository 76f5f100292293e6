/- The document's block. -/
import Derived.Test.YtiijaiiejogbjaaDoorR2
import Derived.Test.YtiijaiiejogbjaaDoorW5
import Derived.Test.YtiijaiiejogbjaaDoorSxRen
set_option linter.unusedVariables false
set_option linter.unusedSimpArgs false
set_option maxRecDepth 10000
namespace Go.Proofs.YtiijaiiejogbjaaDoor.Str
open Go Go.SX Go.Chacha

theorem numberS (s z : List UInt8) (i : Nat) (hz : z = (s.take (i + 4)).drop i) (h : i + 4 ≤ s.length) :
    Ctr Tryd.prog 22 [(SC.str z).val] [] fun v H' => v = .b (.one (.int .i64 (word (numsOf s) i))) ∧ H' = [] := by
  have hl : z.length = 4 := by rw [hz, List.length_drop, List.length_take]; omega
  have g : ∀ j, j < 4 → (numsOf z).getD j 0 = (numsOf s).getD (i + j) 0 := fun j hj => by
    simp only [numsOf, List.getD_eq_getElem?_getD, List.getElem?_map, hz, List.getElem?_drop, List.getElem?_take]
    rw [if_pos (by omega)]
  have e : word (numsOf z) 0 = word (numsOf s) i := by
    unfold word
    rw [g 0 (by omega), g (0 + 1) (by omega), g (0 + 2) (by omega), g (0 + 3) (by omega)]
    simp only [Nat.add_zero, Nat.zero_add]
  rw [← e]
  exact numberR z (by omega)

theorem parts_low (l : List Int) (k : Nat) (hk : k < 4) : qr (Chacha.part k l) k (4 + k) (8 + k) (12 + k) = Chacha.part (k + 1) l := by
  match k, hk with
  | 0, _ => rfl
  | 1, _ => rfl
  | 2, _ => rfl
  | 3, _ => rfl
theorem parts_high (l : List Int) (k : Nat) (hk : k < 4) : qr (Chacha.part (4 + k) l) k (4 + (k + 1) % 4) (8 + (k + 2) % 4) (12 + (k + 3) % 4) = Chacha.part (4 + (k + 1)) l := by
  match k, hk with
  | 0, _ => rfl
  | 1, _ => rfl
  | 2, _ => rfl
  | 3, _ => rfl

theorem blockR (ks ns : List UInt8) (c : Int) (hk : ks.length = 32) (hn : ns.length = 12) (hc : 0 ≤ c ∧ c < 4294967296) :
    Ctr Tryd.prog 10 [(SC.str ks).val, .int .i64 c, (SC.str ns).val] [] fun v H' => v = .b (.one (.str (bytesOf (Chacha.block (numsOf ks) c (numsOf ns))))) ∧ H' = [] := by
  refine Ctr.of (args := [.b (.one (.str ks)), .b (.one (.int .i64 c)), .b (.one (.str ns))]) Tryd.func10 rfl (by kernel_rfl) rfl fun w0 => ?_
  repeat (first | refine Chk.mk ⟨rfl, Nat.le_of_ble_eq_true rfl⟩ ?_)
  refine ⟨fun b1 => ?_⟩
  refine LoopG.ren [(16, 29)] [(8, .b (.one (.int .i64 0))), (7, .b (.one (.sl 16 b1 0 0 1 4 4))), (0, .b (.one (.str ks))), (1, .b (.one (.int .i64 c))), (2, .b (.one (.str ns)))] [(16, b1, .full 3 (.ints .i64 begin4))] ⟨rfl, rfl, rfl, rfl, rfl, trivial⟩ ⟨rfl, trivial⟩ rfl ?_
  refine LoopG.of (fun x : Nat × Nat × List Int => ([(8, .b (.one (.int .i64 ((4 * x.1 : Nat) : Int)))), (7, .b (.one (.sl 29 x.2.1 0 0 1 (4 + x.1) (4 + x.1 + x.2.2.length)))), (0, .b (.one (.str ks))), (1, .b (.one (.int .i64 c))), (2, .b (.one (.str ns)))], [(29, x.2.1, .full 3 (.ints .i64 (begin4 ++ keyWords (numsOf ks) x.1 ++ x.2.2)))])) (fun x => x.1 ≤ 8) (fun x => 8 - x.1) (0, b1, []) ?_ ?_
  · exact ⟨Nat.zero_le _, ⟨rfl, rfl, rfl, rfl, rfl, trivial⟩, ⟨rfl, trivial⟩⟩
  · rintro ⟨j, b, post⟩ hj
    have hj : j ≤ 8 := hj
    refine Br.by (fun h => ?_) (fun h => ?_)
    · have hj : ((4 * j : Nat) : Int) < 32 := h
      refine Wr.i64 (by omega) ?_
      have hks : (((4 * j : Nat) : Int) + 4) ≤ (ks.length : Int) := by omega
      refine Chk.mk ⟨by omega, show ((4 * j : Nat) : Int) ≤ ((4 * j : Nat) : Int) + 4 by omega, hks⟩ ?_
      refine CallG.by [] (numberS ks _ (4 * j) (by rw [show (((4 * j : Nat) : Int)).toNat = 4 * j by omega, show (((4 * j : Nat) : Int) + 4).toNat = 4 * j + 4 by omega]) (by omega)) trivial ?_
      rintro v H' ⟨rfl, rfl⟩
      refine ⟨rfl, rfl, ?_⟩
      repeat (first | refine Chk.mk ⟨rfl, Nat.le_of_ble_eq_true rfl⟩ ?_)
      refine ⟨fun b2 => ?_⟩
      refine Chk.mk rfl ?_
      refine ⟨(begin4 ++ keyWords (numsOf ks) j, post), rfl, rfl, rfl, rfl, ?_, ?_, ?_⟩
      · show (begin4 ++ keyWords (numsOf ks) j).length = 4 + j
        rw [List.length_append, keyWords_length]; rfl
      · show 4 + j + post.length = (begin4 ++ keyWords (numsOf ks) j ++ post).length
        rw [List.length_append, List.length_append, keyWords_length]; rfl
      refine Chk.mk ⟨rfl, rfl, rfl, Nat.le_of_ble_eq_true rfl⟩ ?_
      refine Chk.mk (show (2 * (4 + j + 1) + 192) * (7 + 1) ≤ 281474976710656 ∧ 4 + j + 1 < 9223372036854775808 by omega) ?_
      refine ⟨fun b3 => ?_⟩
      intro post2
      refine Wr.i64 (by omega) ?_
      refine ⟨(j + 1, b3, post2), by show j + 1 ≤ 8; omega, (by show 8 - (j + 1) < 8 - j; omega), ⟨?_, rfl, rfl, rfl, rfl, trivial⟩, ⟨?_, trivial⟩⟩
      · exact congrArg (fun z => some (TV.b (.one (.int .i64 z)))) (show ((4 * j : Nat) : Int) + 4 = ((4 * (j + 1) : Nat) : Int) by omega)
      · refine congrArg (fun l => some (b3, HB.full 3 (.ints .i64 (l ++ post2)))) ?_
        show begin4 ++ keyWords (numsOf ks) j ++ [word (numsOf ks) (4 * j)] = begin4 ++ keyWords (numsOf ks) (j + 1)
        rw [keyWords_succ, List.append_assoc]
    · have hj : ¬ ((4 * j : Nat) : Int) < 32 := h
      obtain rfl : j = 8 := by omega
      refine Draw.sched (.one 0 (.one 1 (.one 2 (.one 3 (.one 5 (.one 6 (.one 8 (.one 9 (.alt 4 (.alt 7 (.alt 10 (.alt 11 (.alt 12 (.one 13 .done) .fin) .fin) .fin) .fin) .fin))))))))) (by kernel_rfl) (by kernel_rfl) ?_
      refine Chk.mk (by omega) ?_
      refine Chk.mk (by omega) ?_
      refine Chk.mk (by omega) ?_
      refine ⟨?_, trivial⟩
      refine CallG.by [] (numberS ns _ 0 rfl (by omega)) trivial ?_
      rintro v H' ⟨rfl, rfl⟩
      refine ⟨rfl, rfl, ?_⟩
      refine ⟨?_, trivial⟩
      refine CallG.by [] (numberS ns _ 4 rfl (by omega)) trivial ?_
      rintro v H' ⟨rfl, rfl⟩
      refine ⟨rfl, rfl, ?_⟩
      refine ⟨?_, trivial⟩
      refine CallG.by [] (numberS ns _ 8 rfl (by omega)) trivial ?_
      rintro v H' ⟨rfl, rfl⟩
      refine ⟨rfl, rfl, ?_⟩
      refine ⟨?_, trivial⟩
      repeat (first | refine Chk.mk ⟨rfl, Nat.le_of_ble_eq_true rfl⟩ ?_)
      refine ⟨fun b2 => ?_⟩
      refine ⟨?_, trivial⟩
      refine Chk.mk rfl ?_
      refine ⟨(begin4 ++ keyWords (numsOf ks) 8, post), rfl, rfl, rfl, rfl, ?_, ?_, ?_⟩
      · show (begin4 ++ keyWords (numsOf ks) 8).length = 4 + 8
        rw [List.length_append, keyWords_length]; rfl
      · show 4 + 8 + post.length = (begin4 ++ keyWords (numsOf ks) 8 ++ post).length
        rw [List.length_append, List.length_append, keyWords_length]; rfl
      refine Chk.mk ⟨rfl, rfl, rfl, Nat.le_of_ble_eq_true rfl⟩ ?_
      refine Chk.mk (show (2 * (4 + 8 + 4) + 192) * (7 + 1) ≤ 281474976710656 ∧ 4 + 8 + 4 < 9223372036854775808 by omega) ?_
      refine ⟨fun b3 => ?_⟩
      intro post2
      refine Chk.mk ⟨rfl, Nat.le_of_ble_eq_true rfl⟩ ?_
      refine ⟨fun b4 => ?_⟩
      refine Chk.mk rfl ?_
      refine ⟨([], []), rfl, rfl, rfl, rfl, rfl, rfl, ?_⟩
      let X := Chacha.start (numsOf ks) c (numsOf ns)
      have hXe : begin4 ++ keyWords (numsOf ks) 8 ++ [c, word (numsOf ns) 0, word (numsOf ns) 4, word (numsOf ns) 8] = X := by
        show _ = begin4 ++ keyWords (numsOf ks) 8 ++ [c] ++ keyWords (numsOf ns) 3
        rw [List.append_assoc _ [c]]; rfl
      have hXl : X.length = 16 := start_length _ _ _
      have hXw : Words X := start_words (nums_bytes ks) (nums_bytes ns) hc
      have hsrc : ((begin4 ++ keyWords (numsOf ks) 8 ++ [c, word (numsOf ns) 0, word (numsOf ns) 4, word (numsOf ns) 8] ++ post2).drop 0).take 16 = X := by
        rw [hXe, List.drop_zero, List.take_append_of_le_length (by omega), List.take_of_length_le (by omega)]
      have hlenX : 0 + 16 ≤ (begin4 ++ keyWords (numsOf ks) 8 ++ [c, word (numsOf ns) 0, word (numsOf ns) 4, word (numsOf ns) 8] ++ post2).length := by
        rw [hXe, List.length_append]; omega
      refine Chk.mk ⟨rfl, rfl, rfl, hlenX⟩ ?_
      refine Chk.mk (show (2 * (0 + (((begin4 ++ keyWords (numsOf ks) 8 ++ [c, word (numsOf ns) 0, word (numsOf ns) 4, word (numsOf ns) 8] ++ post2).drop 0).take 16).length) + 192) * (7 + 1) ≤ 281474976710656 ∧ 0 + (((begin4 ++ keyWords (numsOf ks) 8 ++ [c, word (numsOf ns) 0, word (numsOf ns) 4, word (numsOf ns) 8] ++ post2).drop 0).take 16).length < 9223372036854775808 by rw [hsrc]; omega) ?_
      refine ⟨fun b5 => ?_⟩
      intro post3
      refine LoopG.of (fun i : Nat => ([(10, .b (.one (.int .i64 i))), (7, .b (.one (.sl 42 b3 0 0 1 16 (16 + post2.length)))), (9, .b (.one (.sl 45 b5 0 0 1 16 (16 + post3.length))))], [(42, b3, .full 3 (.ints .i64 (X ++ post2))), (45, b5, .full 3 (.ints .i64 (rounds i X ++ post3)))])) (fun i => i ≤ 10) (fun i => 10 - i) 0 ?_ ?_
      · refine ⟨by omega, ⟨rfl, rfl, ?_, trivial⟩, ⟨?_, ?_, trivial⟩⟩
        · exact (congrArg (fun l : List Int => some (TV.b (.one (.sl 45 b5 0 0 1 (0 + l.length) (0 + l.length + post3.length))))) hsrc).trans (congrArg (fun n : Nat => some (TV.b (.one (.sl 45 b5 0 0 1 (0 + n) (0 + n + post3.length))))) hXl)
        · exact congrArg (fun l => some (b3, HB.full 3 (.ints .i64 (l ++ post2)))) hXe
        · exact congrArg (fun l => some (b5, HB.full 3 (.ints .i64 ([] ++ l ++ post3)))) hsrc
      · intro i hi
        have hr := rounds_ok i hXw
        refine Br.by (fun h => ?_) (fun h => ?_)
        · have hi : (i : Int) < 10 := h
          refine LoopG.of (fun k : Nat => ([(11, .b (.one (.int .i64 k))), (10, .b (.one (.int .i64 i))), (7, .b (.one (.sl 42 b3 0 0 1 16 (16 + post2.length)))), (9, .b (.one (.sl 45 b5 0 0 1 16 (16 + post3.length))))], [(42, b3, .full 3 (.ints .i64 (X ++ post2))), (45, b5, .full 3 (.ints .i64 (Chacha.part k (rounds i X) ++ post3)))])) (fun k => k ≤ 4) (fun k => 4 - k) 0 ?_ ?_
          · exact ⟨by omega, ⟨rfl, rfl, rfl, rfl, trivial⟩, ⟨rfl, rfl, trivial⟩⟩
          · intro k hk4
            have hp := part_ok k hr.1
            have hpl : (Chacha.part k (rounds i X)).length = 16 := hp.2.trans (hr.2.trans hXl)
            refine Br.by (fun h => ?_) (fun h => ?_)
            · have hk4 : (k : Int) < 4 := h
              refine Wr.i64 (by omega) ?_
              refine Wr.i64 (by omega) ?_
              refine Wr.i64 (by omega) ?_
              refine CallG.ren [(0, 45)] [45] (quarterR 3 b5 _ (Chacha.part k (rounds i X) ++ post3) (by rw [List.length_append]; omega) (W16.of hpl hp.1) k (4 + k) (8 + k) (12 + k) (by omega) (by omega) (by omega) (by omega)) rfl rfl ⟨⟨rfl, HBle.refl _, rfl, rfl⟩, trivial⟩ ?_
              rintro v H' ⟨rfl, rfl⟩
              refine ⟨rfl, rfl, rfl, ?_⟩
              refine Wr.i64 (by omega) ?_
              refine ⟨k + 1, by omega, (by show 4 - (k + 1) < 4 - k; omega), ⟨rfl, rfl, rfl, rfl, trivial⟩, ⟨rfl, ?_, trivial⟩⟩
              refine congrArg (fun l => some (b5, HB.full 3 (.ints .i64 l))) ?_
              rw [qr_append hpl (by omega) (by omega) (by omega) (by omega), parts_low _ k (by omega)]
            · have hk4 : ¬ (k : Int) < 4 := h
              obtain rfl : k = 4 := by omega
              refine LoopG.of (fun k : Nat => ([(12, .b (.one (.int .i64 k))), (10, .b (.one (.int .i64 i))), (7, .b (.one (.sl 42 b3 0 0 1 16 (16 + post2.length)))), (9, .b (.one (.sl 45 b5 0 0 1 16 (16 + post3.length))))], [(42, b3, .full 3 (.ints .i64 (X ++ post2))), (45, b5, .full 3 (.ints .i64 (Chacha.part (4 + k) (rounds i X) ++ post3)))])) (fun k => k ≤ 4) (fun k => 4 - k) 0 ?_ ?_
              · exact ⟨by omega, ⟨rfl, rfl, rfl, rfl, trivial⟩, ⟨rfl, rfl, trivial⟩⟩
              · intro k hk4
                have hp := part_ok (4 + k) hr.1
                have hpl : (Chacha.part (4 + k) (rounds i X)).length = 16 := hp.2.trans (hr.2.trans hXl)
                refine Br.by (fun h => ?_) (fun h => ?_)
                · have hk4 : (k : Int) < 4 := h
                  have t1 : ((k : Int) + 1).tmod 4 = ((k : Int) + 1) % 4 := Int.tmod_eq_emod_of_nonneg (by omega)
                  have t2 : ((k : Int) + 2).tmod 4 = ((k : Int) + 2) % 4 := Int.tmod_eq_emod_of_nonneg (by omega)
                  have t3 : ((k : Int) + 3).tmod 4 = ((k : Int) + 3) % 4 := Int.tmod_eq_emod_of_nonneg (by omega)
                  refine Wr.i64 (by omega) ?_
                  refine Chk.mk (by omega) ?_
                  refine Wr.i64 (by rw [t1]; omega) ?_
                  refine Wr.i64 (by omega) ?_
                  refine Chk.mk (by omega) ?_
                  refine Wr.i64 (by rw [t2]; omega) ?_
                  refine Wr.i64 (by omega) ?_
                  refine Chk.mk (by omega) ?_
                  refine Wr.i64 (by rw [t3]; omega) ?_
                  refine CallG.ren [(0, 45)] [45] (quarterR 3 b5 _ (Chacha.part (4 + k) (rounds i X) ++ post3) (by rw [List.length_append]; omega) (W16.of hpl hp.1) k (4 + (k + 1) % 4) (8 + (k + 2) % 4) (12 + (k + 3) % 4) (by omega) (by omega) (by omega) (by omega)) rfl rfl ⟨⟨rfl, HBle.refl _, rfl, rfl⟩, trivial⟩ ?_
                  rintro v H' ⟨rfl, rfl⟩
                  refine ⟨rfl, rfl, rfl, ?_⟩
                  refine Wr.i64 (by omega) ?_
                  refine ⟨k + 1, by omega, (by show 4 - (k + 1) < 4 - k; omega), ⟨rfl, rfl, rfl, rfl, trivial⟩, ⟨rfl, ?_, trivial⟩⟩
                  refine congrArg (fun l => some (b5, HB.full 3 (.ints .i64 l))) ?_
                  rw [qr_append hpl (by omega) (by omega) (by omega) (by omega), parts_high _ k (by omega)]
                · have hk4 : ¬ (k : Int) < 4 := h
                  obtain rfl : k = 4 := by omega
                  refine Wr.i64 (by omega) ?_
                  exact ⟨i + 1, by omega, (by show 10 - (i + 1) < 10 - i; omega), ⟨rfl, rfl, rfl, trivial⟩, ⟨rfl, rfl, trivial⟩⟩
        · have hi : ¬ (i : Int) < 10 := h
          obtain rfl : i = 10 := by omega
          let Y := rounds 10 X
          have hYl : Y.length = 16 := hr.2.trans hXl
          have hYw : Words Y := hr.1
          refine Chk.mk ⟨rfl, Nat.le_of_ble_eq_true rfl⟩ ?_
          refine ⟨fun b6 => ?_⟩
          refine LoopG.ren [(82, 114)] [(85, .b (.one (.int .i64 0))), (84, .b (.one (.int .i64 16))), (13, .b (.one (.sl 82 b6 0 0 1 0 0))), (7, .b (.one (.sl 42 b3 0 0 1 16 (16 + post2.length)))), (9, .b (.one (.sl 45 b5 0 0 1 16 (16 + post3.length))))] [(82, b6, .full 5 (.ints .u8 [])), (42, b3, .full 3 (.ints .i64 (X ++ post2))), (45, b5, .full 3 (.ints .i64 (Y ++ post3)))] ⟨rfl, rfl, rfl, rfl, rfl, trivial⟩ ⟨rfl, rfl, rfl, trivial⟩ rfl ?_
          refine LoopG.of (fun x : Nat × Nat × List Int => ([(85, .b (.one (.int .i64 x.1))), (84, .b (.one (.int .i64 16))), (13, .b (.one (.sl 114 x.2.1 0 0 1 (4 * x.1) (4 * x.1 + x.2.2.length)))), (7, .b (.one (.sl 42 b3 0 0 1 16 (16 + post2.length)))), (9, .b (.one (.sl 45 b5 0 0 1 16 (16 + post3.length))))], [(114, x.2.1, .full 5 (.ints .u8 (serial Y X x.1 ++ x.2.2))), (42, b3, .full 3 (.ints .i64 (X ++ post2))), (45, b5, .full 3 (.ints .i64 (Y ++ post3)))])) (fun x => x.1 ≤ 16) (fun x => 16 - x.1) (0, b6, []) ?_ ?_
          · exact ⟨Nat.zero_le _, ⟨rfl, rfl, rfl, rfl, rfl, trivial⟩, ⟨rfl, rfl, rfl, trivial⟩⟩
          · rintro ⟨m, b7, post4⟩ hm
            have hm : m ≤ 16 := hm
            have hsl : (serial Y X m).length = 4 * m := serial_length Y X m
            refine Br.by (fun h => ?_) (fun h => ?_)
            · have hm : (m : Int) < 16 := h
              have fm : 0 ≤ (m : Int) ∧ (m : Int) < ((16 : Nat) : Int) := by omega
              have gX : (X ++ post2).getD (0 + (m : Int).toNat) 0 = X.getD m 0 := by
                rw [show 0 + (m : Int).toNat = m by omega]
                simp only [List.getD_eq_getElem?_getD, List.getElem?_append_left (show m < X.length by omega)]
              have gY : (Y ++ post3).getD (0 + (m : Int).toNat) 0 = Y.getD m 0 := by
                rw [show 0 + (m : Int).toNat = m by omega]
                simp only [List.getD_eq_getElem?_getD, List.getElem?_append_left (show m < Y.length by omega)]
              have wx := hXw m
              have wy := hYw m
              refine Draw.quiet (by kernel_rfl) (by kernel_rfl) ?_
              refine Chk.mk rfl ?_
              refine Chk.mk fm ?_
              refine Chk.mk rfl ?_
              refine Chk.mk (show 0 + (m : Int).toNat < (X ++ post2).length by rw [List.length_append]; omega) ?_
              refine Chk.mk rfl ?_
              refine Chk.mk fm ?_
              refine Chk.mk rfl ?_
              refine Chk.mk (show 0 + (m : Int).toNat < (Y ++ post3).length by rw [List.length_append]; omega) ?_
              refine Wr.i64 (by rw [gX, gY]; omega) ?_
              refine Chk.mk (by omega) ?_
              let V := ((X ++ post2).getD (0 + (m : Int).toNat) 0 + (Y ++ post3).getD (0 + (m : Int).toNat) 0).tmod 4294967296
              have hV : V = add32 (Y.getD m 0) (X.getD m 0) := by
                show ((X ++ post2).getD (0 + (m : Int).toNat) 0 + (Y ++ post3).getD (0 + (m : Int).toNat) 0).tmod 4294967296 = _
                rw [gX, gY, Int.tmod_eq_emod_of_nonneg (by omega), Int.add_comm]; rfl
              have hVb : 0 ≤ V ∧ V < 4294967296 := by rw [hV]; exact add32_w _ _
              have hser : serial Y X (m + 1) = serial Y X m ++ le4 V := by rw [hV, serial_succ]
              have d1 : V.tdiv 256 = V / 256 := Int.tdiv_eq_ediv_of_nonneg hVb.1
              have d2 : V.tdiv 65536 = V / 65536 := Int.tdiv_eq_ediv_of_nonneg hVb.1
              have d3 : V.tdiv 16777216 = V / 16777216 := Int.tdiv_eq_ediv_of_nonneg hVb.1
              have m0 : V.tmod 256 = V % 256 := Int.tmod_eq_emod_of_nonneg hVb.1
              have m1 : (V.tdiv 256).tmod 256 = V / 256 % 256 := by rw [d1]; exact Int.tmod_eq_emod_of_nonneg (by omega)
              have m2 : (V.tdiv 65536).tmod 256 = V / 65536 % 256 := by rw [d2]; exact Int.tmod_eq_emod_of_nonneg (by omega)
              have k0 : 0 ≤ V.tmod 256 ∧ V.tmod 256 ≤ 255 := by rw [m0]; omega
              have k1 : 0 ≤ (V.tdiv 256).tmod 256 ∧ (V.tdiv 256).tmod 256 ≤ 255 := by rw [m1]; omega
              have k2 : 0 ≤ (V.tdiv 65536).tmod 256 ∧ (V.tdiv 65536).tmod 256 ≤ 255 := by rw [m2]; omega
              have k3 : 0 ≤ V.tdiv 16777216 ∧ V.tdiv 16777216 ≤ 255 := by rw [d3]; omega
              have q1 : -9223372036854775808 ≤ V.tdiv 256 ∧ V.tdiv 256 ≤ 9223372036854775807 := by rw [d1]; omega
              have q2 : -9223372036854775808 ≤ V.tdiv 65536 ∧ V.tdiv 65536 ≤ 9223372036854775807 := by rw [d2]; omega
              have q3 : -9223372036854775808 ≤ V.tdiv 16777216 ∧ V.tdiv 16777216 ≤ 9223372036854775807 := by rw [d3]; omega
              refine Chk.mk (by omega) ?_
              refine Wr.u8 k0 ?_
              refine Chk.mk (by omega) ?_
              refine Wr.i64 q1 ?_
              refine Chk.mk (by omega) ?_
              refine Wr.u8 k1 ?_
              refine Chk.mk (by omega) ?_
              refine Wr.i64 q2 ?_
              refine Chk.mk (by omega) ?_
              refine Wr.u8 k2 ?_
              refine Chk.mk (by omega) ?_
              refine Wr.i64 q3 ?_
              refine Wr.u8 k3 ?_
              repeat (first | refine Chk.mk ⟨rfl, Nat.le_of_ble_eq_true rfl⟩ ?_)
              refine ⟨fun b8 => ?_⟩
              refine Chk.mk rfl ?_
              refine ⟨(serial Y X m, post4), rfl, rfl, rfl, rfl, hsl, ?_, ?_⟩
              · show 4 * m + post4.length = (serial Y X m ++ post4).length
                rw [List.length_append, hsl]
              refine Chk.mk ⟨rfl, rfl, rfl, Nat.le_of_ble_eq_true rfl⟩ ?_
              refine Chk.mk (show (2 * (4 * m + 4) + 192) * (0 + 1) ≤ 281474976710656 ∧ 4 * m + 4 < 9223372036854775808 by omega) ?_
              refine ⟨fun b9 => ?_⟩
              intro post5
              refine Wr.i64 (by omega) ?_
              refine ⟨(m + 1, b9, post5), by show m + 1 ≤ 16; omega, (by show 16 - (m + 1) < 16 - m; omega), ⟨rfl, rfl, rfl, rfl, rfl, trivial⟩, ⟨?_, rfl, rfl, trivial⟩⟩
              refine congrArg (fun l => some (b9, HB.full 5 (.ints .u8 (l ++ post5)))) ?_
              show serial Y X m ++ [V.tmod 256, (V.tdiv 256).tmod 256, (V.tdiv 65536).tmod 256, V.tdiv 16777216] = serial Y X (m + 1)
              rw [hser, m0, m1, m2, d3]
              unfold le4
              rw [show V / 16777216 % 256 = V / 16777216 by omega]
            · have hm : ¬ (m : Int) < 16 := h
              obtain rfl : m = 16 := by omega
              refine Chk.mk ⟨rfl, rfl, show 0 + 4 * 16 ≤ (serial Y X 16 ++ post4).length by rw [List.length_append, hsl]; omega⟩ ?_
              refine ⟨[], trivial, ?_, rfl⟩
              refine congrArg (fun l => TV.b (.one (.str (bytesOf l)))) ?_
              show ((serial Y X 16 ++ post4).drop 0).take (4 * 16) = serial Y X 16
              rw [List.drop_zero, List.take_append_of_le_length (by omega), List.take_of_length_le (by omega)]
end Go.Proofs.YtiijaiiejogbjaaDoor.Str
