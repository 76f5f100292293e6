/- A block of package stream. -/
import Derived.Test.YtiijaiiejogbjaaDoorW2
import Derived.Test.YtiijaiiejogbjaaDoorW3
set_option linter.unusedVariables false
set_option linter.unusedSimpArgs false
set_option maxRecDepth 10000
namespace Go.Proofs.YtiijaiiejogbjaaDoor.Str
open Go Go.SX Go.Chacha

def quartersL : List Int := [0, 4, 8, 12, 1, 5, 9, 13, 2, 6, 10, 14, 3, 7, 11, 15, 0, 5, 10, 15, 1, 6, 11, 12, 2, 7, 8, 13, 3, 4, 9, 14]
theorem quarters_row (m : Nat) (hm : m < 8) : ∃ qa qb qc qd : Nat, qa < 16 ∧ qb < 16 ∧ qc < 16 ∧ qd < 16 ∧ (quartersL.drop ((m : Int).toNat * 4)).take 4 = [(qa : Int), qb, qc, qd] ∧ ∀ l, Chacha.part (m + 1) l = qr (Chacha.part m l) qa qb qc qd := by
  match m, hm with
  | 0, _ => exact ⟨0, 4, 8, 12, by omega, by omega, by omega, by omega, rfl, fun l => rfl⟩
  | 1, _ => exact ⟨1, 5, 9, 13, by omega, by omega, by omega, by omega, rfl, fun l => rfl⟩
  | 2, _ => exact ⟨2, 6, 10, 14, by omega, by omega, by omega, by omega, rfl, fun l => rfl⟩
  | 3, _ => exact ⟨3, 7, 11, 15, by omega, by omega, by omega, by omega, rfl, fun l => rfl⟩
  | 4, _ => exact ⟨0, 5, 10, 15, by omega, by omega, by omega, by omega, rfl, fun l => rfl⟩
  | 5, _ => exact ⟨1, 6, 11, 12, by omega, by omega, by omega, by omega, rfl, fun l => rfl⟩
  | 6, _ => exact ⟨2, 7, 8, 13, by omega, by omega, by omega, by omega, rfl, fun l => rfl⟩
  | 7, _ => exact ⟨3, 4, 9, 14, by omega, by omega, by omega, by omega, rfl, fun l => rfl⟩
theorem quarter' (T b : Nat) (l row : List Int) (hl : l.length = 16) (hw : Words l) (qa qb qc qd : Nat) (ha : qa < 16) (hb : qb < 16) (hc : qc < 16) (hd : qd < 16) (hrow : row = [(qa : Int), qb, qc, qd]) :
    Ctr Tryd.prog 21 [(SC.ptr ⟨0, b, .lit 0⟩).val, (BV.seq .i64 row).val] [(0, b, .full T (.ints .u32 l))]
      fun v H' => v = .tup [] ∧ H' = [(0, b, .full T (.ints .u32 (qr l qa qb qc qd)))] := by
  subst hrow; exact quarter T b l hl hw qa qb qc qd ha hb hc hd

def out (y x : List Int) (m : Nat) : List Int := serial y x m ++ List.replicate (64 - 4 * m) 0
theorem out_length (y x : List Int) (m : Nat) (hm : m ≤ 16) : (out y x m).length = 64 := by simp [out, serial_length]; omega
theorem out_step (y x : List Int) (m : Nat) (hm : m < 16) (v : Int) (hv : v = add32 (y.getD m 0) (x.getD m 0)) :
    ((((out y x m).set (4 * m) (v % 256)).set (4 * m + 1) (v / 256 % 256)).set (4 * m + 2) (v / 65536 % 256)).set (4 * m + 3) (v / 16777216 % 256) = out y x (m + 1) := by
  subst hv
  obtain ⟨r, hr⟩ : ∃ r, 64 - 4 * m = r + 4 := ⟨60 - 4 * m, by omega⟩
  have e : 64 - 4 * (m + 1) = r := by omega
  unfold out
  rw [hr, e, serial_succ]
  generalize add32 (y.getD m 0) (x.getD m 0) = v
  have hl : (serial y x m).length = 4 * m := serial_length y x m
  generalize serial y x m = s at hl ⊢
  have e4 : List.replicate (r + 4) (0 : Int) = 0 :: 0 :: 0 :: 0 :: List.replicate r 0 := rfl
  rw [e4, ← hl]
  have h : ∀ (t : List Int) (a : Int) (p : Nat), (s ++ t).set (s.length + p) a = s ++ t.set p a := fun t a p => by
    rw [List.set_append_right _ _ (by omega)]; simp
  have h0 : ∀ (t : List Int) (a : Int), (s ++ t).set s.length a = s ++ t.set 0 a := fun t a => h t a 0
  rw [h0, h, h, h]
  simp [le4]

theorem block (k n : List Int) (c : Int) (hkl : k.length = 32) (hnl : n.length = 12) (hk : Bytes k) (hn : Bytes n) (hc : 0 ≤ c ∧ c < 4294967296) :
    Ctr Tryd.prog 9 [(BV.seq .u8 k).val, .int .u32 c, (BV.seq .u8 n).val] [(500, 0, .seg 0 (.ints .i64 quartersL)), (501, 1, .seg 0 (.ints .u32 begin4))]
      fun v H' => v = .b (.seq .u8 (Chacha.block k c n)) ∧ H' = [] := by
  refine Ctr.of (args := [.b (.seq .u8 k), .b (.one (.int .u32 c)), .b (.seq .u8 n)]) Tryd.func9 rfl (by kernel_rfl) rfl fun w0 => ?_
  refine ⟨fun b1 => ?_⟩
  refine ⟨fun b2 => ?_⟩
  refine ⟨fun b3 => ?_⟩
  repeat (refine Chk.mk rfl ?_)
  refine Chk.mk hkl ?_
  repeat (refine Chk.mk rfl ?_)
  refine Chk.mk hnl ?_
  refine CallG.by [501] (first k n c hkl hnl hk hn hc) ⟨⟨rfl, HBle.refl _, rfl⟩, trivial⟩ ?_
  rintro v H' ⟨rfl, rfl⟩
  refine ⟨rfl, rfl, ?_⟩
  let x := Chacha.start k c n
  have hx : Words x := start_words hk hn hc
  have hxl : x.length = 16 := start_length k c n
  refine ⟨fun b4 => ?_⟩
  refine Chk.mk ⟨rfl, (List.length_map ..).trans hxl⟩ ?_
  refine Chk.mk ⟨rfl, hxl⟩ ?_
  repeat (refine Chk.mk rfl ?_)
  refine ⟨fun b5 => ?_⟩
  refine Chk.mk ⟨rfl, (List.length_map ..).trans hxl⟩ ?_
  refine Chk.mk ⟨rfl, hxl⟩ ?_
  let y := rounds 10 x
  have hyl : y.length = 16 := (rounds_ok 10 hx).2.trans hxl
  have hy : Words y := (rounds_ok 10 hx).1
  refine LoopG.of (fun i : Nat => ([(19, .b (.one (.int .i64 i))), (7, .b (.one (.ptr ⟨7, b4, .lit 0⟩))), (8, .b (.one (.ptr ⟨8, b5, .lit 0⟩))), (6, .b (.one (.ptr ⟨6, b3, .lit 0⟩)))], [(7, b4, .full 46 (.ints .u32 x)), (8, b5, .full 46 (.ints .u32 (rounds i x))), (6, b3, .full 31 (.ints .u8 (List.replicate 64 0))), (500, 0, .seg 0 (.ints .i64 quartersL))])) (fun i => i ≤ 10) (fun i => 10 - i) 0 ?_ ?_
  · exact ⟨by omega, ⟨rfl, rfl, rfl, rfl, trivial⟩, ⟨rfl, rfl, rfl, rfl, trivial⟩⟩
  · intro i hi
    refine Br.by (fun h => ?_) (fun h => ?_)
    · have hi : (i : Int) < 10 := h
      have hr := rounds_ok i hx
      repeat (refine Chk.mk rfl ?_)
      refine LoopG.of (fun m : Nat => ([(22, .b (.one (.int .i64 m))), (21, .b (.seq .i64 quartersL)), (19, .b (.one (.int .i64 i))), (7, .b (.one (.ptr ⟨7, b4, .lit 0⟩))), (8, .b (.one (.ptr ⟨8, b5, .lit 0⟩))), (6, .b (.one (.ptr ⟨6, b3, .lit 0⟩)))], [(7, b4, .full 46 (.ints .u32 x)), (8, b5, .full 46 (.ints .u32 (Chacha.part m (rounds i x)))), (6, b3, .full 31 (.ints .u8 (List.replicate 64 0))), (500, 0, .seg 0 (.ints .i64 quartersL))])) (fun m => m ≤ 8) (fun m => 8 - m) 0 ?_ ?_
      · exact ⟨by omega, ⟨rfl, rfl, rfl, rfl, rfl, rfl, trivial⟩, ⟨rfl, rfl, rfl, rfl, trivial⟩⟩
      · intro m hm
        refine Br.by (fun h => ?_) (fun h => ?_)
        · have hm : (m : Int) < 8 := h
          obtain ⟨qa, qb, qc, qd, ha, hb, hc', hd, hrow, hstep⟩ := quarters_row m (by omega)
          have hrl : ((quartersL.drop ((m : Int).toNat * 4)).take 4).length = 4 := by rw [hrow]; rfl
          have hp := part_ok m hr.1
          refine Chk.mk ⟨by omega, by omega⟩ ?_
          refine ⟨fun b6 => ?_⟩
          refine Chk.mk ⟨rfl, (List.length_map ..).trans hrl⟩ ?_
          refine Chk.mk ⟨rfl, hrl⟩ ?_
          refine Chk.mk rfl ?_
          refine Chk.mk hrl ?_
          refine CallG.ren [(0, 8)] [8] (quarter' 46 b5 (Chacha.part m (rounds i x)) _ (hp.2.trans (hr.2.trans hxl)) hp.1 qa qb qc qd ha hb hc' hd hrow) rfl rfl ⟨⟨rfl, HBle.refl _, rfl, rfl⟩, trivial⟩ ?_
          rintro v H' ⟨rfl, rfl⟩
          refine ⟨rfl, rfl, rfl, ?_⟩
          refine Wr.i64 (by omega) ?_
          refine ⟨m + 1, by omega, (by show 8 - (m + 1) < 8 - m; omega), ⟨rfl, rfl, rfl, rfl, rfl, rfl, trivial⟩, ⟨rfl, congrArg (fun l => some (b5, HB.full 46 (.ints .u32 l))) (hstep (rounds i x)).symm, rfl, rfl, trivial⟩⟩
        · have hm : ¬ (m : Int) < 8 := h
          obtain rfl : m = 8 := by omega
          refine Wr.i64 (by omega) ?_
          refine ⟨i + 1, by omega, (by show 10 - (i + 1) < 10 - i; omega), ⟨rfl, rfl, rfl, rfl, trivial⟩, ⟨rfl, rfl, rfl, rfl, trivial⟩⟩
    · have hi : ¬ (i : Int) < 10 := h
      obtain rfl : i = 10 := by omega
      refine ⟨fun b7 => ?_⟩
      refine LoopG.of (fun m : Nat => ([(29, .b (.one (.int .i64 m))), (7, .b (.one (.ptr ⟨7, b4, .lit 0⟩))), (8, .b (.one (.ptr ⟨8, b5, .lit 0⟩))), (6, .b (.one (.ptr ⟨6, b3, .lit 0⟩))), (11, .b (.one (.ptr ⟨11, b7, .lit 0⟩)))], [(7, b4, .full 46 (.ints .u32 x)), (8, b5, .full 46 (.ints .u32 y)), (6, b3, .full 31 (.ints .u8 (List.replicate 64 0))), (11, b7, .full 31 (.ints .u8 (out y x m)))])) (fun m => m ≤ 16) (fun m => 16 - m) 0 ?_ ?_
      · exact ⟨by omega, ⟨rfl, rfl, rfl, rfl, rfl, trivial⟩, ⟨rfl, rfl, rfl, rfl, trivial⟩⟩
      · intro m hm
        have hol := out_length y x m hm
        refine Br.by (fun h => ?_) (fun h => ?_)
        · have hm : (m : Int) < 16 := h
          refine Draw.quiet (by kernel_rfl) (by kernel_rfl) ?_
          refine Chk.mk ⟨by omega, by omega⟩ ?_
          repeat (refine Chk.mk rfl ?_)
          refine Chk.mk (show (m : Int).toNat < y.length by omega) ?_
          refine Chk.mk ⟨by omega, by omega⟩ ?_
          repeat (refine Chk.mk rfl ?_)
          refine Chk.mk (show (m : Int).toNat < x.length by omega) ?_
          refine ⟨?_⟩
          refine Wr.i64 (by omega) ?_
          refine Wr.i64 (by omega) ?_
          refine Wr.i64 (by omega) ?_
          refine Wr.i64 (by omega) ?_
          refine Wr.i64 (by omega) ?_
          refine Wr.i64 (by omega) ?_
          refine Wr.i64 (by omega) ?_
          refine ⟨?_⟩
          repeat (refine Chk.mk rfl ?_)
          refine Chk.mk (by omega) ?_
          refine ⟨?_⟩
          refine Chk.mk (by omega) ?_
          refine ⟨?_⟩
          refine Chk.mk (by omega) ?_
          refine ⟨?_⟩
          refine Chk.mk ⟨by omega, by omega⟩ ?_
          refine Chk.mk ⟨rfl, rfl⟩ ?_
          refine Chk.mk ⟨rfl, show (4 * (m : Int)).toNat < (out y x m).length by omega⟩ ?_
          refine Chk.mk ⟨by omega, by omega⟩ ?_
          refine Chk.mk ⟨rfl, rfl⟩ ?_
          refine Chk.mk ⟨rfl, show (4 * (m : Int) + 1).toNat < (List.set _ _ _).length by rw [List.length_set]; omega⟩ ?_
          refine Chk.mk ⟨by omega, by omega⟩ ?_
          refine Chk.mk ⟨rfl, rfl⟩ ?_
          refine Chk.mk ⟨rfl, show (4 * (m : Int) + 2).toNat < (List.set _ _ _).length by rw [List.length_set, List.length_set]; omega⟩ ?_
          refine Chk.mk ⟨by omega, by omega⟩ ?_
          refine Chk.mk ⟨rfl, rfl⟩ ?_
          refine Chk.mk ⟨rfl, show (4 * (m : Int) + 3).toNat < (List.set _ _ _).length by rw [List.length_set, List.length_set, List.length_set]; omega⟩ ?_
          refine Wr.i64 (by omega) ?_
          have e : ((((out y x m).set (4 * (m : Int)).toNat (IntKind.u8.wrap (IntKind.u32.wrap (y.getD (m : Int).toNat 0 + x.getD (m : Int).toNat 0)))).set (4 * (m : Int) + 1).toNat (IntKind.u8.wrap (ishr .u32 (IntKind.u32.wrap (y.getD (m : Int).toNat 0 + x.getD (m : Int).toNat 0)) 8))).set (4 * (m : Int) + 2).toNat (IntKind.u8.wrap (ishr .u32 (IntKind.u32.wrap (y.getD (m : Int).toNat 0 + x.getD (m : Int).toNat 0)) 16))).set (4 * (m : Int) + 3).toNat (IntKind.u8.wrap (ishr .u32 (IntKind.u32.wrap (y.getD (m : Int).toNat 0 + x.getD (m : Int).toNat 0)) 24)) = out y x (m + 1) := by
            have hv : IntKind.u32.wrap (y.getD (m : Int).toNat 0 + x.getD (m : Int).toNat 0) = add32 (y.getD m 0) (x.getD m 0) := rfl
            rw [hv, ← out_step y x m (by omega) _ rfl]
            have hs : ∀ (v : Int) (n : Nat), n ≤ 24 → ishr .u32 v (n : Int) = v / 2 ^ n := fun v n hn => ishr_lit (k := .u32) (by simp only [IntKind.bits]; omega)
            have h8 := hs (add32 (y.getD m 0) (x.getD m 0)) 8 (by omega)
            have h16 := hs (add32 (y.getD m 0) (x.getD m 0)) 16 (by omega)
            have h24 := hs (add32 (y.getD m 0) (x.getD m 0)) 24 (by omega)
            rw [show (((8 : Nat) : Int)) = 8 from rfl] at h8
            rw [show (((16 : Nat) : Int)) = 16 from rfl] at h16
            rw [show (((24 : Nat) : Int)) = 24 from rfl] at h24
            rw [h8, h16, h24]
            rw [show (4 * (m : Int)).toNat = 4 * m by omega, show (4 * (m : Int) + 1).toNat = 4 * m + 1 by omega, show (4 * (m : Int) + 2).toNat = 4 * m + 2 by omega, show (4 * (m : Int) + 3).toNat = 4 * m + 3 by omega]
            rfl
          exact ⟨m + 1, by omega, (by show 16 - (m + 1) < 16 - m; omega), ⟨rfl, rfl, rfl, rfl, rfl, trivial⟩, ⟨rfl, rfl, rfl, congrArg (fun l => some (b7, HB.full 31 (.ints .u8 l))) e, trivial⟩⟩
        · have hm : ¬ (m : Int) < 16 := h
          obtain rfl : m = 16 := by omega
          have e : out y x 16 = Chacha.block k c n := by
            show serial y x 16 ++ [] = _
            rw [List.append_nil]; rfl
          refine Chk.mk rfl ?_
          refine Chk.mk hol ?_
          refine Chk.mk ⟨rfl, (List.length_map ..).trans hol⟩ ?_
          refine Chk.mk ⟨rfl, hol⟩ ?_
          refine Chk.mk rfl ?_
          refine Chk.mk hol ?_
          exact ⟨[], trivial, congrArg (fun l => TV.b (.seq .u8 l)) e, rfl⟩
end Go.Proofs.YtiijaiiejogbjaaDoor.Str
