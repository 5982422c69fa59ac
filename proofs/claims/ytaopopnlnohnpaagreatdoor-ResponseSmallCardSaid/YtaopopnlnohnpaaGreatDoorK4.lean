/- Texts of this seat, joined: lemmas and walks that its statements' proofs use. -/
import Derived.Test.YtaopopnlnohnpaaGreatDoorK1
import Derived.Test.YtaopopnlnohnpaaGreatDoorK2
import Derived.Test.YtaopopnlnohnpaaGreatDoorK3
import Derived.Lib.SplitLaws
import Derived.Lib.AtoiAllCases
import Derived.Deep.Slices
import Derived.LaidLaws
import Derived.MakeChecks
import Derived.HandedShaped
import Derived.Lib.LaidU8
import Derived.Lib.LaidTab
import Derived.WalkKit
import Derived.ProofKit
import Derived.Test.YtaopopnlnohnpaaGreatDoorRows
/- Px32 -/
namespace Go.Proofs.YtaopopnlnohnpaaGreatDoor.P
open Go.Proofs.YtaopopnlnohnpaaGreatDoor.B
open Go.RowKit Go.Proofs.YtaopopnlnohnpaaGreatDoorW.PrintWords Go.Proofs.YtaopopnlnohnpaaGreatDoorW.PrintLast Go.Proofs.YtaopopnlnohnpaaGreatDoorW.PrintMore
attribute [local go_sem] str_leq str_gtr str_geq max2_int min2_int max_two min_two max_three min_three max_four min_four
set_option linter.unusedVariables false
set_option linter.unusedSimpArgs false
mutual
def broadsheetref21_Parse.j0 : Nat → ByteArray → ByteArray → Bool → Option (Int × (List (S41)) × ByteArray × Int)
  | 0, _, _, _ => none
  | k + 1, x4, x5, x38 => if x38 = true then (some (0, ([] : List (S41)), (⟨#[]⟩ : ByteArray), 200)) else (if 9 ≤ 12 then (if 12 ≤ (x4.size : Int) then ((broadsheetref03_Number.f k (x4.extract 9 12)).bind fun t263 => ((broadsheetref21_Reason.f t263).bind fun t264 => (if t264.toList = ([] : List UInt8) then (broadsheetref21_Parse.j1 k x5 t263 true) else (if 13 ≤ (x4.size : Int) then ((broadsheetref21_Reason.f t263).bind fun t265 => (broadsheetref21_Parse.j1 k x5 t263 ((x4.extract 13 x4.size).toList != t265.toList))) else (none))))) else (none)) else (none))
def broadsheetref21_Parse.j1 : Nat → ByteArray → Int → Bool → Option (Int × (List (S41)) × ByteArray × Int)
  | 0, _, _, _ => none
  | k + 1, x5, x7, x52 => if x52 = true then (some (0, ([] : List (S41)), (⟨#[]⟩ : ByteArray), 200)) else ((broadsheetref18_Parse.f k x5).bind fun bt266 => (if bt266.2.2 = 0 then ((broadsheetref21_bare.f x7).bind fun t272 => (if t272 = true then ((broadsheetref18_Get.f k bt266.1 (⟨#[99, 111, 110, 116, 101, 110, 116, 45, 108, 101, 110, 103, 116, 104]⟩ : ByteArray)).bind fun bt273 => (if bt273.2 > 0 then (some (0, ([] : List (S41)), (⟨#[]⟩ : ByteArray), 190)) else (if bt266.2.1.toList = ([] : List UInt8) then (some (x7, bt266.1, bt266.2.1, 0)) else (some (0, ([] : List (S41)), (⟨#[]⟩ : ByteArray), 190))))) else (if (wrap64 ((bt266.1.length : Int) - 1)) < 0 then (broadsheetref21_Parse.j2 k bt266.2.1 bt266.1 (wrap64 ((bt266.1.length : Int) - 1)) true x7 bt266.1 bt266.2.1) else (if 0 ≤ (wrap64 ((bt266.1.length : Int) - 1)) then (if (wrap64 ((bt266.1.length : Int) - 1)) < (bt266.1.length : Int) then (if ((rd_T41 bt266.1 (wrap64 ((bt266.1.length : Int) - 1))).f0).toList = ([99, 111, 110, 116, 101, 110, 116, 45, 108, 101, 110, 103, 116, 104] : List UInt8) then ((broadsheetref03_Digits.f k (bt266.2.1.size : Int)).bind fun t277 => (broadsheetref21_Parse.j2 k bt266.2.1 bt266.1 (wrap64 ((bt266.1.length : Int) - 1)) (((rd_T41 bt266.1 (wrap64 ((bt266.1.length : Int) - 1))).f1).toList != t277.toList) x7 bt266.1 bt266.2.1)) else (broadsheetref21_Parse.j2 k bt266.2.1 bt266.1 (wrap64 ((bt266.1.length : Int) - 1)) true x7 bt266.1 bt266.2.1)) else (none)) else (none))))) else (some (0, ([] : List (S41)), (⟨#[]⟩ : ByteArray), bt266.2.2))))
def broadsheetref21_Parse.j2 : Nat → ByteArray → List (S41) → Int → Bool → Int → List (S41) → ByteArray → Option (Int × (List (S41)) × ByteArray × Int)
  | 0, _, _, _, _, _, _, _ => none
  | k + 1, x5, x8, x13, x106, x272000, x272001, x272002 => if x106 = true then (some (0, ([] : List (S41)), (⟨#[]⟩ : ByteArray), 190)) else (if 0 ≤ x13 then (if x13 ≤ (x8.length : Int) then ((some (x8.take (x13 : Int).toNat : List (S41))).bind fun y278 => ((broadsheetref18_Get.f k y278 (⟨#[99, 111, 110, 116, 101, 110, 116, 45, 108, 101, 110, 103, 116, 104]⟩ : ByteArray)).bind fun bt281 => (if bt281.2 > 0 then (some (0, ([] : List (S41)), (⟨#[]⟩ : ByteArray), 190)) else (if (x5.size : Int) > 100000 then (some (0, ([] : List (S41)), (⟨#[]⟩ : ByteArray), 190)) else (some (x272000, y278, x272002, 0)))))) else (none)) else (none))
end
def broadsheetref21_Parse.f (k : Nat) (a0 : ByteArray) : Option (Int × (List (S41)) × ByteArray × Int) := (broadsheetref18_Line.f k a0).bind fun bt260 => (if bt260.2.2 = true then (if (bt260.1.size : Int) < 13 then (broadsheetref21_Parse.j0 k bt260.1 bt260.2.1 true) else (if 0 ≤ 9 then (if 9 ≤ (bt260.1.size : Int) then (if (bt260.1.extract 0 9).toList = ([72, 84, 84, 80, 47, 49, 46, 49, 32] : List UInt8) then (if 12 < (bt260.1.size : Int) then (broadsheetref21_Parse.j0 k bt260.1 bt260.2.1 ((bt bt260.1 12) != 32)) else (none)) else (broadsheetref21_Parse.j0 k bt260.1 bt260.2.1 true)) else (none)) else (none))) else (broadsheetref21_Parse.j0 k bt260.1 bt260.2.1 true))
def broadsheetref21_Parse.T5 : Bool × List (List Nat × List Nat) := (true, [([], []), ([0], [0]), ([1], [1]), ([2, 1], [2]), ([3], [3]), ([4, 3], [3, 4]), ([3], [3]), ([6, 3, 3], [3, 6]), ([5, 7, 3], [3, 5, 7]), ([3, 8], [3, 8])])
def broadsheetref21_Parse.B5 : List Nat := [0, 1, 3, 7, 15, 31, 15, 79, 255, 511]
theorem broadsheetref21_Parse.tab5 : rtab .any (opsOf Tryz.f14 5) = broadsheetref21_Parse.T5 := by kernel_rfl
theorem broadsheetref21_Parse.bits5 : waitsOk broadsheetref21_Parse.T5.2 broadsheetref21_Parse.B5 = true := by kernel_rfl
def broadsheetref21_Parse.T17 : Bool × List (List Nat × List Nat) := (true, [([], []), ([0], [0]), ([1], [1]), ([2], [2]), ([2], [2]), ([3, 4, 2], [2, 3, 4]), ([5, 2], [2, 5]), ([6, 2], [2, 6]), ([7, 2], [2, 7]), ([2, 8], [2, 8]), ([9, 2], [9]), ([10], [10]), ([10], [10]), ([11, 12, 10], [10, 11, 12]), ([13, 10], [10, 13]), ([14, 10], [10, 14]), ([10], [10]), ([16, 10], [10, 16]), ([17, 10, 10], [10, 17]), ([15, 18, 10], [10, 15, 18]), ([10, 19], [10, 19])])
def broadsheetref21_Parse.B17 : List Nat := [0, 1, 3, 7, 7, 31, 63, 127, 255, 511, 1023, 2047, 2047, 8191, 16383, 32767, 2047, 67583, 198655, 524287, 1048575]
theorem broadsheetref21_Parse.tab17 : rtab .any (opsOf Tryz.f14 17) = broadsheetref21_Parse.T17 := by kernel_rfl
theorem broadsheetref21_Parse.bits17 : waitsOk broadsheetref21_Parse.T17.2 broadsheetref21_Parse.B17 = true := by kernel_rfl
set_option maxHeartbeats 8000000 in
set_option maxRecDepth 100000 in
theorem broadsheetref21_Parse.calls (k : Nat) (a0 : ByteArray) (r1 : Int) (r2 : List (S41)) (r3 : ByteArray) (r4 : Int) (w : World) (h : broadsheetref21_Parse.f k a0 = some (r1, r2, r3, r4)) :
  Calls Tryz.prog 14 #[.string a0] w fun e w' => ∃ v1_ : Value, e = .returned (.tuple #[.agg #[.int .i64 r1, v1_, .string r3], .int .i64 r4]) ∧ Kd.R k41 41 w' w.heap.size (fun _ => True) v1_ r2 ∧ Below w.heap.size w w' := by
 have hu24 := Tryz.underlying24
 have HB := Aside0.mk (Below.refl w.heap.size w)
 have H : ((broadsheetref18_Line.f k a0).bind fun bt260 => (if bt260.2.2 = true then (if (bt260.1.size : Int) < 13 then (broadsheetref21_Parse.j0 k bt260.1 bt260.2.1 true) else (if 0 ≤ 9 then (if 9 ≤ (bt260.1.size : Int) then (if (bt260.1.extract 0 9).toList = ([72, 84, 84, 80, 47, 49, 46, 49, 32] : List UInt8) then (if 12 < (bt260.1.size : Int) then (broadsheetref21_Parse.j0 k bt260.1 bt260.2.1 ((bt bt260.1 12) != 32)) else (none)) else (broadsheetref21_Parse.j0 k bt260.1 bt260.2.1 true)) else (none)) else (none))) else (broadsheetref21_Parse.j0 k bt260.1 bt260.2.1 true))) = some (r1, r2, r3, r4) := h
 clear h
 replace H := Option.bind_eq_some_iff.mp H
 obtain ⟨⟨t260, t261, t262⟩, A20, H⟩ := H
 replace H : (if t262 = true then (if (t260.size : Int) < 13 then (broadsheetref21_Parse.j0 k t260 t261 true) else (if 0 ≤ 9 then (if 9 ≤ (t260.size : Int) then (if (t260.extract 0 9).toList = ([72, 84, 84, 80, 47, 49, 46, 49, 32] : List UInt8) then (if 12 < (t260.size : Int) then (broadsheetref21_Parse.j0 k t260 t261 ((bt t260 12) != 32)) else (none)) else (broadsheetref21_Parse.j0 k t260 t261 true)) else (none)) else (none))) else (broadsheetref21_Parse.j0 k t260 t261 true)) = some (r1, r2, r3, r4) := H
 have A2 := Aside0.mk A20
 clear A20
 have HC3 := Aside0.mk H
 clear H
 go_enter Tryz.func14, Tryz.ntmps14
 go_upto_region 2 with (first | ((with_reducible refine gate_dst (N := 2) rfl ?_); (try (refine gate_guard (by rfl) ?_; dsimp only)); refine box_event ?hg (N := 2) ?hd (cs := #[.int .i64 0, .slice none 0 0, .string (⟨#[]⟩ : ByteArray)]) (t := 24) ?hr ?_; (case hd => rfl); (case hg => rfl); (case hr => first | (go_simp; done) | (go_simp; rfl)); intro gb259 hg w4 hbox hb; have n0_ := Aside0.mk (below_step zb44 hb); have n1_ := Aside0.mk (hbox); have n2_ := Aside0.mk ((by rw [hg]; exact (below_size zb44) : w.heap.size ≤ gb259)); have n3_ := Aside0.mk ((by rw [hg]; exact (below_size zb44) : w.heap.size ≤ gb259)); clear HB; have HB := n0_; have BK259 := n1_; have GW259 := n2_; have GE259 := n3_; clear n0_ n1_ n2_ n3_; clear hb hbox hg) | ((with_reducible refine gate_callee (f := 30) rfl ?_); refine goesL_ (some 18) rfl rfl Tryz.func30 zb10 rfl #[.string a0] rfl zb1 ?_; (with_reducible refine (broadsheetref18_Line.calls k a0 t260 t261 t262 _ A2.out).mono ?_); rintro e w' ⟨rfl, ⟨nd, rfl⟩⟩; refine ⟨_, rfl, ?_⟩))
 (try simp only [Act.put, List.setIfInBounds_toArray, List.set_cons_zero, List.set_cons_succ])
 go_cut [38] (fun v38 wc => ∃ (kq : Nat) (x38_2 : Bool), v38 = .bool x38_2 ∧ Aside0 (broadsheetref21_Parse.j0 kq t260 t261 x38_2 = some (r1, r2, r3, r4)) ∧ Aside0 (kq ≤ k) ∧ Aside0 (wc.heap[gb259]? = some (.cells #[.int .i64 0, (.slice none 0 0), .string (⟨#[]⟩ : ByteArray)] 24 (0, 0))) ∧ Aside0 (Below w.heap.size w wc))
 case first =>
  have H := HC3.out
  clear HC3
  by_cases c5 : t262 = true
  ·subst c5
   replace H : (if (t260.size : Int) < 13 then (broadsheetref21_Parse.j0 k t260 t261 true) else (if 0 ≤ 9 then (if 9 ≤ (t260.size : Int) then (if (t260.extract 0 9).toList = ([72, 84, 84, 80, 47, 49, 46, 49, 32] : List UInt8) then (if 12 < (t260.size : Int) then (broadsheetref21_Parse.j0 k t260 t261 ((bt t260 12) != 32)) else (none)) else (broadsheetref21_Parse.j0 k t260 t261 true)) else (none)) else (none))) = some (r1, r2, r3, r4) := by rw [if_pos rfl] at H; exact H
   by_cases c6 : (t260.size : Int) < 13
   ·rw [if_pos c6] at H
    have c6b0 : decide ((t260.size : Int) < 13) = true := decide_eq_true c6
    have c6b1 : decide (t260.size < 13) = true := decide_eq_true zb30
    clear c6
    (first | rw [c6b0] | (simp only [i64_w, i32_w]; rw [c6b0]) | skip)
    have H' := Aside0.mk H
    clear H
    go_wp2
    go_meet
    case rel => exact ⟨_, (true), zb11, H', ⟨by first | omega | exact Nat.le_refl _⟩, ⟨by (with_reducible repeat (first | refine blk_drewN ?_ _ | refine blk_drew ?_ | refine blk_alloc ?_ _)); exact BK259.out⟩, ⟨by repeat (first | (with_reducible first | exact HB.out | apply below_alloc | apply pw_below_drewN | apply below_drew1 | refine below_set ?_ GE259.out) | exact HB.out | exact ⟨HB.out.os, HB.out.tape, HB.out.output, HB.out.size, HB.out.block⟩)⟩⟩
   ·rw [if_neg c6] at H
    have c6b0 : decide ((t260.size : Int) < 13) = false := decide_eq_false c6
    have c6b1 : decide (t260.size < 13) = false := decide_eq_false zb30
    clear c6
    (first | rw [c6b0] | (simp only [i64_w, i32_w]; rw [c6b0]) | skip)
    by_cases c7 : 0 ≤ 9
    ·rw [if_pos c7] at H
     have c7b0 := eq_true c7
     have c7b1 : decide (0 ≤ 9) = true := decide_eq_true c7
     clear c7
     by_cases c8 : 9 ≤ (t260.size : Int)
     ·rw [if_pos c8] at H
      have c8b0 := eq_true c8
      have c8b1 : decide (9 ≤ (t260.size : Int)) = true := decide_eq_true c8
      clear c8
      by_cases c9 : (t260.extract 0 9).toList = ([72, 84, 84, 80, 47, 49, 46, 49, 32] : List UInt8)
      ·rw [if_pos c9] at H
       have c9b0 : ((t260.extract 0 9).toList == ([72, 84, 84, 80, 47, 49, 46, 49, 32] : List UInt8)) = true := beq_iff_eq.mpr c9
       have c9b1 : ((t260.extract 0 9).toList != ([72, 84, 84, 80, 47, 49, 46, 49, 32] : List UInt8)) = false := bne_eq_false_iff_eq.mpr c9
       clear c9
       by_cases c10 : 12 < (t260.size : Int)
       ·rw [if_pos c10] at H
        have c10b0 : decide (12 < (t260.size : Int)) = true := decide_eq_true c10
        have c10b1 : decide (12 < t260.size) = true := decide_eq_true zb30
        clear c10
        have H' := Aside0.mk H
        clear H
        have p11 : 0 ≤ (12 : Int) := zb30
        have q11 : 12 < t260.size := (by have : (12 : Int) < (t260.size : Int) := of_decide_eq_true zb4; omega)
        have hx11 : ∀ h : 12 < t260.size, ((t260[12]'h).toNat : Int) = bt t260 12 := bt_at t260 12
        clear p11
        have qi11 : (12 < (t260.size : Int)) = True := eq_true (of_decide_eq_true zb4)
        replace q11 := eq_true q11
        go_wp2
        go_meet
        case rel => exact ⟨_, (((bt t260 12) != 32)), zb11, H', ⟨by first | omega | exact Nat.le_refl _⟩, ⟨by (with_reducible repeat (first | refine blk_drewN ?_ _ | refine blk_drew ?_ | refine blk_alloc ?_ _)); exact BK259.out⟩, ⟨by repeat (first | (with_reducible first | exact HB.out | apply below_alloc | apply pw_below_drewN | apply below_drew1 | refine below_set ?_ GE259.out) | exact HB.out | exact ⟨HB.out.os, HB.out.tape, HB.out.output, HB.out.size, HB.out.block⟩)⟩⟩
       ·rw [if_neg c10] at H
        exact absurd H zb46
      ·rw [if_neg c9] at H
       have c9b0 : ((t260.extract 0 9).toList == ([72, 84, 84, 80, 47, 49, 46, 49, 32] : List UInt8)) = false := beq_eq_false_iff_ne.mpr c9
       have c9b1 : ((t260.extract 0 9).toList != ([72, 84, 84, 80, 47, 49, 46, 49, 32] : List UInt8)) = true := bne_iff_ne.mpr c9
       have H' := Aside0.mk H
       clear H
       go_wp2
       go_meet
       case rel => exact ⟨_, (true), zb11, H', ⟨by first | omega | exact Nat.le_refl _⟩, ⟨by (with_reducible repeat (first | refine blk_drewN ?_ _ | refine blk_drew ?_ | refine blk_alloc ?_ _)); exact BK259.out⟩, ⟨by repeat (first | (with_reducible first | exact HB.out | apply below_alloc | apply pw_below_drewN | apply below_drew1 | refine below_set ?_ GE259.out) | exact HB.out | exact ⟨HB.out.os, HB.out.tape, HB.out.output, HB.out.size, HB.out.block⟩)⟩⟩
     ·rw [if_neg c8] at H
      exact absurd H zb46
    ·rw [if_neg c7] at H
     exact absurd H zb46
  ·replace c5 := Bool.eq_false_iff.mpr c5
   subst c5
   replace H : (broadsheetref21_Parse.j0 k t260 t261 true) = some (r1, r2, r3, r4) := by rw [if_neg (show ¬ (false = true) by decide)] at H; exact H
   have H' := Aside0.mk H
   clear H
   go_wp2
   go_meet
   case rel => exact ⟨_, (true), zb11, H', ⟨by first | omega | exact Nat.le_refl _⟩, ⟨by (with_reducible repeat (first | refine blk_drewN ?_ _ | refine blk_drew ?_ | refine blk_alloc ?_ _)); exact BK259.out⟩, ⟨by repeat (first | (with_reducible first | exact HB.out | apply below_alloc | apply pw_below_drewN | apply below_drew1 | refine below_set ?_ GE259.out) | exact HB.out | exact ⟨HB.out.os, HB.out.tape, HB.out.output, HB.out.size, HB.out.block⟩)⟩⟩
 case rest =>
  clear HC3
  try clear c1
  try clear p1
  try clear q1
  try clear hx1
  try clear qi1
  try clear p2
  try clear c3
  try clear c5
  try clear c6
  try clear c6b0
  try clear c6b1
  try clear c7
  try clear c7b0
  try clear c7b1
  try clear c8
  try clear c8b0
  try clear c8b1
  try clear c9
  try clear c9b0
  try clear c9b1
  try clear c10
  try clear c10b0
  try clear c10b1
  try clear p11
  try clear q11
  try clear hx11
  try clear qi11
  try clear p11
  try clear q11
  obtain ⟨kq, x38_2, rfl, HA, HJ2, BK259, HB⟩ := hcut
  cases kq with
  | zero => exact absurd HA.out (by simp [broadsheetref21_Parse.j0])
  | succ kj2 =>
   have H := HA.out
   clear HA
   simp only [broadsheetref21_Parse.j0] at H
   by_cases c12 : x38_2 = true
   ·subst c12
    replace H : (some (0, ([] : List (S41)), (⟨#[]⟩ : ByteArray), 200)) = some (r1, r2, r3, r4) := by rw [if_pos rfl] at H; exact H
    simp only [Option.some.injEq, Prod.mk.injEq] at H
    obtain ⟨rfl, rfl, rfl, rfl⟩ := H
    have hcz13_0 : wc.cell? ⟨gb259, 0, none⟩ = some (.int .i64 0) := (blk_cell BK259.out 0).trans rfl
    have hcz13_1 : wc.cell? ⟨gb259, 1, none⟩ = some (.slice none 0 0) := (blk_cell BK259.out 1).trans rfl
    have hcz13_2 : wc.cell? ⟨gb259, 2, none⟩ = some (.string (⟨#[]⟩ : ByteArray)) := (blk_cell BK259.out 2).trans rfl
    have hfz13_0 := blk_frozen BK259.out 0
    have hfz13_1 := blk_frozen BK259.out 1
    have hfz13_2 := blk_frozen BK259.out 2
    go_wp2
    refine bodyPost_ret (results_ct rfl _ _ gb259 24 #[.int .i64 0, .slice none 0 0, .string (⟨#[]⟩ : ByteArray)] (0, 0) _ rfl zb6 Tryz.underlying24 rfl zb10) rfl ?_
    exact ⟨_, by first | rfl | (simp [errW_none, errW_some, bne_nil_] <;> rfl) | (simp [*, errW_none, errW_some] <;> rfl), by first | exact Kd.R_nil _ _ _ _ _ | exact Kd.N_nil _ _ _ _ _ | exact Kd.V_nil _ _ _ _ _ | exact Kd.Q_nil _ _ _ _ _ | exact Kd.S_nil _ _ _ _ _, by repeat (first | (with_reducible first | exact HB.out | apply below_alloc | apply pw_below_drewN | apply below_drew1 | refine below_set ?_ GE259.out) | exact HB.out | exact ⟨HB.out.os, HB.out.tape, HB.out.output, HB.out.size, HB.out.block⟩)⟩
   ·replace c12 := Bool.eq_false_iff.mpr c12
    subst c12
    replace H : (if 9 ≤ 12 then (if 12 ≤ (t260.size : Int) then ((broadsheetref03_Number.f kj2 (t260.extract 9 12)).bind fun t263 => ((broadsheetref21_Reason.f t263).bind fun t264 => (if t264.toList = ([] : List UInt8) then (broadsheetref21_Parse.j1 kj2 t261 t263 true) else (if 13 ≤ (t260.size : Int) then ((broadsheetref21_Reason.f t263).bind fun t265 => (broadsheetref21_Parse.j1 kj2 t261 t263 ((t260.extract 13 t260.size).toList != t265.toList))) else (none))))) else (none)) else (none)) = some (r1, r2, r3, r4) := by rw [if_neg (show ¬ (false = true) by decide)] at H; exact H
    by_cases c14 : 9 ≤ 12
    ·rw [if_pos c14] at H
     have c14b0 := eq_true c14
     have c14b1 : decide (9 ≤ 12) = true := decide_eq_true c14
     clear c14
     by_cases c15 : 12 ≤ (t260.size : Int)
     ·rw [if_pos c15] at H
      have c15b0 := eq_true c15
      have c15b1 : decide (12 ≤ (t260.size : Int)) = true := decide_eq_true c15
      clear c15
      replace H := Option.bind_eq_some_iff.mp H
      obtain ⟨t263, A160, H⟩ := H
      replace H : ((broadsheetref21_Reason.f t263).bind fun t264 => (if t264.toList = ([] : List UInt8) then (broadsheetref21_Parse.j1 kj2 t261 t263 true) else (if 13 ≤ (t260.size : Int) then ((broadsheetref21_Reason.f t263).bind fun t265 => (broadsheetref21_Parse.j1 kj2 t261 t263 ((t260.extract 13 t260.size).toList != t265.toList))) else (none)))) = some (r1, r2, r3, r4) := H
      have A16 := Aside0.mk A160
      clear A160
      have HC17 := Aside0.mk H
      clear H
      go_upto_region 5 with (first | ((with_reducible refine gate_callee (f := 31) rfl ?_); refine goesL_ (some 42) rfl rfl Tryz.func31 zb10 rfl #[.string (t260.extract 9 12)] rfl zb1 ?_; (with_reducible refine (broadsheetref03_Number.calls kj2 (t260.extract 9 12) t263 _ A16.out).mono ?_); rintro e w' ⟨rfl, ⟨nd, rfl⟩⟩; refine ⟨_, rfl, ?_⟩))
      (try simp only [Act.put, List.setIfInBounds_toArray, List.set_cons_zero, List.set_cons_succ])
      go_cut [52] (fun v52 wc => ∃ (kq : Nat) (x52_16 : Bool), v52 = .bool x52_16 ∧ Aside0 (broadsheetref21_Parse.j1 kq t261 t263 x52_16 = some (r1, r2, r3, r4)) ∧ Aside0 (kq ≤ kj2) ∧ Aside0 (wc.heap[gb259]? = some (.cells #[.int .i64 0, (.slice none 0 0), .string (⟨#[]⟩ : ByteArray)] 24 (0, 0))) ∧ Aside0 (Below w.heap.size w wc))
      case first =>
       have H := HC17.out
       clear HC17
       replace H := Option.bind_eq_some_iff.mp H
       obtain ⟨t264, A180, H⟩ := H
       replace H : (if t264.toList = ([] : List UInt8) then (broadsheetref21_Parse.j1 kj2 t261 t263 true) else (if 13 ≤ (t260.size : Int) then ((broadsheetref21_Reason.f t263).bind fun t265 => (broadsheetref21_Parse.j1 kj2 t261 t263 ((t260.extract 13 t260.size).toList != t265.toList))) else (none))) = some (r1, r2, r3, r4) := H
       have A18 := Aside0.mk A180
       clear A180
       by_cases c19 : t264.toList = ([] : List UInt8)
       ·rw [if_pos c19] at H
        have c19b0 : (t264.toList == ([] : List UInt8)) = true := beq_iff_eq.mpr c19
        have c19b1 : (t264.toList != ([] : List UInt8)) = false := bne_eq_false_iff_eq.mpr c19
        clear c19
        (first | rw [c19b0] | (simp only [i64_w, i32_w]; rw [c19b0]) | skip)
        have H' := Aside0.mk H
        clear H
        try go_wp2
        have n0_ := Aside0.mk (blk_drew BK259.out)
        have n1_ := Aside0.mk (below_drew1 HB.out)
        clear BK259
        clear HB
        have BK259 := n0_
        have HB := n1_
        clear n0_ n1_
        refine start_ (n := 10) (S := fun w' => True) (ds := []) #[false, false, false, false, false, false, false, false, false, false] zb10 rfl rfl trivial (fun hHeld => ?_); refine with_tabW broadsheetref21_Parse.tab5 broadsheetref21_Parse.bits5 (fun HT_ HW_ => ?_)
        skip
        refine pure_ (i := 0) (N := some 43) (v := ?_) (a' := ?_) #[true, false, false, false, false, false, false, false, false, false] rfl rfl (any_of HT_.out zb10) (fun _ _ _ h => h) (Or.inl ⟨by rfl, ?_⟩) ?_ ?_
        rotate_left
        ·intro w'
         go_simp
         first | with_reducible rfl | (rw [if_neg zb2])
        rotate_left
        ·simp only [Act.put, List.setIfInBounds_toArray, List.set_cons_zero, List.set_cons_succ, i64_w, i32_w]
         rfl
        refine one_ (i := 1) (N := some 44) #[true, true, false, false, false, false, false, false, false, false] rfl rfl (one_of HT_.out zb10) zb33 (fun K hK => ?_)
        refine goes_ Tryz.func12 zb10 rfl #[.int .i64 t263] (by rfl) rfl rfl zb1 ?_
        with_reducible refine (broadsheetref21_Reason.calls t263 t264 _ A18.out).mono ?_
        rintro e w' ⟨rfl, ⟨nd, rfl⟩⟩
        refine ⟨_, rfl, ?_⟩
        refine hK.out _ _ trivial (fun hHeld => ?_)
        clear hK K
        refine norm_ (a' := ?_) ?_ ?_
        rotate_left
        ·show Act.put _ (some 44) _ = _
         simp only [Act.put, List.setIfInBounds_toArray, List.set_cons_zero, List.set_cons_succ, i64_w, i32_w]
         rfl
        refine pure_ (i := 2) (N := some 45) (v := ?_) (a' := ?_) #[true, true, true, false, false, false, false, false, false, false] rfl rfl (any_of HT_.out zb10) (fun _ _ _ h => h) (Or.inl ⟨by rfl, ?_⟩) ?_ ?_
        rotate_left
        ·intro w'
         go_simp
         first | with_reducible rfl | (rw [if_neg zb2])
        rotate_left
        ·simp only [Act.put, List.setIfInBounds_toArray, List.set_cons_zero, List.set_cons_succ, i64_w, i32_w]
         rfl
        refine pure_ (i := 3) (N := some 46) (v := ?_) (a' := ?_) #[true, true, true, true, false, false, false, false, false, false] rfl rfl (any_of HT_.out zb10) (fun _ _ _ h => h) (Or.inl ⟨by rfl, ?_⟩) ?_ ?_
        rotate_left
        ·intro w'
         go_simp
         first | with_reducible rfl | (rw [if_neg zb2])
        rotate_left
        ·simp only [Act.put, List.setIfInBounds_toArray, List.set_cons_zero, List.set_cons_succ, i64_w, i32_w]
         rfl
        refine pure_ (i := 4) (N := some 47) (v := undef) (a' := ?_) #[true, true, true, true, true, false, false, false, false, false] rfl rfl (any_of HT_.out zb10) (fun _ _ _ h => h) (Or.inr ⟨by rfl, rfl⟩) ?_ ?_
        rotate_left
        ·simp only [Act.put, List.setIfInBounds_toArray, List.set_cons_zero, List.set_cons_succ, i64_w, i32_w]
         rfl
        refine pure_ (i := 5) (N := some 48) (v := undef) (a' := ?_) #[true, true, true, true, true, true, false, false, false, false] rfl rfl (any_of HT_.out zb10) (fun _ _ _ h => h) (Or.inr ⟨by rfl, rfl⟩) ?_ ?_
        rotate_left
        ·simp only [Act.put, List.setIfInBounds_toArray, List.set_cons_zero, List.set_cons_succ, i64_w, i32_w]
         rfl
        refine pure_ (i := 6) (N := some 49) (v := undef) (a' := ?_) #[true, true, true, true, true, true, true, false, false, false] rfl rfl (any_of HT_.out zb10) (fun _ _ _ h => h) (Or.inr ⟨by rfl, rfl⟩) ?_ ?_
        rotate_left
        ·simp only [Act.put, List.setIfInBounds_toArray, List.set_cons_zero, List.set_cons_succ, i64_w, i32_w]
         rfl
        refine pure_ (i := 7) (N := some 50) (v := undef) (a' := ?_) #[true, true, true, true, true, true, true, true, false, false] rfl rfl (any_of HT_.out zb10) (fun _ _ _ h => h) (Or.inr ⟨by rfl, rfl⟩) ?_ ?_
        rotate_left
        ·simp only [Act.put, List.setIfInBounds_toArray, List.set_cons_zero, List.set_cons_succ, i64_w, i32_w]
         rfl
        refine pure_ (i := 8) (N := some 51) (v := undef) (a' := ?_) #[true, true, true, true, true, true, true, true, true, false] rfl rfl (any_of HT_.out zb10) (fun _ _ _ h => h) (Or.inr ⟨by rfl, rfl⟩) ?_ ?_
        rotate_left
        ·simp only [Act.put, List.setIfInBounds_toArray, List.set_cons_zero, List.set_cons_succ, i64_w, i32_w]
         rfl
        refine pure_ (i := 9) (N := some 52) (v := ?_) (a' := ?_) #[true, true, true, true, true, true, true, true, true, true] rfl rfl (any_of HT_.out zb10) (fun _ _ _ h => h) (Or.inl ⟨by rfl, ?_⟩) ?_ ?_
        rotate_left
        ·intro w'
         go_simp
         first | with_reducible rfl | (rw [if_neg zb2])
        rotate_left
        ·simp only [Act.put, List.setIfInBounds_toArray, List.set_cons_zero, List.set_cons_succ, i64_w, i32_w]
         rfl
        refine done_ (done_of HT_.out zb10) ?_
        try go_wp2
        go_meet
        case rel => exact ⟨_, (true), zb11, H', ⟨by have := HJ2.out; first | omega | exact Nat.le_refl _⟩, ⟨by (with_reducible repeat (first | refine blk_drewN ?_ _ | refine blk_drew ?_ | refine blk_alloc ?_ _)); exact BK259.out⟩, ⟨by repeat (first | (with_reducible first | exact HB.out | apply below_alloc | apply pw_below_drewN | apply below_drew1 | refine below_set ?_ GE259.out) | exact HB.out | exact ⟨HB.out.os, HB.out.tape, HB.out.output, HB.out.size, HB.out.block⟩)⟩⟩
       ·rw [if_neg c19] at H
        have c19b0 : (t264.toList == ([] : List UInt8)) = false := beq_eq_false_iff_ne.mpr c19
        have c19b1 : (t264.toList != ([] : List UInt8)) = true := bne_iff_ne.mpr c19
        (first | rw [c19b0] | (simp only [i64_w, i32_w]; rw [c19b0]) | skip)
        by_cases c21 : 13 ≤ (t260.size : Int)
        ·rw [if_pos c21] at H
         have c21b0 := eq_true c21
         have c21b1 : decide (13 ≤ (t260.size : Int)) = true := decide_eq_true c21
         clear c21
         replace H := Option.bind_eq_some_iff.mp H
         obtain ⟨t265, A220, H⟩ := H
         replace H : (broadsheetref21_Parse.j1 kj2 t261 t263 ((t260.extract 13 t260.size).toList != t265.toList)) = some (r1, r2, r3, r4) := H
         have A22 := Aside0.mk A220
         clear A220
         have H' := Aside0.mk H
         clear H
         try go_wp2
         have n0_ := Aside0.mk (blk_drew BK259.out)
         have n1_ := Aside0.mk (below_drew1 HB.out)
         clear BK259
         clear HB
         have BK259 := n0_
         have HB := n1_
         clear n0_ n1_
         refine start_ (n := 10) (S := fun w' => True) (ds := []) #[false, false, false, false, false, false, false, false, false, false] zb10 rfl rfl trivial (fun hHeld => ?_); refine with_tabW broadsheetref21_Parse.tab5 broadsheetref21_Parse.bits5 (fun HT_ HW_ => ?_)
         skip
         refine pure_ (i := 0) (N := some 43) (v := ?_) (a' := ?_) #[true, false, false, false, false, false, false, false, false, false] rfl rfl (any_of HT_.out zb10) (fun _ _ _ h => h) (Or.inl ⟨by rfl, ?_⟩) ?_ ?_
         rotate_left
         ·intro w'
          go_simp
          first | with_reducible rfl | (rw [if_neg zb2])
         rotate_left
         ·simp only [Act.put, List.setIfInBounds_toArray, List.set_cons_zero, List.set_cons_succ, i64_w, i32_w]
          rfl
         refine one_ (i := 1) (N := some 44) #[true, true, false, false, false, false, false, false, false, false] rfl rfl (one_of HT_.out zb10) zb33 (fun K hK => ?_)
         refine goes_ Tryz.func12 zb10 rfl #[.int .i64 t263] (by rfl) rfl rfl zb1 ?_
         with_reducible refine (broadsheetref21_Reason.calls t263 t264 _ A18.out).mono ?_
         rintro e w' ⟨rfl, ⟨nd, rfl⟩⟩
         refine ⟨_, rfl, ?_⟩
         refine hK.out _ _ trivial (fun hHeld => ?_)
         clear hK K
         refine norm_ (a' := ?_) ?_ ?_
         rotate_left
         ·show Act.put _ (some 44) _ = _
          simp only [Act.put, List.setIfInBounds_toArray, List.set_cons_zero, List.set_cons_succ, i64_w, i32_w]
          rfl
         refine pure_ (i := 2) (N := some 45) (v := ?_) (a' := ?_) #[true, true, true, false, false, false, false, false, false, false] rfl rfl (any_of HT_.out zb10) (fun _ _ _ h => h) (Or.inl ⟨by rfl, ?_⟩) ?_ ?_
         rotate_left
         ·intro w'
          go_simp
          first | with_reducible rfl | (rw [if_neg zb2])
         rotate_left
         ·simp only [Act.put, List.setIfInBounds_toArray, List.set_cons_zero, List.set_cons_succ, i64_w, i32_w]
          rfl
         refine pure_ (i := 3) (N := some 46) (v := ?_) (a' := ?_) #[true, true, true, true, false, false, false, false, false, false] rfl rfl (any_of HT_.out zb10) (fun _ _ _ h => h) (Or.inl ⟨by rfl, ?_⟩) ?_ ?_
         rotate_left
         ·intro w'
          go_simp
          first | with_reducible rfl | (rw [if_neg zb2])
         rotate_left
         ·simp only [Act.put, List.setIfInBounds_toArray, List.set_cons_zero, List.set_cons_succ, i64_w, i32_w]
          rfl
         refine pure_ (i := 4) (N := some 47) (v := ?_) (a' := ?_) #[true, true, true, true, true, false, false, false, false, false] rfl rfl (any_of HT_.out zb10) (fun _ _ _ h => h) (Or.inl ⟨by rfl, ?_⟩) ?_ ?_
         rotate_left
         ·intro w'
          go_simp
          first | with_reducible rfl | (rw [if_neg zb2])
         rotate_left
         ·simp only [Act.put, List.setIfInBounds_toArray, List.set_cons_zero, List.set_cons_succ, i64_w, i32_w]
          rfl
         refine pure_ (i := 5) (N := some 48) (v := ?_) (a' := ?_) #[true, true, true, true, true, true, false, false, false, false] rfl rfl (any_of HT_.out zb10) (fun _ _ _ h => h) (Or.inl ⟨by rfl, ?_⟩) ?_ ?_
         rotate_left
         ·intro w'
          go_simp
          first | with_reducible rfl | (rw [if_neg zb2])
         rotate_left
         ·simp only [Act.put, List.setIfInBounds_toArray, List.set_cons_zero, List.set_cons_succ, i64_w, i32_w]
          rfl
         refine pure_ (i := 6) (N := some 49) (v := ?_) (a' := ?_) #[true, true, true, true, true, true, true, false, false, false] rfl rfl (any_of HT_.out zb10) (fun _ _ _ h => h) (Or.inl ⟨by rfl, ?_⟩) ?_ ?_
         rotate_left
         ·intro w'
          go_simp
          first | with_reducible rfl | (rw [if_neg zb2])
         rotate_left
         ·simp only [Act.put, List.setIfInBounds_toArray, List.set_cons_zero, List.set_cons_succ, i64_w, i32_w]
          rfl
         refine one_ (i := 7) (N := some 50) #[true, true, true, true, true, true, true, true, false, false] rfl rfl (one_of HT_.out zb10) zb33 (fun K hK => ?_)
         refine goes_ Tryz.func12 zb10 rfl #[.int .i64 t263] (by rfl) rfl rfl zb1 ?_
         with_reducible refine (broadsheetref21_Reason.calls t263 t265 _ A22.out).mono ?_
         rintro e w' ⟨rfl, ⟨nd, rfl⟩⟩
         refine ⟨_, rfl, ?_⟩
         refine hK.out _ _ trivial (fun hHeld => ?_)
         clear hK K
         refine norm_ (a' := ?_) ?_ ?_
         rotate_left
         ·show Act.put _ (some 50) _ = _
          simp only [Act.put, List.setIfInBounds_toArray, List.set_cons_zero, List.set_cons_succ, i64_w, i32_w]
          rfl
         refine pure_ (i := 8) (N := some 51) (v := ?_) (a' := ?_) #[true, true, true, true, true, true, true, true, true, false] rfl rfl (any_of HT_.out zb10) (fun _ _ _ h => h) (Or.inl ⟨by rfl, ?_⟩) ?_ ?_
         rotate_left
         ·intro w'
          go_simp
          first | with_reducible rfl | (rw [if_neg zb2])
         rotate_left
         ·simp only [Act.put, List.setIfInBounds_toArray, List.set_cons_zero, List.set_cons_succ, i64_w, i32_w]
          rfl
         refine pure_ (i := 9) (N := some 52) (v := ?_) (a' := ?_) #[true, true, true, true, true, true, true, true, true, true] rfl rfl (any_of HT_.out zb10) (fun _ _ _ h => h) (Or.inl ⟨by rfl, ?_⟩) ?_ ?_
         rotate_left
         ·intro w'
          go_simp
          first | with_reducible rfl | (rw [if_neg zb2])
         rotate_left
         ·simp only [Act.put, List.setIfInBounds_toArray, List.set_cons_zero, List.set_cons_succ, i64_w, i32_w]
          rfl
         refine done_ (done_of HT_.out zb10) ?_
         try go_wp2
         go_meet
         case rel => exact ⟨_, (((t260.extract 13 t260.size).toList != t265.toList)), zb11, H', ⟨by have := HJ2.out; first | omega | exact Nat.le_refl _⟩, ⟨by (with_reducible repeat (first | refine blk_drewN ?_ _ | refine blk_drew ?_ | refine blk_alloc ?_ _)); exact BK259.out⟩, ⟨by repeat (first | (with_reducible first | exact HB.out | apply below_alloc | apply pw_below_drewN | apply below_drew1 | refine below_set ?_ GE259.out) | exact HB.out | exact ⟨HB.out.os, HB.out.tape, HB.out.output, HB.out.size, HB.out.block⟩)⟩⟩
        ·rw [if_neg c21] at H
         exact absurd H zb46
      case rest =>
       clear HC17
       try clear c1
       try clear p1
       try clear q1
       try clear hx1
       try clear qi1
       try clear c2
       try clear p2
       try clear c3
       try clear c5
       try clear c6
       try clear c6b0
       try clear c6b1
       try clear c7
       try clear c7b0
       try clear c7b1
       try clear c8
       try clear c8b0
       try clear c8b1
       try clear c9
       try clear c9b0
       try clear c9b1
       try clear c10
       try clear c10b0
       try clear c10b1
       try clear p11
       try clear q11
       try clear hx11
       try clear qi11
       try clear c12
       try clear c14
       try clear c14b0
       try clear c14b1
       try clear c15
       try clear c15b0
       try clear c15b1
       try clear c19
       try clear c19b0
       try clear c19b1
       try clear c21
       try clear c21b0
       try clear c21b1
       try clear hcz13_0
       try clear hcz13_1
       try clear hcz13_2
       try clear hfz13_0
       try clear hfz13_1
       try clear hfz13_2
       try clear p1
       try clear p11
       try clear p2
       try clear q1
       try clear q11
       obtain ⟨kq, x52_16, rfl, HA, HJ16, BK259, HB⟩ := hcut
       cases kq with
       | zero => exact absurd HA.out (by simp [broadsheetref21_Parse.j1])
       | succ kj16 =>
        have H := HA.out
        clear HA
        simp only [broadsheetref21_Parse.j1] at H
        by_cases c24 : x52_16 = true
        ·subst c24
         replace H : (some (0, ([] : List (S41)), (⟨#[]⟩ : ByteArray), 200)) = some (r1, r2, r3, r4) := by rw [if_pos rfl] at H; exact H
         simp only [Option.some.injEq, Prod.mk.injEq] at H
         obtain ⟨rfl, rfl, rfl, rfl⟩ := H
         have hcz25_0 : wc.cell? ⟨gb259, 0, none⟩ = some (.int .i64 0) := (blk_cell BK259.out 0).trans rfl
         have hcz25_1 : wc.cell? ⟨gb259, 1, none⟩ = some (.slice none 0 0) := (blk_cell BK259.out 1).trans rfl
         have hcz25_2 : wc.cell? ⟨gb259, 2, none⟩ = some (.string (⟨#[]⟩ : ByteArray)) := (blk_cell BK259.out 2).trans rfl
         have hfz25_0 := blk_frozen BK259.out 0
         have hfz25_1 := blk_frozen BK259.out 1
         have hfz25_2 := blk_frozen BK259.out 2
         go_wp2
         refine bodyPost_ret (results_ct rfl _ _ gb259 24 #[.int .i64 0, .slice none 0 0, .string (⟨#[]⟩ : ByteArray)] (0, 0) _ rfl zb6 Tryz.underlying24 rfl zb10) rfl ?_
         exact ⟨_, by first | rfl | (simp [errW_none, errW_some, bne_nil_] <;> rfl) | (simp [*, errW_none, errW_some] <;> rfl), by first | exact Kd.R_nil _ _ _ _ _ | exact Kd.N_nil _ _ _ _ _ | exact Kd.V_nil _ _ _ _ _ | exact Kd.Q_nil _ _ _ _ _ | exact Kd.S_nil _ _ _ _ _, by repeat (first | (with_reducible first | exact HB.out | apply below_alloc | apply pw_below_drewN | apply below_drew1 | refine below_set ?_ GE259.out) | exact HB.out | exact ⟨HB.out.os, HB.out.tape, HB.out.output, HB.out.size, HB.out.block⟩)⟩
        ·replace c24 := Bool.eq_false_iff.mpr c24
         subst c24
         replace H : ((broadsheetref18_Parse.f kj16 t261).bind fun bt266 => (if bt266.2.2 = 0 then ((broadsheetref21_bare.f t263).bind fun t272 => (if t272 = true then ((broadsheetref18_Get.f kj16 bt266.1 (⟨#[99, 111, 110, 116, 101, 110, 116, 45, 108, 101, 110, 103, 116, 104]⟩ : ByteArray)).bind fun bt273 => (if bt273.2 > 0 then (some (0, ([] : List (S41)), (⟨#[]⟩ : ByteArray), 190)) else (if bt266.2.1.toList = ([] : List UInt8) then (some (t263, bt266.1, bt266.2.1, 0)) else (some (0, ([] : List (S41)), (⟨#[]⟩ : ByteArray), 190))))) else (if (wrap64 ((bt266.1.length : Int) - 1)) < 0 then (broadsheetref21_Parse.j2 kj16 bt266.2.1 bt266.1 (wrap64 ((bt266.1.length : Int) - 1)) true t263 bt266.1 bt266.2.1) else (if 0 ≤ (wrap64 ((bt266.1.length : Int) - 1)) then (if (wrap64 ((bt266.1.length : Int) - 1)) < (bt266.1.length : Int) then (if ((rd_T41 bt266.1 (wrap64 ((bt266.1.length : Int) - 1))).f0).toList = ([99, 111, 110, 116, 101, 110, 116, 45, 108, 101, 110, 103, 116, 104] : List UInt8) then ((broadsheetref03_Digits.f kj16 (bt266.2.1.size : Int)).bind fun t277 => (broadsheetref21_Parse.j2 kj16 bt266.2.1 bt266.1 (wrap64 ((bt266.1.length : Int) - 1)) (((rd_T41 bt266.1 (wrap64 ((bt266.1.length : Int) - 1))).f1).toList != t277.toList) t263 bt266.1 bt266.2.1)) else (broadsheetref21_Parse.j2 kj16 bt266.2.1 bt266.1 (wrap64 ((bt266.1.length : Int) - 1)) true t263 bt266.1 bt266.2.1)) else (none)) else (none))))) else (some (0, ([] : List (S41)), (⟨#[]⟩ : ByteArray), bt266.2.2)))) = some (r1, r2, r3, r4) := by rw [if_neg (show ¬ (false = true) by decide)] at H; exact H
         replace H := Option.bind_eq_some_iff.mp H
         obtain ⟨⟨t266, t267, t268⟩, A260, H⟩ := H
         replace H : (if t268 = 0 then ((broadsheetref21_bare.f t263).bind fun t272 => (if t272 = true then ((broadsheetref18_Get.f kj16 t266 (⟨#[99, 111, 110, 116, 101, 110, 116, 45, 108, 101, 110, 103, 116, 104]⟩ : ByteArray)).bind fun bt273 => (if bt273.2 > 0 then (some (0, ([] : List (S41)), (⟨#[]⟩ : ByteArray), 190)) else (if t267.toList = ([] : List UInt8) then (some (t263, t266, t267, 0)) else (some (0, ([] : List (S41)), (⟨#[]⟩ : ByteArray), 190))))) else (if (wrap64 ((t266.length : Int) - 1)) < 0 then (broadsheetref21_Parse.j2 kj16 t267 t266 (wrap64 ((t266.length : Int) - 1)) true t263 t266 t267) else (if 0 ≤ (wrap64 ((t266.length : Int) - 1)) then (if (wrap64 ((t266.length : Int) - 1)) < (t266.length : Int) then (if ((rd_T41 t266 (wrap64 ((t266.length : Int) - 1))).f0).toList = ([99, 111, 110, 116, 101, 110, 116, 45, 108, 101, 110, 103, 116, 104] : List UInt8) then ((broadsheetref03_Digits.f kj16 (t267.size : Int)).bind fun t277 => (broadsheetref21_Parse.j2 kj16 t267 t266 (wrap64 ((t266.length : Int) - 1)) (((rd_T41 t266 (wrap64 ((t266.length : Int) - 1))).f1).toList != t277.toList) t263 t266 t267)) else (broadsheetref21_Parse.j2 kj16 t267 t266 (wrap64 ((t266.length : Int) - 1)) true t263 t266 t267)) else (none)) else (none))))) else (some (0, ([] : List (S41)), (⟨#[]⟩ : ByteArray), t268))) = some (r1, r2, r3, r4) := H
         have A26 := Aside0.mk A260
         clear A260
         by_cases c27 : t268 = 0
         ·rw [if_pos c27] at H
          have c27b0 : (t268 == 0) = true := beq_iff_eq.mpr c27
          have c27b1 : (t268 != 0) = false := bne_eq_false_iff_eq.mpr c27
          clear c27
          replace H := Option.bind_eq_some_iff.mp H
          obtain ⟨t272, A280, H⟩ := H
          replace H : (if t272 = true then ((broadsheetref18_Get.f kj16 t266 (⟨#[99, 111, 110, 116, 101, 110, 116, 45, 108, 101, 110, 103, 116, 104]⟩ : ByteArray)).bind fun bt273 => (if bt273.2 > 0 then (some (0, ([] : List (S41)), (⟨#[]⟩ : ByteArray), 190)) else (if t267.toList = ([] : List UInt8) then (some (t263, t266, t267, 0)) else (some (0, ([] : List (S41)), (⟨#[]⟩ : ByteArray), 190))))) else (if (wrap64 ((t266.length : Int) - 1)) < 0 then (broadsheetref21_Parse.j2 kj16 t267 t266 (wrap64 ((t266.length : Int) - 1)) true t263 t266 t267) else (if 0 ≤ (wrap64 ((t266.length : Int) - 1)) then (if (wrap64 ((t266.length : Int) - 1)) < (t266.length : Int) then (if ((rd_T41 t266 (wrap64 ((t266.length : Int) - 1))).f0).toList = ([99, 111, 110, 116, 101, 110, 116, 45, 108, 101, 110, 103, 116, 104] : List UInt8) then ((broadsheetref03_Digits.f kj16 (t267.size : Int)).bind fun t277 => (broadsheetref21_Parse.j2 kj16 t267 t266 (wrap64 ((t266.length : Int) - 1)) (((rd_T41 t266 (wrap64 ((t266.length : Int) - 1))).f1).toList != t277.toList) t263 t266 t267)) else (broadsheetref21_Parse.j2 kj16 t267 t266 (wrap64 ((t266.length : Int) - 1)) true t263 t266 t267)) else (none)) else (none)))) = some (r1, r2, r3, r4) := H
          have A28 := Aside0.mk A280
          clear A280
          by_cases c29 : t272 = true
          ·subst c29
           replace H : ((broadsheetref18_Get.f kj16 t266 (⟨#[99, 111, 110, 116, 101, 110, 116, 45, 108, 101, 110, 103, 116, 104]⟩ : ByteArray)).bind fun bt273 => (if bt273.2 > 0 then (some (0, ([] : List (S41)), (⟨#[]⟩ : ByteArray), 190)) else (if t267.toList = ([] : List UInt8) then (some (t263, t266, t267, 0)) else (some (0, ([] : List (S41)), (⟨#[]⟩ : ByteArray), 190))))) = some (r1, r2, r3, r4) := by rw [if_pos rfl] at H; exact H
           replace H := Option.bind_eq_some_iff.mp H
           obtain ⟨⟨t273, t274⟩, A300, H⟩ := H
           replace H : (if t274 > 0 then (some (0, ([] : List (S41)), (⟨#[]⟩ : ByteArray), 190)) else (if t267.toList = ([] : List UInt8) then (some (t263, t266, t267, 0)) else (some (0, ([] : List (S41)), (⟨#[]⟩ : ByteArray), 190)))) = some (r1, r2, r3, r4) := H
           have A30 := Aside0.mk A300
           clear A300
           by_cases c31 : t274 > 0
           ·rw [if_pos c31] at H
            have c31b0 : decide (0 < t274) = true := decide_eq_true c31
            clear c31
            simp only [Option.some.injEq, Prod.mk.injEq] at H
            obtain ⟨rfl, rfl, rfl, rfl⟩ := H
            go_wp2_with (first | ((with_reducible refine gate_callee (f := 32) rfl ?_); refine goesL_ (some 56) rfl rfl Tryz.func32 zb10 rfl #[.string t261] rfl zb1 ?_; (with_reducible refine (broadsheetref18_Parse.calls kj16 t261 t266 t267 t268 _ A26.out).mono ?_); rintro e w32 ⟨v269, rfl, ho0, hb⟩; refine ⟨_, rfl, ?_⟩; have n0_ := Aside0.mk (Kd.R_lower ho0 (below_size zb5)); have n1_ := Aside0.mk (blk_below (g := gb259) (o := .cells #[.int .i64 0, .slice none 0 0, .string (⟨#[]⟩ : ByteArray)] 24 (0, 0)) zb15 hb); have n2_ := Aside0.mk (below_step zb5 hb); clear BK259; clear HB; have HO270 := n0_; have BK259 := n1_; have HB := n2_; clear n0_ n1_ n2_; (try clear hb); (try clear hb2); (try clear hk); (try clear hi); (try clear ho0); obtain ⟨Ao33, co33, eo33⟩ := Kd.R_slice HO270.out; subst eo33) | ((with_reducible refine gate_dst (N := 10) rfl ?_); (try (refine gate_guard (by rfl) ?_; dsimp only)); refine box_event ?hg (N := 10) ?hd (cs := #[.int .i64 0, .slice none 0 0, .string (⟨#[]⟩ : ByteArray)]) (t := 24) ?hr ?_; (case hd => rfl); (case hg => rfl); (case hr => first | (go_simp; done) | (go_simp; rfl)); intro gb271 hg w34 hbox hb; have n0_ := Aside0.mk (Kd.R_below zb45 hb); have n1_ := Aside0.mk (blk_below (g := gb259) (o := .cells #[.int .i64 0, .slice none 0 0, .string (⟨#[]⟩ : ByteArray)] 24 (0, 0)) zb15 hb); have n2_ := Aside0.mk (below_step zb5 hb); have n3_ := Aside0.mk (hbox); have n4_ := Aside0.mk ((by rw [hg]; exact (below_size zb5) : w.heap.size ≤ gb271)); have n5_ := Aside0.mk ((by rw [hg]; exact (below_size zb5) : w.heap.size ≤ gb271)); have n6_ := Aside0.mk ((by rw [hg]; exact Nat.ne_of_lt (blk_lt (g := gb259) (o := .cells #[.int .i64 0, .slice none 0 0, .string (⟨#[]⟩ : ByteArray)] 24 (0, 0)) zb15) : gb259 ≠ gb271)); have n7_ := Aside0.mk ((by rw [hg]; exact Nat.ne_of_gt (blk_lt (g := gb259) (o := .cells #[.int .i64 0, .slice none 0 0, .string (⟨#[]⟩ : ByteArray)] 24 (0, 0)) zb15) : gb271 ≠ gb259)); clear HO270; clear BK259; clear HB; have HO270 := n0_; have BK259 := n1_; have HB := n2_; have BK271 := n3_; have GW271 := n4_; have GE271 := n5_; have NB259_271 := n6_; have NB271_259 := n7_; clear n0_ n1_ n2_ n3_ n4_ n5_ n6_ n7_; clear hb hbox hg; have hnb35 := NB271_259.out; have hnc35 := NB259_271.out; have hcz36_0 : w34.cell? ⟨gb271, 0, none⟩ = some (.int .i64 0) := (blk_cell BK271.out 0).trans rfl; have hcz36_1 : w34.cell? ⟨gb271, 1, none⟩ = some (.slice none 0 0) := (blk_cell BK271.out 1).trans rfl; have hcz36_2 : w34.cell? ⟨gb271, 2, none⟩ = some (.string (⟨#[]⟩ : ByteArray)) := (blk_cell BK271.out 2).trans rfl; have hfz36_0 := blk_frozen BK271.out 0; have hfz36_1 := blk_frozen BK271.out 1; have hfz36_2 := blk_frozen BK271.out 2) | ((with_reducible refine gate_callee (f := 23) rfl ?_); refine goesL_ (some 69) rfl rfl Tryz.func23 zb10 rfl #[.int .i64 t263] rfl zb1 ?_; (with_reducible refine (broadsheetref21_bare.calls t263 true _ A28.out).mono ?_); rintro e w' ⟨rfl, ⟨nd, rfl⟩⟩; refine ⟨_, rfl, ?_⟩) | ((with_reducible refine gate_callee (f := 24) rfl ?_); refine goesL_ (some 72) rfl rfl Tryz.func24 zb10 rfl #[.slice Ao33 t266.length co33, .string (⟨#[99, 111, 110, 116, 101, 110, 116, 45, 108, 101, 110, 103, 116, 104]⟩ : ByteArray)] rfl zb1 ?_; (with_reducible refine (broadsheetref18_Get.calls kj16 _ _ t266 (⟨#[99, 111, 110, 116, 101, 110, 116, 45, 108, 101, 110, 103, 116, 104]⟩ : ByteArray) t273 t274 _ ?side1 ?side2 A30.out).mono ?_); (case side1 => refine (Kd.R_reads' (e := 41) (base := w.heap.size) (ok := fun k_ => True) (n := t266.length) (c := co33) ?_).2.2; exact zb51); (case side2 => exact (Kd.R_reads' HO270.out).2.1); rintro e w37 ⟨rfl, hb⟩; refine ⟨_, rfl, ?_⟩; have n0_ := Aside0.mk (Kd.R_below zb51 hb); have n1_ := Aside0.mk (blk_below (g := gb259) (o := .cells #[.int .i64 0, .slice none 0 0, .string (⟨#[]⟩ : ByteArray)] 24 (0, 0)) zb24 hb); have n2_ := Aside0.mk (blk_below (g := gb271) (o := .cells #[.int .i64 t263, .slice Ao33 t266.length co33, .string t267] 24 (0, 0)) (by (with_reducible repeat (first | refine blk_drewN ?_ _ | refine blk_drew ?_ | refine blk_alloc ?_ _)); refine blk_put (cs := #[.int .i64 t263, .slice Ao33 t266.length co33, .string (⟨#[]⟩ : ByteArray)]) ?_ 2 _ rfl; (with_reducible repeat (first | refine blk_drewN ?_ _ | refine blk_drew ?_ | refine blk_alloc ?_ _)); refine blk_put (cs := #[.int .i64 t263, .slice none 0 0, .string (⟨#[]⟩ : ByteArray)]) ?_ 1 _ rfl; (with_reducible repeat (first | refine blk_drewN ?_ _ | refine blk_drew ?_ | refine blk_alloc ?_ _)); refine blk_put (cs := #[.int .i64 0, .slice none 0 0, .string (⟨#[]⟩ : ByteArray)]) ?_ 0 _ rfl; (with_reducible repeat (first | refine blk_drewN ?_ _ | refine blk_drew ?_ | refine blk_alloc ?_ _)); exact BK271.out) hb); have n3_ := Aside0.mk (below_step zb18 hb); clear HO270; clear BK259; clear BK271; clear HB; have HO270 := n0_; have BK259 := n1_; have BK271 := n2_; have HB := n3_; clear n0_ n1_ n2_ n3_; (try clear hb); (try clear hb2); (try clear hk); (try clear hi); have hcz38_0 : w37.cell? ⟨gb259, 0, none⟩ = some (.int .i64 0) := (blk_cell BK259.out 0).trans rfl; have hcz38_1 : w37.cell? ⟨gb259, 1, none⟩ = some (.slice none 0 0) := (blk_cell BK259.out 1).trans rfl; have hcz38_2 : w37.cell? ⟨gb259, 2, none⟩ = some (.string (⟨#[]⟩ : ByteArray)) := (blk_cell BK259.out 2).trans rfl; have hfz38_0 := blk_frozen BK259.out 0; have hfz38_1 := blk_frozen BK259.out 1; have hfz38_2 := blk_frozen BK259.out 2))
            refine bodyPost_ret (results_ct rfl _ _ gb259 24 #[.int .i64 0, .slice none 0 0, .string (⟨#[]⟩ : ByteArray)] (0, 0) _ rfl zb6 Tryz.underlying24 rfl zb10) rfl ?_
            exact ⟨_, by first | rfl | (simp [errW_none, errW_some, bne_nil_] <;> rfl) | (simp [*, errW_none, errW_some] <;> rfl), by first | exact Kd.R_nil _ _ _ _ _ | exact Kd.N_nil _ _ _ _ _ | exact Kd.V_nil _ _ _ _ _ | exact Kd.Q_nil _ _ _ _ _ | exact Kd.S_nil _ _ _ _ _, by repeat (first | (with_reducible first | exact HB.out | apply below_alloc | apply pw_below_drewN | apply below_drew1 | refine below_set ?_ GE259.out | refine below_set ?_ GE271.out) | exact HB.out | exact ⟨HB.out.os, HB.out.tape, HB.out.output, HB.out.size, HB.out.block⟩)⟩
           ·rw [if_neg c31] at H
            have c31b0 : decide (0 < t274) = false := decide_eq_false c31
            clear c31
            by_cases c39 : t267.toList = ([] : List UInt8)
            ·rw [if_pos c39] at H
             have c39b0 : (t267.toList == ([] : List UInt8)) = true := beq_iff_eq.mpr c39
             have c39b1 : (t267.toList != ([] : List UInt8)) = false := bne_eq_false_iff_eq.mpr c39
             clear c39
             simp only [Option.some.injEq, Prod.mk.injEq] at H
             obtain ⟨rfl, rfl, rfl, rfl⟩ := H
             go_wp2_with (first | ((with_reducible refine gate_callee (f := 32) rfl ?_); refine goesL_ (some 56) rfl rfl Tryz.func32 zb10 rfl #[.string t261] rfl zb1 ?_; (with_reducible refine (broadsheetref18_Parse.calls kj16 t261 t266 t267 t268 _ A26.out).mono ?_); rintro e w40 ⟨v269, rfl, ho0, hb⟩; refine ⟨_, rfl, ?_⟩; have n0_ := Aside0.mk (Kd.R_lower ho0 (below_size zb5)); have n1_ := Aside0.mk (blk_below (g := gb259) (o := .cells #[.int .i64 0, .slice none 0 0, .string (⟨#[]⟩ : ByteArray)] 24 (0, 0)) zb15 hb); have n2_ := Aside0.mk (below_step zb5 hb); clear BK259; clear HB; have HO270 := n0_; have BK259 := n1_; have HB := n2_; clear n0_ n1_ n2_; (try clear hb); (try clear hb2); (try clear hk); (try clear hi); (try clear ho0); obtain ⟨Ao41, co41, eo41⟩ := Kd.R_slice HO270.out; subst eo41) | ((with_reducible refine gate_dst (N := 10) rfl ?_); (try (refine gate_guard (by rfl) ?_; dsimp only)); refine box_event ?hg (N := 10) ?hd (cs := #[.int .i64 0, .slice none 0 0, .string (⟨#[]⟩ : ByteArray)]) (t := 24) ?hr ?_; (case hd => rfl); (case hg => rfl); (case hr => first | (go_simp; done) | (go_simp; rfl)); intro gb271 hg w42 hbox hb; have n0_ := Aside0.mk (Kd.R_below zb45 hb); have n1_ := Aside0.mk (blk_below (g := gb259) (o := .cells #[.int .i64 0, .slice none 0 0, .string (⟨#[]⟩ : ByteArray)] 24 (0, 0)) zb15 hb); have n2_ := Aside0.mk (below_step zb5 hb); have n3_ := Aside0.mk (hbox); have n4_ := Aside0.mk ((by rw [hg]; exact (below_size zb5) : w.heap.size ≤ gb271)); have n5_ := Aside0.mk ((by rw [hg]; exact (below_size zb5) : w.heap.size ≤ gb271)); have n6_ := Aside0.mk ((by rw [hg]; exact Nat.ne_of_lt (blk_lt (g := gb259) (o := .cells #[.int .i64 0, .slice none 0 0, .string (⟨#[]⟩ : ByteArray)] 24 (0, 0)) zb15) : gb259 ≠ gb271)); have n7_ := Aside0.mk ((by rw [hg]; exact Nat.ne_of_gt (blk_lt (g := gb259) (o := .cells #[.int .i64 0, .slice none 0 0, .string (⟨#[]⟩ : ByteArray)] 24 (0, 0)) zb15) : gb271 ≠ gb259)); clear HO270; clear BK259; clear HB; have HO270 := n0_; have BK259 := n1_; have HB := n2_; have BK271 := n3_; have GW271 := n4_; have GE271 := n5_; have NB259_271 := n6_; have NB271_259 := n7_; clear n0_ n1_ n2_ n3_ n4_ n5_ n6_ n7_; clear hb hbox hg; have hnb43 := NB271_259.out; have hnc43 := NB259_271.out; have hcz44_0 : w42.cell? ⟨gb271, 0, none⟩ = some (.int .i64 0) := (blk_cell BK271.out 0).trans rfl; have hcz44_1 : w42.cell? ⟨gb271, 1, none⟩ = some (.slice none 0 0) := (blk_cell BK271.out 1).trans rfl; have hcz44_2 : w42.cell? ⟨gb271, 2, none⟩ = some (.string (⟨#[]⟩ : ByteArray)) := (blk_cell BK271.out 2).trans rfl; have hfz44_0 := blk_frozen BK271.out 0; have hfz44_1 := blk_frozen BK271.out 1; have hfz44_2 := blk_frozen BK271.out 2) | ((with_reducible refine gate_callee (f := 23) rfl ?_); refine goesL_ (some 69) rfl rfl Tryz.func23 zb10 rfl #[.int .i64 t263] rfl zb1 ?_; (with_reducible refine (broadsheetref21_bare.calls t263 true _ A28.out).mono ?_); rintro e w' ⟨rfl, ⟨nd, rfl⟩⟩; refine ⟨_, rfl, ?_⟩) | ((with_reducible refine gate_callee (f := 24) rfl ?_); refine goesL_ (some 72) rfl rfl Tryz.func24 zb10 rfl #[.slice Ao41 t266.length co41, .string (⟨#[99, 111, 110, 116, 101, 110, 116, 45, 108, 101, 110, 103, 116, 104]⟩ : ByteArray)] rfl zb1 ?_; (with_reducible refine (broadsheetref18_Get.calls kj16 _ _ t266 (⟨#[99, 111, 110, 116, 101, 110, 116, 45, 108, 101, 110, 103, 116, 104]⟩ : ByteArray) t273 t274 _ ?side1 ?side2 A30.out).mono ?_); (case side1 => refine (Kd.R_reads' (e := 41) (base := w.heap.size) (ok := fun k_ => True) (n := t266.length) (c := co41) ?_).2.2; exact zb50); (case side2 => exact (Kd.R_reads' HO270.out).2.1); rintro e w45 ⟨rfl, hb⟩; refine ⟨_, rfl, ?_⟩; have n0_ := Aside0.mk (Kd.R_below zb50 hb); have n1_ := Aside0.mk (blk_below (g := gb259) (o := .cells #[.int .i64 0, .slice none 0 0, .string (⟨#[]⟩ : ByteArray)] 24 (0, 0)) zb24 hb); have n2_ := Aside0.mk (blk_below (g := gb271) (o := .cells #[.int .i64 t263, .slice Ao41 t266.length co41, .string t267] 24 (0, 0)) (by (with_reducible repeat (first | refine blk_drewN ?_ _ | refine blk_drew ?_ | refine blk_alloc ?_ _)); refine blk_put (cs := #[.int .i64 t263, .slice Ao41 t266.length co41, .string (⟨#[]⟩ : ByteArray)]) ?_ 2 _ rfl; (with_reducible repeat (first | refine blk_drewN ?_ _ | refine blk_drew ?_ | refine blk_alloc ?_ _)); refine blk_put (cs := #[.int .i64 t263, .slice none 0 0, .string (⟨#[]⟩ : ByteArray)]) ?_ 1 _ rfl; (with_reducible repeat (first | refine blk_drewN ?_ _ | refine blk_drew ?_ | refine blk_alloc ?_ _)); refine blk_put (cs := #[.int .i64 0, .slice none 0 0, .string (⟨#[]⟩ : ByteArray)]) ?_ 0 _ rfl; (with_reducible repeat (first | refine blk_drewN ?_ _ | refine blk_drew ?_ | refine blk_alloc ?_ _)); exact BK271.out) hb); have n3_ := Aside0.mk (below_step zb18 hb); clear HO270; clear BK259; clear BK271; clear HB; have HO270 := n0_; have BK259 := n1_; have BK271 := n2_; have HB := n3_; clear n0_ n1_ n2_ n3_; (try clear hb); (try clear hb2); (try clear hk); (try clear hi); have hcz46_0 : w45.cell? ⟨gb271, 0, none⟩ = some (.int .i64 t263) := (blk_cell BK271.out 0).trans rfl; have hcz46_1 : w45.cell? ⟨gb271, 1, none⟩ = some (.slice Ao41 t266.length co41) := (blk_cell BK271.out 1).trans rfl; have hcz46_2 : w45.cell? ⟨gb271, 2, none⟩ = some (.string t267) := (blk_cell BK271.out 2).trans rfl; have hfz46_0 := blk_frozen BK271.out 0; have hfz46_1 := blk_frozen BK271.out 1; have hfz46_2 := blk_frozen BK271.out 2; have hcz47_0 : w45.cell? ⟨gb259, 0, none⟩ = some (.int .i64 0) := (blk_cell BK259.out 0).trans rfl; have hcz47_1 : w45.cell? ⟨gb259, 1, none⟩ = some (.slice none 0 0) := (blk_cell BK259.out 1).trans rfl; have hcz47_2 : w45.cell? ⟨gb259, 2, none⟩ = some (.string (⟨#[]⟩ : ByteArray)) := (blk_cell BK259.out 2).trans rfl; have hfz47_0 := blk_frozen BK259.out 0; have hfz47_1 := blk_frozen BK259.out 1; have hfz47_2 := blk_frozen BK259.out 2))
             refine bodyPost_ret (results_ct rfl _ _ gb259 24 #[.int .i64 t263, .slice Ao41 t266.length co41, .string t267] (0, 0) _ rfl (by (with_reducible repeat (first | refine blk_drewN ?_ _ | refine blk_drew ?_ | refine blk_alloc ?_ _)); refine blk_put (cs := #[.int .i64 t263, .slice Ao41 t266.length co41, .string (⟨#[]⟩ : ByteArray)]) ?_ 2 _ rfl; (with_reducible repeat (first | refine blk_drewN ?_ _ | refine blk_drew ?_ | refine blk_alloc ?_ _)); refine blk_put (cs := #[.int .i64 t263, .slice none 0 0, .string (⟨#[]⟩ : ByteArray)]) ?_ 1 _ rfl; (with_reducible repeat (first | refine blk_drewN ?_ _ | refine blk_drew ?_ | refine blk_alloc ?_ _)); refine blk_put (cs := #[.int .i64 0, .slice none 0 0, .string (⟨#[]⟩ : ByteArray)]) ?_ 0 _ rfl; (with_reducible repeat (first | refine blk_drewN ?_ _ | refine blk_drew ?_ | refine blk_alloc ?_ _)); exact BK259.out) Tryz.underlying24 rfl zb10) rfl ?_
             exact ⟨_, by first | rfl | (simp [errW_none, errW_some, bne_nil_] <;> rfl) | (simp [*, errW_none, errW_some] <;> rfl), by (with_reducible repeat (first | apply Kd.R_alloc | apply Kd.R_drewN | apply Kd.R_drew)); exact Kd.R_mono (Kd.R_far (p := ⟨gb259, 2, none⟩) (Kd.R_far (p := ⟨gb259, 1, none⟩) (Kd.R_far (p := ⟨gb259, 0, none⟩) (Kd.R_types HO270.out BK259.out zb33) (fun _ hk => hk.2) (.int .i64 t263)) (fun _ hk => hk.2) (.slice Ao41 t266.length co41)) (fun _ hk => hk.2) (.string t267)) (fun _ hk => trivial), by repeat (first | (with_reducible first | exact HB.out | apply below_alloc | apply pw_below_drewN | apply below_drew1 | refine below_set ?_ GE259.out | refine below_set ?_ GE271.out) | exact HB.out | exact ⟨HB.out.os, HB.out.tape, HB.out.output, HB.out.size, HB.out.block⟩)⟩
            ·rw [if_neg c39] at H
             have c39b0 : (t267.toList == ([] : List UInt8)) = false := beq_eq_false_iff_ne.mpr c39
             have c39b1 : (t267.toList != ([] : List UInt8)) = true := bne_iff_ne.mpr c39
             simp only [Option.some.injEq, Prod.mk.injEq] at H
             obtain ⟨rfl, rfl, rfl, rfl⟩ := H
             go_wp2_with (first | ((with_reducible refine gate_callee (f := 32) rfl ?_); refine goesL_ (some 56) rfl rfl Tryz.func32 zb10 rfl #[.string t261] rfl zb1 ?_; (with_reducible refine (broadsheetref18_Parse.calls kj16 t261 t266 t267 t268 _ A26.out).mono ?_); rintro e w48 ⟨v269, rfl, ho0, hb⟩; refine ⟨_, rfl, ?_⟩; have n0_ := Aside0.mk (Kd.R_lower ho0 (below_size zb5)); have n1_ := Aside0.mk (blk_below (g := gb259) (o := .cells #[.int .i64 0, .slice none 0 0, .string (⟨#[]⟩ : ByteArray)] 24 (0, 0)) zb15 hb); have n2_ := Aside0.mk (below_step zb5 hb); clear BK259; clear HB; have HO270 := n0_; have BK259 := n1_; have HB := n2_; clear n0_ n1_ n2_; (try clear hb); (try clear hb2); (try clear hk); (try clear hi); (try clear ho0); obtain ⟨Ao49, co49, eo49⟩ := Kd.R_slice HO270.out; subst eo49) | ((with_reducible refine gate_dst (N := 10) rfl ?_); (try (refine gate_guard (by rfl) ?_; dsimp only)); refine box_event ?hg (N := 10) ?hd (cs := #[.int .i64 0, .slice none 0 0, .string (⟨#[]⟩ : ByteArray)]) (t := 24) ?hr ?_; (case hd => rfl); (case hg => rfl); (case hr => first | (go_simp; done) | (go_simp; rfl)); intro gb271 hg w50 hbox hb; have n0_ := Aside0.mk (Kd.R_below zb45 hb); have n1_ := Aside0.mk (blk_below (g := gb259) (o := .cells #[.int .i64 0, .slice none 0 0, .string (⟨#[]⟩ : ByteArray)] 24 (0, 0)) zb15 hb); have n2_ := Aside0.mk (below_step zb5 hb); have n3_ := Aside0.mk (hbox); have n4_ := Aside0.mk ((by rw [hg]; exact (below_size zb5) : w.heap.size ≤ gb271)); have n5_ := Aside0.mk ((by rw [hg]; exact (below_size zb5) : w.heap.size ≤ gb271)); have n6_ := Aside0.mk ((by rw [hg]; exact Nat.ne_of_lt (blk_lt (g := gb259) (o := .cells #[.int .i64 0, .slice none 0 0, .string (⟨#[]⟩ : ByteArray)] 24 (0, 0)) zb15) : gb259 ≠ gb271)); have n7_ := Aside0.mk ((by rw [hg]; exact Nat.ne_of_gt (blk_lt (g := gb259) (o := .cells #[.int .i64 0, .slice none 0 0, .string (⟨#[]⟩ : ByteArray)] 24 (0, 0)) zb15) : gb271 ≠ gb259)); clear HO270; clear BK259; clear HB; have HO270 := n0_; have BK259 := n1_; have HB := n2_; have BK271 := n3_; have GW271 := n4_; have GE271 := n5_; have NB259_271 := n6_; have NB271_259 := n7_; clear n0_ n1_ n2_ n3_ n4_ n5_ n6_ n7_; clear hb hbox hg; have hnb51 := NB271_259.out; have hnc51 := NB259_271.out; have hcz52_0 : w50.cell? ⟨gb271, 0, none⟩ = some (.int .i64 0) := (blk_cell BK271.out 0).trans rfl; have hcz52_1 : w50.cell? ⟨gb271, 1, none⟩ = some (.slice none 0 0) := (blk_cell BK271.out 1).trans rfl; have hcz52_2 : w50.cell? ⟨gb271, 2, none⟩ = some (.string (⟨#[]⟩ : ByteArray)) := (blk_cell BK271.out 2).trans rfl; have hfz52_0 := blk_frozen BK271.out 0; have hfz52_1 := blk_frozen BK271.out 1; have hfz52_2 := blk_frozen BK271.out 2) | ((with_reducible refine gate_callee (f := 23) rfl ?_); refine goesL_ (some 69) rfl rfl Tryz.func23 zb10 rfl #[.int .i64 t263] rfl zb1 ?_; (with_reducible refine (broadsheetref21_bare.calls t263 true _ A28.out).mono ?_); rintro e w' ⟨rfl, ⟨nd, rfl⟩⟩; refine ⟨_, rfl, ?_⟩) | ((with_reducible refine gate_callee (f := 24) rfl ?_); refine goesL_ (some 72) rfl rfl Tryz.func24 zb10 rfl #[.slice Ao49 t266.length co49, .string (⟨#[99, 111, 110, 116, 101, 110, 116, 45, 108, 101, 110, 103, 116, 104]⟩ : ByteArray)] rfl zb1 ?_; (with_reducible refine (broadsheetref18_Get.calls kj16 _ _ t266 (⟨#[99, 111, 110, 116, 101, 110, 116, 45, 108, 101, 110, 103, 116, 104]⟩ : ByteArray) t273 t274 _ ?side1 ?side2 A30.out).mono ?_); (case side1 => refine (Kd.R_reads' (e := 41) (base := w.heap.size) (ok := fun k_ => True) (n := t266.length) (c := co49) ?_).2.2; exact zb49); (case side2 => exact (Kd.R_reads' HO270.out).2.1); rintro e w53 ⟨rfl, hb⟩; refine ⟨_, rfl, ?_⟩; have n0_ := Aside0.mk (Kd.R_below zb49 hb); have n1_ := Aside0.mk (blk_below (g := gb259) (o := .cells #[.int .i64 0, .slice none 0 0, .string (⟨#[]⟩ : ByteArray)] 24 (0, 0)) zb24 hb); have n2_ := Aside0.mk (blk_below (g := gb271) (o := .cells #[.int .i64 t263, .slice Ao49 t266.length co49, .string t267] 24 (0, 0)) (by (with_reducible repeat (first | refine blk_drewN ?_ _ | refine blk_drew ?_ | refine blk_alloc ?_ _)); refine blk_put (cs := #[.int .i64 t263, .slice Ao49 t266.length co49, .string (⟨#[]⟩ : ByteArray)]) ?_ 2 _ rfl; (with_reducible repeat (first | refine blk_drewN ?_ _ | refine blk_drew ?_ | refine blk_alloc ?_ _)); refine blk_put (cs := #[.int .i64 t263, .slice none 0 0, .string (⟨#[]⟩ : ByteArray)]) ?_ 1 _ rfl; (with_reducible repeat (first | refine blk_drewN ?_ _ | refine blk_drew ?_ | refine blk_alloc ?_ _)); refine blk_put (cs := #[.int .i64 0, .slice none 0 0, .string (⟨#[]⟩ : ByteArray)]) ?_ 0 _ rfl; (with_reducible repeat (first | refine blk_drewN ?_ _ | refine blk_drew ?_ | refine blk_alloc ?_ _)); exact BK271.out) hb); have n3_ := Aside0.mk (below_step zb18 hb); clear HO270; clear BK259; clear BK271; clear HB; have HO270 := n0_; have BK259 := n1_; have BK271 := n2_; have HB := n3_; clear n0_ n1_ n2_ n3_; (try clear hb); (try clear hb2); (try clear hk); (try clear hi); have hcz54_0 : w53.cell? ⟨gb259, 0, none⟩ = some (.int .i64 0) := (blk_cell BK259.out 0).trans rfl; have hcz54_1 : w53.cell? ⟨gb259, 1, none⟩ = some (.slice none 0 0) := (blk_cell BK259.out 1).trans rfl; have hcz54_2 : w53.cell? ⟨gb259, 2, none⟩ = some (.string (⟨#[]⟩ : ByteArray)) := (blk_cell BK259.out 2).trans rfl; have hfz54_0 := blk_frozen BK259.out 0; have hfz54_1 := blk_frozen BK259.out 1; have hfz54_2 := blk_frozen BK259.out 2))
             refine bodyPost_ret (results_ct rfl _ _ gb259 24 #[.int .i64 0, .slice none 0 0, .string (⟨#[]⟩ : ByteArray)] (0, 0) _ rfl zb6 Tryz.underlying24 rfl zb10) rfl ?_
             exact ⟨_, by first | rfl | (simp [errW_none, errW_some, bne_nil_] <;> rfl) | (simp [*, errW_none, errW_some] <;> rfl), by first | exact Kd.R_nil _ _ _ _ _ | exact Kd.N_nil _ _ _ _ _ | exact Kd.V_nil _ _ _ _ _ | exact Kd.Q_nil _ _ _ _ _ | exact Kd.S_nil _ _ _ _ _, by repeat (first | (with_reducible first | exact HB.out | apply below_alloc | apply pw_below_drewN | apply below_drew1 | refine below_set ?_ GE259.out | refine below_set ?_ GE271.out) | exact HB.out | exact ⟨HB.out.os, HB.out.tape, HB.out.output, HB.out.size, HB.out.block⟩)⟩
          ·replace c29 := Bool.eq_false_iff.mpr c29
           subst c29
           replace H : (if (wrap64 ((t266.length : Int) - 1)) < 0 then (broadsheetref21_Parse.j2 kj16 t267 t266 (wrap64 ((t266.length : Int) - 1)) true t263 t266 t267) else (if 0 ≤ (wrap64 ((t266.length : Int) - 1)) then (if (wrap64 ((t266.length : Int) - 1)) < (t266.length : Int) then (if ((rd_T41 t266 (wrap64 ((t266.length : Int) - 1))).f0).toList = ([99, 111, 110, 116, 101, 110, 116, 45, 108, 101, 110, 103, 116, 104] : List UInt8) then ((broadsheetref03_Digits.f kj16 (t267.size : Int)).bind fun t277 => (broadsheetref21_Parse.j2 kj16 t267 t266 (wrap64 ((t266.length : Int) - 1)) (((rd_T41 t266 (wrap64 ((t266.length : Int) - 1))).f1).toList != t277.toList) t263 t266 t267)) else (broadsheetref21_Parse.j2 kj16 t267 t266 (wrap64 ((t266.length : Int) - 1)) true t263 t266 t267)) else (none)) else (none))) = some (r1, r2, r3, r4) := by rw [if_neg (show ¬ (false = true) by decide)] at H; exact H
           have HC55 := Aside0.mk H
           clear H
           go_upto_region 17 with (first | ((with_reducible refine gate_callee (f := 32) rfl ?_); refine goesL_ (some 56) rfl rfl Tryz.func32 zb10 rfl #[.string t261] rfl zb1 ?_; (with_reducible refine (broadsheetref18_Parse.calls kj16 t261 t266 t267 t268 _ A26.out).mono ?_); rintro e w56 ⟨v269, rfl, ho0, hb⟩; refine ⟨_, rfl, ?_⟩; have n0_ := Aside0.mk (Kd.R_lower ho0 (below_size zb5)); have n1_ := Aside0.mk (blk_below (g := gb259) (o := .cells #[.int .i64 0, .slice none 0 0, .string (⟨#[]⟩ : ByteArray)] 24 (0, 0)) zb15 hb); have n2_ := Aside0.mk (below_step zb5 hb); clear BK259; clear HB; have HO270 := n0_; have BK259 := n1_; have HB := n2_; clear n0_ n1_ n2_; (try clear hb); (try clear hb2); (try clear hk); (try clear hi); (try clear ho0); obtain ⟨Ao57, co57, eo57⟩ := Kd.R_slice HO270.out; subst eo57) | ((with_reducible refine gate_dst (N := 10) rfl ?_); (try (refine gate_guard (by rfl) ?_; dsimp only)); refine box_event ?hg (N := 10) ?hd (cs := #[.int .i64 0, .slice none 0 0, .string (⟨#[]⟩ : ByteArray)]) (t := 24) ?hr ?_; (case hd => rfl); (case hg => rfl); (case hr => first | (go_simp; done) | (go_simp; rfl)); intro gb271 hg w58 hbox hb; have n0_ := Aside0.mk (Kd.R_below zb45 hb); have n1_ := Aside0.mk (blk_below (g := gb259) (o := .cells #[.int .i64 0, .slice none 0 0, .string (⟨#[]⟩ : ByteArray)] 24 (0, 0)) zb15 hb); have n2_ := Aside0.mk (below_step zb5 hb); have n3_ := Aside0.mk (hbox); have n4_ := Aside0.mk ((by rw [hg]; exact (below_size zb5) : w.heap.size ≤ gb271)); have n5_ := Aside0.mk ((by rw [hg]; exact (below_size zb5) : w.heap.size ≤ gb271)); have n6_ := Aside0.mk ((by rw [hg]; exact Nat.ne_of_lt (blk_lt (g := gb259) (o := .cells #[.int .i64 0, .slice none 0 0, .string (⟨#[]⟩ : ByteArray)] 24 (0, 0)) zb15) : gb259 ≠ gb271)); have n7_ := Aside0.mk ((by rw [hg]; exact Nat.ne_of_gt (blk_lt (g := gb259) (o := .cells #[.int .i64 0, .slice none 0 0, .string (⟨#[]⟩ : ByteArray)] 24 (0, 0)) zb15) : gb271 ≠ gb259)); clear HO270; clear BK259; clear HB; have HO270 := n0_; have BK259 := n1_; have HB := n2_; have BK271 := n3_; have GW271 := n4_; have GE271 := n5_; have NB259_271 := n6_; have NB271_259 := n7_; clear n0_ n1_ n2_ n3_ n4_ n5_ n6_ n7_; clear hb hbox hg; have hnb59 := NB271_259.out; have hnc59 := NB259_271.out; have hcz60_0 : w58.cell? ⟨gb271, 0, none⟩ = some (.int .i64 0) := (blk_cell BK271.out 0).trans rfl; have hcz60_1 : w58.cell? ⟨gb271, 1, none⟩ = some (.slice none 0 0) := (blk_cell BK271.out 1).trans rfl; have hcz60_2 : w58.cell? ⟨gb271, 2, none⟩ = some (.string (⟨#[]⟩ : ByteArray)) := (blk_cell BK271.out 2).trans rfl; have hfz60_0 := blk_frozen BK271.out 0; have hfz60_1 := blk_frozen BK271.out 1; have hfz60_2 := blk_frozen BK271.out 2) | ((with_reducible refine gate_callee (f := 23) rfl ?_); refine goesL_ (some 69) rfl rfl Tryz.func23 zb10 rfl #[.int .i64 t263] rfl zb1 ?_; (with_reducible refine (broadsheetref21_bare.calls t263 false _ A28.out).mono ?_); rintro e w' ⟨rfl, ⟨nd, rfl⟩⟩; refine ⟨_, rfl, ?_⟩))
           (try simp only [Act.put, List.setIfInBounds_toArray, List.set_cons_zero, List.set_cons_succ])
           go_cut [106] (fun v106 wc => ∃ (kq : Nat) (x106_54 : Bool), v106 = .bool x106_54 ∧ Aside0 (broadsheetref21_Parse.j2 kq t267 t266 (wrap64 ((t266.length : Int) - 1)) x106_54 t263 t266 t267 = some (r1, r2, r3, r4)) ∧ Aside0 (kq ≤ kj16) ∧ Aside0 (Kd.R k41 41 wc w.heap.size (fun _ => True) (.slice Ao57 t266.length co57) t266) ∧ Aside0 (Kd.R k41 41 wc w.heap.size (fun _ => True) (.slice Ao57 t266.length co57) t266) ∧ Aside0 (wc.heap[gb259]? = some (.cells #[.int .i64 0, (.slice none 0 0), .string (⟨#[]⟩ : ByteArray)] 24 (0, 0))) ∧ Aside0 (wc.heap[gb271]? = some (.cells #[.int .i64 t263, (.slice Ao57 t266.length co57), .string t267] 24 (0, 0))) ∧ Aside0 (Below w.heap.size w wc))
           case first =>
            have H := HC55.out
            clear HC55
            by_cases c61 : (wrap64 ((t266.length : Int) - 1)) < 0
            ·rw [if_pos c61] at H
             have c61b0 : decide ((wrap64 ((t266.length : Int) - 1)) < 0) = true := decide_eq_true c61
             clear c61
             (first | rw [c61b0] | (simp only [i64_w, i32_w]; rw [c61b0]) | skip)
             have H' := Aside0.mk H
             clear H
             try go_wp2
             have n0_ : Aside0 (Kd.R k41 41 (((w58.setCell ⟨gb271, 0, none⟩ (.int .i64 t263)).setCell ⟨gb271, 1, none⟩ (.slice Ao57 t266.length co57)).setCell ⟨gb271, 2, none⟩ (.string t267)) w.heap.size (fun _ => True) (.slice Ao57 t266.length co57) t266) := ⟨by (with_reducible repeat (first | apply Kd.R_alloc | apply Kd.R_drewN | apply Kd.R_drew)); exact Kd.R_mono (Kd.R_far (p := ⟨gb271, 2, none⟩) (Kd.R_far (p := ⟨gb271, 1, none⟩) (Kd.R_far (p := ⟨gb271, 0, none⟩) (Kd.R_types HO270.out BK271.out zb33) (fun _ hk => hk.2) (.int .i64 t263)) (fun _ hk => hk.2) (.slice Ao57 t266.length co57)) (fun _ hk => hk.2) (.string t267)) (fun _ hk => trivial)⟩
             have n1_ : Aside0 ((((w58.setCell ⟨gb271, 0, none⟩ (.int .i64 t263)).setCell ⟨gb271, 1, none⟩ (.slice Ao57 t266.length co57)).setCell ⟨gb271, 2, none⟩ (.string t267)).heap[gb259]? = some (.cells #[.int .i64 0, .slice none 0 0, .string (⟨#[]⟩ : ByteArray)] 24 (0, 0))) := ⟨by (with_reducible repeat (first | refine blk_drewN ?_ _ | refine blk_drew ?_ | refine blk_alloc ?_ _)); refine blk_far ?_ NB259_271.out _; (with_reducible repeat (first | refine blk_drewN ?_ _ | refine blk_drew ?_ | refine blk_alloc ?_ _)); refine blk_far ?_ NB259_271.out _; (with_reducible repeat (first | refine blk_drewN ?_ _ | refine blk_drew ?_ | refine blk_alloc ?_ _)); refine blk_far ?_ NB259_271.out _; (with_reducible repeat (first | refine blk_drewN ?_ _ | refine blk_drew ?_ | refine blk_alloc ?_ _)); exact BK259.out⟩
             have n2_ : Aside0 ((((w58.setCell ⟨gb271, 0, none⟩ (.int .i64 t263)).setCell ⟨gb271, 1, none⟩ (.slice Ao57 t266.length co57)).setCell ⟨gb271, 2, none⟩ (.string t267)).heap[gb271]? = some (.cells #[.int .i64 t263, .slice Ao57 t266.length co57, .string t267] 24 (0, 0))) := ⟨by (with_reducible repeat (first | refine blk_drewN ?_ _ | refine blk_drew ?_ | refine blk_alloc ?_ _)); refine blk_put (cs := #[.int .i64 t263, .slice Ao57 t266.length co57, .string (⟨#[]⟩ : ByteArray)]) ?_ 2 _ rfl; (with_reducible repeat (first | refine blk_drewN ?_ _ | refine blk_drew ?_ | refine blk_alloc ?_ _)); refine blk_put (cs := #[.int .i64 t263, .slice none 0 0, .string (⟨#[]⟩ : ByteArray)]) ?_ 1 _ rfl; (with_reducible repeat (first | refine blk_drewN ?_ _ | refine blk_drew ?_ | refine blk_alloc ?_ _)); refine blk_put (cs := #[.int .i64 0, .slice none 0 0, .string (⟨#[]⟩ : ByteArray)]) ?_ 0 _ rfl; (with_reducible repeat (first | refine blk_drewN ?_ _ | refine blk_drew ?_ | refine blk_alloc ?_ _)); exact BK271.out⟩
             have n3_ : Aside0 (Below w.heap.size w (((w58.setCell ⟨gb271, 0, none⟩ (.int .i64 t263)).setCell ⟨gb271, 1, none⟩ (.slice Ao57 t266.length co57)).setCell ⟨gb271, 2, none⟩ (.string t267))) := ⟨by repeat (first | (with_reducible first | exact HB.out | apply below_alloc | apply pw_below_drewN | apply below_drew1 | refine below_set ?_ GE259.out | refine below_set ?_ GE271.out) | exact HB.out | exact ⟨HB.out.os, HB.out.tape, HB.out.output, HB.out.size, HB.out.block⟩)⟩
             (try clear HO270)
             (try clear BK259)
             (try clear BK271)
             (try clear HB)
             generalize (((w58.setCell ⟨gb271, 0, none⟩ (.int .i64 t263)).setCell ⟨gb271, 1, none⟩ (.slice Ao57 t266.length co57)).setCell ⟨gb271, 2, none⟩ (.string t267)) = w62 at n0_ n1_ n2_ n3_ ⊢
             have HO270 := n0_
             have BK259 := n1_
             have BK271 := n2_
             have HB := n3_
             clear n0_ n1_ n2_ n3_
             have n0_ := Aside0.mk (Kd.R_drew HO270.out)
             have n1_ := Aside0.mk (blk_drew BK259.out)
             have n2_ := Aside0.mk (blk_drew BK271.out)
             have n3_ := Aside0.mk (below_drew1 HB.out)
             clear HO270
             clear BK259
             clear BK271
             clear HB
             have HO270 := n0_
             have BK259 := n1_
             have BK271 := n2_
             have HB := n3_
             clear n0_ n1_ n2_ n3_
             refine start_ (n := 21) (S := fun w' => True) (ds := []) #[false, false, false, false, false, false, false, false, false, false, false, false, false, false, false, false, false, false, false, false, false] zb10 rfl rfl trivial (fun hHeld => ?_); refine with_tabW broadsheetref21_Parse.tab17 broadsheetref21_Parse.bits17 (fun HT_ HW_ => ?_)
             skip
             refine pure_ (i := 0) (N := some 86) (v := ?_) (a' := ?_) #[true, false, false, false, false, false, false, false, false, false, false, false, false, false, false, false, false, false, false, false, false] rfl rfl (any_of HT_.out zb10) (fun _ _ _ h => h) (Or.inl ⟨by rfl, ?_⟩) ?_ ?_
             rotate_left
             ·intro w'
              go_simp
              first | with_reducible rfl | (rw [if_neg zb2])
             rotate_left
             ·simp only [Act.put, List.setIfInBounds_toArray, List.set_cons_zero, List.set_cons_succ, i64_w, i32_w]
              rfl
             refine pure_ (i := 1) (N := some 87) (v := ?_) (a' := ?_) #[true, true, false, false, false, false, false, false, false, false, false, false, false, false, false, false, false, false, false, false, false] rfl rfl (any_of HT_.out zb10) (fun _ _ _ h => h) (Or.inl ⟨by rfl, ?_⟩) ?_ ?_
             rotate_left
             ·intro w'
              go_simp
              first | with_reducible rfl | (rw [if_neg zb2])
             rotate_left
             ·simp only [Act.put, List.setIfInBounds_toArray, List.set_cons_zero, List.set_cons_succ, i64_w, i32_w]
              rfl
             refine pure_ (i := 2) (N := some 88) (v := ?_) (a' := ?_) #[true, true, true, false, false, false, false, false, false, false, false, false, false, false, false, false, false, false, false, false, false] rfl rfl (any_of HT_.out zb10) (fun _ _ _ h => h) (Or.inl ⟨by rfl, ?_⟩) ?_ ?_
             rotate_left
             ·intro w'
              go_simp
              first | with_reducible rfl | (rw [if_neg zb2])
             rotate_left
             ·simp only [Act.put, List.setIfInBounds_toArray, List.set_cons_zero, List.set_cons_succ, i64_w, i32_w]
              rfl
             refine pure_ (i := 3) (N := some 89) (v := undef) (a' := ?_) #[true, true, true, true, false, false, false, false, false, false, false, false, false, false, false, false, false, false, false, false, false] rfl rfl (any_of HT_.out zb10) (fun _ _ _ h => h) (Or.inr ⟨by rfl, rfl⟩) ?_ ?_
             rotate_left
             ·simp only [Act.put, List.setIfInBounds_toArray, List.set_cons_zero, List.set_cons_succ, i64_w, i32_w]
              rfl
             refine pure_ (i := 4) (N := some 90) (v := undef) (a' := ?_) #[true, true, true, true, true, false, false, false, false, false, false, false, false, false, false, false, false, false, false, false, false] rfl rfl (any_of HT_.out zb10) (fun _ _ _ h => h) (Or.inr ⟨by rfl, rfl⟩) ?_ ?_
             rotate_left
             ·simp only [Act.put, List.setIfInBounds_toArray, List.set_cons_zero, List.set_cons_succ, i64_w, i32_w]
              rfl
             refine pure_ (i := 5) (N := some 91) (v := undef) (a' := ?_) #[true, true, true, true, true, true, false, false, false, false, false, false, false, false, false, false, false, false, false, false, false] rfl rfl (any_of HT_.out zb10) (fun _ _ _ h => h) (Or.inr ⟨by rfl, rfl⟩) ?_ ?_
             rotate_left
             ·simp only [Act.put, List.setIfInBounds_toArray, List.set_cons_zero, List.set_cons_succ, i64_w, i32_w]
              rfl
             refine pure_ (i := 6) (N := some 92) (v := undef) (a' := ?_) #[true, true, true, true, true, true, true, false, false, false, false, false, false, false, false, false, false, false, false, false, false] rfl rfl (any_of HT_.out zb10) (fun _ _ _ h => h) (Or.inr ⟨by rfl, rfl⟩) ?_ ?_
             rotate_left
             ·simp only [Act.put, List.setIfInBounds_toArray, List.set_cons_zero, List.set_cons_succ, i64_w, i32_w]
              rfl
             refine pure_ (i := 7) (N := some 93) (v := undef) (a' := ?_) #[true, true, true, true, true, true, true, true, false, false, false, false, false, false, false, false, false, false, false, false, false] rfl rfl (any_of HT_.out zb10) (fun _ _ _ h => h) (Or.inr ⟨by rfl, rfl⟩) ?_ ?_
             rotate_left
             ·simp only [Act.put, List.setIfInBounds_toArray, List.set_cons_zero, List.set_cons_succ, i64_w, i32_w]
              rfl
             refine pure_ (i := 8) (N := some 94) (v := undef) (a' := ?_) #[true, true, true, true, true, true, true, true, true, false, false, false, false, false, false, false, false, false, false, false, false] rfl rfl (any_of HT_.out zb10) (fun _ _ _ h => h) (Or.inr ⟨by rfl, rfl⟩) ?_ ?_
             rotate_left
             ·simp only [Act.put, List.setIfInBounds_toArray, List.set_cons_zero, List.set_cons_succ, i64_w, i32_w]
              rfl
             refine pure_ (i := 9) (N := some 95) (v := ?_) (a' := ?_) #[true, true, true, true, true, true, true, true, true, true, false, false, false, false, false, false, false, false, false, false, false] rfl rfl (any_of HT_.out zb10) (fun _ _ _ h => h) (Or.inl ⟨by rfl, ?_⟩) ?_ ?_
             rotate_left
             ·intro w'
              go_simp
              first | with_reducible rfl | (rw [if_neg zb2])
             rotate_left
             ·simp only [Act.put, List.setIfInBounds_toArray, List.set_cons_zero, List.set_cons_succ, i64_w, i32_w]
              rfl
             refine pure_ (i := 10) (N := some 96) (v := ?_) (a' := ?_) #[true, true, true, true, true, true, true, true, true, true, true, false, false, false, false, false, false, false, false, false, false] rfl rfl (any_of HT_.out zb10) (fun _ _ _ h => h) (Or.inl ⟨by rfl, ?_⟩) ?_ ?_
             rotate_left
             ·intro w'
              go_simp
              first | with_reducible rfl | (rw [if_neg zb2])
             rotate_left
             ·simp only [Act.put, List.setIfInBounds_toArray, List.set_cons_zero, List.set_cons_succ, i64_w, i32_w]
              rfl
             refine pure_ (i := 11) (N := some 97) (v := undef) (a' := ?_) #[true, true, true, true, true, true, true, true, true, true, true, true, false, false, false, false, false, false, false, false, false] rfl rfl (any_of HT_.out zb10) (fun _ _ _ h => h) (Or.inr ⟨by rfl, rfl⟩) ?_ ?_
             rotate_left
             ·simp only [Act.put, List.setIfInBounds_toArray, List.set_cons_zero, List.set_cons_succ, i64_w, i32_w]
              rfl
             refine pure_ (i := 12) (N := some 98) (v := undef) (a' := ?_) #[true, true, true, true, true, true, true, true, true, true, true, true, true, false, false, false, false, false, false, false, false] rfl rfl (any_of HT_.out zb10) (fun _ _ _ h => h) (Or.inr ⟨by rfl, rfl⟩) ?_ ?_
             rotate_left
             ·simp only [Act.put, List.setIfInBounds_toArray, List.set_cons_zero, List.set_cons_succ, i64_w, i32_w]
              rfl
             refine pure_ (i := 13) (N := some 99) (v := undef) (a' := ?_) #[true, true, true, true, true, true, true, true, true, true, true, true, true, true, false, false, false, false, false, false, false] rfl rfl (any_of HT_.out zb10) (fun _ _ _ h => h) (Or.inr ⟨by rfl, rfl⟩) ?_ ?_
             rotate_left
             ·simp only [Act.put, List.setIfInBounds_toArray, List.set_cons_zero, List.set_cons_succ, i64_w, i32_w]
              rfl
             refine pure_ (i := 14) (N := some 100) (v := undef) (a' := ?_) #[true, true, true, true, true, true, true, true, true, true, true, true, true, true, true, false, false, false, false, false, false] rfl rfl (any_of HT_.out zb10) (fun _ _ _ h => h) (Or.inr ⟨by rfl, rfl⟩) ?_ ?_
             rotate_left
             ·simp only [Act.put, List.setIfInBounds_toArray, List.set_cons_zero, List.set_cons_succ, i64_w, i32_w]
              rfl
             refine pure_ (i := 15) (N := some 101) (v := undef) (a' := ?_) #[true, true, true, true, true, true, true, true, true, true, true, true, true, true, true, true, false, false, false, false, false] rfl rfl (any_of HT_.out zb10) (fun _ _ _ h => h) (Or.inr ⟨by rfl, rfl⟩) ?_ ?_
             rotate_left
             ·simp only [Act.put, List.setIfInBounds_toArray, List.set_cons_zero, List.set_cons_succ, i64_w, i32_w]
              rfl
             refine pure_ (i := 16) (N := some 102) (v := undef) (a' := ?_) #[true, true, true, true, true, true, true, true, true, true, true, true, true, true, true, true, true, false, false, false, false] rfl rfl (any_of HT_.out zb10) (fun _ _ _ h => h) (Or.inr ⟨by rfl, rfl⟩) ?_ ?_
             rotate_left
             ·simp only [Act.put, List.setIfInBounds_toArray, List.set_cons_zero, List.set_cons_succ, i64_w, i32_w]
              rfl
             refine pure_ (i := 17) (N := some 103) (v := undef) (a' := ?_) #[true, true, true, true, true, true, true, true, true, true, true, true, true, true, true, true, true, true, false, false, false] rfl rfl (any_of HT_.out zb10) (fun _ _ _ h => h) (Or.inr ⟨by rfl, rfl⟩) ?_ ?_
             rotate_left
             ·simp only [Act.put, List.setIfInBounds_toArray, List.set_cons_zero, List.set_cons_succ, i64_w, i32_w]
              rfl
             refine pure_ (i := 18) (N := some 104) (v := undef) (a' := ?_) #[true, true, true, true, true, true, true, true, true, true, true, true, true, true, true, true, true, true, true, false, false] rfl rfl (any_of HT_.out zb10) (fun _ _ _ h => h) (Or.inr ⟨by rfl, rfl⟩) ?_ ?_
             rotate_left
             ·simp only [Act.put, List.setIfInBounds_toArray, List.set_cons_zero, List.set_cons_succ, i64_w, i32_w]
              rfl
             refine pure_ (i := 19) (N := some 105) (v := undef) (a' := ?_) #[true, true, true, true, true, true, true, true, true, true, true, true, true, true, true, true, true, true, true, true, false] rfl rfl (any_of HT_.out zb10) (fun _ _ _ h => h) (Or.inr ⟨by rfl, rfl⟩) ?_ ?_
             rotate_left
             ·simp only [Act.put, List.setIfInBounds_toArray, List.set_cons_zero, List.set_cons_succ, i64_w, i32_w]
              rfl
             refine pure_ (i := 20) (N := some 106) (v := ?_) (a' := ?_) #[true, true, true, true, true, true, true, true, true, true, true, true, true, true, true, true, true, true, true, true, true] rfl rfl (any_of HT_.out zb10) (fun _ _ _ h => h) (Or.inl ⟨by rfl, ?_⟩) ?_ ?_
             rotate_left
             ·intro w'
              go_simp
              first | with_reducible rfl | (rw [if_neg zb2])
             rotate_left
             ·simp only [Act.put, List.setIfInBounds_toArray, List.set_cons_zero, List.set_cons_succ, i64_w, i32_w]
              rfl
             refine done_ (done_of HT_.out zb10) ?_
             try go_wp2
             go_meet
             case rel => exact ⟨_, (true), zb11, H', ⟨by have := HJ2.out; have := HJ16.out; first | omega | exact Nat.le_refl _⟩, ⟨by (with_reducible repeat (first | apply Kd.R_alloc | apply Kd.R_drewN | apply Kd.R_drew)); exact HO270.out⟩, ⟨by (with_reducible repeat (first | apply Kd.R_alloc | apply Kd.R_drewN | apply Kd.R_drew)); exact HO270.out⟩, ⟨by (with_reducible repeat (first | refine blk_drewN ?_ _ | refine blk_drew ?_ | refine blk_alloc ?_ _)); exact BK259.out⟩, ⟨by (with_reducible repeat (first | refine blk_drewN ?_ _ | refine blk_drew ?_ | refine blk_alloc ?_ _)); exact BK271.out⟩, ⟨by repeat (first | (with_reducible first | exact HB.out | apply below_alloc | apply pw_below_drewN | apply below_drew1 | refine below_set ?_ GE259.out | refine below_set ?_ GE271.out) | exact HB.out | exact ⟨HB.out.os, HB.out.tape, HB.out.output, HB.out.size, HB.out.block⟩)⟩⟩
            ·rw [if_neg c61] at H
             have c61b0 : decide ((wrap64 ((t266.length : Int) - 1)) < 0) = false := decide_eq_false c61
             clear c61
             (first | rw [c61b0] | (simp only [i64_w, i32_w]; rw [c61b0]) | skip)
             obtain ⟨ji64, hji64⟩ : ∃ j_ : Int, (wrap64 ((t266.length : Int) - 1)) = j_ := ⟨_, rfl⟩
             replace H : (if 0 ≤ (ji64) then (if (ji64) < (t266.length : Int) then (if ((rd_T41 t266 (ji64)).f0).toList = ([99, 111, 110, 116, 101, 110, 116, 45, 108, 101, 110, 103, 116, 104] : List UInt8) then ((broadsheetref03_Digits.f kj16 (t267.size : Int)).bind fun t277 => (broadsheetref21_Parse.j2 kj16 t267 t266 ji64 (((rd_T41 t266 (ji64)).f1).toList != t277.toList) t263 t266 t267)) else (broadsheetref21_Parse.j2 kj16 t267 t266 ji64 true t263 t266 t267)) else (none)) else (none)) = some (r1, r2, r3, r4) := by first | (rw [hji64] at H; exact H) | (simp only [hji64] at H ⊢; exact H)
             (try rw [hji64] at c61b0)
             have hji64w : (IntKind.i64.wrap ((t266.length : Int) - 1)) = ji64 := (i64_w _).trans hji64
             by_cases c65 : 0 ≤ (ji64)
             ·rw [if_pos c65] at H
              have c65b0 : decide (0 ≤ (ji64)) = true := decide_eq_true c65
              clear c65
              by_cases c66 : (ji64) < (t266.length : Int)
              ·rw [if_pos c66] at H
               have c66b0 : decide ((ji64) < (t266.length : Int)) = true := decide_eq_true c66
               clear c66
               by_cases c67 : ((rd_T41 t266 (ji64)).f0).toList = ([99, 111, 110, 116, 101, 110, 116, 45, 108, 101, 110, 103, 116, 104] : List UInt8)
               ·rw [if_pos c67] at H
                have c67b0 : (((rd_T41 t266 (ji64)).f0).toList == ([99, 111, 110, 116, 101, 110, 116, 45, 108, 101, 110, 103, 116, 104] : List UInt8)) = true := beq_iff_eq.mpr c67
                have c67b1 : (((rd_T41 t266 (ji64)).f0).toList != ([99, 111, 110, 116, 101, 110, 116, 45, 108, 101, 110, 103, 116, 104] : List UInt8)) = false := bne_eq_false_iff_eq.mpr c67
                clear c67
                replace H := Option.bind_eq_some_iff.mp H
                obtain ⟨t277, A680, H⟩ := H
                replace H : (broadsheetref21_Parse.j2 kj16 t267 t266 ji64 (((rd_T41 t266 (ji64)).f1).toList != t277.toList) t263 t266 t267) = some (r1, r2, r3, r4) := H
                have A68 := Aside0.mk A680
                clear A680
                have H' := Aside0.mk H
                clear H
                try go_wp2
                have n0_ : Aside0 (Kd.R k41 41 (((w58.setCell ⟨gb271, 0, none⟩ (.int .i64 t263)).setCell ⟨gb271, 1, none⟩ (.slice Ao57 t266.length co57)).setCell ⟨gb271, 2, none⟩ (.string t267)) w.heap.size (fun _ => True) (.slice Ao57 t266.length co57) t266) := ⟨by (with_reducible repeat (first | apply Kd.R_alloc | apply Kd.R_drewN | apply Kd.R_drew)); exact Kd.R_mono (Kd.R_far (p := ⟨gb271, 2, none⟩) (Kd.R_far (p := ⟨gb271, 1, none⟩) (Kd.R_far (p := ⟨gb271, 0, none⟩) (Kd.R_types HO270.out BK271.out zb33) (fun _ hk => hk.2) (.int .i64 t263)) (fun _ hk => hk.2) (.slice Ao57 t266.length co57)) (fun _ hk => hk.2) (.string t267)) (fun _ hk => trivial)⟩
                have n1_ : Aside0 ((((w58.setCell ⟨gb271, 0, none⟩ (.int .i64 t263)).setCell ⟨gb271, 1, none⟩ (.slice Ao57 t266.length co57)).setCell ⟨gb271, 2, none⟩ (.string t267)).heap[gb259]? = some (.cells #[.int .i64 0, .slice none 0 0, .string (⟨#[]⟩ : ByteArray)] 24 (0, 0))) := ⟨by (with_reducible repeat (first | refine blk_drewN ?_ _ | refine blk_drew ?_ | refine blk_alloc ?_ _)); refine blk_far ?_ NB259_271.out _; (with_reducible repeat (first | refine blk_drewN ?_ _ | refine blk_drew ?_ | refine blk_alloc ?_ _)); refine blk_far ?_ NB259_271.out _; (with_reducible repeat (first | refine blk_drewN ?_ _ | refine blk_drew ?_ | refine blk_alloc ?_ _)); refine blk_far ?_ NB259_271.out _; (with_reducible repeat (first | refine blk_drewN ?_ _ | refine blk_drew ?_ | refine blk_alloc ?_ _)); exact BK259.out⟩
                have n2_ : Aside0 ((((w58.setCell ⟨gb271, 0, none⟩ (.int .i64 t263)).setCell ⟨gb271, 1, none⟩ (.slice Ao57 t266.length co57)).setCell ⟨gb271, 2, none⟩ (.string t267)).heap[gb271]? = some (.cells #[.int .i64 t263, .slice Ao57 t266.length co57, .string t267] 24 (0, 0))) := ⟨by (with_reducible repeat (first | refine blk_drewN ?_ _ | refine blk_drew ?_ | refine blk_alloc ?_ _)); refine blk_put (cs := #[.int .i64 t263, .slice Ao57 t266.length co57, .string (⟨#[]⟩ : ByteArray)]) ?_ 2 _ rfl; (with_reducible repeat (first | refine blk_drewN ?_ _ | refine blk_drew ?_ | refine blk_alloc ?_ _)); refine blk_put (cs := #[.int .i64 t263, .slice none 0 0, .string (⟨#[]⟩ : ByteArray)]) ?_ 1 _ rfl; (with_reducible repeat (first | refine blk_drewN ?_ _ | refine blk_drew ?_ | refine blk_alloc ?_ _)); refine blk_put (cs := #[.int .i64 0, .slice none 0 0, .string (⟨#[]⟩ : ByteArray)]) ?_ 0 _ rfl; (with_reducible repeat (first | refine blk_drewN ?_ _ | refine blk_drew ?_ | refine blk_alloc ?_ _)); exact BK271.out⟩
                have n3_ : Aside0 (Below w.heap.size w (((w58.setCell ⟨gb271, 0, none⟩ (.int .i64 t263)).setCell ⟨gb271, 1, none⟩ (.slice Ao57 t266.length co57)).setCell ⟨gb271, 2, none⟩ (.string t267))) := ⟨by repeat (first | (with_reducible first | exact HB.out | apply below_alloc | apply pw_below_drewN | apply below_drew1 | refine below_set ?_ GE259.out | refine below_set ?_ GE271.out) | exact HB.out | exact ⟨HB.out.os, HB.out.tape, HB.out.output, HB.out.size, HB.out.block⟩)⟩
                (try clear HO270)
                (try clear BK259)
                (try clear BK271)
                (try clear HB)
                generalize (((w58.setCell ⟨gb271, 0, none⟩ (.int .i64 t263)).setCell ⟨gb271, 1, none⟩ (.slice Ao57 t266.length co57)).setCell ⟨gb271, 2, none⟩ (.string t267)) = w69 at n0_ n1_ n2_ n3_ ⊢
                have HO270 := n0_
                have BK259 := n1_
                have BK271 := n2_
                have HB := n3_
                clear n0_ n1_ n2_ n3_
                have n0_ := Aside0.mk (Kd.R_drew HO270.out)
                have n1_ := Aside0.mk (blk_drew BK259.out)
                have n2_ := Aside0.mk (blk_drew BK271.out)
                have n3_ := Aside0.mk (below_drew1 HB.out)
                clear HO270
                clear BK259
                clear BK271
                clear HB
                have HO270 := n0_
                have BK259 := n1_
                have BK271 := n2_
                have HB := n3_
                clear n0_ n1_ n2_ n3_
                have p275 : 0 ≤ ((ji64) : Int) := of_decide_eq_true zb4
                have q275 : (ji64) < (t266.length : Int) := of_decide_eq_true zb4
                obtain ⟨ad275, e275, hx275_0, hx275_1⟩ := at_T41 (Kd.R_reads' HO270.out).2.2 (ji64) p275 q275
                cases e275
                replace p275 := eq_true p275
                replace q275 := eq_true q275
                have p276 : 0 ≤ ((ji64) : Int) := of_decide_eq_true zb4
                have q276 : (ji64) < (t266.length : Int) := of_decide_eq_true zb4
                obtain ⟨ad276, e276, hx276_0, hx276_1⟩ := at_T41 (Kd.R_reads' HO270.out).2.2 (ji64) p276 q276
                obtain rfl : ad275 = ad276 := (by injection e276)
                replace p276 := eq_true p276
                replace q276 := eq_true q276
                refine start_ (n := 21) (S := fun w' => w'.cell? (ad275.add (((ji64)).toNat * 2)) = some (.string ((rd_T41 t266 (ji64)).f0)) ∧ w'.cell? ⟨(ad275.add (((ji64)).toNat * 2)).block, (ad275.add (((ji64)).toNat * 2)).off + 1, none⟩ = some (.string ((rd_T41 t266 (ji64)).f1)) ∧ w'.cell? (ad275.add (((ji64)).toNat * 2)) = some (.string ((rd_T41 t266 (ji64)).f0)) ∧ w'.cell? ⟨(ad275.add (((ji64)).toNat * 2)).block, (ad275.add (((ji64)).toNat * 2)).off + 1, none⟩ = some (.string ((rd_T41 t266 (ji64)).f1))) (ds := []) #[false, false, false, false, false, false, false, false, false, false, false, false, false, false, false, false, false, false, false, false, false] zb10 rfl rfl ⟨hx275_0, hx275_1, hx276_0, hx276_1⟩ (fun hHeld => ?_); refine with_tabW broadsheetref21_Parse.tab17 broadsheetref21_Parse.bits17 (fun HT_ HW_ => ?_)
                skip
                refine pure_ (i := 0) (N := some 86) (v := ?_) (a' := ?_) #[true, false, false, false, false, false, false, false, false, false, false, false, false, false, false, false, false, false, false, false, false] rfl rfl (any_of HT_.out zb10) (fun _ _ _ h => h) (Or.inl ⟨by rfl, ?_⟩) ?_ ?_
                rotate_left
                ·intro w'
                 go_simp
                 first | with_reducible rfl | (rw [if_neg zb2])
                rotate_left
                ·simp only [Act.put, List.setIfInBounds_toArray, List.set_cons_zero, List.set_cons_succ, i64_w, i32_w]
                 rfl
                refine pure_ (i := 1) (N := some 87) (v := ?_) (a' := ?_) #[true, true, false, false, false, false, false, false, false, false, false, false, false, false, false, false, false, false, false, false, false] rfl rfl (any_of HT_.out zb10) (fun _ _ _ h => h) (Or.inl ⟨by rfl, ?_⟩) ?_ ?_
                rotate_left
                ·intro w'
                 go_simp
                 first | with_reducible rfl | (rw [if_neg zb2])
                rotate_left
                ·simp only [Act.put, List.setIfInBounds_toArray, List.set_cons_zero, List.set_cons_succ, i64_w, i32_w]
                 rfl
                refine pure_ (i := 2) (N := some 88) (v := ?_) (a' := ?_) #[true, true, true, false, false, false, false, false, false, false, false, false, false, false, false, false, false, false, false, false, false] rfl rfl (any_of HT_.out zb10) (fun _ _ _ h => h) (Or.inl ⟨by rfl, ?_⟩) ?_ ?_
                rotate_left
                ·intro w'
                 go_simp
                 first | with_reducible rfl | (rw [if_neg zb2])
                rotate_left
                ·simp only [Act.put, List.setIfInBounds_toArray, List.set_cons_zero, List.set_cons_succ, i64_w, i32_w]
                 rfl
                refine pure_ (i := 3) (N := some 89) (v := ?_) (a' := ?_) #[true, true, true, true, false, false, false, false, false, false, false, false, false, false, false, false, false, false, false, false, false] rfl rfl (any_of HT_.out zb10) (fun _ _ _ h => h) (Or.inl ⟨by rfl, ?_⟩) ?_ ?_
                rotate_left
                ·intro w'
                 go_simp
                 first | with_reducible rfl | (rw [if_neg zb2])
                rotate_left
                ·simp only [Act.put, List.setIfInBounds_toArray, List.set_cons_zero, List.set_cons_succ, i64_w, i32_w]
                 rfl
                refine pure_ (i := 4) (N := some 90) (v := ?_) (a' := ?_) #[true, true, true, true, true, false, false, false, false, false, false, false, false, false, false, false, false, false, false, false, false] rfl rfl (any_of HT_.out zb10) (fun _ _ _ h => h) (Or.inl ⟨by rfl, ?_⟩) ?_ ?_
                rotate_left
                ·intro w'
                 go_simp
                 first | with_reducible rfl | (rw [if_neg zb2])
                rotate_left
                ·simp only [Act.put, List.setIfInBounds_toArray, List.set_cons_zero, List.set_cons_succ, i64_w, i32_w]
                 rfl
                refine pure_ (i := 5) (N := some 91) (v := ?_) (a' := ?_) #[true, true, true, true, true, true, false, false, false, false, false, false, false, false, false, false, false, false, false, false, false] rfl rfl (any_of HT_.out zb10) (fun _ _ _ h => h) (Or.inl ⟨by rfl, ?_⟩) ?_ ?_
                rotate_left
                ·intro w'
                 go_simp
                 first | with_reducible rfl | (rw [if_neg zb2])
                rotate_left
                ·simp only [Act.put, List.setIfInBounds_toArray, List.set_cons_zero, List.set_cons_succ, i64_w, i32_w]
                 rfl
                refine pure_ (i := 6) (N := some 92) (v := ?_) (a' := ?_) #[true, true, true, true, true, true, true, false, false, false, false, false, false, false, false, false, false, false, false, false, false] rfl rfl (any_of HT_.out zb10) (fun _ _ _ h => h) (Or.inl ⟨by rfl, ?_⟩) ?_ ?_
                rotate_left
                ·intro w'
                 go_simp
                 first | with_reducible rfl | (rw [if_neg zb2])
                rotate_left
                ·simp only [Act.put, List.setIfInBounds_toArray, List.set_cons_zero, List.set_cons_succ, i64_w, i32_w]
                 rfl
                refine take_ (i := 7) (N := some 93) (v := ?_) (a' := ?_) #[true, true, true, true, true, true, true, true, false, false, false, false, false, false, false, false, false, false, false, false, false] rfl rfl (take_ofW HT_.out HW_.out zb10) (fun _ _ _ h => h) (Or.inl ⟨by rfl, ?_⟩) hHeld ?_ ?_
                rotate_left
                ·rintro w' ⟨s0, s1, s2, s3⟩
                 go_simp
                 first | with_reducible rfl | (rw [if_neg zb2])
                rotate_left
                ·simp only [Act.put, List.setIfInBounds_toArray, List.set_cons_zero, List.set_cons_succ, i64_w, i32_w]
                 rfl
                refine pure_ (i := 8) (N := some 94) (v := ?_) (a' := ?_) #[true, true, true, true, true, true, true, true, true, false, false, false, false, false, false, false, false, false, false, false, false] rfl rfl (any_of HT_.out zb10) (fun _ _ _ h => h) (Or.inl ⟨by rfl, ?_⟩) ?_ ?_
                rotate_left
                ·intro w'
                 go_simp
                 first | with_reducible rfl | (rw [if_neg zb2])
                rotate_left
                ·simp only [Act.put, List.setIfInBounds_toArray, List.set_cons_zero, List.set_cons_succ, i64_w, i32_w]
                 rfl
                refine pure_ (i := 9) (N := some 95) (v := ?_) (a' := ?_) #[true, true, true, true, true, true, true, true, true, true, false, false, false, false, false, false, false, false, false, false, false] rfl rfl (any_of HT_.out zb10) (fun _ _ _ h => h) (Or.inl ⟨by rfl, ?_⟩) ?_ ?_
                rotate_left
                ·intro w'
                 go_simp
                 first | with_reducible rfl | (rw [if_neg zb2])
                rotate_left
                ·simp only [Act.put, List.setIfInBounds_toArray, List.set_cons_zero, List.set_cons_succ, i64_w, i32_w]
                 rfl
                refine pure_ (i := 10) (N := some 96) (v := ?_) (a' := ?_) #[true, true, true, true, true, true, true, true, true, true, true, false, false, false, false, false, false, false, false, false, false] rfl rfl (any_of HT_.out zb10) (fun _ _ _ h => h) (Or.inl ⟨by rfl, ?_⟩) ?_ ?_
                rotate_left
                ·intro w'
                 go_simp
                 first | with_reducible rfl | (rw [if_neg zb2])
                rotate_left
                ·simp only [Act.put, List.setIfInBounds_toArray, List.set_cons_zero, List.set_cons_succ, i64_w, i32_w]
                 rfl
                refine pure_ (i := 11) (N := some 97) (v := ?_) (a' := ?_) #[true, true, true, true, true, true, true, true, true, true, true, true, false, false, false, false, false, false, false, false, false] rfl rfl (any_of HT_.out zb10) (fun _ _ _ h => h) (Or.inl ⟨by rfl, ?_⟩) ?_ ?_
                rotate_left
                ·intro w'
                 go_simp
                 first | with_reducible rfl | (rw [if_neg zb2])
                rotate_left
                ·simp only [Act.put, List.setIfInBounds_toArray, List.set_cons_zero, List.set_cons_succ, i64_w, i32_w]
                 rfl
                refine pure_ (i := 12) (N := some 98) (v := ?_) (a' := ?_) #[true, true, true, true, true, true, true, true, true, true, true, true, true, false, false, false, false, false, false, false, false] rfl rfl (any_of HT_.out zb10) (fun _ _ _ h => h) (Or.inl ⟨by rfl, ?_⟩) ?_ ?_
                rotate_left
                ·intro w'
                 go_simp
                 first | with_reducible rfl | (rw [if_neg zb2])
                rotate_left
                ·simp only [Act.put, List.setIfInBounds_toArray, List.set_cons_zero, List.set_cons_succ, i64_w, i32_w]
                 rfl
                refine pure_ (i := 13) (N := some 99) (v := ?_) (a' := ?_) #[true, true, true, true, true, true, true, true, true, true, true, true, true, true, false, false, false, false, false, false, false] rfl rfl (any_of HT_.out zb10) (fun _ _ _ h => h) (Or.inl ⟨by rfl, ?_⟩) ?_ ?_
                rotate_left
                ·intro w'
                 go_simp
                 first | with_reducible rfl | (rw [if_neg zb2])
                rotate_left
                ·simp only [Act.put, List.setIfInBounds_toArray, List.set_cons_zero, List.set_cons_succ, i64_w, i32_w]
                 rfl
                refine pure_ (i := 14) (N := some 100) (v := ?_) (a' := ?_) #[true, true, true, true, true, true, true, true, true, true, true, true, true, true, true, false, false, false, false, false, false] rfl rfl (any_of HT_.out zb10) (fun _ _ _ h => h) (Or.inl ⟨by rfl, ?_⟩) ?_ ?_
                rotate_left
                ·intro w'
                 go_simp
                 first | with_reducible rfl | (rw [if_neg zb2])
                rotate_left
                ·simp only [Act.put, List.setIfInBounds_toArray, List.set_cons_zero, List.set_cons_succ, i64_w, i32_w]
                 rfl
                refine pure_ (i := 16) (N := some 102) (v := ?_) (a' := ?_) #[true, true, true, true, true, true, true, true, true, true, true, true, true, true, true, false, true, false, false, false, false] rfl rfl (any_of HT_.out zb10) (fun _ _ _ h => h) (Or.inl ⟨by rfl, ?_⟩) ?_ ?_
                rotate_left
                ·intro w'
                 go_simp
                 first | with_reducible rfl | (rw [if_neg zb2])
                rotate_left
                ·simp only [Act.put, List.setIfInBounds_toArray, List.set_cons_zero, List.set_cons_succ, i64_w, i32_w]
                 rfl
                refine pure_ (i := 17) (N := some 103) (v := ?_) (a' := ?_) #[true, true, true, true, true, true, true, true, true, true, true, true, true, true, true, false, true, true, false, false, false] rfl rfl (any_of HT_.out zb10) (fun _ _ _ h => h) (Or.inl ⟨by rfl, ?_⟩) ?_ ?_
                rotate_left
                ·intro w'
                 go_simp
                 first | with_reducible rfl | (rw [if_neg zb2])
                rotate_left
                ·simp only [Act.put, List.setIfInBounds_toArray, List.set_cons_zero, List.set_cons_succ, i64_w, i32_w]
                 rfl
                refine take_ (i := 15) (N := some 101) (v := ?_) (a' := ?_) #[true, true, true, true, true, true, true, true, true, true, true, true, true, true, true, true, true, true, false, false, false] rfl rfl (take_ofW HT_.out HW_.out zb10) (fun _ _ _ h => h) (Or.inl ⟨by rfl, ?_⟩) hHeld ?_ ?_
                rotate_left
                ·rintro w' ⟨s0, s1, s2, s3⟩
                 go_simp
                 first | with_reducible rfl | (rw [if_neg zb2])
                rotate_left
                ·simp only [Act.put, List.setIfInBounds_toArray, List.set_cons_zero, List.set_cons_succ, i64_w, i32_w]
                 rfl
                refine one_ (i := 18) (N := some 104) #[true, true, true, true, true, true, true, true, true, true, true, true, true, true, true, true, true, true, true, false, false] rfl rfl (one_of HT_.out zb10) zb33 (fun K hK => ?_)
                refine goes_ Tryz.func25 zb10 rfl #[.int .i64 (t267.size : Int)] (by rfl) rfl rfl zb1 ?_
                with_reducible refine (broadsheetref03_Digits.calls kj16 (t267.size : Int) t277 _ A68.out).mono ?_
                rintro e w71 ⟨rfl, hb⟩
                have HS0_ := (hb.cell (World.block_lt_of_cell? _ _ (hHeld.1))).trans (hHeld.1)
                have HS1_ := (hb.cell (World.block_lt_of_cell? _ _ (hHeld.2.1))).trans (hHeld.2.1)
                have HS2_ := (hb.cell (World.block_lt_of_cell? _ _ (hHeld.2.2.1))).trans (hHeld.2.2.1)
                have HS3_ := (hb.cell (World.block_lt_of_cell? _ _ (hHeld.2.2.2))).trans (hHeld.2.2.2)
                refine ⟨_, rfl, ?_⟩
                have n0_ := Aside0.mk (Kd.R_below zb45 hb)
                have n1_ := Aside0.mk (blk_below (g := gb259) (o := .cells #[.int .i64 0, .slice none 0 0, .string (⟨#[]⟩ : ByteArray)] 24 (0, 0)) zb15 hb)
                have n2_ := Aside0.mk (blk_below (g := gb271) (o := .cells #[.int .i64 t263, .slice (some ad275) t266.length co57, .string t267] 24 (0, 0)) (by (with_reducible repeat (first | refine blk_drewN ?_ _ | refine blk_drew ?_ | refine blk_alloc ?_ _)); exact BK271.out) hb)
                have n3_ := Aside0.mk (below_step zb18 hb)
                clear HO270
                clear BK259
                clear BK271
                clear HB
                have HO270 := n0_
                have BK259 := n1_
                have BK271 := n2_
                have HB := n3_
                clear n0_ n1_ n2_ n3_
                (try clear hb)
                (try clear hb2)
                (try clear hk)
                (try clear hi)
                refine hK.out _ _ ⟨HS0_, HS1_, HS2_, HS3_⟩ (fun hHeld => ?_)
                clear hK K
                refine norm_ (a' := ?_) ?_ ?_
                rotate_left
                ·show Act.put _ (some 104) _ = _
                 simp only [Act.put, List.setIfInBounds_toArray, List.set_cons_zero, List.set_cons_succ, i64_w, i32_w]
                 rfl
                refine pure_ (i := 19) (N := some 105) (v := ?_) (a' := ?_) #[true, true, true, true, true, true, true, true, true, true, true, true, true, true, true, true, true, true, true, true, false] rfl rfl (any_of HT_.out zb10) (fun _ _ _ h => h) (Or.inl ⟨by rfl, ?_⟩) ?_ ?_
                rotate_left
                ·intro w'
                 go_simp
                 first | with_reducible rfl | (rw [if_neg zb2])
                rotate_left
                ·simp only [Act.put, List.setIfInBounds_toArray, List.set_cons_zero, List.set_cons_succ, i64_w, i32_w]
                 rfl
                refine pure_ (i := 20) (N := some 106) (v := ?_) (a' := ?_) #[true, true, true, true, true, true, true, true, true, true, true, true, true, true, true, true, true, true, true, true, true] rfl rfl (any_of HT_.out zb10) (fun _ _ _ h => h) (Or.inl ⟨by rfl, ?_⟩) ?_ ?_
                rotate_left
                ·intro w'
                 go_simp
                 first | with_reducible rfl | (rw [if_neg zb2])
                rotate_left
                ·simp only [Act.put, List.setIfInBounds_toArray, List.set_cons_zero, List.set_cons_succ, i64_w, i32_w]
                 rfl
                refine done_ (done_of HT_.out zb10) ?_
                try go_wp2
                (try (have hq_ := H'.out; rw [← hji64] at hq_; clear H'; have H' := Aside0.mk hq_))
                (try simp only [← hji64])
                go_meet
                case rel => exact ⟨_, ((((rd_T41 t266 ((wrap64 ((t266.length : Int) - 1)))).f1).toList != t277.toList)), (by first | rfl | (simp; done) | (simp only [← hji64] <;> (first | rfl | simp)) | (simp [*]; done)), H', ⟨by have := HJ2.out; have := HJ16.out; first | omega | exact Nat.le_refl _⟩, ⟨by (with_reducible repeat (first | apply Kd.R_alloc | apply Kd.R_drewN | apply Kd.R_drew)); exact HO270.out⟩, ⟨by (with_reducible repeat (first | apply Kd.R_alloc | apply Kd.R_drewN | apply Kd.R_drew)); exact HO270.out⟩, ⟨by (with_reducible repeat (first | refine blk_drewN ?_ _ | refine blk_drew ?_ | refine blk_alloc ?_ _)); exact BK259.out⟩, ⟨by (with_reducible repeat (first | refine blk_drewN ?_ _ | refine blk_drew ?_ | refine blk_alloc ?_ _)); exact BK271.out⟩, ⟨by repeat (first | (with_reducible first | exact HB.out | apply below_alloc | apply pw_below_drewN | apply below_drew1 | refine below_set ?_ GE259.out | refine below_set ?_ GE271.out) | exact HB.out | exact ⟨HB.out.os, HB.out.tape, HB.out.output, HB.out.size, HB.out.block⟩)⟩⟩
               ·rw [if_neg c67] at H
                have c67b0 : (((rd_T41 t266 (ji64)).f0).toList == ([99, 111, 110, 116, 101, 110, 116, 45, 108, 101, 110, 103, 116, 104] : List UInt8)) = false := beq_eq_false_iff_ne.mpr c67
                have c67b1 : (((rd_T41 t266 (ji64)).f0).toList != ([99, 111, 110, 116, 101, 110, 116, 45, 108, 101, 110, 103, 116, 104] : List UInt8)) = true := bne_iff_ne.mpr c67
                have H' := Aside0.mk H
                clear H
                try go_wp2
                have n0_ : Aside0 (Kd.R k41 41 (((w58.setCell ⟨gb271, 0, none⟩ (.int .i64 t263)).setCell ⟨gb271, 1, none⟩ (.slice Ao57 t266.length co57)).setCell ⟨gb271, 2, none⟩ (.string t267)) w.heap.size (fun _ => True) (.slice Ao57 t266.length co57) t266) := ⟨by (with_reducible repeat (first | apply Kd.R_alloc | apply Kd.R_drewN | apply Kd.R_drew)); exact Kd.R_mono (Kd.R_far (p := ⟨gb271, 2, none⟩) (Kd.R_far (p := ⟨gb271, 1, none⟩) (Kd.R_far (p := ⟨gb271, 0, none⟩) (Kd.R_types HO270.out BK271.out zb33) (fun _ hk => hk.2) (.int .i64 t263)) (fun _ hk => hk.2) (.slice Ao57 t266.length co57)) (fun _ hk => hk.2) (.string t267)) (fun _ hk => trivial)⟩
                have n1_ : Aside0 ((((w58.setCell ⟨gb271, 0, none⟩ (.int .i64 t263)).setCell ⟨gb271, 1, none⟩ (.slice Ao57 t266.length co57)).setCell ⟨gb271, 2, none⟩ (.string t267)).heap[gb259]? = some (.cells #[.int .i64 0, .slice none 0 0, .string (⟨#[]⟩ : ByteArray)] 24 (0, 0))) := ⟨by (with_reducible repeat (first | refine blk_drewN ?_ _ | refine blk_drew ?_ | refine blk_alloc ?_ _)); refine blk_far ?_ NB259_271.out _; (with_reducible repeat (first | refine blk_drewN ?_ _ | refine blk_drew ?_ | refine blk_alloc ?_ _)); refine blk_far ?_ NB259_271.out _; (with_reducible repeat (first | refine blk_drewN ?_ _ | refine blk_drew ?_ | refine blk_alloc ?_ _)); refine blk_far ?_ NB259_271.out _; (with_reducible repeat (first | refine blk_drewN ?_ _ | refine blk_drew ?_ | refine blk_alloc ?_ _)); exact BK259.out⟩
                have n2_ : Aside0 ((((w58.setCell ⟨gb271, 0, none⟩ (.int .i64 t263)).setCell ⟨gb271, 1, none⟩ (.slice Ao57 t266.length co57)).setCell ⟨gb271, 2, none⟩ (.string t267)).heap[gb271]? = some (.cells #[.int .i64 t263, .slice Ao57 t266.length co57, .string t267] 24 (0, 0))) := ⟨by (with_reducible repeat (first | refine blk_drewN ?_ _ | refine blk_drew ?_ | refine blk_alloc ?_ _)); refine blk_put (cs := #[.int .i64 t263, .slice Ao57 t266.length co57, .string (⟨#[]⟩ : ByteArray)]) ?_ 2 _ rfl; (with_reducible repeat (first | refine blk_drewN ?_ _ | refine blk_drew ?_ | refine blk_alloc ?_ _)); refine blk_put (cs := #[.int .i64 t263, .slice none 0 0, .string (⟨#[]⟩ : ByteArray)]) ?_ 1 _ rfl; (with_reducible repeat (first | refine blk_drewN ?_ _ | refine blk_drew ?_ | refine blk_alloc ?_ _)); refine blk_put (cs := #[.int .i64 0, .slice none 0 0, .string (⟨#[]⟩ : ByteArray)]) ?_ 0 _ rfl; (with_reducible repeat (first | refine blk_drewN ?_ _ | refine blk_drew ?_ | refine blk_alloc ?_ _)); exact BK271.out⟩
                have n3_ : Aside0 (Below w.heap.size w (((w58.setCell ⟨gb271, 0, none⟩ (.int .i64 t263)).setCell ⟨gb271, 1, none⟩ (.slice Ao57 t266.length co57)).setCell ⟨gb271, 2, none⟩ (.string t267))) := ⟨by repeat (first | (with_reducible first | exact HB.out | apply below_alloc | apply pw_below_drewN | apply below_drew1 | refine below_set ?_ GE259.out | refine below_set ?_ GE271.out) | exact HB.out | exact ⟨HB.out.os, HB.out.tape, HB.out.output, HB.out.size, HB.out.block⟩)⟩
                (try clear HO270)
                (try clear BK259)
                (try clear BK271)
                (try clear HB)
                generalize (((w58.setCell ⟨gb271, 0, none⟩ (.int .i64 t263)).setCell ⟨gb271, 1, none⟩ (.slice Ao57 t266.length co57)).setCell ⟨gb271, 2, none⟩ (.string t267)) = w72 at n0_ n1_ n2_ n3_ ⊢
                have HO270 := n0_
                have BK259 := n1_
                have BK271 := n2_
                have HB := n3_
                clear n0_ n1_ n2_ n3_
                have n0_ := Aside0.mk (Kd.R_drew HO270.out)
                have n1_ := Aside0.mk (blk_drew BK259.out)
                have n2_ := Aside0.mk (blk_drew BK271.out)
                have n3_ := Aside0.mk (below_drew1 HB.out)
                clear HO270
                clear BK259
                clear BK271
                clear HB
                have HO270 := n0_
                have BK259 := n1_
                have BK271 := n2_
                have HB := n3_
                clear n0_ n1_ n2_ n3_
                have p275 : 0 ≤ ((ji64) : Int) := of_decide_eq_true zb4
                have q275 : (ji64) < (t266.length : Int) := of_decide_eq_true zb4
                obtain ⟨ad275, e275, hx275_0, hx275_1⟩ := at_T41 (Kd.R_reads' HO270.out).2.2 (ji64) p275 q275
                cases e275
                replace p275 := eq_true p275
                replace q275 := eq_true q275
                refine start_ (n := 21) (S := fun w' => w'.cell? (ad275.add (((ji64)).toNat * 2)) = some (.string ((rd_T41 t266 (ji64)).f0)) ∧ w'.cell? ⟨(ad275.add (((ji64)).toNat * 2)).block, (ad275.add (((ji64)).toNat * 2)).off + 1, none⟩ = some (.string ((rd_T41 t266 (ji64)).f1))) (ds := []) #[false, false, false, false, false, false, false, false, false, false, false, false, false, false, false, false, false, false, false, false, false] zb10 rfl rfl ⟨hx275_0, hx275_1⟩ (fun hHeld => ?_); refine with_tabW broadsheetref21_Parse.tab17 broadsheetref21_Parse.bits17 (fun HT_ HW_ => ?_)
                skip
                refine pure_ (i := 0) (N := some 86) (v := ?_) (a' := ?_) #[true, false, false, false, false, false, false, false, false, false, false, false, false, false, false, false, false, false, false, false, false] rfl rfl (any_of HT_.out zb10) (fun _ _ _ h => h) (Or.inl ⟨by rfl, ?_⟩) ?_ ?_
                rotate_left
                ·intro w'
                 go_simp
                 first | with_reducible rfl | (rw [if_neg zb2])
                rotate_left
                ·simp only [Act.put, List.setIfInBounds_toArray, List.set_cons_zero, List.set_cons_succ, i64_w, i32_w]
                 rfl
                refine pure_ (i := 1) (N := some 87) (v := ?_) (a' := ?_) #[true, true, false, false, false, false, false, false, false, false, false, false, false, false, false, false, false, false, false, false, false] rfl rfl (any_of HT_.out zb10) (fun _ _ _ h => h) (Or.inl ⟨by rfl, ?_⟩) ?_ ?_
                rotate_left
                ·intro w'
                 go_simp
                 first | with_reducible rfl | (rw [if_neg zb2])
                rotate_left
                ·simp only [Act.put, List.setIfInBounds_toArray, List.set_cons_zero, List.set_cons_succ, i64_w, i32_w]
                 rfl
                refine pure_ (i := 2) (N := some 88) (v := ?_) (a' := ?_) #[true, true, true, false, false, false, false, false, false, false, false, false, false, false, false, false, false, false, false, false, false] rfl rfl (any_of HT_.out zb10) (fun _ _ _ h => h) (Or.inl ⟨by rfl, ?_⟩) ?_ ?_
                rotate_left
                ·intro w'
                 go_simp
                 first | with_reducible rfl | (rw [if_neg zb2])
                rotate_left
                ·simp only [Act.put, List.setIfInBounds_toArray, List.set_cons_zero, List.set_cons_succ, i64_w, i32_w]
                 rfl
                refine pure_ (i := 3) (N := some 89) (v := ?_) (a' := ?_) #[true, true, true, true, false, false, false, false, false, false, false, false, false, false, false, false, false, false, false, false, false] rfl rfl (any_of HT_.out zb10) (fun _ _ _ h => h) (Or.inl ⟨by rfl, ?_⟩) ?_ ?_
                rotate_left
                ·intro w'
                 go_simp
                 first | with_reducible rfl | (rw [if_neg zb2])
                rotate_left
                ·simp only [Act.put, List.setIfInBounds_toArray, List.set_cons_zero, List.set_cons_succ, i64_w, i32_w]
                 rfl
                refine pure_ (i := 4) (N := some 90) (v := ?_) (a' := ?_) #[true, true, true, true, true, false, false, false, false, false, false, false, false, false, false, false, false, false, false, false, false] rfl rfl (any_of HT_.out zb10) (fun _ _ _ h => h) (Or.inl ⟨by rfl, ?_⟩) ?_ ?_
                rotate_left
                ·intro w'
                 go_simp
                 first | with_reducible rfl | (rw [if_neg zb2])
                rotate_left
                ·simp only [Act.put, List.setIfInBounds_toArray, List.set_cons_zero, List.set_cons_succ, i64_w, i32_w]
                 rfl
                refine pure_ (i := 5) (N := some 91) (v := ?_) (a' := ?_) #[true, true, true, true, true, true, false, false, false, false, false, false, false, false, false, false, false, false, false, false, false] rfl rfl (any_of HT_.out zb10) (fun _ _ _ h => h) (Or.inl ⟨by rfl, ?_⟩) ?_ ?_
                rotate_left
                ·intro w'
                 go_simp
                 first | with_reducible rfl | (rw [if_neg zb2])
                rotate_left
                ·simp only [Act.put, List.setIfInBounds_toArray, List.set_cons_zero, List.set_cons_succ, i64_w, i32_w]
                 rfl
                refine pure_ (i := 6) (N := some 92) (v := ?_) (a' := ?_) #[true, true, true, true, true, true, true, false, false, false, false, false, false, false, false, false, false, false, false, false, false] rfl rfl (any_of HT_.out zb10) (fun _ _ _ h => h) (Or.inl ⟨by rfl, ?_⟩) ?_ ?_
                rotate_left
                ·intro w'
                 go_simp
                 first | with_reducible rfl | (rw [if_neg zb2])
                rotate_left
                ·simp only [Act.put, List.setIfInBounds_toArray, List.set_cons_zero, List.set_cons_succ, i64_w, i32_w]
                 rfl
                refine take_ (i := 7) (N := some 93) (v := ?_) (a' := ?_) #[true, true, true, true, true, true, true, true, false, false, false, false, false, false, false, false, false, false, false, false, false] rfl rfl (take_ofW HT_.out HW_.out zb10) (fun _ _ _ h => h) (Or.inl ⟨by rfl, ?_⟩) hHeld ?_ ?_
                rotate_left
                ·rintro w' ⟨s0, s1⟩
                 go_simp
                 first | with_reducible rfl | (rw [if_neg zb2])
                rotate_left
                ·simp only [Act.put, List.setIfInBounds_toArray, List.set_cons_zero, List.set_cons_succ, i64_w, i32_w]
                 rfl
                refine pure_ (i := 8) (N := some 94) (v := ?_) (a' := ?_) #[true, true, true, true, true, true, true, true, true, false, false, false, false, false, false, false, false, false, false, false, false] rfl rfl (any_of HT_.out zb10) (fun _ _ _ h => h) (Or.inl ⟨by rfl, ?_⟩) ?_ ?_
                rotate_left
                ·intro w'
                 go_simp
                 first | with_reducible rfl | (rw [if_neg zb2])
                rotate_left
                ·simp only [Act.put, List.setIfInBounds_toArray, List.set_cons_zero, List.set_cons_succ, i64_w, i32_w]
                 rfl
                refine pure_ (i := 9) (N := some 95) (v := ?_) (a' := ?_) #[true, true, true, true, true, true, true, true, true, true, false, false, false, false, false, false, false, false, false, false, false] rfl rfl (any_of HT_.out zb10) (fun _ _ _ h => h) (Or.inl ⟨by rfl, ?_⟩) ?_ ?_
                rotate_left
                ·intro w'
                 go_simp
                 first | with_reducible rfl | (rw [if_neg zb2])
                rotate_left
                ·simp only [Act.put, List.setIfInBounds_toArray, List.set_cons_zero, List.set_cons_succ, i64_w, i32_w]
                 rfl
                refine pure_ (i := 10) (N := some 96) (v := ?_) (a' := ?_) #[true, true, true, true, true, true, true, true, true, true, true, false, false, false, false, false, false, false, false, false, false] rfl rfl (any_of HT_.out zb10) (fun _ _ _ h => h) (Or.inl ⟨by rfl, ?_⟩) ?_ ?_
                rotate_left
                ·intro w'
                 go_simp
                 first | with_reducible rfl | (rw [if_neg zb2])
                rotate_left
                ·simp only [Act.put, List.setIfInBounds_toArray, List.set_cons_zero, List.set_cons_succ, i64_w, i32_w]
                 rfl
                refine pure_ (i := 11) (N := some 97) (v := undef) (a' := ?_) #[true, true, true, true, true, true, true, true, true, true, true, true, false, false, false, false, false, false, false, false, false] rfl rfl (any_of HT_.out zb10) (fun _ _ _ h => h) (Or.inr ⟨by rfl, rfl⟩) ?_ ?_
                rotate_left
                ·simp only [Act.put, List.setIfInBounds_toArray, List.set_cons_zero, List.set_cons_succ, i64_w, i32_w]
                 rfl
                refine pure_ (i := 12) (N := some 98) (v := undef) (a' := ?_) #[true, true, true, true, true, true, true, true, true, true, true, true, true, false, false, false, false, false, false, false, false] rfl rfl (any_of HT_.out zb10) (fun _ _ _ h => h) (Or.inr ⟨by rfl, rfl⟩) ?_ ?_
                rotate_left
                ·simp only [Act.put, List.setIfInBounds_toArray, List.set_cons_zero, List.set_cons_succ, i64_w, i32_w]
                 rfl
                refine pure_ (i := 13) (N := some 99) (v := undef) (a' := ?_) #[true, true, true, true, true, true, true, true, true, true, true, true, true, true, false, false, false, false, false, false, false] rfl rfl (any_of HT_.out zb10) (fun _ _ _ h => h) (Or.inr ⟨by rfl, rfl⟩) ?_ ?_
                rotate_left
                ·simp only [Act.put, List.setIfInBounds_toArray, List.set_cons_zero, List.set_cons_succ, i64_w, i32_w]
                 rfl
                refine pure_ (i := 14) (N := some 100) (v := undef) (a' := ?_) #[true, true, true, true, true, true, true, true, true, true, true, true, true, true, true, false, false, false, false, false, false] rfl rfl (any_of HT_.out zb10) (fun _ _ _ h => h) (Or.inr ⟨by rfl, rfl⟩) ?_ ?_
                rotate_left
                ·simp only [Act.put, List.setIfInBounds_toArray, List.set_cons_zero, List.set_cons_succ, i64_w, i32_w]
                 rfl
                refine pure_ (i := 15) (N := some 101) (v := undef) (a' := ?_) #[true, true, true, true, true, true, true, true, true, true, true, true, true, true, true, true, false, false, false, false, false] rfl rfl (any_of HT_.out zb10) (fun _ _ _ h => h) (Or.inr ⟨by rfl, rfl⟩) ?_ ?_
                rotate_left
                ·simp only [Act.put, List.setIfInBounds_toArray, List.set_cons_zero, List.set_cons_succ, i64_w, i32_w]
                 rfl
                refine pure_ (i := 16) (N := some 102) (v := undef) (a' := ?_) #[true, true, true, true, true, true, true, true, true, true, true, true, true, true, true, true, true, false, false, false, false] rfl rfl (any_of HT_.out zb10) (fun _ _ _ h => h) (Or.inr ⟨by rfl, rfl⟩) ?_ ?_
                rotate_left
                ·simp only [Act.put, List.setIfInBounds_toArray, List.set_cons_zero, List.set_cons_succ, i64_w, i32_w]
                 rfl
                refine pure_ (i := 17) (N := some 103) (v := undef) (a' := ?_) #[true, true, true, true, true, true, true, true, true, true, true, true, true, true, true, true, true, true, false, false, false] rfl rfl (any_of HT_.out zb10) (fun _ _ _ h => h) (Or.inr ⟨by rfl, rfl⟩) ?_ ?_
                rotate_left
                ·simp only [Act.put, List.setIfInBounds_toArray, List.set_cons_zero, List.set_cons_succ, i64_w, i32_w]
                 rfl
                refine pure_ (i := 18) (N := some 104) (v := undef) (a' := ?_) #[true, true, true, true, true, true, true, true, true, true, true, true, true, true, true, true, true, true, true, false, false] rfl rfl (any_of HT_.out zb10) (fun _ _ _ h => h) (Or.inr ⟨by rfl, rfl⟩) ?_ ?_
                rotate_left
                ·simp only [Act.put, List.setIfInBounds_toArray, List.set_cons_zero, List.set_cons_succ, i64_w, i32_w]
                 rfl
                refine pure_ (i := 19) (N := some 105) (v := undef) (a' := ?_) #[true, true, true, true, true, true, true, true, true, true, true, true, true, true, true, true, true, true, true, true, false] rfl rfl (any_of HT_.out zb10) (fun _ _ _ h => h) (Or.inr ⟨by rfl, rfl⟩) ?_ ?_
                rotate_left
                ·simp only [Act.put, List.setIfInBounds_toArray, List.set_cons_zero, List.set_cons_succ, i64_w, i32_w]
                 rfl
                refine pure_ (i := 20) (N := some 106) (v := ?_) (a' := ?_) #[true, true, true, true, true, true, true, true, true, true, true, true, true, true, true, true, true, true, true, true, true] rfl rfl (any_of HT_.out zb10) (fun _ _ _ h => h) (Or.inl ⟨by rfl, ?_⟩) ?_ ?_
                rotate_left
                ·intro w'
                 go_simp
                 first | with_reducible rfl | (rw [if_neg zb2])
                rotate_left
                ·simp only [Act.put, List.setIfInBounds_toArray, List.set_cons_zero, List.set_cons_succ, i64_w, i32_w]
                 rfl
                refine done_ (done_of HT_.out zb10) ?_
                try go_wp2
                (try (have hq_ := H'.out; rw [← hji64] at hq_; clear H'; have H' := Aside0.mk hq_))
                (try simp only [← hji64])
                go_meet
                case rel => exact ⟨_, (true), zb11, H', ⟨by have := HJ2.out; have := HJ16.out; first | omega | exact Nat.le_refl _⟩, ⟨by (with_reducible repeat (first | apply Kd.R_alloc | apply Kd.R_drewN | apply Kd.R_drew)); exact HO270.out⟩, ⟨by (with_reducible repeat (first | apply Kd.R_alloc | apply Kd.R_drewN | apply Kd.R_drew)); exact HO270.out⟩, ⟨by (with_reducible repeat (first | refine blk_drewN ?_ _ | refine blk_drew ?_ | refine blk_alloc ?_ _)); exact BK259.out⟩, ⟨by (with_reducible repeat (first | refine blk_drewN ?_ _ | refine blk_drew ?_ | refine blk_alloc ?_ _)); exact BK271.out⟩, ⟨by repeat (first | (with_reducible first | exact HB.out | apply below_alloc | apply pw_below_drewN | apply below_drew1 | refine below_set ?_ GE259.out | refine below_set ?_ GE271.out) | exact HB.out | exact ⟨HB.out.os, HB.out.tape, HB.out.output, HB.out.size, HB.out.block⟩)⟩⟩
              ·rw [if_neg c66] at H
               exact absurd H zb46
             ·rw [if_neg c65] at H
              exact absurd H zb46
           case rest =>
            clear HC55
            try clear c2
            try clear p2
            try clear q2
            try clear hx2
            try clear c6
            try clear p6
            try clear c25
            try clear p27
            try clear q27
            try clear hx27
            try clear c61
            try clear c61b0
            try clear p64
            try clear c65
            try clear c65b0
            try clear c66
            try clear c66b0
            try clear c67
            try clear c67b0
            try clear c67b1
            try clear hx275_0
            try clear hx275_1
            try clear hx276_0
            try clear hx276_1
            try clear p275
            try clear p276
            try clear q275
            try clear q276
            obtain ⟨kq, x106_54, rfl, HA, HJ54, HO_8, HO_272001, BK259, BK271, HB⟩ := hcut
            cases kq with
            | zero => exact absurd HA.out (by simp [broadsheetref21_Parse.j2])
            | succ kj54 =>
             have H := HA.out
             clear HA
             simp only [broadsheetref21_Parse.j2] at H
             by_cases c74 : x106_54 = true
             ·subst c74
              replace H : (some (0, ([] : List (S41)), (⟨#[]⟩ : ByteArray), 190)) = some (r1, r2, r3, r4) := by rw [if_pos rfl] at H; exact H
              simp only [Option.some.injEq, Prod.mk.injEq] at H
              obtain ⟨rfl, rfl, rfl, rfl⟩ := H
              have hnb75 := NB259_271.out
              have hnc75 := NB271_259.out
              have hcz76_0 : wc.cell? ⟨gb259, 0, none⟩ = some (.int .i64 0) := (blk_cell BK259.out 0).trans rfl
              have hcz76_1 : wc.cell? ⟨gb259, 1, none⟩ = some (.slice none 0 0) := (blk_cell BK259.out 1).trans rfl
              have hcz76_2 : wc.cell? ⟨gb259, 2, none⟩ = some (.string (⟨#[]⟩ : ByteArray)) := (blk_cell BK259.out 2).trans rfl
              have hfz76_0 := blk_frozen BK259.out 0
              have hfz76_1 := blk_frozen BK259.out 1
              have hfz76_2 := blk_frozen BK259.out 2
              go_wp2
              refine bodyPost_ret (results_ct rfl _ _ gb259 24 #[.int .i64 0, .slice none 0 0, .string (⟨#[]⟩ : ByteArray)] (0, 0) _ rfl zb6 Tryz.underlying24 rfl zb10) rfl ?_
              exact ⟨_, by first | rfl | (simp [errW_none, errW_some, bne_nil_] <;> rfl) | (simp [*, errW_none, errW_some] <;> rfl), by first | exact Kd.R_nil _ _ _ _ _ | exact Kd.N_nil _ _ _ _ _ | exact Kd.V_nil _ _ _ _ _ | exact Kd.Q_nil _ _ _ _ _ | exact Kd.S_nil _ _ _ _ _, by repeat (first | (with_reducible first | exact HB.out | apply below_alloc | apply pw_below_drewN | apply below_drew1 | refine below_set ?_ GE259.out | refine below_set ?_ GE271.out) | exact HB.out | exact ⟨HB.out.os, HB.out.tape, HB.out.output, HB.out.size, HB.out.block⟩)⟩
             ·replace c74 := Bool.eq_false_iff.mpr c74
              subst c74
              replace H : (if 0 ≤ (wrap64 ((t266.length : Int) - 1)) then (if (wrap64 ((t266.length : Int) - 1)) ≤ (t266.length : Int) then ((some (t266.take ((wrap64 ((t266.length : Int) - 1)) : Int).toNat : List (S41))).bind fun y278 => ((broadsheetref18_Get.f kj54 y278 (⟨#[99, 111, 110, 116, 101, 110, 116, 45, 108, 101, 110, 103, 116, 104]⟩ : ByteArray)).bind fun bt281 => (if bt281.2 > 0 then (some (0, ([] : List (S41)), (⟨#[]⟩ : ByteArray), 190)) else (if (t267.size : Int) > 100000 then (some (0, ([] : List (S41)), (⟨#[]⟩ : ByteArray), 190)) else (some (t263, y278, t267, 0)))))) else (none)) else (none)) = some (r1, r2, r3, r4) := by rw [if_neg (show ¬ (false = true) by decide)] at H; exact H
              obtain ⟨ji77, hji77⟩ : ∃ j_ : Int, (wrap64 ((t266.length : Int) - 1)) = j_ := ⟨_, rfl⟩
              replace H : (if 0 ≤ (ji77) then (if (ji77) ≤ (t266.length : Int) then ((some (t266.take ((ji77) : Int).toNat : List (S41))).bind fun y278 => ((broadsheetref18_Get.f kj54 y278 (⟨#[99, 111, 110, 116, 101, 110, 116, 45, 108, 101, 110, 103, 116, 104]⟩ : ByteArray)).bind fun bt281 => (if bt281.2 > 0 then (some (0, ([] : List (S41)), (⟨#[]⟩ : ByteArray), 190)) else (if (t267.size : Int) > 100000 then (some (0, ([] : List (S41)), (⟨#[]⟩ : ByteArray), 190)) else (some (t263, y278, t267, 0)))))) else (none)) else (none)) = some (r1, r2, r3, r4) := by first | (rw [hji77] at H; exact H) | (simp only [hji77] at H ⊢; exact H)
              have hji77w : (IntKind.i64.wrap ((t266.length : Int) - 1)) = ji77 := (i64_w _).trans hji77
              by_cases c78 : 0 ≤ (ji77)
              ·rw [if_pos c78] at H
               have c78b0 := eq_true c78
               have c78b1 : decide (0 ≤ (ji77)) = true := decide_eq_true c78
               clear c78
               by_cases c79 : (ji77) ≤ (t266.length : Int)
               ·rw [if_pos c79] at H
                have c79b0 := eq_true c79
                have c79b1 : decide ((ji77) ≤ (t266.length : Int)) = true := decide_eq_true c79
                clear c79
                obtain ⟨y278, hy278⟩ : ∃ y_ : List (S41), y_ = (t266.take ((ji77) : Int).toNat) := ⟨_, rfl⟩
                replace H : ((broadsheetref18_Get.f kj54 y278 (⟨#[99, 111, 110, 116, 101, 110, 116, 45, 108, 101, 110, 103, 116, 104]⟩ : ByteArray)).bind fun bt281 => (if bt281.2 > 0 then (some (0, ([] : List (S41)), (⟨#[]⟩ : ByteArray), 190)) else (if (t267.size : Int) > 100000 then (some (0, ([] : List (S41)), (⟨#[]⟩ : ByteArray), 190)) else (some (t263, y278, t267, 0))))) = some (r1, r2, r3, r4) := by first | (rw [hy278]; with_reducible exact H) | (have H2_ := (Option.bind_some _ _).symm.trans H; rw [hy278]; with_reducible exact H2_) | (have H2_ := (Option.bind_some _ _).symm.trans H; with_reducible exact H2_) | with_reducible exact H | (rw [hy278]; exact H) | exact H
                have Ny278 := Aside0.mk hy278
                clear hy278
                replace H := Option.bind_eq_some_iff.mp H
                obtain ⟨⟨t281, t282⟩, A800, H⟩ := H
                replace H : (if t282 > 0 then (some (0, ([] : List (S41)), (⟨#[]⟩ : ByteArray), 190)) else (if (t267.size : Int) > 100000 then (some (0, ([] : List (S41)), (⟨#[]⟩ : ByteArray), 190)) else (some (t263, y278, t267, 0)))) = some (r1, r2, r3, r4) := H
                have A80 := Aside0.mk A800
                clear A800
                by_cases c81 : t282 > 0
                ·rw [if_pos c81] at H
                 have c81b0 : decide (0 < t282) = true := decide_eq_true c81
                 clear c81
                 simp only [Option.some.injEq, Prod.mk.injEq] at H
                 obtain ⟨rfl, rfl, rfl, rfl⟩ := H
                 have q82 : ((ji77) : Int) ≤ ((t266.length : Int) : Int) := of_decide_eq_true zb4
                 obtain ⟨i082, hi082, _, hsz82, _⟩ := info_parts info41
                 have hcut82 := cut_to (P := Tryz.prog) 22 41 .i64 Tryz.underlying22 hi082 Ao57 t266.length co57 (ji77) (of_decide_eq_true zb4) q82 (Kd.R_reads' HO_8.out).2.1
                 have hr82 := Kd.R_take (m := ((ji77) : Int).toNat) HO_8.out zb30
                 have hy82 : y278.length = ((ji77) : Int).toNat := (by rw [Ny278.out, List.length_take]; omega)
                 rw [← Ny278.out] at hr82
                 rw [← hy82] at hr82 hcut82
                 clear hy82 hi082 hsz82 HO_8
                 have HO280 := Aside0.mk hr82
                 clear hr82
                 replace q82 := eq_true q82
                 have hnb83 := NB271_259.out
                 have hnc83 := NB259_271.out
                 have hcz84_0 : wc.cell? ⟨gb271, 0, none⟩ = some (.int .i64 t263) := (blk_cell BK271.out 0).trans rfl
                 have hcz84_1 : wc.cell? ⟨gb271, 1, none⟩ = some (.slice Ao57 t266.length co57) := (blk_cell BK271.out 1).trans rfl
                 have hcz84_2 : wc.cell? ⟨gb271, 2, none⟩ = some (.string t267) := (blk_cell BK271.out 2).trans rfl
                 have hfz84_0 := blk_frozen BK271.out 0
                 have hfz84_1 := blk_frozen BK271.out 1
                 have hfz84_2 := blk_frozen BK271.out 2
                 go_wp2_with (first | ((with_reducible refine gate_callee (f := 24) rfl ?_); refine goesL_ (some 115) rfl rfl Tryz.func24 zb10 rfl #[.slice Ao57 y278.length co57, .string (⟨#[99, 111, 110, 116, 101, 110, 116, 45, 108, 101, 110, 103, 116, 104]⟩ : ByteArray)] rfl zb1 ?_; (with_reducible refine (broadsheetref18_Get.calls kj54 _ _ y278 (⟨#[99, 111, 110, 116, 101, 110, 116, 45, 108, 101, 110, 103, 116, 104]⟩ : ByteArray) t281 t282 _ ?side1 ?side2 A80.out).mono ?_); (case side1 => refine (Kd.R_reads' (e := 41) (base := w.heap.size) (ok := fun k_ => True) (n := y278.length) (c := co57) ?_).2.2; exact zb20); (case side2 => exact (Kd.R_reads' HO280.out).2.1); rintro e w85 ⟨rfl, hb⟩; refine ⟨_, rfl, ?_⟩; have n0_ := Aside0.mk (Kd.R_below zb20 hb); have n1_ := Aside0.mk (Kd.R_below zb42 hb); have n2_ := Aside0.mk (blk_below (g := gb259) (o := .cells #[.int .i64 0, .slice none 0 0, .string (⟨#[]⟩ : ByteArray)] 24 (0, 0)) zb43 hb); have n3_ := Aside0.mk (blk_below (g := gb271) (o := .cells #[.int .i64 t263, .slice Ao57 y278.length co57, .string t267] 24 (0, 0)) zb36 hb); have n4_ := Aside0.mk (below_step zb18 hb); clear HO280; clear HO_272001; clear BK259; clear BK271; clear HB; have HO280 := n0_; have HO_272001 := n1_; have BK259 := n2_; have BK271 := n3_; have HB := n4_; clear n0_ n1_ n2_ n3_ n4_; (try clear hb); (try clear hb2); (try clear hk); (try clear hi); have hcz86_0 : w85.cell? ⟨gb259, 0, none⟩ = some (.int .i64 0) := (blk_cell BK259.out 0).trans rfl; have hcz86_1 : w85.cell? ⟨gb259, 1, none⟩ = some (.slice none 0 0) := (blk_cell BK259.out 1).trans rfl; have hcz86_2 : w85.cell? ⟨gb259, 2, none⟩ = some (.string (⟨#[]⟩ : ByteArray)) := (blk_cell BK259.out 2).trans rfl; have hfz86_0 := blk_frozen BK259.out 0; have hfz86_1 := blk_frozen BK259.out 1; have hfz86_2 := blk_frozen BK259.out 2))
                 refine bodyPost_ret (results_ct rfl _ _ gb259 24 #[.int .i64 0, .slice none 0 0, .string (⟨#[]⟩ : ByteArray)] (0, 0) _ rfl zb6 Tryz.underlying24 rfl zb10) rfl ?_
                 exact ⟨_, by first | rfl | (simp [errW_none, errW_some, bne_nil_] <;> rfl) | (simp only [← hji77]; first | rfl | (simp [errW_none, errW_some, bne_nil_] <;> rfl)) | (simp [*, errW_none, errW_some] <;> rfl), by first | exact Kd.R_nil _ _ _ _ _ | exact Kd.N_nil _ _ _ _ _ | exact Kd.V_nil _ _ _ _ _ | exact Kd.Q_nil _ _ _ _ _ | exact Kd.S_nil _ _ _ _ _, by repeat (first | (with_reducible first | exact HB.out | apply below_alloc | apply pw_below_drewN | apply below_drew1 | refine below_set ?_ GE259.out | refine below_set ?_ GE271.out) | exact HB.out | exact ⟨HB.out.os, HB.out.tape, HB.out.output, HB.out.size, HB.out.block⟩)⟩
                ·rw [if_neg c81] at H
                 have c81b0 : decide (0 < t282) = false := decide_eq_false c81
                 clear c81
                 by_cases c87 : (t267.size : Int) > 100000
                 ·rw [if_pos c87] at H
                  have c87b0 : decide (100000 < (t267.size : Int)) = true := decide_eq_true c87
                  have c87b1 : decide (100000 < t267.size) = true := decide_eq_true zb30
                  clear c87
                  simp only [Option.some.injEq, Prod.mk.injEq] at H
                  obtain ⟨rfl, rfl, rfl, rfl⟩ := H
                  have q88 : ((ji77) : Int) ≤ ((t266.length : Int) : Int) := of_decide_eq_true zb4
                  obtain ⟨i088, hi088, _, hsz88, _⟩ := info_parts info41
                  have hcut88 := cut_to (P := Tryz.prog) 22 41 .i64 Tryz.underlying22 hi088 Ao57 t266.length co57 (ji77) (of_decide_eq_true zb4) q88 (Kd.R_reads' HO_8.out).2.1
                  have hr88 := Kd.R_take (m := ((ji77) : Int).toNat) HO_8.out zb30
                  have hy88 : y278.length = ((ji77) : Int).toNat := (by rw [Ny278.out, List.length_take]; omega)
                  rw [← Ny278.out] at hr88
                  rw [← hy88] at hr88 hcut88
                  clear hy88 hi088 hsz88 HO_8
                  have HO280 := Aside0.mk hr88
                  clear hr88
                  replace q88 := eq_true q88
                  have hnb89 := NB271_259.out
                  have hnc89 := NB259_271.out
                  have hcz90_0 : wc.cell? ⟨gb271, 0, none⟩ = some (.int .i64 t263) := (blk_cell BK271.out 0).trans rfl
                  have hcz90_1 : wc.cell? ⟨gb271, 1, none⟩ = some (.slice Ao57 t266.length co57) := (blk_cell BK271.out 1).trans rfl
                  have hcz90_2 : wc.cell? ⟨gb271, 2, none⟩ = some (.string t267) := (blk_cell BK271.out 2).trans rfl
                  have hfz90_0 := blk_frozen BK271.out 0
                  have hfz90_1 := blk_frozen BK271.out 1
                  have hfz90_2 := blk_frozen BK271.out 2
                  go_wp2_with (first | ((with_reducible refine gate_callee (f := 24) rfl ?_); refine goesL_ (some 115) rfl rfl Tryz.func24 zb10 rfl #[.slice Ao57 y278.length co57, .string (⟨#[99, 111, 110, 116, 101, 110, 116, 45, 108, 101, 110, 103, 116, 104]⟩ : ByteArray)] rfl zb1 ?_; (with_reducible refine (broadsheetref18_Get.calls kj54 _ _ y278 (⟨#[99, 111, 110, 116, 101, 110, 116, 45, 108, 101, 110, 103, 116, 104]⟩ : ByteArray) t281 t282 _ ?side1 ?side2 A80.out).mono ?_); (case side1 => refine (Kd.R_reads' (e := 41) (base := w.heap.size) (ok := fun k_ => True) (n := y278.length) (c := co57) ?_).2.2; exact zb20); (case side2 => exact (Kd.R_reads' HO280.out).2.1); rintro e w91 ⟨rfl, hb⟩; refine ⟨_, rfl, ?_⟩; have n0_ := Aside0.mk (Kd.R_below zb20 hb); have n1_ := Aside0.mk (Kd.R_below zb42 hb); have n2_ := Aside0.mk (blk_below (g := gb259) (o := .cells #[.int .i64 0, .slice none 0 0, .string (⟨#[]⟩ : ByteArray)] 24 (0, 0)) zb43 hb); have n3_ := Aside0.mk (blk_below (g := gb271) (o := .cells #[.int .i64 t263, .slice Ao57 y278.length co57, .string t267] 24 (0, 0)) zb36 hb); have n4_ := Aside0.mk (below_step zb18 hb); clear HO280; clear HO_272001; clear BK259; clear BK271; clear HB; have HO280 := n0_; have HO_272001 := n1_; have BK259 := n2_; have BK271 := n3_; have HB := n4_; clear n0_ n1_ n2_ n3_ n4_; (try clear hb); (try clear hb2); (try clear hk); (try clear hi); have hcz92_0 : w91.cell? ⟨gb259, 0, none⟩ = some (.int .i64 0) := (blk_cell BK259.out 0).trans rfl; have hcz92_1 : w91.cell? ⟨gb259, 1, none⟩ = some (.slice none 0 0) := (blk_cell BK259.out 1).trans rfl; have hcz92_2 : w91.cell? ⟨gb259, 2, none⟩ = some (.string (⟨#[]⟩ : ByteArray)) := (blk_cell BK259.out 2).trans rfl; have hfz92_0 := blk_frozen BK259.out 0; have hfz92_1 := blk_frozen BK259.out 1; have hfz92_2 := blk_frozen BK259.out 2))
                  refine bodyPost_ret (results_ct rfl _ _ gb259 24 #[.int .i64 0, .slice none 0 0, .string (⟨#[]⟩ : ByteArray)] (0, 0) _ rfl zb6 Tryz.underlying24 rfl zb10) rfl ?_
                  exact ⟨_, by first | rfl | (simp [errW_none, errW_some, bne_nil_] <;> rfl) | (simp only [← hji77]; first | rfl | (simp [errW_none, errW_some, bne_nil_] <;> rfl)) | (simp [*, errW_none, errW_some] <;> rfl), by first | exact Kd.R_nil _ _ _ _ _ | exact Kd.N_nil _ _ _ _ _ | exact Kd.V_nil _ _ _ _ _ | exact Kd.Q_nil _ _ _ _ _ | exact Kd.S_nil _ _ _ _ _, by repeat (first | (with_reducible first | exact HB.out | apply below_alloc | apply pw_below_drewN | apply below_drew1 | refine below_set ?_ GE259.out | refine below_set ?_ GE271.out) | exact HB.out | exact ⟨HB.out.os, HB.out.tape, HB.out.output, HB.out.size, HB.out.block⟩)⟩
                 ·rw [if_neg c87] at H
                  have c87b0 : decide (100000 < (t267.size : Int)) = false := decide_eq_false c87
                  have c87b1 : decide (100000 < t267.size) = false := decide_eq_false zb30
                  clear c87
                  simp only [Option.some.injEq, Prod.mk.injEq] at H
                  obtain ⟨rfl, rfl, rfl, rfl⟩ := H
                  have q93 : ((ji77) : Int) ≤ ((t266.length : Int) : Int) := of_decide_eq_true zb4
                  obtain ⟨i093, hi093, _, hsz93, _⟩ := info_parts info41
                  have hcut93 := cut_to (P := Tryz.prog) 22 41 .i64 Tryz.underlying22 hi093 Ao57 t266.length co57 (ji77) (of_decide_eq_true zb4) q93 (Kd.R_reads' HO_8.out).2.1
                  have hr93 := Kd.R_take (m := ((ji77) : Int).toNat) HO_8.out zb30
                  have hy93 : y278.length = ((ji77) : Int).toNat := (by rw [Ny278.out, List.length_take]; omega)
                  rw [← Ny278.out] at hr93
                  rw [← hy93] at hr93 hcut93
                  clear hy93 hi093 hsz93 HO_8
                  have HO280 := Aside0.mk hr93
                  clear hr93
                  replace q93 := eq_true q93
                  have hnb94 := NB271_259.out
                  have hnc94 := NB259_271.out
                  have hcz95_0 : wc.cell? ⟨gb271, 0, none⟩ = some (.int .i64 t263) := (blk_cell BK271.out 0).trans rfl
                  have hcz95_1 : wc.cell? ⟨gb271, 1, none⟩ = some (.slice Ao57 t266.length co57) := (blk_cell BK271.out 1).trans rfl
                  have hcz95_2 : wc.cell? ⟨gb271, 2, none⟩ = some (.string t267) := (blk_cell BK271.out 2).trans rfl
                  have hfz95_0 := blk_frozen BK271.out 0
                  have hfz95_1 := blk_frozen BK271.out 1
                  have hfz95_2 := blk_frozen BK271.out 2
                  go_wp2_with (first | ((with_reducible refine gate_callee (f := 24) rfl ?_); refine goesL_ (some 115) rfl rfl Tryz.func24 zb10 rfl #[.slice Ao57 y278.length co57, .string (⟨#[99, 111, 110, 116, 101, 110, 116, 45, 108, 101, 110, 103, 116, 104]⟩ : ByteArray)] rfl zb1 ?_; (with_reducible refine (broadsheetref18_Get.calls kj54 _ _ y278 (⟨#[99, 111, 110, 116, 101, 110, 116, 45, 108, 101, 110, 103, 116, 104]⟩ : ByteArray) t281 t282 _ ?side1 ?side2 A80.out).mono ?_); (case side1 => refine (Kd.R_reads' (e := 41) (base := w.heap.size) (ok := fun k_ => True) (n := y278.length) (c := co57) ?_).2.2; exact zb20); (case side2 => exact (Kd.R_reads' HO280.out).2.1); rintro e w96 ⟨rfl, hb⟩; refine ⟨_, rfl, ?_⟩; have n0_ := Aside0.mk (Kd.R_below zb20 hb); have n1_ := Aside0.mk (Kd.R_below zb42 hb); have n2_ := Aside0.mk (blk_below (g := gb259) (o := .cells #[.int .i64 0, .slice none 0 0, .string (⟨#[]⟩ : ByteArray)] 24 (0, 0)) zb43 hb); have n3_ := Aside0.mk (blk_below (g := gb271) (o := .cells #[.int .i64 t263, .slice Ao57 y278.length co57, .string t267] 24 (0, 0)) zb36 hb); have n4_ := Aside0.mk (below_step zb18 hb); clear HO280; clear HO_272001; clear BK259; clear BK271; clear HB; have HO280 := n0_; have HO_272001 := n1_; have BK259 := n2_; have BK271 := n3_; have HB := n4_; clear n0_ n1_ n2_ n3_ n4_; (try clear hb); (try clear hb2); (try clear hk); (try clear hi); have hcz97_0 : w96.cell? ⟨gb271, 0, none⟩ = some (.int .i64 t263) := (blk_cell BK271.out 0).trans rfl; have hcz97_1 : w96.cell? ⟨gb271, 1, none⟩ = some (.slice Ao57 y278.length co57) := (blk_cell BK271.out 1).trans rfl; have hcz97_2 : w96.cell? ⟨gb271, 2, none⟩ = some (.string t267) := (blk_cell BK271.out 2).trans rfl; have hfz97_0 := blk_frozen BK271.out 0; have hfz97_1 := blk_frozen BK271.out 1; have hfz97_2 := blk_frozen BK271.out 2; have hcz98_0 : w96.cell? ⟨gb259, 0, none⟩ = some (.int .i64 0) := (blk_cell BK259.out 0).trans rfl; have hcz98_1 : w96.cell? ⟨gb259, 1, none⟩ = some (.slice none 0 0) := (blk_cell BK259.out 1).trans rfl; have hcz98_2 : w96.cell? ⟨gb259, 2, none⟩ = some (.string (⟨#[]⟩ : ByteArray)) := (blk_cell BK259.out 2).trans rfl; have hfz98_0 := blk_frozen BK259.out 0; have hfz98_1 := blk_frozen BK259.out 1; have hfz98_2 := blk_frozen BK259.out 2))
                  refine bodyPost_ret (results_ct rfl _ _ gb259 24 #[.int .i64 t263, .slice Ao57 y278.length co57, .string t267] (0, 0) _ rfl (by (with_reducible repeat (first | refine blk_drewN ?_ _ | refine blk_drew ?_ | refine blk_alloc ?_ _)); refine blk_put (cs := #[.int .i64 t263, .slice Ao57 y278.length co57, .string (⟨#[]⟩ : ByteArray)]) ?_ 2 _ rfl; (with_reducible repeat (first | refine blk_drewN ?_ _ | refine blk_drew ?_ | refine blk_alloc ?_ _)); refine blk_put (cs := #[.int .i64 t263, .slice none 0 0, .string (⟨#[]⟩ : ByteArray)]) ?_ 1 _ rfl; (with_reducible repeat (first | refine blk_drewN ?_ _ | refine blk_drew ?_ | refine blk_alloc ?_ _)); refine blk_put (cs := #[.int .i64 0, .slice none 0 0, .string (⟨#[]⟩ : ByteArray)]) ?_ 0 _ rfl; (with_reducible repeat (first | refine blk_drewN ?_ _ | refine blk_drew ?_ | refine blk_alloc ?_ _)); exact BK259.out) Tryz.underlying24 rfl zb10) rfl ?_
                  exact ⟨_, by first | rfl | (simp [errW_none, errW_some, bne_nil_] <;> rfl) | (simp only [← hji77]; first | rfl | (simp [errW_none, errW_some, bne_nil_] <;> rfl)) | (simp [*, errW_none, errW_some] <;> rfl), by (with_reducible repeat (first | apply Kd.R_alloc | apply Kd.R_drewN | apply Kd.R_drew)); exact Kd.R_mono (Kd.R_far (p := ⟨gb259, 2, none⟩) (Kd.R_far (p := ⟨gb259, 1, none⟩) (Kd.R_far (p := ⟨gb259, 0, none⟩) (Kd.R_types HO280.out BK259.out zb33) (fun _ hk => hk.2) (.int .i64 t263)) (fun _ hk => hk.2) (.slice Ao57 y278.length co57)) (fun _ hk => hk.2) (.string t267)) (fun _ hk => trivial), by repeat (first | (with_reducible first | exact HB.out | apply below_alloc | apply pw_below_drewN | apply below_drew1 | refine below_set ?_ GE259.out | refine below_set ?_ GE271.out) | exact HB.out | exact ⟨HB.out.os, HB.out.tape, HB.out.output, HB.out.size, HB.out.block⟩)⟩
               ·rw [if_neg c79] at H
                exact absurd H zb46
              ·rw [if_neg c78] at H
               exact absurd H zb46
         ·rw [if_neg c27] at H
          have c27b0 : (t268 == 0) = false := beq_eq_false_iff_ne.mpr c27
          have c27b1 : (t268 != 0) = true := bne_iff_ne.mpr c27
          simp only [Option.some.injEq, Prod.mk.injEq] at H
          obtain ⟨rfl, rfl, rfl, rfl⟩ := H
          go_wp2_with (first | ((with_reducible refine gate_callee (f := 32) rfl ?_); refine goesL_ (some 56) rfl rfl Tryz.func32 zb10 rfl #[.string t261] rfl zb1 ?_; (with_reducible refine (broadsheetref18_Parse.calls kj16 t261 t266 t267 t268 _ A26.out).mono ?_); rintro e w99 ⟨v269, rfl, ho0, hb⟩; refine ⟨_, rfl, ?_⟩; have n0_ := Aside0.mk (Kd.R_lower ho0 (below_size zb5)); have n1_ := Aside0.mk (blk_below (g := gb259) (o := .cells #[.int .i64 0, .slice none 0 0, .string (⟨#[]⟩ : ByteArray)] 24 (0, 0)) zb15 hb); have n2_ := Aside0.mk (below_step zb5 hb); clear BK259; clear HB; have HO270 := n0_; have BK259 := n1_; have HB := n2_; clear n0_ n1_ n2_; (try clear hb); (try clear hb2); (try clear hk); (try clear hi); (try clear ho0); have hcz100_0 : w99.cell? ⟨gb259, 0, none⟩ = some (.int .i64 0) := (blk_cell BK259.out 0).trans rfl; have hcz100_1 : w99.cell? ⟨gb259, 1, none⟩ = some (.slice none 0 0) := (blk_cell BK259.out 1).trans rfl; have hcz100_2 : w99.cell? ⟨gb259, 2, none⟩ = some (.string (⟨#[]⟩ : ByteArray)) := (blk_cell BK259.out 2).trans rfl; have hfz100_0 := blk_frozen BK259.out 0; have hfz100_1 := blk_frozen BK259.out 1; have hfz100_2 := blk_frozen BK259.out 2))
          refine bodyPost_ret (results_ct rfl _ _ gb259 24 #[.int .i64 0, .slice none 0 0, .string (⟨#[]⟩ : ByteArray)] (0, 0) _ rfl zb6 Tryz.underlying24 rfl zb10) rfl ?_
          exact ⟨_, by first | rfl | (simp [errW_none, errW_some, bne_nil_] <;> rfl) | (simp [*, errW_none, errW_some] <;> rfl), by first | exact Kd.R_nil _ _ _ _ _ | exact Kd.N_nil _ _ _ _ _ | exact Kd.V_nil _ _ _ _ _ | exact Kd.Q_nil _ _ _ _ _ | exact Kd.S_nil _ _ _ _ _, by repeat (first | (with_reducible first | exact HB.out | apply below_alloc | apply pw_below_drewN | apply below_drew1 | refine below_set ?_ GE259.out) | exact HB.out | exact ⟨HB.out.os, HB.out.tape, HB.out.output, HB.out.size, HB.out.block⟩)⟩
     ·rw [if_neg c15] at H
      exact absurd H zb46
    ·rw [if_neg c14] at H
     exact absurd H zb46
end Go.Proofs.YtaopopnlnohnpaaGreatDoor.P
-- fix-d2
/- Px33 -/
namespace Go.Proofs.YtaopopnlnohnpaaGreatDoor.P
open Go.Proofs.YtaopopnlnohnpaaGreatDoor.B
open Go.RowKit Go.Proofs.YtaopopnlnohnpaaGreatDoorW.PrintWords Go.Proofs.YtaopopnlnohnpaaGreatDoorW.PrintLast Go.Proofs.YtaopopnlnohnpaaGreatDoorW.PrintMore
attribute [local go_sem] str_leq str_gtr str_geq max2_int min2_int max_two min_two max_three min_three max_four min_four
set_option linter.unusedVariables false
set_option linter.unusedSimpArgs false
attribute [local go_sem high] eqA41
def broadsheetref07_SamePairs.l0 : Nat → List (S41) → List (S41) → Int → Option (Bool)
  | 0, _, _, _ => none
  | k + 1, x0, x1, x5 => if x5 < (x0.length : Int) then (if 0 ≤ x5 then (if x5 < (x1.length : Int) then (if (!((((rd_T41 x0 x5).f0).toList) == (((rd_T41 x1 x5).f0).toList)) || (!((((rd_T41 x0 x5).f1).toList) == (((rd_T41 x1 x5).f1).toList)))) = true then (some false) else (broadsheetref07_SamePairs.l0 k x0 x1 (wrap64 (x5 + 1)))) else (none)) else (none)) else (some true)
def broadsheetref07_SamePairs.f (k : Nat) (l0 : List (S41)) (l1 : List (S41)) : Option (Bool) := if (l0.length : Int) = (l1.length : Int) then (broadsheetref07_SamePairs.l0 k l0 l1 0) else (some false)
set_option maxHeartbeats 8000000 in
set_option maxRecDepth 100000 in
theorem broadsheetref07_SamePairs.calls (k : Nat) (A0 : Option Addr) (c0 : Nat) (l0 : List (S41)) (A1 : Option Addr) (c1 : Nat) (l1 : List (S41)) (r : Bool) (w : World) (hr0 : Kd.C k41 w A0 l0.length l0) (hc0 : l0.length ≤ c0) (hr1 : Kd.C k41 w A1 l1.length l1) (hc1 : l1.length ≤ c1) (h : broadsheetref07_SamePairs.f k l0 l1 = some r) (hr : r = true) :
  Calls Tryz.prog 33 #[.slice A0 l0.length c0, .slice A1 l1.length c1] w fun e w' => e = .returned (.bool r) ∧ Drawn0 w w' := by
 have hu41 := Tryz.underlying41
 have HR0 := Aside0.mk hr0
 have HC0 := Aside0.mk hc0
 clear hr0 hc0
 have HR1 := Aside0.mk hr1
 have HC1 := Aside0.mk hc1
 clear hr1 hc1
 have H : (if (l0.length : Int) = (l1.length : Int) then (broadsheetref07_SamePairs.l0 k l0 l1 0) else (some false)) = some r := h
 clear h
 by_cases c3 : (l0.length : Int) = (l1.length : Int)
 ·rw [if_pos c3] at H
  have c3b0 : ((l0.length : Int) == (l1.length : Int)) = true := beq_iff_eq.mpr c3
  have c3b1 : ((l0.length : Int) != (l1.length : Int)) = false := bne_eq_false_iff_eq.mpr c3
  have c3b2 : (l0.length == l1.length) = true := by first | simpa using c3 | (simp at c3 ⊢; omega)
  clear c3
  have H' := Aside0.mk H
  clear H
  go_enter Tryz.func33, Tryz.ntmps33
  go_wp2
  repeat (go_quiet (fail); try go_wp2)
  first | go_loopg [5] k (fun kq v5 w' => ∃ (x5_1 : Int), v5 = .int .i64 x5_1 ∧ Aside0 (broadsheetref07_SamePairs.l0 kq l0 l1 x5_1 = some r) ∧ Aside0 (kq ≤ k) ∧ Drawn0 w w') | (go_simp; go_loopg [5] k (fun kq v5 w' => ∃ (x5_1 : Int), v5 = .int .i64 x5_1 ∧ Aside0 (broadsheetref07_SamePairs.l0 kq l0 l1 x5_1 = some r) ∧ Aside0 (kq ≤ k) ∧ Drawn0 w w'))
  case atStart => exact ⟨(0), zb11, H', ⟨Nat.le_refl _⟩, by repeat (first | exact Drawn0.refl _ | apply Drawn0.step)⟩
  case round =>
   clear H'
   try clear c1
   try clear p2
   try clear c3
   try clear c3b0
   try clear c3b1
   try clear c3b2
   obtain ⟨x5_1, rfl, HA, HK1, ⟨m1, rfl⟩⟩ := hrel
   cases gk with
   | zero => exact absurd HA.out (by simp [broadsheetref07_SamePairs.l0])
   | succ k1 =>
    have H := HA.out
    clear HA
    simp only [broadsheetref07_SamePairs.l0] at H
    by_cases c4 : x5_1 < (l0.length : Int)
    ·rw [if_pos c4] at H
     have c4b0 : decide (x5_1 < (l0.length : Int)) = true := decide_eq_true c4
     clear c4
     by_cases c5 : 0 ≤ x5_1
     ·rw [if_pos c5] at H
      have c5b0 : decide (0 ≤ x5_1) = true := decide_eq_true c5
      clear c5
      by_cases c6 : x5_1 < (l1.length : Int)
      ·rw [if_pos c6] at H
       have c6b0 : decide (x5_1 < (l1.length : Int)) = true := decide_eq_true c6
       clear c6
       by_cases c7 : (!((((rd_T41 l0 x5_1).f0).toList) == (((rd_T41 l1 x5_1).f0).toList)) || (!((((rd_T41 l0 x5_1).f1).toList) == (((rd_T41 l1 x5_1).f1).toList)))) = true
       ·rw [if_pos c7] at H
        have c7b0 : (!((((rd_T41 l0 x5_1).f0).toList) == (((rd_T41 l1 x5_1).f0).toList)) || (!((((rd_T41 l0 x5_1).f1).toList) == (((rd_T41 l1 x5_1).f1).toList)))) = true := c7
        clear c7
        obtain rfl := Option.some.inj H
        have p283 : 0 ≤ (x5_1 : Int) := of_decide_eq_true zb4
        have q283 : x5_1 < (l0.length : Int) := of_decide_eq_true zb4
        obtain ⟨ad283, e283, hx283_0, hx283_1⟩ := at_T41 HR0.out x5_1 p283 q283
        cases e283
        replace p283 := eq_true p283
        replace q283 := eq_true q283
        have p284 : 0 ≤ (x5_1 : Int) := of_decide_eq_true zb4
        have q284 : x5_1 < (l1.length : Int) := of_decide_eq_true zb4
        obtain ⟨ad284, e284, hx284_0, hx284_1⟩ := at_T41 HR1.out x5_1 p284 q284
        cases e284
        replace p284 := eq_true p284
        replace q284 := eq_true q284
        go_wp2
        repeat (go_quiet (fail); try go_wp2)
        go_ret
        exact ⟨by first | rfl | (simp; done) | (simp [*]; done), by repeat (first | exact Drawn0.refl _ | apply Drawn0.step)⟩
       ·rw [if_neg c7] at H
        have c7b0 : (!((((rd_T41 l0 x5_1).f0).toList) == (((rd_T41 l1 x5_1).f0).toList)) || (!((((rd_T41 l0 x5_1).f1).toList) == (((rd_T41 l1 x5_1).f1).toList)))) = false := by simpa using c7
        clear c7
        have H' := Aside0.mk H
        clear H
        have p283 : 0 ≤ (x5_1 : Int) := of_decide_eq_true zb4
        have q283 : x5_1 < (l0.length : Int) := of_decide_eq_true zb4
        obtain ⟨ad283, e283, hx283_0, hx283_1⟩ := at_T41 HR0.out x5_1 p283 q283
        cases e283
        replace p283 := eq_true p283
        replace q283 := eq_true q283
        have p284 : 0 ≤ (x5_1 : Int) := of_decide_eq_true zb4
        have q284 : x5_1 < (l1.length : Int) := of_decide_eq_true zb4
        obtain ⟨ad284, e284, hx284_0, hx284_1⟩ := at_T41 HR1.out x5_1 p284 q284
        cases e284
        replace p284 := eq_true p284
        replace q284 := eq_true q284
        go_wp2
        repeat (go_quiet (fail); try go_wp2)
        go_roundg k1
        case measure => have := HK1.out; omega
        case rel => exact ⟨(wrap64 (x5_1 + 1)), zb11, H', ⟨by have := HK1.out; omega⟩, by repeat (first | exact Drawn0.refl _ | apply Drawn0.step)⟩
      ·rw [if_neg c6] at H
       exact absurd H zb46
     ·rw [if_neg c5] at H
      exact absurd H zb46
    ·rw [if_neg c4] at H
     have c4b0 : decide (x5_1 < (l0.length : Int)) = false := decide_eq_false c4
     clear c4
     obtain rfl := Option.some.inj H
     go_wp2
     repeat (go_quiet (fail); try go_wp2)
     go_ret
     exact ⟨by first | rfl | (simp; done) | (simp [*]; done), by repeat (first | exact Drawn0.refl _ | apply Drawn0.step)⟩
 ·rw [if_neg c3] at H
  have c3b0 : ((l0.length : Int) == (l1.length : Int)) = false := beq_eq_false_iff_ne.mpr c3
  have c3b1 : ((l0.length : Int) != (l1.length : Int)) = true := bne_iff_ne.mpr c3
  have c3b2 : (l0.length == l1.length) = false := by first | simpa using c3 | (simp at c3 ⊢; omega)
  exact absurd ((Option.some.inj H).trans hr) zb33
end Go.Proofs.YtaopopnlnohnpaaGreatDoor.P
/- Px34 -/
namespace Go.Proofs.YtaopopnlnohnpaaGreatDoor.P
open Go.Proofs.YtaopopnlnohnpaaGreatDoor.B
open Go.RowKit Go.Proofs.YtaopopnlnohnpaaGreatDoorW.PrintWords Go.Proofs.YtaopopnlnohnpaaGreatDoorW.PrintLast Go.Proofs.YtaopopnlnohnpaaGreatDoorW.PrintMore
attribute [local go_sem] str_leq str_gtr str_geq max2_int min2_int max_two min_two max_three min_three max_four min_four
set_option linter.unusedVariables false
set_option linter.unusedSimpArgs false
def broadsheetref21_Same.f (k : Nat) (a0_0 : Int) (l0_1 : List (S41)) (a0_2 : ByteArray) (a1_0 : Int) (l1_1 : List (S41)) (a1_2 : ByteArray) : Option (Bool) := if a0_0 = a1_0 then (if a0_2.toList = a1_2.toList then ((broadsheetref07_SamePairs.f k l0_1 l1_1).bind fun t287 => (some t287)) else (some false)) else (some false)
set_option maxHeartbeats 8000000 in
set_option maxRecDepth 100000 in
theorem broadsheetref21_Same.calls (k : Nat) (a0_0 : Int) (A0_1 : Option Addr) (c0_1 : Nat) (l0_1 : List (S41)) (a0_2 : ByteArray) (a1_0 : Int) (A1_1 : Option Addr) (c1_1 : Nat) (l1_1 : List (S41)) (a1_2 : ByteArray) (r : Bool) (w : World) (hr0_1 : Kd.C k41 w A0_1 l0_1.length l0_1) (hc0_1 : l0_1.length ≤ c0_1) (hr1_1 : Kd.C k41 w A1_1 l1_1.length l1_1) (hc1_1 : l1_1.length ≤ c1_1) (h : broadsheetref21_Same.f k a0_0 l0_1 a0_2 a1_0 l1_1 a1_2 = some r) (hr : r = true) :
  Calls Tryz.prog 15 #[.agg #[.int .i64 a0_0, .slice A0_1 l0_1.length c0_1, .string a0_2], .agg #[.int .i64 a1_0, .slice A1_1 l1_1.length c1_1, .string a1_2]] w fun e w' => e = .returned (.bool r) ∧ Below w.heap.size w w' := by
 have hu24 := Tryz.underlying24
 have HR0_1 := Aside0.mk hr0_1
 have HC0_1 := Aside0.mk hc0_1
 clear hr0_1 hc0_1
 have HR1_1 := Aside0.mk hr1_1
 have HC1_1 := Aside0.mk hc1_1
 clear hr1_1 hc1_1
 have HB := Aside0.mk (Below.refl w.heap.size w)
 have H : (if a0_0 = a1_0 then (if a0_2.toList = a1_2.toList then ((broadsheetref07_SamePairs.f k l0_1 l1_1).bind fun t287 => (some t287)) else (some false)) else (some false)) = some r := h
 clear h
 by_cases c3 : a0_0 = a1_0
 ·rw [if_pos c3] at H
  have c3b0 : (a0_0 == a1_0) = true := beq_iff_eq.mpr c3
  have c3b1 : (a0_0 != a1_0) = false := bne_eq_false_iff_eq.mpr c3
  clear c3
  by_cases c4 : a0_2.toList = a1_2.toList
  ·rw [if_pos c4] at H
   have c4b0 : (a0_2.toList == a1_2.toList) = true := beq_iff_eq.mpr c4
   have c4b1 : (a0_2.toList != a1_2.toList) = false := bne_eq_false_iff_eq.mpr c4
   clear c4
   replace H := Option.bind_eq_some_iff.mp H
   obtain ⟨t287, A50, H⟩ := H
   replace H : (some t287) = some r := H
   have A5 := Aside0.mk A50
   clear A50
   obtain rfl := Option.some.inj H
   go_enter Tryz.func15, Tryz.ntmps15
   go_wp2_with (first | ((with_reducible refine gate_dst (N := 2) rfl ?_); refine box_event ?hg (N := 2) ?hd (cs := #[.int .i64 a0_0, .slice A0_1 l0_1.length c0_1, .string a0_2]) (t := 24) ?hr ?_; (case hd => rfl); (case hg => rfl); (case hr => first | (go_simp; done) | (go_simp; rfl)); intro gb285 hg w6 hbox hb; have n0_ := Aside0.mk (below_step zb0 hb); have n1_ := Aside0.mk (hbox); have n2_ := Aside0.mk ((by rw [hg]; exact (below_size zb0) : w.heap.size ≤ gb285)); have n3_ := Aside0.mk ((by rw [hg]; exact (below_size zb0) : w.heap.size ≤ gb285)); clear HB; have HB := n0_; have BK285 := n1_; have GW285 := n2_; have GE285 := n3_; clear n0_ n1_ n2_ n3_; clear hb hbox hg) | ((with_reducible refine gate_dst (N := 3) rfl ?_); refine box_event ?hg (N := 3) ?hd (cs := #[.int .i64 a1_0, .slice A1_1 l1_1.length c1_1, .string a1_2]) (t := 24) ?hr ?_; (case hd => rfl); (case hg => rfl); (case hr => first | (go_simp; done) | (go_simp; rfl)); intro gb286 hg w7 hbox hb; have n0_ := Aside0.mk (blk_below (g := gb285) (o := .cells #[.int .i64 a0_0, .slice A0_1 l0_1.length c0_1, .string a0_2] 24 (0, 0)) zb63 hb); have n1_ := Aside0.mk (below_step zb58 hb); have n2_ := Aside0.mk (hbox); have n3_ := Aside0.mk ((by rw [hg]; exact (below_size zb58) : w.heap.size ≤ gb286)); have n4_ := Aside0.mk ((by rw [hg]; exact (below_size zb58) : w.heap.size ≤ gb286)); have n5_ := Aside0.mk ((by rw [hg]; exact Nat.ne_of_lt (blk_lt (g := gb285) (o := .cells #[.int .i64 a0_0, .slice A0_1 l0_1.length c0_1, .string a0_2] 24 (0, 0)) zb63) : gb285 ≠ gb286)); have n6_ := Aside0.mk ((by rw [hg]; exact Nat.ne_of_gt (blk_lt (g := gb285) (o := .cells #[.int .i64 a0_0, .slice A0_1 l0_1.length c0_1, .string a0_2] 24 (0, 0)) zb63) : gb286 ≠ gb285)); clear BK285; clear HB; have BK285 := n0_; have HB := n1_; have BK286 := n2_; have GW286 := n3_; have GE286 := n4_; have NB285_286 := n5_; have NB286_285 := n6_; clear n0_ n1_ n2_ n3_ n4_ n5_ n6_; clear hb hbox hg; have hnb8 := NB285_286.out; have hnc8 := NB286_285.out; have hcz9_0 : w7.cell? ⟨gb285, 0, none⟩ = some (.int .i64 a0_0) := (blk_cell BK285.out 0).trans rfl; have hcz9_1 : w7.cell? ⟨gb285, 1, none⟩ = some (.slice A0_1 l0_1.length c0_1) := (blk_cell BK285.out 1).trans rfl; have hcz9_2 : w7.cell? ⟨gb285, 2, none⟩ = some (.string a0_2) := (blk_cell BK285.out 2).trans rfl; have hfz9_0 := blk_frozen BK285.out 0; have hfz9_1 := blk_frozen BK285.out 1; have hfz9_2 := blk_frozen BK285.out 2; have hcz10_0 : w7.cell? ⟨gb286, 0, none⟩ = some (.int .i64 a1_0) := (blk_cell BK286.out 0).trans rfl; have hcz10_1 : w7.cell? ⟨gb286, 1, none⟩ = some (.slice A1_1 l1_1.length c1_1) := (blk_cell BK286.out 1).trans rfl; have hcz10_2 : w7.cell? ⟨gb286, 2, none⟩ = some (.string a1_2) := (blk_cell BK286.out 2).trans rfl; have hfz10_0 := blk_frozen BK286.out 0; have hfz10_1 := blk_frozen BK286.out 1; have hfz10_2 := blk_frozen BK286.out 2) | (go_at_call 33; (with_reducible refine (broadsheetref07_SamePairs.calls k _ _ l0_1 _ _ l1_1 t287 _ ?side1 ?side2 ?side3 ?side4 A5.out (by first | rfl | exact hr)).mono ?_); (case side1 => repeat (first | exact (Kd.C_below HR0_1.out HB.out) | (with_reducible refine Kd.C_alloc ?_ _) | (with_reducible refine Kd.C_drewN ?_ _) | (with_reducible refine Kd.C_drew ?_))); (case side2 => exact HC0_1.out); (case side3 => repeat (first | exact (Kd.C_below HR1_1.out HB.out) | (with_reducible refine Kd.C_alloc ?_ _) | (with_reducible refine Kd.C_drewN ?_ _) | (with_reducible refine Kd.C_drew ?_))); (case side4 => exact HC1_1.out); rintro e w' ⟨rfl, ⟨nd, rfl⟩⟩))
   go_ret
   exact ⟨zb12, (by repeat (first | (with_reducible first | exact HB.out | apply below_alloc | apply pw_below_drewN | apply below_drew1 | refine below_set ?_ GE285.out | refine below_set ?_ GE286.out) | exact HB.out))⟩
  ·rw [if_neg c4] at H
   have c4b0 : (a0_2.toList == a1_2.toList) = false := beq_eq_false_iff_ne.mpr c4
   have c4b1 : (a0_2.toList != a1_2.toList) = true := bne_iff_ne.mpr c4
   exact absurd ((Option.some.inj H).trans hr) zb33
 ·rw [if_neg c3] at H
  have c3b0 : (a0_0 == a1_0) = false := beq_eq_false_iff_ne.mpr c3
  have c3b1 : (a0_0 != a1_0) = true := bne_iff_ne.mpr c3
  exact absurd ((Option.some.inj H).trans hr) zb33
end Go.Proofs.YtaopopnlnohnpaaGreatDoor.P
/- SpX -/
namespace Go.Proofs.YtaopopnlnohnpaaGreatDoor.Sp
open Go Go.RowKit Go.Proofs.YtaopopnlnohnpaaGreatDoorW.PrintWords Go.Proofs.YtaopopnlnohnpaaGreatDoorW.PrintLast Go.Proofs.YtaopopnlnohnpaaGreatDoor.O Go.Proofs.YtaopopnlnohnpaaGreatDoor.P
set_option linter.unusedVariables false
set_option linter.unusedSimpArgs false
def okP (p : L × L) : Bool := isTok p.1 && fval p.2
def prs : List (L × L) → L
  | [] => []
  | p :: r => p.1 ++ 58 :: 32 :: (p.2 ++ 13 :: 10 :: prs r)
/-- The lines of fields, and the error. -/
def printS (l : List (L × L)) : L × Int := if l.all okP = true then (if 8000 < (prs l ++ [13, 10]).length then ([], 2) else (prs l ++ [13, 10], 0)) else ([], 180)
theorem prs_app (a b : List (L × L)) : prs (a ++ b) = prs a ++ prs b := by
  induction a with
  | nil => rfl
  | cons p r ih => simp only [List.cons_append, prs, ih, List.append_assoc]
theorem prs_len (l : List (L × L)) : 4 * l.length ≤ (prs l).length := by
  induction l with
  | nil => simp [prs]
  | cons p r ih =>
    simp only [prs, List.length_append, List.length_cons]
    omega
theorem low_tok : ∀ a : Fin 256, tokB (lowB (UInt8.ofNat a.val)) = tokB (UInt8.ofNat a.val) ∧ lowB (lowB (UInt8.ofNat a.val)) = lowB (UInt8.ofNat a.val) := by decide +kernel
theorem low_low (s : L) : low (low s) = low s := by
  unfold low
  rw [List.map_map]
  refine List.map_congr_left (fun c _ => ?_)
  obtain ⟨a, rfl⟩ := u8_fin c
  exact (low_tok a).2
theorem isTok_low {s : L} (h : isTok s = true) : isTok (low s) = true := by
  obtain ⟨h1, h2⟩ := (isTok_iff s).1 h
  refine (isTok_iff _).2 ⟨fun e => h1 (List.map_eq_nil_iff.1 e), fun x hx => ?_⟩
  obtain ⟨c, hc, rfl⟩ := List.mem_map.1 hx
  have := h2 c hc
  obtain ⟨a, rfl⟩ := u8_fin c
  rw [(low_tok a).1]
  exact this
theorem tok_len2 (s : L) : (tok s).1.length + (tok s).2.length = s.length := by
  have := congrArg List.length (tok_parts s).1
  rw [List.length_append] at this
  omega
theorem pairOf_back {l : L} {p : L × L} (h : pairOf l = some p) : okP p = true ∧ low p.1 = p.1 ∧ p.1.length + p.2.length + 1 ≤ l.length := by
  have hl := tok_len2 l
  obtain ⟨e1, e2, e3⟩ := tok_parts l
  unfold pairOf at h
  split at h
  · cases h
  · rename_i h0
    split at h
    · cases h
    · rename_i h58
      split at h
      · rename_i hv
        obtain rfl := Option.some.inj h
        have ht : isTok (tok l).1 = true := (isTok_iff _).2 ⟨h0, e2⟩
        have htl := trim_len (tok l).2.tail
        rw [List.length_tail] at htl
        have hpos : 0 < (tok l).2.length := by
          cases hx : (tok l).2 with
          | nil => rw [hx] at h58; simp at h58
          | cons a b => simp
        refine ⟨?_, low_low _, ?_⟩
        · unfold okP
          rw [isTok_low ht, hv]
          rfl
        · simp only [low_len]
          omega
      · cases h
theorem fparse_back (N : Nat) : ∀ (f : Nat) (s : L) (acc : List (L × L)), (fparse N f s acc).2.2 = 0 → acc.all okP = true → (∀ p ∈ acc, low p.1 = p.1) →
    (fparse N f s acc).1.all okP = true ∧ (∀ p ∈ (fparse N f s acc).1, low p.1 = p.1) ∧ (prs (fparse N f s acc).1).length + 2 + 2 * (fparse N f s acc).2.1.length ≤ (prs acc).length + 2 * s.length := by
  intro f
  induction f with
  | zero => intro s acc h; simp [fparse] at h
  | succ f ih =>
    intro s acc h ha hlw
    rw [fparse] at h ⊢
    cases e : line s with
    | none =>
      rw [e] at h
      simp only at h
      split at h <;> cases h
    | some q =>
      obtain ⟨l, more⟩ := q
      have hll := congrArg List.length (line_len s _ e)
      simp only [List.length_append, List.length_cons] at hll
      rw [e] at h
      simp only at h ⊢
      by_cases h8 : N - more.length > 8000
      · rw [if_pos h8] at h
        simp only at h
        split at h <;> cases h
      · rw [if_neg h8] at h ⊢
        by_cases h0 : l = []
        · rw [if_pos h0]
          exact ⟨ha, hlw, by simp only; omega⟩
        · rw [if_neg h0] at h ⊢
          cases e2 : pairOf l with
          | none => rw [e2] at h; cases h
          | some p =>
            rw [e2] at h
            simp only at h ⊢
            obtain ⟨g1, g2, g3⟩ := pairOf_back e2
            obtain ⟨k1, k2, k3⟩ := ih more (acc ++ [p]) h (by rw [List.all_append, ha]; simp [g1]) (fun x hx => by
              rcases List.mem_append.1 hx with hx | hx
              · exact hlw x hx
              · rw [List.mem_singleton.1 hx]; exact g2)
            refine ⟨k1, k2, ?_⟩
            rw [prs_app] at k3
            simp only [prs, List.length_append, List.length_cons, List.length_nil] at k3
            have hp : 0 < l.length := List.length_pos_iff.2 h0
            omega
theorem fields_back (s : L) (h : (fields s).2.2 = 0) : (fields s).1.all okP = true ∧ (∀ p ∈ (fields s).1, low p.1 = p.1) ∧ (prs (fields s).1).length + 2 + 2 * (fields s).2.1.length ≤ 2 * s.length := by
  have := fparse_back s.length (s.length + 1) s [] h rfl (by simp)
  unfold fields
  simpa [prs] using this
theorem tok_len (s : L) : (tok s).1.length + (tok s).2.length = s.length := by
  have := congrArg List.length (tok_parts s).1
  rw [List.length_append] at this
  omega
theorem w1 (i : Nat) (h : i ≤ 1000000000000) : wrap64 ((i : Int) + 1) = ((i + 1 : Nat) : Int) := by rw [wrap_id (by omega) (by omega)]; omega
theorem w2 (i : Nat) (h : i ≤ 1000000000000) : wrap64 ((i : Int) + 2) = ((i + 2 : Nat) : Int) := by rw [wrap_id (by omega) (by omega)]; omega
theorem ext1 (c : UInt8) (r : L) : (mk (c :: r)).extract 1 (mk (c :: r)).size = mk r := by rw [ext_from]; rfl
theorem rskip_l0 : ∀ (s : L) (k : Nat), s.length < k → broadsheetref13_Skip.l0 k (mk s) = some (mk (skip s))
  | [], k, hk => by
    obtain ⟨k, rfl⟩ : ∃ k', k = k' + 1 := ⟨k - 1, by omega⟩
    rw [broadsheetref13_Skip.l0, if_neg (by rw [mk_size]; simp)]
    rfl
  | c :: r, k, hk => by
    obtain ⟨k, rfl⟩ : ∃ k', k = k' + 1 := ⟨k - 1, by omega⟩
    simp only [List.length_cons] at hk
    have ih := rskip_l0 r k (by omega)
    rw [broadsheetref13_Skip.l0, if_pos (by rw [mk_size]; simp only [List.length_cons]; omega), if_pos (by rw [mk_size]; simp only [List.length_cons]; omega), bt_head]
    have h32 : ((c.toNat : Int) = 32) ↔ c = 32 := u8i c 32 (by omega)
    have h9 : ((c.toNat : Int) = 9) ↔ c = 9 := u8i c 9 (by omega)
    by_cases c32 : c = 32
    · rw [if_pos (h32.2 c32), if_pos (by rw [mk_size]; simp only [List.length_cons]; omega), ext1, ih]
      unfold skip
      rw [List.dropWhile_cons_of_pos (by simp [bl, c32])]
    · rw [if_neg (fun h => c32 (h32.1 h))]
      by_cases c9 : c = 9
      · rw [if_pos (h9.2 c9), if_pos (by rw [mk_size]; simp only [List.length_cons]; omega), ext1, ih]
        unfold skip
        rw [List.dropWhile_cons_of_pos (by simp [bl, c9])]
      · rw [if_neg (fun h => c9 (h9.1 h))]
        unfold skip
        rw [List.dropWhile_cons_of_neg (by simp [bl, c32, c9])]
theorem rskipF (s : L) (k : Nat) (hk : s.length < k) : broadsheetref13_Skip.f k (mk s) = some (mk (skip s)) := rskip_l0 s k hk
theorem rtb_all : ∀ a : Fin 256, broadsheetref13_TokenByte.f 1 ((UInt8.ofNat a.val).toNat : Int) = some (tokB (UInt8.ofNat a.val)) := by decide +kernel
theorem rtbF (c : UInt8) (k : Nat) (hk : 1 ≤ k) : broadsheetref13_TokenByte.f k (c.toNat : Int) = some (tokB c) := by
  obtain ⟨k, rfl⟩ : ∃ k', k = k' + 1 := ⟨k - 1, by omega⟩
  obtain ⟨a, rfl⟩ := u8_fin c
  rw [← rtb_all a]
  rfl
theorem rtok_l0 (s : L) (hs : s.length ≤ 1000000000000) : ∀ (d k i : Nat), i + d = s.length → d + 1 < k →
    broadsheetref13_Token.l0 k (mk s) i = some (mk (s.take (i + ((s.drop i).takeWhile tokB).length)), mk (s.drop (i + ((s.drop i).takeWhile tokB).length))) := by
  intro d
  induction d with
  | zero =>
    intro k i hi hk
    obtain ⟨k, rfl⟩ : ∃ k', k = k' + 1 := ⟨k - 1, by omega⟩
    rw [broadsheetref13_Token.l0, if_neg (by rw [mk_size]; omega), if_pos (by omega), if_pos (by rw [mk_size]; omega), List.drop_eq_nil_of_le (by omega)]
    simp only [Int.toNat_natCast, List.takeWhile_nil, List.length_nil, Nat.add_zero, ext_to, ext_from]
  | succ d ih =>
    intro k i hi hk
    obtain ⟨k, rfl⟩ : ∃ k', k = k' + 1 := ⟨k - 1, by omega⟩
    obtain ⟨b, e1, e2⟩ := mk_bt s i (by omega)
    rw [broadsheetref13_Token.l0, if_pos (by rw [mk_size]; omega), if_pos (by omega), e2, rtbF b k (by omega)]
    simp only [Option.bind_some]
    by_cases ht : tokB b = true
    · rw [if_pos ht, w1 i (by omega), ih k (i + 1) (by omega) (by omega), e1, List.takeWhile_cons_of_pos ht]
      simp only [List.length_cons]
      rw [show i + 1 + ((s.drop (i + 1)).takeWhile tokB).length = i + (((s.drop (i + 1)).takeWhile tokB).length + 1) by omega]
    · rw [if_neg ht, if_pos (by rw [mk_size]; omega), e1, List.takeWhile_cons_of_neg ht]
      simp only [Int.toNat_natCast, List.length_nil, Nat.add_zero, ext_to, ext_from]
theorem rtokF (s : L) (k : Nat) (hs : s.length ≤ 1000000000000) (hk : s.length + 1 < k) : broadsheetref13_Token.f k (mk s) = some (mk (tok s).1, mk (tok s).2) := by
  unfold broadsheetref13_Token.f
  have := rtok_l0 s hs s.length k 0 (by omega) hk
  simp only [List.drop_zero, Nat.zero_add] at this
  rw [show (0 : Int) = ((0 : Nat) : Int) from rfl, this, take_tw, drop_tw]
  rfl
def nums (l : L) : List Int := l.map fun b => (b.toNat : Int)
theorem nums_str (l : L) : strOfNums (nums l) = mk l := by
  unfold strOfNums nums mk
  rw [List.map_map]
  have e : ((fun n : Int => UInt8.ofNat n.toNat) ∘ fun b : UInt8 => (b.toNat : Int)) = id := by
    funext b
    simp
  rw [e, List.map_id]
theorem nums_snoc (l : L) (b : UInt8) : nums l ++ [(b.toNat : Int)] = nums (l ++ [b]) := by simp [nums]
theorem nums_len (l : L) : (nums l).length = l.length := by simp [nums]
theorem lowB_int (b : UInt8) (h : 65 ≤ b.toNat ∧ b.toNat ≤ 90) : (((b.toNat : Int) + 32) % 256) = ((lowB b).toNat : Int) := by
  unfold lowB
  rw [if_pos h, UInt8.toNat_ofNat']
  omega
theorem rlow_l0 (s : L) (hs : s.length ≤ 1000000000000) : ∀ (d k i : Nat) (acc : L), i + d = s.length → d < k → acc.length ≤ i → broadsheetref07_Lower.l0 k (mk s) (nums acc) i = some (mk (acc ++ low (s.drop i))) := by
  intro d
  induction d with
  | zero =>
    intro k i acc hi hk ha
    obtain ⟨k, rfl⟩ : ∃ k', k = k' + 1 := ⟨k - 1, by omega⟩
    rw [broadsheetref07_Lower.l0, if_neg (by rw [mk_size]; omega), List.drop_eq_nil_of_le (by omega), nums_str]
    simp [low]
  | succ d ih =>
    intro k i acc hi hk ha
    obtain ⟨k, rfl⟩ : ∃ k', k = k' + 1 := ⟨k - 1, by omega⟩
    obtain ⟨b, e1, e2⟩ := mk_bt s i (by omega)
    have hlen : (nums acc).length < 140737488355328 := by rw [nums_len]; omega
    rw [broadsheetref07_Lower.l0, if_pos (by rw [mk_size]; omega), if_pos (by omega), e2, w1 i (by omega)]
    have hfin : ∀ x : UInt8, x = lowB b → broadsheetref07_Lower.l0 k (mk s) (nums acc ++ [(x.toNat : Int)]) ((i + 1 : Nat) : Int) = some (mk (acc ++ low (s.drop i))) := fun x hx => by
      rw [nums_snoc, ih k (i + 1) (acc ++ [x]) (by omega) (by omega) (by simp; omega), e1, hx]
      simp [low]
    by_cases h1 : (b.toNat : Int) ≥ 65
    · rw [if_pos h1]
      by_cases h2 : (b.toNat : Int) ≤ 90
      · rw [if_pos h2, if_pos hlen, lowB_int b (by omega)]
        exact hfin _ rfl
      · rw [if_neg h2, if_pos hlen]
        exact hfin b (by unfold lowB; rw [if_neg (by omega)])
    · rw [if_neg h1, if_pos hlen]
      exact hfin b (by unfold lowB; rw [if_neg (by omega)])
theorem rlowF (s : L) (k : Nat) (hs : s.length ≤ 1000000000000) (hk : s.length < k) : broadsheetref07_Lower.f k (mk s) = some (mk (low s)) := by
  have := rlow_l0 s hs s.length k 0 [] (by omega) hk (by simp)
  rwa [List.nil_append, List.drop_zero] at this
theorem ctl_cases (b : UInt8) {α : Type} (x y : α) : (if (b.toNat : Int) < 32 then (if (b.toNat : Int) = 9 then (if (b.toNat : Int) = 127 then x else y) else x) else (if (b.toNat : Int) = 127 then x else y)) = if ctl b = true then x else y := by
  have h9 : ((b.toNat : Int) = 9) ↔ b = 9 := u8i b 9 (by omega)
  have h127 : ((b.toNat : Int) = 127) ↔ b = 127 := u8i b 127 (by omega)
  unfold ctl
  by_cases h1 : (b.toNat : Int) < 32
  · have h1' : b.toNat < 32 := by omega
    rw [if_pos h1]
    by_cases h2 : b = 9
    · rw [if_pos (h9.2 h2), if_neg (by rw [h9.2 h2]; decide), if_neg (by simp [h2])]
    · rw [if_neg (fun h => h2 (h9.1 h)), if_pos (by simp [h1', h2])]
  · have h1' : ¬ b.toNat < 32 := by omega
    rw [if_neg h1]
    by_cases h2 : b = 127
    · rw [if_pos (h127.2 h2), if_pos (by simp [h2])]
    · rw [if_neg (fun h => h2 (h127.1 h)), if_neg (by simp [h1', h2])]
theorem rline_l0 (s : L) (hs : s.length ≤ 1000000000000) : ∀ (d k i : Nat), i + d = s.length → d < k →
    broadsheetref18_line.l0 k (mk s) i = some (match line (s.drop i) with
      | some p => ((i + p.1.length : Nat) : Int)
      | none => -1) := by
  intro d
  induction d with
  | zero =>
    intro k i hi hk
    obtain ⟨k, rfl⟩ : ∃ k', k = k' + 1 := ⟨k - 1, by omega⟩
    rw [broadsheetref18_line.l0, w1 i (by omega), if_neg (by rw [mk_size]; omega), List.drop_eq_nil_of_le (by omega)]
    rfl
  | succ d ih =>
    intro k i hi hk
    obtain ⟨k, rfl⟩ : ∃ k', k = k' + 1 := ⟨k - 1, by omega⟩
    obtain ⟨b, e1, e2⟩ := mk_bt s i (by omega)
    rw [broadsheetref18_line.l0, w1 i (by omega), e1, line]
    by_cases hlt : i + 1 < s.length
    · obtain ⟨b', e3, e4⟩ := mk_bt s (i + 1) hlt
      have hI := ih k (i + 1) (by omega) (by omega)
      have hrest : (some (match line (s.drop (i + 1)) with
          | some p => ((i + 1 + p.1.length : Nat) : Int)
          | none => -1) : Option Int) = some (match (line (s.drop (i + 1))).map fun p => (b :: p.1, p.2) with
          | some p => ((i + p.1.length : Nat) : Int)
          | none => -1) := by
        cases line (s.drop (i + 1)) with
        | none => rfl
        | some p =>
          simp only [Option.map_some, List.length_cons]
          congr 2
          omega
      rw [if_pos (by rw [mk_size]; omega), if_pos (by omega), if_pos (by rw [mk_size]; omega), e2, e4]
      have h13 : ((b.toNat : Int) = 13) ↔ b = 13 := u8i b 13 (by omega)
      have h10 : ((b'.toNat : Int) = 10) ↔ b' = 10 := u8i b' 10 (by omega)
      by_cases c13 : b = 13
      · rw [if_pos (h13.2 c13), if_pos (by omega)]
        by_cases c10 : b' = 10
        · rw [if_pos (h10.2 c10), if_pos ⟨c13, by rw [e3]; simp [c10]⟩]
          simp
        · rw [if_neg (fun h => c10 (h10.1 h)), if_neg (by rw [e3]; simp [c10]), hI]
          exact hrest
      · rw [if_neg (fun h => c13 (h13.1 h)), if_neg (fun h => c13 h.1), hI]
        exact hrest
    · rw [if_neg (by rw [mk_size]; omega)]
      have hnil : s.drop (i + 1) = [] := List.drop_eq_nil_of_le (by omega)
      rw [hnil, if_neg (by simp)]
      rfl
theorem rLineF (s : L) (k : Nat) (hs : s.length ≤ 1000000000000) (hk : s.length < k) : broadsheetref18_Line.f k (mk s) = some (match line s with
      | some p => (mk p.1, mk p.2, true)
      | none => (mk [], mk [], false)) := by
  have h0 := rline_l0 s hs s.length k 0 (by omega) hk
  rw [List.drop_zero] at h0
  unfold broadsheetref18_Line.f broadsheetref18_line.f
  rw [show (0 : Int) = ((0 : Nat) : Int) from rfl, h0]
  simp only [Option.bind_some]
  cases e : line s with
  | none => rw [if_pos (by simp)]; rfl
  | some p =>
    have hl := line_len s p e
    have hl2 := congrArg List.length hl
    simp only [List.length_append, List.length_cons] at hl2
    simp only [Nat.zero_add]
    rw [if_neg (by omega), if_pos (by omega), if_pos (by rw [mk_size]; omega), w2 _ (by omega), if_pos (by omega), if_pos (by rw [mk_size]; omega)]
    simp only [Int.toNat_natCast, ext_to, ext_from]
    have t1 : (p.1 ++ 13 :: 10 :: p.2).take p.1.length = p.1 := List.take_left' rfl
    have t2 : (p.1 ++ 13 :: 10 :: p.2).drop (p.1.length + 2) = p.2 := by
      rw [← List.drop_drop, List.drop_left' rfl]
      rfl
    rw [← hl] at t1 t2
    rw [t1, t2]
theorem rtrim_l0 : ∀ (n : Nat) (s : L) (k : Nat), s.length ≤ n → n < k → s.length ≤ 1000000000000 → broadsheetref18_Trim.l0 k (mk s) = some (mk (skip s.reverse).reverse) := by
  intro n
  induction n with
  | zero =>
    intro s k hn hk hs
    obtain ⟨k, rfl⟩ : ∃ k', k = k' + 1 := ⟨k - 1, by omega⟩
    obtain rfl : s = [] := List.eq_nil_of_length_eq_zero (by omega)
    rw [broadsheetref18_Trim.l0, if_neg (by rw [mk_size]; simp)]
    rfl
  | succ n ih =>
    intro s k hn hk hs
    obtain ⟨k, rfl⟩ : ∃ k', k = k' + 1 := ⟨k - 1, by omega⟩
    rw [broadsheetref18_Trim.l0]
    by_cases h0 : s = []
    · subst h0
      rw [if_neg (by rw [mk_size]; simp)]
      rfl
    have hp : 0 < s.length := List.length_pos_iff.2 h0
    have hw : wrap64 ((((mk s).size : Nat) : Int) - 1) = ((s.length - 1 : Nat) : Int) := by rw [mk_size, wrap_id (by omega) (by omega)]; omega
    obtain ⟨b, e1, e2⟩ := mk_bt s (s.length - 1) (by omega)
    have e3 : s.drop (s.length - 1 + 1) = [] := List.drop_eq_nil_of_le (by omega)
    rw [e3] at e1
    have es : s = s.take (s.length - 1) ++ [b] := by rw [← e1, List.take_append_drop]
    rw [hw, if_pos (by rw [mk_size]; omega), if_pos (by omega), if_pos (by rw [mk_size]; omega), e2]
    have h32 : ((b.toNat : Int) = 32) ↔ b = 32 := u8i b 32 (by omega)
    have h9 : ((b.toNat : Int) = 9) ↔ b = 9 := u8i b 9 (by omega)
    simp only [Int.toNat_natCast, ext_to]
    have hI := ih (s.take (s.length - 1)) k (by rw [List.length_take]; omega) (by omega) (by rw [List.length_take]; omega)
    have hrev : s.reverse = b :: (s.take (s.length - 1)).reverse := by conv => lhs; rw [es]; simp
    have hgo : bl b = true → skip s.reverse = skip (s.take (s.length - 1)).reverse := fun h => by
      rw [hrev]
      unfold skip
      rw [List.dropWhile_cons_of_pos h]
    by_cases c32 : b = 32
    · rw [if_pos (h32.2 c32), if_pos (by rw [mk_size]; omega), hI, hgo (by simp [bl, c32])]
    · rw [if_neg (fun h => c32 (h32.1 h))]
      by_cases c9 : b = 9
      · rw [if_pos (h9.2 c9), if_pos (by rw [mk_size]; omega), hI, hgo (by simp [bl, c9])]
      · rw [if_neg (fun h => c9 (h9.1 h))]
        have : skip s.reverse = s.reverse := by
          rw [hrev]
          unfold skip
          rw [List.dropWhile_cons_of_neg (by simp [bl, c32, c9])]
        rw [this, List.reverse_reverse]
theorem rtrimF (s : L) (k : Nat) (hs : s.length ≤ 1000000000000) (hk : s.length < k) : broadsheetref18_Trim.f k (mk s) = some (mk (trim s)) := by
  have := skip_len s
  unfold broadsheetref18_Trim.f
  rw [rskipF s k hk]
  simp only [Option.bind_some]
  rw [rtrim_l0 s.length (skip s) k (by omega) hk (by omega)]
  rfl
theorem rvalue_l0 (s : L) (hs : s.length ≤ 1000000000000) : ∀ (d k i : Nat), i + d = s.length → d + s.length + 1 < k →
    broadsheetref18_Value.l0 k (mk s) i = some ((s.drop i).all (fun c => !ctl c) && decide (trim s = s)) := by
  intro d
  induction d with
  | zero =>
    intro k i hi hk
    obtain ⟨k, rfl⟩ : ∃ k', k = k' + 1 := ⟨k - 1, by omega⟩
    rw [broadsheetref18_Value.l0, if_neg (by rw [mk_size]; omega), rtrimF s k hs (by omega), List.drop_eq_nil_of_le (by omega)]
    simp only [Option.bind_some, tl_mk, List.all_nil, Bool.true_and]
    congr 1
    rw [Bool.eq_iff_iff]
    simp
  | succ d ih =>
    intro k i hi hk
    obtain ⟨k, rfl⟩ : ∃ k', k = k' + 1 := ⟨k - 1, by omega⟩
    obtain ⟨b, e1, e2⟩ := mk_bt s i (by omega)
    rw [broadsheetref18_Value.l0, if_pos (by rw [mk_size]; omega), if_pos (by omega), e2, w1 i (by omega), ctl_cases, e1, List.all_cons, ih k (i + 1) (by omega) (by omega)]
    cases hc : ctl b <;> simp
theorem rfvalF (s : L) (k : Nat) (hs : s.length ≤ 1000000000000) (hk : 2 * s.length + 2 < k) : broadsheetref18_Value.f k (mk s) = some (fval s) := by
  have := rvalue_l0 s hs s.length k 0 (by omega) (by omega)
  rw [List.drop_zero] at this
  exact this
theorem pairOf_of {l n t : L} (h : tok l = (n, t)) : pairOf l = if n = [] then none else if t.head? ≠ some 58 then none else if fval (trim t.tail) = true then some (low n, trim t.tail) else none := by
  unfold pairOf
  rw [h]
/-- What a reader of fields gives, as texts. -/
def fldB (r : List (L × L) × L × Int) : List S41 × ByteArray × Int := (pairsB r.1, mk r.2.1, r.2.2)
theorem rparse_l0 (s0 : L) (hs0 : s0.length ≤ 100000000000) : ∀ (d f k : Nat) (s : L) (acc : List (L × L)), s.length ≤ d → d < f → 6 * d + 20 ≤ k → s.length ≤ s0.length → acc.length + s.length ≤ s0.length →
    broadsheetref18_Parse.l0 k (mk s0) (pairsB acc) (mk s) = some (fldB (fparse s0.length f s acc)) := by
  intro d
  induction d with
  | zero =>
    intro f k s acc hs hf hk hl ha
    obtain ⟨k, rfl⟩ : ∃ k', k = k' + 2 := ⟨k - 2, by omega⟩
    obtain ⟨f, rfl⟩ : ∃ f', f = f' + 1 := ⟨f - 1, by omega⟩
    obtain rfl : s = [] := List.eq_nil_of_length_eq_zero (by omega)
    rw [broadsheetref18_Parse.l0, rLineF [] (k + 1) (by simp) (by simp), fparse]
    simp only [Option.bind_some, line]
    rw [if_neg (by decide), broadsheetref18_Parse.j1, if_pos rfl, mk_size]
    by_cases h8 : s0.length > 8000
    · rw [if_pos (by omega), if_pos h8]; rfl
    · rw [if_neg (by omega), if_neg h8]; rfl
  | succ d ih =>
    intro f k s acc hs hf hk hl ha
    obtain ⟨k, rfl⟩ : ∃ k', k = k' + 3 := ⟨k - 3, by omega⟩
    obtain ⟨f, rfl⟩ : ∃ f', f = f' + 1 := ⟨f - 1, by omega⟩
    rw [broadsheetref18_Parse.l0, rLineF s (k + 2) (by omega) (by omega), fparse]
    have hbad : (if (((mk s0).size : Nat) : Int) > 8000 then (some (([] : List S41), (⟨#[]⟩ : ByteArray), (2 : Int))) else (some (([] : List S41), (⟨#[]⟩ : ByteArray), (180 : Int)))) = some (fldB ([], [], if s0.length > 8000 then 2 else 180)) := by
      rw [mk_size]
      by_cases h8 : s0.length > 8000
      · rw [if_pos (by omega), if_pos h8]; rfl
      · rw [if_neg (by omega), if_neg h8]; rfl
    cases e : line s with
    | none =>
      simp only [Option.bind_some]
      rw [if_neg (by decide), broadsheetref18_Parse.j1, if_pos rfl, hbad]
    | some p =>
      obtain ⟨l, more⟩ := p
      have hll := congrArg List.length (line_len s _ e)
      simp only [List.length_append, List.length_cons] at hll
      simp only [Option.bind_some, if_true]
      have hw : wrap64 ((((mk s0).size : Nat) : Int) - (((mk more).size : Nat) : Int)) = ((s0.length - more.length : Nat) : Int) := by rw [mk_size, mk_size, wrap_id (by omega) (by omega)]; omega
      rw [hw]
      by_cases h8 : s0.length - more.length > 8000
      · rw [decide_eq_true (show ((s0.length - more.length : Nat) : Int) > 8000 by omega), if_pos h8, broadsheetref18_Parse.j1, if_pos rfl, hbad]
      rw [decide_eq_false (show ¬ ((s0.length - more.length : Nat) : Int) > 8000 by omega), if_neg h8, broadsheetref18_Parse.j1, if_neg (by decide), tl_mk]
      by_cases h0 : l = []
      · rw [if_pos h0, if_pos h0]; rfl
      rw [if_neg h0, if_neg h0, rtokF l (k + 1) (by omega) (by omega)]
      simp only [Option.bind_some, tl_mk]
      have l3 := tok_len l
      obtain ⟨n, t, hnt⟩ : ∃ n t, tok l = (n, t) := ⟨_, _, rfl⟩
      have hpo := pairOf_of hnt
      simp only [hnt] at l3 ⊢
      have hno : pairOf l = none → broadsheetref18_Parse.j2 (k + 1) (mk s0) (pairsB acc) (mk more) (mk n) (mk t) true = some (fldB (match pairOf l with
          | none => ([], [], 180)
          | some p => fparse s0.length f more (acc ++ [p]))) := fun h => by
        rw [h, broadsheetref18_Parse.j2, if_pos rfl]
        rfl
      by_cases h2 : n = []
      · rw [if_pos h2] at hpo ⊢
        exact hno hpo
      rw [if_neg h2] at hpo ⊢
      cases t with
      | nil =>
        rw [if_pos (show ([] : L).head? ≠ some 58 by simp)] at hpo
        rw [if_pos (show ([] : L) = [] from rfl)]
        exact hno hpo
      | cons c v =>
        simp only [List.length_cons] at l3
        have h58 : ((c.toNat : Int) = 58) ↔ c = 58 := u8i c 58 (by omega)
        rw [if_neg (show ¬ (c :: v = []) by simp), if_pos (by rw [mk_size]; simp only [List.length_cons]; omega), bt_head]
        by_cases c58 : c = 58
        · rw [if_neg (show ¬ ((c :: v).head? ≠ some 58) by simp [c58]), List.tail_cons] at hpo
          rw [if_pos (h58.2 c58), if_pos (by rw [mk_size]; simp only [List.length_cons]; omega), ext1]
          have lt := trim_len v
          rw [rtrimF v (k + 1) (by omega) (by omega)]
          simp only [Option.bind_some]
          rw [rfvalF (trim v) (k + 1) (by omega) (by omega)]
          simp only [Option.bind_some]
          by_cases hfv : fval (trim v) = true
          case neg =>
            have hfv2 : fval (trim v) = false := by simpa using hfv
            rw [if_neg hfv] at hpo
            rw [hfv2]
            exact hno hpo
          case pos =>
            rw [if_pos hfv] at hpo
            rw [broadsheetref18_Parse.j2, if_neg (show ¬ (!fval (trim v)) = true by rw [hfv]; decide), rlowF n k (by omega) (by omega)]
            simp only [Option.bind_some]
            rw [if_pos (by rw [mk_size]; simp only [List.length_cons]; omega), ext1, rtrimF v k (by omega) (by omega)]
            simp only [Option.bind_some]
            rw [if_pos (by rw [pairsB_len]; omega), hpo]
            have := ih f k more (acc ++ [(low n, trim v)]) (by omega) (by omega) (by omega) (by omega) (by simp only [List.length_append, List.length_singleton]; omega)
            rw [pairsB_app] at this
            exact this
        · rw [if_pos (show (c :: v).head? ≠ some 58 by simpa using c58)] at hpo
          rw [if_neg (fun h => c58 (h58.1 h))]
          exact hno hpo
theorem rparseF (s : L) (k : Nat) (hs : s.length ≤ 100000000000) (hk : 6 * s.length + 20 ≤ k) : broadsheetref18_Parse.f k (mk s) = some (fldB (fields s)) := by
  unfold broadsheetref18_Parse.f
  exact rparse_l0 s hs s.length (s.length + 1) k s [] (Nat.le_refl _) (by omega) hk (Nat.le_refl _) (by simp)
def vals (l : List (L × L)) (n : L) : List L := (l.filter fun p => low p.1 == low n).map (·.2)
def get (l : List (L × L)) (n : L) : L × Int := (Lib.join (vals l n) [44, 32], ((vals l n).length : Int))
theorem rd_pairs (l : List (L × L)) (i : Nat) (p : L × L) (h : l[i]? = some p) : rd_T41 (pairsB l) (i : Int) = ⟨mk p.1, mk p.2⟩ := by
  unfold rd_T41 pairsB
  rw [Int.toNat_natCast, List.getD_eq_getElem?_getD, List.getElem?_map, h]
  rfl
theorem vals_cons (p : L × L) (r : List (L × L)) (n : L) : vals (p :: r) n = if low p.1 = low n then p.2 :: vals r n else vals r n := by
  unfold vals
  by_cases h : low p.1 = low n
  · rw [List.filter_cons_of_pos (by simp [h]), if_pos h]
    rfl
  · rw [List.filter_cons_of_neg (by simp [h]), if_neg h]
theorem get_l0 (l : List (L × L)) (n : L) (hn : n.length ≤ 1000000) (hl : l.length ≤ 1000000) (hp : ∀ p ∈ l, p.1.length ≤ 1000000) : ∀ (d k i : Nat) (acc : List L), i + d = l.length → d < k → acc.length ≤ i → (Lib.join (acc ++ vals (l.drop i) n) [44, 32]).length ≤ 140737488355328 →
    field_Get.l0 k (mk n) (acc.map mk) (pairsB l) (l.length : Int) (i : Int) = some (mk (Lib.join (acc ++ vals (l.drop i) n) [44, 32]), ((acc ++ vals (l.drop i) n).length : Int)) := by
  intro d
  induction d with
  | zero =>
    intro k i acc hi hk ha hj
    obtain ⟨k, rfl⟩ : ∃ k', k = k' + 1 := ⟨k - 1, by omega⟩
    rw [List.drop_eq_nil_of_le (by omega)] at hj ⊢
    rw [show vals [] n = [] from rfl, List.append_nil] at hj ⊢
    have hm : (acc.map mk).map (·.data.toList) = acc := by rw [List.map_map]; conv => rhs; rw [← List.map_id acc]
                                                           exact List.map_congr_left (fun x _ => mk_data x)
    rw [field_Get.l0, if_neg (by omega), strings_Join.f]
    unfold joinB
    rw [hm, show (⟨#[44, 32]⟩ : ByteArray).data.toList = [44, 32] from rfl, if_pos ⟨by rw [List.length_map]; omega, hj⟩]
    simp only [Option.bind_some, List.length_map]
    rfl
  | succ d ih =>
    intro k i acc hi hk ha hj
    obtain ⟨k, rfl⟩ : ∃ k', k = k' + 1 := ⟨k - 1, by omega⟩
    have hlt : i < l.length := by omega
    have hw : wrap64 ((i : Int) + 1) = ((i + 1 : Nat) : Int) := by rw [wrap_id (by omega) (by omega)]; omega
    have hmem := hp l[i] (List.getElem_mem hlt)
    rw [List.drop_eq_getElem_cons hlt, vals_cons] at hj ⊢
    rw [field_Get.l0, if_pos (by omega), if_pos (by omega), if_pos (by rw [pairsB_len]; omega), rd_pairs l i l[i] (List.getElem?_eq_getElem hlt), lowF _ (by omega), Option.bind_some, lowF _ (by omega), Option.bind_some, tl_mk, tl_mk]
    by_cases h : low l[i].1 = low n
    · rw [if_pos h] at hj ⊢
      rw [if_pos h, if_pos (by rw [List.length_map]; omega), hw]
      have := ih k (i + 1) (acc ++ [l[i].2]) (by omega) (by omega) (by rw [List.length_append, List.length_singleton]; omega) (by rw [List.append_assoc]; exact hj)
      rw [List.map_append, List.append_assoc] at this
      exact this
    · rw [if_neg h] at hj ⊢
      rw [if_neg h, hw]
      exact ih k (i + 1) acc (by omega) (by omega) (by omega) hj
theorem getF (l : List (L × L)) (n : L) (k : Nat) (hn : n.length ≤ 1000000) (hl : l.length ≤ 1000000) (hp : ∀ p ∈ l, p.1.length ≤ 1000000) (hj : (get l n).1.length ≤ 140737488355328) (hk : l.length < k) : field_Get.f k (pairsB l) (mk n) = some (mk (get l n).1, (get l n).2) := by
  have := get_l0 l n hn hl hp l.length k 0 [] (by omega) hk (by simp) (by simpa [get] using hj)
  unfold field_Get.f
  rw [pairsB_len]
  simpa [get] using this
theorem pairOf_len {l : L} {p : L × L} (h : pairOf l = some p) : p.1.length ≤ l.length ∧ p.2.length ≤ l.length := by
  have h1 : (tok l).1.length ≤ l.length := tw_len _ _
  have h2 : (tok l).2.length ≤ l.length := dw_len _ _
  unfold pairOf at h
  split at h
  · cases h
  · split at h
    · cases h
    · split at h
      · obtain rfl := Option.some.inj h
        have := trim_len (tok l).2.tail
        rw [List.length_tail] at this
        exact ⟨by rw [low_len]; exact h1, by simp only; omega⟩
      · cases h
theorem fparse_len (N M : Nat) : ∀ (f : Nat) (s : L) (acc : List (L × L)), s.length ≤ M → acc.length + s.length ≤ M → (∀ p ∈ acc, p.1.length ≤ M ∧ p.2.length ≤ M) →
    (fparse N f s acc).1.length ≤ M ∧ (∀ p ∈ (fparse N f s acc).1, p.1.length ≤ M ∧ p.2.length ≤ M) ∧ (fparse N f s acc).2.1.length ≤ M := by
  intro f
  induction f with
  | zero => intro s acc _ _ _; simp [fparse]
  | succ f ih =>
    intro s acc hs ha hp
    rw [fparse]
    cases e : line s with
    | none => simp
    | some p =>
      obtain ⟨l, more⟩ := p
      have hl := congrArg List.length (line_len s _ e)
      simp only [List.length_append, List.length_cons] at hl
      simp only
      split
      · simp
      · split
        · exact ⟨by simp only; omega, hp, by simp only; omega⟩
        · cases e2 : pairOf l with
          | none => simp
          | some q =>
            have hq := pairOf_len e2
            refine ih more (acc ++ [q]) (by omega) (by rw [List.length_append, List.length_singleton]; omega) (fun p hpm => ?_)
            rcases List.mem_append.1 hpm with hpm | hpm
            · exact hp p hpm
            · obtain rfl := List.mem_singleton.1 hpm
              exact ⟨by omega, by omega⟩
theorem fields_len (s : L) : (fields s).1.length ≤ s.length ∧ (∀ p ∈ (fields s).1, p.1.length ≤ s.length ∧ p.2.length ≤ s.length) ∧ (fields s).2.1.length ≤ s.length :=
  fparse_len s.length s.length _ s [] (Nat.le_refl _) (by simp) (by simp)
theorem joinTail_len (M : Nat) (r : List L) (h : ∀ x ∈ r, x.length ≤ M) : (Lib.joinTail [44, 32] r).length ≤ r.length * (M + 2) := by
  induction r with
  | nil => simp [Lib.joinTail]
  | cons x r ih =>
    have h1 := ih (fun y hy => h y (List.mem_cons_of_mem _ hy))
    have h2 := h x List.mem_cons_self
    have e : Lib.joinTail [44, 32] (x :: r) = [44, 32] ++ x ++ Lib.joinTail [44, 32] r := by simp [Lib.joinTail]
    rw [e]
    simp only [List.length_append, List.length_cons, List.length_nil]
    rw [Nat.add_mul, Nat.one_mul]
    omega
theorem join_len (M : Nat) (l : List L) (h : ∀ x ∈ l, x.length ≤ M) : (Lib.join l [44, 32]).length ≤ l.length * (M + 2) := by
  cases l with
  | nil => simp [Lib.join_nil]
  | cons x r =>
    have h1 := joinTail_len M r (fun y hy => h y (List.mem_cons_of_mem _ hy))
    have h2 := h x List.mem_cons_self
    rw [Lib.join_cons, List.length_append, List.length_cons, Nat.succ_mul]
    omega
theorem vals_len (l : List (L × L)) (n : L) : (vals l n).length ≤ l.length := by
  unfold vals
  rw [List.length_map]
  exact List.length_filter_le _ _
theorem get_len (l : List (L × L)) (n : L) (M : Nat) (h : ∀ p ∈ l, p.2.length ≤ M) : (get l n).1.length ≤ l.length * (M + 2) := by
  have h1 := join_len M (vals l n) (fun x hx => by
    unfold vals at hx
    obtain ⟨p, hp, rfl⟩ := List.mem_map.1 hx
    exact h p (List.mem_filter.1 hp).1)
  exact Nat.le_trans h1 (Nat.mul_le_mul_right _ (vals_len l n))
theorem join_snoc (acc : List L) (v sep : L) (h : acc ≠ []) : Lib.join (acc ++ [v]) sep = Lib.join acc sep ++ sep ++ v := by
  obtain ⟨x, r, rfl⟩ := List.exists_cons_of_ne_nil h
  rw [List.cons_append, Lib.join_cons, Lib.join_cons]
  unfold Lib.joinTail
  simp
theorem join_one (v sep : L) : Lib.join [v] sep = v := by rw [Lib.join_cons]; simp [Lib.joinTail]
theorem join_le (acc r : List L) (sep : L) : (Lib.join acc sep).length ≤ (Lib.join (acc ++ r) sep).length := by
  cases acc with
  | nil => rw [Lib.join_nil]; simp
  | cons x t =>
    rw [List.cons_append, Lib.join_cons, Lib.join_cons]
    unfold Lib.joinTail
    simp
theorem rget_l0 (l : List (L × L)) (n : L) (M : Nat) (hM : M ≤ 1000000) (hn : n.length ≤ M) (hl : l.length ≤ 1000000) (hp : ∀ p ∈ l, p.1.length ≤ M) : ∀ (d k i : Nat) (acc : List L), i + d = l.length → d + M + 1 < k → acc.length ≤ i → (Lib.join (acc ++ vals (l.drop i) n) [44, 32]).length ≤ 140737488355328 →
    broadsheetref18_Get.l0 k (pairsB l) (mk n) (mk (Lib.join acc [44, 32])) (acc.length : Int) (i : Int) = some (mk (Lib.join (acc ++ vals (l.drop i) n) [44, 32]), ((acc ++ vals (l.drop i) n).length : Int)) := by
  intro d
  induction d with
  | zero =>
    intro k i acc hi hk ha hj
    obtain ⟨k, rfl⟩ : ∃ k', k = k' + 1 := ⟨k - 1, by omega⟩
    rw [List.drop_eq_nil_of_le (by omega)] at hj ⊢
    rw [show vals [] n = [] from rfl, List.append_nil] at hj ⊢
    rw [broadsheetref18_Get.l0, if_neg (by rw [pairsB_len]; omega)]
  | succ d ih =>
    intro k i acc hi hk ha hj
    obtain ⟨k, rfl⟩ : ∃ k', k = k' + 1 := ⟨k - 1, by omega⟩
    have hlt : i < l.length := by omega
    have hmem := hp l[i] (List.getElem_mem hlt)
    rw [List.drop_eq_getElem_cons hlt, vals_cons] at hj ⊢
    rw [broadsheetref18_Get.l0, if_pos (by rw [pairsB_len]; omega), if_pos (by omega), rd_pairs l i l[i] (List.getElem?_eq_getElem hlt), rlowF _ _ (by omega) (by omega), Option.bind_some, rlowF _ _ (by omega) (by omega), Option.bind_some, tl_mk, tl_mk, w1 i (by omega), w1 acc.length (by omega)]
    by_cases h : low l[i].1 = low n
    · rw [if_pos h] at hj ⊢
      rw [if_pos h]
      have hstep := ih k (i + 1) (acc ++ [l[i].2]) (by omega) (by omega) (by rw [List.length_append, List.length_singleton]; omega) (by rw [List.append_assoc]; exact hj)
      rw [List.append_assoc, List.length_append, List.length_singleton] at hstep
      have hle := join_le (acc ++ [l[i].2]) (vals (l.drop (i + 1)) n) [44, 32]
      rw [List.append_assoc] at hle
      have hle2 := Nat.le_trans hle hj
      by_cases h0 : acc = []
      · subst h0
        rw [List.nil_append, join_one] at hle2 hstep
        rw [if_neg (by simp), if_pos (by rw [mk_size, mk_size, Lib.join_nil]; simp only [List.length_nil]; omega), mk_append, Lib.join_nil]
        exact hstep
      · have hpos := List.length_pos_iff.2 h0
        rw [join_snoc _ _ _ h0] at hle2 hstep
        simp only [List.length_append, List.length_cons, List.length_nil] at hle2
        rw [if_pos (by omega), show (⟨#[44, 32]⟩ : ByteArray) = mk [44, 32] from rfl, if_pos (by rw [mk_size]; omega), mk_append, if_pos (by rw [mk_size, mk_size, List.length_append]; simp only [List.length_cons, List.length_nil]; omega), mk_append]
        exact hstep
    · rw [if_neg h] at hj ⊢
      rw [if_neg h]
      exact ih k (i + 1) acc (by omega) (by omega) (by omega) hj
theorem rgetF (l : List (L × L)) (n : L) (M k : Nat) (hM : M ≤ 1000000) (hn : n.length ≤ M) (hl : l.length ≤ 1000000) (hp : ∀ p ∈ l, p.1.length ≤ M) (hj : (get l n).1.length ≤ 140737488355328) (hk : l.length + M + 1 < k) : broadsheetref18_Get.f k (pairsB l) (mk n) = some (mk (get l n).1, (get l n).2) := by
  have := rget_l0 l n M hM hn hl hp l.length k 0 [] (by omega) hk (by simp) (by simpa [get] using hj)
  unfold broadsheetref18_Get.f
  rw [List.drop_zero, List.nil_append] at this
  exact this
theorem get_bound (l : List (L × L)) (n : L) (hl : l.length ≤ 100000) (hp : ∀ p ∈ l, p.1.length ≤ 100000 ∧ p.2.length ≤ 100000) : (get l n).1.length ≤ 10000200000 :=
  Nat.le_trans (get_len _ _ 100000 (fun p h => (hp p h).2)) (Nat.mul_le_mul (show l.length ≤ 100000 from hl) (Nat.le_refl 100002))
theorem rsame_l0 (l : List (L × L)) (hl : l.length ≤ 1000000) : ∀ (d k i : Nat), i + d = l.length → d < k → broadsheetref07_SamePairs.l0 k (pairsB l) (pairsB l) i = some true := by
  intro d
  induction d with
  | zero =>
    intro k i hi hk
    obtain ⟨k, rfl⟩ : ∃ k', k = k' + 1 := ⟨k - 1, by omega⟩
    rw [broadsheetref07_SamePairs.l0, if_neg (by rw [pairsB_len]; omega)]
  | succ d ih =>
    intro k i hi hk
    obtain ⟨k, rfl⟩ : ∃ k', k = k' + 1 := ⟨k - 1, by omega⟩
    rw [broadsheetref07_SamePairs.l0, if_pos (by rw [pairsB_len]; omega), if_pos (by omega), if_pos (by rw [pairsB_len]; omega), if_neg (by simp), w1 i (by omega)]
    exact ih k (i + 1) (by omega) (by omega)
theorem rsameF (l : List (L × L)) (k : Nat) (hl : l.length ≤ 1000000) (hk : l.length < k) : broadsheetref07_SamePairs.f k (pairsB l) (pairsB l) = some true := by
  unfold broadsheetref07_SamePairs.f
  rw [if_pos rfl]
  exact rsame_l0 l hl l.length k 0 (by omega) hk
end Go.Proofs.YtaopopnlnohnpaaGreatDoor.Sp
/- Px25 -/
namespace Go.Proofs.YtaopopnlnohnpaaGreatDoor.P
open Go.Proofs.YtaopopnlnohnpaaGreatDoor.B
open Go.RowKit Go.Proofs.YtaopopnlnohnpaaGreatDoorW.PrintWords Go.Proofs.YtaopopnlnohnpaaGreatDoorW.PrintLast Go.Proofs.YtaopopnlnohnpaaGreatDoorW.PrintMore
attribute [local go_sem] str_leq str_gtr str_geq max2_int min2_int max_two min_two max_three min_three max_four min_four
set_option linter.unusedVariables false
set_option linter.unusedSimpArgs false
end Go.Proofs.YtaopopnlnohnpaaGreatDoor.P
/- SpYa -/
namespace Go.Proofs.YtaopopnlnohnpaaGreatDoor.Sp
open Go Go.RowKit Go.Proofs.YtaopopnlnohnpaaGreatDoorW.PrintWords Go.Proofs.YtaopopnlnohnpaaGreatDoorW.PrintLast Go.Proofs.YtaopopnlnohnpaaGreatDoor.O Go.Proofs.YtaopopnlnohnpaaGreatDoor.P
set_option linter.unusedVariables false
set_option linter.unusedSimpArgs false
/-- What is told of fields, behind what is told already. -/
def printA (acc : L) (l : List (L × L)) : L × Int := if l.all okP = true then (if 8000 < (acc ++ prs l ++ [13, 10]).length then ([], 2) else (acc ++ prs l ++ [13, 10], 0)) else ([], 180)
theorem printA_nil (l : List (L × L)) : printA [] l = printS l := rfl
theorem printA_cons (acc : L) (p : L × L) (l : List (L × L)) : printA acc (p :: l) = if okP p = true then printA (acc ++ (p.1 ++ 58 :: 32 :: (p.2 ++ [13, 10]))) l else ([], 180) := by
  have e : acc ++ prs (p :: l) ++ [13, 10] = acc ++ (p.1 ++ 58 :: 32 :: (p.2 ++ [13, 10])) ++ prs l ++ [13, 10] := by simp [prs]
  unfold printA
  rw [e, List.all_cons]
  by_cases h : okP p = true
  · rw [if_pos h, h, Bool.true_and]
  · rw [if_neg h, Bool.eq_false_iff.2 h, Bool.false_and, if_neg (by decide)]
theorem wsF (a b : L) (h : a.length + b.length ≤ 100000000000) : ∃ n e, Builder_WriteString.f (mk a) (mk b) = some (n, e, mk (a ++ b)) := by
  unfold Builder_WriteString.f
  rw [if_pos (by rw [mk_size, mk_size]; omega), mk_append]
  exact ⟨_, _, rfl⟩
theorem okP_parts (p : L × L) : okP p = (isTok p.1 && fval p.2) := rfl
theorem fprint_l0 (l : List (L × L)) (hl : l.length ≤ 100000) (hp : ∀ p ∈ l, p.1.length ≤ 100000 ∧ p.2.length ≤ 100000) : ∀ (d k i : Nat) (acc : L), i + d = l.length → d + 100002 < k → acc.length + d * 300000 ≤ 90000000000 →
    field_Print.l0 k (pairsB l) (l.length : Int) (i : Int) (mk acc) = some (mk (printA acc (l.drop i)).1, (printA acc (l.drop i)).2) := by
  intro d
  induction d with
  | zero =>
    intro k i acc hi hk ha
    obtain ⟨k, rfl⟩ : ∃ k', k = k' + 1 := ⟨k - 1, by omega⟩
    rw [List.drop_eq_nil_of_le (by omega), field_Print.l0, if_neg (by omega), show (⟨#[13, 10]⟩ : ByteArray) = mk [13, 10] from rfl]
    obtain ⟨n, e, hw⟩ := wsF acc [13, 10] (by simp only [List.length_cons, List.length_nil]; omega)
    rw [hw, Option.bind_some, Builder_Len.f, Option.bind_some]
    unfold printA
    simp only [List.all_nil, if_true, prs, List.append_nil, mk_size]
    by_cases h : 8000 < (acc ++ [13, 10]).length
    · rw [if_pos (by omega), if_pos h]; rfl
    · rw [if_neg (by omega), if_neg h, Builder_String.f, Option.bind_some]
  | succ d ih =>
    intro k i acc hi hk ha
    obtain ⟨k, rfl⟩ : ∃ k', k = k' + 1 := ⟨k - 1, by omega⟩
    have hlt : i < l.length := by omega
    obtain ⟨h1, h2⟩ := hp l[i] (List.getElem_mem hlt)
    rw [List.drop_eq_getElem_cons hlt, printA_cons, okP_parts]
    rw [field_Print.l0, if_pos (by omega), if_pos (by omega), if_pos (by rw [pairsB_len]; omega), rd_pairs l i l[i] (List.getElem?_eq_getElem hlt)]
    simp only
    rw [isTokF _ k (by omega) (by omega), Option.bind_some, fvalF _ (by omega), Option.bind_some]
    by_cases ht : isTok l[i].1 = true
    · by_cases hv : fval l[i].2 = true
      · have e1 : (⟨#[58, 32]⟩ : ByteArray) = mk [58, 32] := rfl
        have e2 : (⟨#[13, 10]⟩ : ByteArray) = mk [13, 10] := rfl
        rw [if_pos ht, if_pos hv, e1, e2, mk_append, mk_append, mk_append, if_pos (by rw [mk_size]; omega), if_pos (by rw [mk_size, mk_size, List.length_append]; simp only [List.length_cons, List.length_nil]; omega), if_pos (by rw [mk_size, List.length_append, List.length_append]; simp only [List.length_cons, List.length_nil]; omega)]
        obtain ⟨n, e, hw⟩ := wsF acc (l[i].1 ++ [58, 32] ++ l[i].2 ++ [13, 10]) (by simp only [List.length_append, List.length_cons, List.length_nil]; omega)
        rw [hw, Option.bind_some, w1 i (by omega)]
        simp only
        rw [ih k (i + 1) _ (by omega) (by omega) (by simp only [List.length_append, List.length_cons, List.length_nil]; omega)]
        simp [ht, hv]
      · rw [if_pos ht, if_neg hv]
        simp [ht, hv]
        rfl
    · rw [if_neg ht]
      simp [ht]
      rfl
theorem fprintF (l : List (L × L)) (k : Nat) (hl : l.length ≤ 16000) (hp : ∀ p ∈ l, p.1.length ≤ 100000 ∧ p.2.length ≤ 100000) (hk : 200000 ≤ k) : field_Print.f k (pairsB l) = some (mk (printS l).1, (printS l).2) := by
  have := fprint_l0 l (by omega) hp l.length k 0 [] (by omega) (by omega) (by simp; omega)
  unfold field_Print.f
  rw [pairsB_len]
  rw [List.drop_zero, printA_nil] at this
  exact this
end Go.Proofs.YtaopopnlnohnpaaGreatDoor.Sp
/- SpQ -/
namespace Go.Proofs.YtaopopnlnohnpaaGreatDoor.Mn
open Go.RowKit Go.Proofs.YtaopopnlnohnpaaGreatDoorW.PrintWords Go.Proofs.YtaopopnlnohnpaaGreatDoorW.PrintLast Go.Proofs.YtaopopnlnohnpaaGreatDoor.O
set_option linter.unusedVariables false
set_option linter.unusedSimpArgs false
abbrev L := List UInt8
def cut (c : UInt8) : L → List L
  | [] => [[]]
  | x :: r => if x = c then [] :: cut c r else match cut c r with
    | [] => [[x]]
    | y :: z => (x :: y) :: z
theorem cut_ne (c : UInt8) (l : L) : cut c l ≠ [] := by
  cases l with
  | nil => simp [cut]
  | cons x r =>
    unfold cut
    split
    · simp
    · split <;> simp
theorem cut_other (c x : UInt8) (r : L) (h : x ≠ c) : ∃ y z, cut c r = y :: z ∧ cut c (x :: r) = (x :: y) :: z := by
  cases e : cut c r with
  | nil => exact absurd e (cut_ne c r)
  | cons y z => exact ⟨y, z, rfl, by simp [cut, h, e]⟩
theorem cut_none (c : UInt8) : ∀ (a : L), c ∉ a → cut c a = [a]
  | [], _ => rfl
  | x :: a, h => by
    obtain ⟨y, z, e1, e2⟩ := cut_other c x a (fun e => h (by simp [e]))
    rw [cut_none c a (fun e => h (by simp [e]))] at e1
    obtain ⟨rfl, rfl⟩ := List.cons.inj e1
    exact e2
theorem dec_len (k : Nat) : ∀ u, u < 10 ^ (k + 1) → (Lib.decDigits u).length ≤ k + 1 := by
  induction k with
  | zero =>
    intro u h
    rw [Lib.decDigits, dif_pos (by omega)]
    simp
  | succ k ih =>
    intro u h
    rw [Lib.decDigits]
    split
    · simp
    · have := ih (u / 10) (by rw [Nat.pow_succ] at h; omega)
      simp only [List.length_append, List.length_singleton]
      omega
/-- The reader of numerals that the document has. -/
def dec (n : Int) : L := Lib.decDigits n.toNat
theorem itoa_dec (n : Int) (h : 0 ≤ n) : Lib.itoa n = dec n := by
  unfold Lib.itoa dec
  rw [if_neg (by omega)]
end Go.Proofs.YtaopopnlnohnpaaGreatDoor.Mn
/- SpL -/
namespace Go.Proofs.YtaopopnlnohnpaaGreatDoor.Sp
open Go Go.RowKit Go.Proofs.YtaopopnlnohnpaaGreatDoorW.PrintWords Go.Proofs.YtaopopnlnohnpaaGreatDoorW.PrintLast Go.Proofs.YtaopopnlnohnpaaGreatDoor.O Go.Proofs.YtaopopnlnohnpaaGreatDoor.P
set_option linter.unusedVariables false
set_option linter.unusedSimpArgs false
theorem fldF (s : L) (hs : s.length < 4294967281) : field_Parse.f (mk s) = some (fldB (fields s)) := by
  unfold field_Parse.f fieldsB
  rw [if_pos (by rw [mk_size]; exact hs), mk_data]
  rfl
theorem line_cut (s : L) : (line s = none ∧ Lib.cut s [13, 10] = (s, [], false)) ∨ (∃ p, line s = some p ∧ Lib.cut s [13, 10] = (p.1, p.2, true)) := by
  cases e : line s with
  | none =>
    have hb : lineB (mk s) = none := by unfold lineB; rw [mk_data, e]; rfl
    have := cut_none (mk s) hb
    rw [mk_data] at this
    exact .inl ⟨rfl, this⟩
  | some p =>
    have hb : lineB (mk s) = some (mk p.1, mk p.2) := by unfold lineB; rw [mk_data, e]; rfl
    have := cut_some (mk s) (mk p.1) (mk p.2) hb
    rw [mk_data, mk_data, mk_data] at this
    exact .inr ⟨p, rfl, this⟩
end Go.Proofs.YtaopopnlnohnpaaGreatDoor.Sp
/- Px26 -/
namespace Go.Proofs.YtaopopnlnohnpaaGreatDoor.P
open Go.Proofs.YtaopopnlnohnpaaGreatDoor.B
open Go.RowKit Go.Proofs.YtaopopnlnohnpaaGreatDoorW.PrintWords Go.Proofs.YtaopopnlnohnpaaGreatDoorW.PrintLast Go.Proofs.YtaopopnlnohnpaaGreatDoorW.PrintMore
attribute [local go_sem] str_leq str_gtr str_geq max2_int min2_int max_two min_two max_three min_three max_four min_four
set_option linter.unusedVariables false
set_option linter.unusedSimpArgs false
end Go.Proofs.YtaopopnlnohnpaaGreatDoor.P
/- SpYb -/
namespace Go.Proofs.YtaopopnlnohnpaaGreatDoor.Sp
open Go Go.RowKit Go.Proofs.YtaopopnlnohnpaaGreatDoorW.PrintWords Go.Proofs.YtaopopnlnohnpaaGreatDoorW.PrintLast Go.Proofs.YtaopopnlnohnpaaGreatDoor.O Go.Proofs.YtaopopnlnohnpaaGreatDoor.P
set_option linter.unusedVariables false
set_option linter.unusedSimpArgs false
def sts : List Int := [200, 201, 204, 304, 400, 404, 405, 406, 409, 412, 413, 415, 431, 500, 503, 507]
theorem reason_out {n : Int} (h : n ∉ sts) : reasonS n = [] := by
  simp only [sts, List.mem_cons, List.not_mem_nil, or_false, not_or] at h
  obtain ⟨h0, h1, h2, h3, h4, h5, h6, h7, h8, h9, h10, h11, h12, h13, h14, h15⟩ := h
  unfold reasonS reasonL
  simp only [List.foldl_cons, List.foldl_nil]
  rw [if_neg (fun e => h15 e.symm), if_neg (fun e => h14 e.symm), if_neg (fun e => h13 e.symm), if_neg (fun e => h12 e.symm), if_neg (fun e => h11 e.symm), if_neg (fun e => h10 e.symm), if_neg (fun e => h9 e.symm), if_neg (fun e => h8 e.symm), if_neg (fun e => h7 e.symm), if_neg (fun e => h6 e.symm), if_neg (fun e => h5 e.symm), if_neg (fun e => h4 e.symm), if_neg (fun e => h3 e.symm), if_neg (fun e => h2 e.symm), if_neg (fun e => h1 e.symm), if_neg (fun e => h0 e.symm)]
theorem reason_in {n : Int} (h : reasonS n ≠ []) : n ∈ sts := by
  by_cases hn : n ∈ sts
  · exact hn
  · exact absurd (reason_out hn) h
theorem reason_ne : ∀ n ∈ sts, reasonS n ≠ [] := by decide +kernel
theorem sts_bd : ∀ n ∈ sts, 200 ≤ n ∧ n ≤ 507 := by decide +kernel
theorem reason_len : ∀ n ∈ sts, (reasonS n).length ≤ 40 := by decide +kernel
theorem reasonF (n : Int) (h1 : -9223372036854775808 ≤ n) (h2 : n ≤ 9223372036854775807) : response_Reason.f n = some (mk (reasonS n)) := by
  unfold response_Reason.f
  rw [if_pos ⟨h1, h2⟩]
  rfl
theorem rreasonF (n : Int) : broadsheetref21_Reason.f n = some (mk (reasonS n)) := by
  unfold broadsheetref21_Reason.f
  by_cases h0 : n = 200
  · subst h0; rfl
  rw [if_neg h0]
  by_cases h1 : n = 201
  · subst h1; rfl
  rw [if_neg h1]
  by_cases h2 : n = 204
  · subst h2; rfl
  rw [if_neg h2]
  by_cases h3 : n = 304
  · subst h3; rfl
  rw [if_neg h3]
  by_cases h4 : n = 400
  · subst h4; rfl
  rw [if_neg h4]
  by_cases h5 : n = 404
  · subst h5; rfl
  rw [if_neg h5]
  by_cases h6 : n = 405
  · subst h6; rfl
  rw [if_neg h6]
  by_cases h7 : n = 406
  · subst h7; rfl
  rw [if_neg h7]
  by_cases h8 : n = 409
  · subst h8; rfl
  rw [if_neg h8]
  by_cases h9 : n = 412
  · subst h9; rfl
  rw [if_neg h9]
  by_cases h10 : n = 413
  · subst h10; rfl
  rw [if_neg h10]
  by_cases h11 : n = 415
  · subst h11; rfl
  rw [if_neg h11]
  by_cases h12 : n = 431
  · subst h12; rfl
  rw [if_neg h12]
  by_cases h13 : n = 500
  · subst h13; rfl
  rw [if_neg h13]
  by_cases h14 : n = 503
  · subst h14; rfl
  rw [if_neg h14]
  by_cases h15 : n = 507
  · subst h15; rfl
  rw [if_neg h15]
  rw [reason_out (by simp [sts, h0, h1, h2, h3, h4, h5, h6, h7, h8, h9, h10, h11, h12, h13, h14, h15])]
  rfl
def bareI (n : Int) : Bool := decide (n = 204) || decide (n = 304)
theorem bareF (n : Int) : response_bare.f n = some (bareI n) := by
  unfold response_bare.f bareI
  by_cases h : n = 204
  · rw [if_pos h]; simp [h]
  · rw [if_neg h]
    by_cases h2 : n = 304 <;> simp [h, h2]
theorem rbareF (n : Int) : broadsheetref21_bare.f n = some (bareI n) := by
  unfold broadsheetref21_bare.f bareI
  by_cases h : n = 204
  · rw [if_pos h]; simp [h]
  · rw [if_neg h]
    by_cases h2 : n = 304 <;> simp [h, h2]
theorem one_dig (u : Nat) (h : u < 10) : strOfNums [((48 + u : Nat) : Int)] = mk [UInt8.ofNat (48 + u)] := rfl
theorem digits_l0 (j : Nat) : ∀ (k u : Nat) (acc : L), u < 10 ^ (j + 1) → u < 1000000000000 → j + 1 ≤ k → acc.length + j ≤ 1000000000 →
    broadsheetref03_digits.l0 k (u : Int) (mk acc) = some (mk (Lib.decDigits u ++ acc)) := by
  induction j with
  | zero =>
    intro k u acc hu hb hk ha
    obtain ⟨k, rfl⟩ : ∃ k', k = k' + 1 := ⟨k - 1, by omega⟩
    have hw : (wrap64 (48 + (u : Int))) % 256 = ((48 + u : Nat) : Int) := by rw [wrap_id (by omega) (by omega)]; omega
    rw [broadsheetref03_digits.l0, if_neg (by omega), if_pos (by simp)]
    simp only [List.nil_append, Option.bind_some]
    rw [hw, one_dig u (by omega), if_pos (by rw [mk_size, mk_size]; simp only [List.length_singleton]; omega), mk_append, Lib.decDigits, dif_pos (by omega)]
  | succ j ih =>
    intro k u acc hu hb hk ha
    obtain ⟨k, rfl⟩ : ∃ k', k = k' + 1 := ⟨k - 1, by omega⟩
    by_cases h : u < 10
    · have hw : (wrap64 (48 + (u : Int))) % 256 = ((48 + u : Nat) : Int) := by rw [wrap_id (by omega) (by omega)]; omega
      rw [broadsheetref03_digits.l0, if_neg (by omega), if_pos (by simp)]
      simp only [List.nil_append, Option.bind_some]
      rw [hw, one_dig u h, if_pos (by rw [mk_size, mk_size]; simp only [List.length_singleton]; omega), mk_append, Lib.decDigits, dif_pos h]
    · have em : Int.tmod (u : Int) 10 = ((u % 10 : Nat) : Int) := by rw [Int.tmod_eq_emod_of_nonneg (by omega)]; omega
      have ed : Int.tdiv (u : Int) 10 = ((u / 10 : Nat) : Int) := by rw [Int.tdiv_eq_ediv_of_nonneg (by omega)]; omega
      have hw : (wrap64 (48 + ((u % 10 : Nat) : Int))) % 256 = ((48 + u % 10 : Nat) : Int) := by rw [wrap_id (by omega) (by omega)]; omega
      rw [broadsheetref03_digits.l0, if_pos (by omega), if_pos (by simp), em, ed, wrap_id (x := ((u / 10 : Nat) : Int)) (by omega) (by omega)]
      simp only [List.nil_append, Option.bind_some]
      rw [hw, one_dig (u % 10) (by omega), if_pos (by rw [mk_size, mk_size]; simp only [List.length_singleton]; omega), mk_append,
        ih k (u / 10) _ (by rw [Nat.pow_succ] at hu; omega) (by omega) (by omega) (by simp only [List.length_append, List.length_singleton]; omega)]
      conv => rhs; rw [Lib.decDigits, dif_neg h]
      simp
theorem digF (n : Int) (k : Nat) (hk : 20 ≤ k) (h0 : 0 ≤ n) (h : n < 1000000000000) : broadsheetref03_Digits.f k n = some (mk (Mn.dec n)) := by
  obtain ⟨u, rfl⟩ := Int.eq_ofNat_of_zero_le h0
  unfold broadsheetref03_Digits.f broadsheetref03_digits.f
  have := digits_l0 12 k u [] (by omega) (by omega) (by omega) (by simp)
  rw [if_neg (by omega), show (⟨#[]⟩ : ByteArray) = mk [] from rfl, this, Option.bind_some, List.append_nil]
  rfl
theorem itoF (n : Int) (h0 : 0 ≤ n) (h : n < 1000000000000) : strconv_Itoa.f n = some (mk (Mn.dec n)) := by
  unfold strconv_Itoa.f
  rw [if_pos ⟨by omega, by omega⟩, Mn.itoa_dec n h0]
  rfl
theorem dec_ln (n : Int) (h : n < 1000000000000) : (Mn.dec n).length ≤ 12 := Mn.dec_len 11 n.toNat (by omega)
def dig3 (n : Nat) : L := [UInt8.ofNat (48 + n / 100), UInt8.ofNat (48 + n / 10 % 10), UInt8.ofNat (48 + n % 10)]
theorem dec3 (n : Nat) (h1 : 100 ≤ n) (h2 : n < 1000) : Lib.decDigits n = dig3 n := by
  rw [Lib.decDigits, dif_neg (by omega), Lib.decDigits, dif_neg (by omega), Lib.decDigits, dif_pos (by omega)]
  unfold dig3
  rw [Nat.div_div_eq_div_mul]
  rfl
def verL : L := [72, 84, 84, 80, 47, 49, 46, 49, 32]
def firstL (n : Int) : L := verL ++ dig3 n.toNat ++ [32] ++ reasonS n
theorem dec_sts {n : Int} (h : n ∈ sts) : Mn.dec n = dig3 n.toNat := by
  have := sts_bd n h
  exact dec3 n.toNat (by omega) (by omega)
theorem firstF {n : Int} (h : n ∈ sts) : response_first.f n = some (mk (firstL n)) := by
  have hb := sts_bd n h
  have hr := reason_len n h
  have e1 : (⟨#[72, 84, 84, 80, 47, 49, 46, 49, 32]⟩ : ByteArray) = mk verL := rfl
  have e2 : (⟨#[32]⟩ : ByteArray) = mk [32] := rfl
  have hd : (dig3 n.toNat).length = 3 := rfl
  have hv : verL.length = 9 := rfl
  unfold response_first.f
  rw [itoF n (by omega) (by omega), Option.bind_some, dec_sts h, e1, e2, mk_append, mk_append, if_pos (by rw [mk_size, hd]; omega), if_pos (by rw [mk_size, List.length_append, hd, hv]; omega), reasonF n (by omega) (by omega), Option.bind_some, if_pos (by rw [mk_size, mk_size]; simp only [List.length_append, hd, hv, List.length_singleton]; omega), mk_append]
  rfl
def statusS (l : L) : Int := (sts.find? fun n => decide (l = firstL n)).getD 0
theorem status_of {n : Int} (h : n ∈ sts) : statusS (firstL n) = n := by
  revert n
  show ∀ n ∈ sts, statusS (firstL n) = n
  decide +kernel
theorem status_no {l : L} (h : ∀ n ∈ sts, l ≠ firstL n) : statusS l = 0 := by
  unfold statusS
  rw [List.find?_eq_none.2 (fun n hn => by simpa using h n hn)]
  rfl
theorem status_cases (l : L) : (∃ n ∈ sts, l = firstL n ∧ statusS l = n) ∨ ((∀ n ∈ sts, l ≠ firstL n) ∧ statusS l = 0) := by
  by_cases h : ∃ n ∈ sts, l = firstL n
  · obtain ⟨n, h1, rfl⟩ := h
    exact .inl ⟨n, h1, rfl, status_of h1⟩
  · exact .inr ⟨fun n hn e => h ⟨n, hn, e⟩, status_no (fun n hn e => h ⟨n, hn, e⟩)⟩
theorem atoi_rng (l : L) : -9223372036854775808 ≤ (atoiF l).1 ∧ (atoiF l).1 ≤ 9223372036854775807 := by
  unfold atoiF
  match h : Lib.atoiAll l with
  | Lib.NumEnd.syntax => simp only; decide
  | .range =>
    simp only
    unfold Lib.atoiSat
    split <;> decide
  | .ok v =>
    simp only
    unfold Lib.atoiAll at h
    split at h
    · cases h
    · simp only at h
      split at h
      · cases h
      · cases h
      · split at h
        · cases h
        · rename_i h1
          split at h
          · cases h
          · rename_i h2
            injection h with h
            split at h <;> omega
theorem stat_at : ∀ n ∈ sts, (atoiF (Lib.cut (Lib.trimPrefix (firstL n) verL) [32]).1).1 = n := by
  decide +kernel
theorem statusF (l : L) (h : l.length ≤ 4000000000) : response_status.f (mk l) = some (statusS l) := by
  have htl : (Lib.trimPrefix l verL).length ≤ l.length := by
    unfold Lib.trimPrefix
    split
    · rw [List.length_drop]; omega
    · exact Nat.le_refl _
  have hcl : (Lib.cut (Lib.trimPrefix l verL) [32]).1.length ≤ l.length := by
    rcases index1 32 (Lib.trimPrefix l verL) with ⟨e1, _⟩ | ⟨x, y, e1, e2, _⟩
    · rw [cut1_none e1]; exact htl
    · have e := cut1_some x y e2
      rw [← e1] at e
      rw [e]
      have := congrArg List.length e1
      rw [List.length_append] at this
      simp only
      omega
  obtain ⟨v1, v2⟩ := atoi_rng (Lib.cut (Lib.trimPrefix l verL) [32]).1
  have hst := stat_at
  unfold response_status.f strings_TrimPrefix.f
  rw [Option.bind_some, show (⟨#[72, 84, 84, 80, 47, 49, 46, 49, 32]⟩ : ByteArray) = mk verL from rfl, mk_data, mk_data, show (⟨(Lib.trimPrefix l verL).toArray⟩ : ByteArray) = mk (Lib.trimPrefix l verL) from rfl, show (⟨#[32]⟩ : ByteArray) = mk [32] from rfl, cut_l, if_pos (by omega), Option.bind_some]
  simp only
  unfold strconv_Atoi.f
  rw [if_pos (by rw [mk_size]; omega), Option.bind_some, mk_data]
  have key : ∀ v : Int, -9223372036854775808 ≤ v → v ≤ 9223372036854775807 → (∀ n ∈ sts, l = firstL n → v = n) → ((response_Reason.f v).bind fun t145 => (if t145.toList = ([] : List UInt8) then (some 0) else ((response_first.f v).bind fun t146 => (if t146.toList = (mk l).toList then (some v) else (some 0))))) = some (statusS l) := by
    intro v h1 h2 hv
    rw [reasonF v h1 h2, Option.bind_some, tl_mk]
    rcases status_cases l with ⟨n, hn, e1, e2⟩ | ⟨hno, e2⟩
    · obtain rfl := hv n hn e1
      rw [if_neg (reason_ne v hn), firstF hn, Option.bind_some, tl_mk, tl_mk, if_pos e1.symm, e2]
    · rw [e2]
      by_cases hr : reasonS v = []
      · rw [if_pos hr]
      · rw [if_neg hr, firstF (reason_in hr), Option.bind_some, tl_mk, tl_mk, if_neg (fun e => hno v (reason_in hr) e.symm)]
  have hk := key (atoiF (Lib.cut (Lib.trimPrefix l verL) [32]).1).1 v1 v2 (fun n hn e => by rw [e]; exact hst n hn)
  by_cases hi : (atoiF (Lib.cut (Lib.trimPrefix l verL) [32]).1).2.isNone = true
  · rw [if_pos hi]; exact hk
  · rw [if_neg hi]; exact hk
def clenL : L := [99, 111, 110, 116, 101, 110, 116, 45, 108, 101, 110, 103, 116, 104]
def CLenL : L := [67, 111, 110, 116, 101, 110, 116, 45, 76, 101, 110, 103, 116, 104]
def withLen (n : Int) (l : List (L × L)) (b : L) : List (L × L) := if bareI n = true then l else l ++ [(CLenL, Mn.dec b.length)]
def printR (n : Int) (l : List (L × L)) (b : L) : L × Int :=
  if reasonS n = [] ∨ (bareI n = true ∧ b ≠ []) then ([], 1) else if 100000 < b.length then ([], 2) else if 0 < (get l clenL).2 then ([], 180)
  else if (printS (withLen n l b)).2 = 0 then (firstL n ++ [13, 10] ++ (printS (withLen n l b)).1 ++ b, 0) else ([], (printS (withLen n l b)).2)
def Short (l : List (L × L)) : Prop := l.length ≤ 15000 ∧ ∀ p ∈ l, p.1.length ≤ 100000 ∧ p.2.length ≤ 100000
theorem printS_len (l : List (L × L)) : (printS l).1.length ≤ 8000 := by
  unfold printS
  split
  · split
    · simp
    · simp only; omega
  · simp
theorem short_with {n : Int} {l : List (L × L)} {b : L} (h : Short l) (hb : b.length ≤ 100000) : (withLen n l b).length ≤ 16000 ∧ ∀ p ∈ withLen n l b, p.1.length ≤ 100000 ∧ p.2.length ≤ 100000 := by
  have hd := dec_ln (b.length : Int) (by omega)
  have h1 := h.1
  unfold withLen
  split
  · exact ⟨by omega, h.2⟩
  · refine ⟨by rw [List.length_append, List.length_singleton]; omega, fun p hp => ?_⟩
    rcases List.mem_append.1 hp with hp | hp
    · exact h.2 p hp
    · rw [List.mem_singleton.1 hp]
      exact ⟨show CLenL.length ≤ 100000 by decide, by simp only; omega⟩
theorem get_bd {l : List (L × L)} (h : Short l) (n : L) : (get l n).1.length ≤ 10000200000 := get_bound l n (by have := h.1; omega) h.2
theorem lensF {l : List (L × L)} (k : Nat) (h : Short l) (hk : 200000 ≤ k) : response_lengths.f k (pairsB l) = some (get l clenL).2 := by
  unfold response_lengths.f
  have h1 := h.1
  rw [show (⟨#[99, 111, 110, 116, 101, 110, 116, 45, 108, 101, 110, 103, 116, 104]⟩ : ByteArray) = mk clenL from rfl, getF l clenL k (by decide) (by omega) (fun p hp => by have := h.2 p hp; omega) (by have := get_bd h clenL; omega) (by omega)]
  rfl
theorem rlensF {l : List (L × L)} (k : Nat) (h : Short l) (hk : 200000 ≤ k) : broadsheetref18_Get.f k (pairsB l) (⟨#[99, 111, 110, 116, 101, 110, 116, 45, 108, 101, 110, 103, 116, 104]⟩ : ByteArray) = some (mk (get l clenL).1, (get l clenL).2) := by
  have h1 := h.1
  rw [show (⟨#[99, 111, 110, 116, 101, 110, 116, 45, 108, 101, 110, 103, 116, 104]⟩ : ByteArray) = mk clenL from rfl]
  exact rgetF l clenL 100000 k (by decide) (by decide) (by omega) (fun p hp => (h.2 p hp).1) (by have := get_bd h clenL; omega) (by omega)
theorem pairs_with (l : List (L × L)) (v : L) : pairsB l ++ [(⟨(⟨#[67, 111, 110, 116, 101, 110, 116, 45, 76, 101, 110, 103, 116, 104]⟩ : ByteArray), mk v⟩ : S41)] = pairsB (l ++ [(CLenL, v)]) := by
  rw [pairsB_app]
  rfl
theorem first_len {n : Int} (h : n ∈ sts) : (firstL n).length ≤ 60 := by
  have := reason_len n h
  unfold firstL
  simp only [List.length_append, List.length_cons, List.length_nil, verL, dig3]
  omega
theorem pj1 {n : Int} (l' l : List (L × L)) (b : L) (k : Nat) (hn : n ∈ sts) (hl : l'.length ≤ 16000 ∧ ∀ p ∈ l', p.1.length ≤ 100000 ∧ p.2.length ≤ 100000) (hb : b.length ≤ 100000) (hk : 1000000 ≤ k) :
    response_Print.j1 k (pairsB l') n (pairsB l) (mk b) = some (if (printS l').2 = 0 then (mk (firstL n ++ [13, 10] ++ (printS l').1 ++ b), 0) else (⟨#[]⟩, (printS l').2)) := by
  obtain ⟨k, rfl⟩ : ∃ k', k = k' + 1 := ⟨k - 1, by omega⟩
  have h1 := printS_len l'
  have h2 := first_len hn
  rw [response_Print.j1, fprintF l' k hl.1 hl.2 (by omega), Option.bind_some]
  simp only
  by_cases h : (printS l').2 = 0
  · rw [if_pos h, if_pos h, firstF hn, Option.bind_some, show (⟨#[13, 10]⟩ : ByteArray) = mk [13, 10] from rfl, mk_append, mk_append, mk_append, if_pos (by rw [mk_size]; omega), if_pos (by rw [mk_size, mk_size, List.length_append]; simp only [List.length_cons, List.length_nil]; omega), if_pos (by rw [mk_size, mk_size]; simp only [List.length_append, List.length_cons, List.length_nil]; omega)]
  · rw [if_neg h, if_neg h]
theorem printF (n : Int) (l : List (L × L)) (b : L) (k : Nat) (hn1 : -9223372036854775808 ≤ n) (hn2 : n ≤ 9223372036854775807) (hl : Short l) (hb : b.length ≤ 1000000) (hk : 2000000 ≤ k) : response_Print.f k n (pairsB l) (mk b) = some (mk (printR n l b).1, (printR n l b).2) := by
  obtain ⟨k, rfl⟩ : ∃ k', k = k' + 1 := ⟨k - 1, by omega⟩
  unfold response_Print.f printR
  rw [reasonF n hn1 hn2, Option.bind_some, tl_mk]
  by_cases h0 : reasonS n = []
  · rw [if_pos h0, if_pos (.inl h0), response_Print.j0, if_pos (by simp [h0])]
    rfl
  rw [if_neg h0, bareF, Option.bind_some, tl_mk]
  have hj : (if bareI n = true then (response_Print.j0 (k + 1) (b != ([] : List UInt8)) n (pairsB l) (mk b)) else (response_Print.j0 (k + 1) false n (pairsB l) (mk b))) = response_Print.j0 (k + 1) (decide (bareI n = true ∧ b ≠ [])) n (pairsB l) (mk b) := by
    by_cases h : bareI n = true
    · rw [if_pos h]
      congr 1
      cases b <;> simp [h]
    · rw [if_neg h, decide_eq_false (fun e => h e.1)]
  rw [hj, response_Print.j0]
  by_cases h1 : bareI n = true ∧ b ≠ []
  · rw [if_pos (decide_eq_true h1), if_pos (.inr h1)]
    rfl
  rw [if_neg (by simpa using h1), if_neg (not_or.2 ⟨h0, h1⟩), mk_size]
  by_cases h2 : 100000 < b.length
  · rw [if_pos (by omega), if_pos h2]
    rfl
  rw [if_neg (by omega), if_neg h2, lensF k hl (by omega), Option.bind_some]
  by_cases h3 : 0 < (get l clenL).2
  · rw [if_pos h3, if_pos h3]
    rfl
  rw [if_neg h3, if_neg h3, slices_Clip.f, Option.bind_some, bareF, Option.bind_some]
  have hs := short_with (n := n) hl (show b.length ≤ 100000 by omega)
  have hin := reason_in h0
  have hfin : ∀ l', l' = withLen n l b → response_Print.j1 k (pairsB l') n (pairsB l) (mk b) = some (mk (if (printS (withLen n l b)).2 = 0 then (firstL n ++ [13, 10] ++ (printS (withLen n l b)).1 ++ b, (0 : Int)) else ([], (printS (withLen n l b)).2)).1, (if (printS (withLen n l b)).2 = 0 then (firstL n ++ [13, 10] ++ (printS (withLen n l b)).1 ++ b, (0 : Int)) else ([], (printS (withLen n l b)).2)).2) := by
    rintro l' rfl
    rw [pj1 _ l b k hin hs (by omega) (by omega)]
    split <;> rfl
  by_cases h4 : bareI n = true
  · rw [if_pos h4]
    exact hfin l (by unfold withLen; rw [if_pos h4])
  · rw [if_neg h4, itoF (b.length : Int) (by omega) (by omega), Option.bind_some, if_pos (by rw [pairsB_len]; have := hl.1; omega), pairs_with]
    exact hfin _ (by unfold withLen; rw [if_neg h4])
def zr (e : Int) : Int × List (L × L) × L × Int := (0, [], [], e)
def behind (n : Int) (r : L) : Int × List (L × L) × L × Int :=
  if (fields r).2.2 ≠ 0 then zr (fields r).2.2
  else if bareI n = true then (if 0 < (get (fields r).1 clenL).2 ∨ (fields r).2.1 ≠ [] then zr 190 else (n, (fields r).1, (fields r).2.1, 0))
  else if (get (fields r).1 clenL).2 = 1 ∧ (fields r).1.getLast? = some (clenL, Mn.dec (fields r).2.1.length) ∧ (fields r).2.1.length ≤ 100000 then (n, (fields r).1.dropLast, (fields r).2.1, 0) else zr 190
def parseR (s : L) : Int × List (L × L) × L × Int := match line s with
  | none => zr 200
  | some (l, r) => if statusS l = 0 then zr 200 else behind (statusS l) r
def txt4 (q : Int × List (L × L) × L × Int) : Int × List S41 × ByteArray × Int := (q.1, pairsB q.2.1, mk q.2.2.1, q.2.2.2)
theorem fields_ok_short (r : L) (h : r.length ≤ 30000) (h0 : (fields r).2.2 = 0) : Short (fields r).1 := by
  obtain ⟨_, _, h1⟩ := fields_back r h0
  have h2 := prs_len (fields r).1
  have hf := fields_len r
  exact ⟨by omega, fun p hp => by have := hf.2.1 p hp; omega⟩
theorem get_snoc (a : List (L × L)) (p : L × L) : (get (a ++ [p]) clenL).2 = (get a clenL).2 + (if low p.1 = clenL then 1 else 0) := by
  have hl : low clenL = clenL := by decide +kernel
  unfold get vals
  rw [List.filter_append, List.map_append, List.length_append]
  by_cases h : low p.1 = clenL
  · rw [if_pos h]; simp [h, hl]
  · rw [if_neg h]; simp [h, hl]
theorem get_none : (get ([] : List (L × L)) clenL).2 = 0 := rfl
theorem last_at (a : List (L × L)) (p : L × L) : rd_T41 (pairsB (a ++ [p])) (a.length : Int) = ⟨mk p.1, mk p.2⟩ := rd_pairs _ _ _ (by simp)
theorem last_idx (a : List (L × L)) (p : L × L) (h : a.length ≤ 1000000) : wrap64 (((a ++ [p]).length : Int) - 1) = (a.length : Int) := by
  rw [List.length_append, List.length_singleton, wrap_id (by omega) (by omega)]
  omega
theorem short_cut {a : List (L × L)} {p : L × L} (h : Short (a ++ [p])) : Short a := by
  refine ⟨?_, fun q hq => h.2 q (List.mem_append_left _ hq)⟩
  have := h.1
  rw [List.length_append] at this
  omega
theorem pj0 (n : Int) (r : L) (k : Nat) (hn : statusS [] = 0 → True) (hr : r.length ≤ 30000) (hk : 2000000 ≤ k) : response_Parse.j0 k (mk r) n false = some (txt4 (behind n r)) := by
  obtain ⟨k, rfl⟩ : ∃ k', k = k' + 1 := ⟨k - 1, by omega⟩
  have hf := fields_len r
  rw [response_Parse.j0, if_neg (by decide), fldF r (by omega), Option.bind_some]
  unfold fldB behind
  simp only
  by_cases h1 : (fields r).2.2 = 0
  · have hs := fields_ok_short r hr h1
    rw [if_pos h1, if_neg (show ¬ (fields r).2.2 ≠ 0 by simpa using h1), bareF, Option.bind_some, tl_mk]
    generalize (fields r).1 = h at *
    generalize (fields r).2.1 = bd at *
    by_cases h2 : bareI n = true
    · rw [if_pos h2, if_pos h2, lensF k hs (by omega), Option.bind_some]
      by_cases h3 : 0 < (get h clenL).2
      · rw [if_pos h3, if_pos (.inl h3)]
        rfl
      · rw [if_neg h3]
        by_cases h4 : bd = []
        · rw [if_pos h4, if_neg (by simp [h3, h4])]
          rfl
        · rw [if_neg h4, if_pos (.inr h4)]
          rfl
    · rw [if_neg h2, if_neg h2, lensF k hs (by omega), Option.bind_some]
      by_cases h3 : (get h clenL).2 = 1
      · rw [if_pos h3]
        rcases List.eq_nil_or_concat h with rfl | ⟨a, p, rfl⟩
        · rw [get_none] at h3
          cases h3
        · rw [List.concat_eq_append] at *
          have hal : a.length ≤ 15000 := by have := hs.1; rw [List.length_append] at this; omega
          rw [pairsB_len, last_idx a p (by omega), if_pos (by omega), if_pos (by rw [List.length_append, List.length_singleton]; omega), mk_size, itoF (bd.length : Int) (by omega) (by omega), Option.bind_some, last_at]
          simp only [tl_mk]
          rw [show ([99, 111, 110, 116, 101, 110, 116, 45, 108, 101, 110, 103, 116, 104] : List UInt8) = clenL from rfl, List.getLast?_concat]
          by_cases h5 : p.1 = clenL ∧ p.2 = Mn.dec (bd.length : Int)
          · obtain ⟨p1, p2⟩ := p
            obtain ⟨rfl, rfl⟩ := h5
            rw [if_neg (by simp)]
            by_cases h6 : 100000 < bd.length
            · rw [if_pos (by omega), if_neg (fun e => by have := e.2.2; omega)]
              rfl
            · rw [if_neg (by omega), if_pos (by rw [List.length_append, List.length_singleton]; omega), if_pos ⟨h3, rfl, by omega⟩, List.dropLast_concat, Int.toNat_natCast, pairsB_app, List.take_left' (pairsB_len a)]
              rfl
          · rw [if_pos (by
              by_cases h7 : p.1 = clenL
              · have h8 : ¬ p.2 = Mn.dec (bd.length : Int) := fun e => h5 ⟨h7, e⟩
                simp [h7, h8]
              · simp [h7]), if_neg (fun e => h5 (by have := Option.some.inj e.2.1; rw [this]; exact ⟨rfl, rfl⟩))]
            rfl
      · rw [if_neg h3, if_neg (fun e => h3 e.1)]
        rfl
  · rw [if_neg h1, if_pos h1]
    rfl
theorem parseRF (s : L) (k : Nat) (hs : s.length ≤ 30000) (hk : 3000000 ≤ k) : response_Parse.f k (mk s) = some (txt4 (parseR s)) := by
  unfold response_Parse.f parseR
  rw [show (⟨#[13, 10]⟩ : ByteArray) = mk [13, 10] from rfl, cut_l, if_pos (by omega), Option.bind_some]
  obtain ⟨k, rfl⟩ : ∃ k', k = k' + 1 := ⟨k - 1, by omega⟩
  rcases line_cut s with ⟨e1, e2⟩ | ⟨⟨l, r⟩, e1, e2⟩
  · rw [e1, e2]
    simp only
    rw [statusF s (by omega), Option.bind_some, if_neg (by decide), response_Parse.j0, if_pos rfl]
    rfl
  · have hll := congrArg List.length (line_len s _ e1)
    simp only [List.length_append, List.length_cons] at hll
    rw [e1, e2]
    simp only [if_true]
    rw [statusF l (by omega), Option.bind_some]
    by_cases h : statusS l = 0
    · rw [if_pos h, h, response_Parse.j0, if_pos (by decide)]
      rfl
    · rw [if_neg h, show (statusS l == 0) = false from by simpa using h]
      exact pj0 _ r (k + 1) (fun _ => trivial) (by omega) (by omega)
def isD (c : UInt8) : Bool := decide (48 ≤ c.toNat) && decide (c.toNat ≤ 57)
def num3 (a b c : UInt8) : Int := if a = 48 then -1 else if isD a = true ∧ isD b = true ∧ isD c = true then (((a.toNat - 48) * 100 + (b.toNat - 48) * 10 + (c.toNat - 48) : Nat) : Int) else -1
theorem isD_lt {c : UInt8} (h : isD c = true) : 48 ≤ c.toNat ∧ c.toNat ≤ 57 := by
  unfold isD at h
  simpa using h
theorem num_step (s : L) (k i v : Nat) (b : UInt8) (hb : (s.drop i).head? = some b) (hi : i ≤ 100) (hv : v ≤ 10000) : broadsheetref03_Number.l0 (k + 1) (mk s) (v : Int) (i : Int) = if isD b = true then broadsheetref03_Number.l0 k (mk s) ((v * 10 + (b.toNat - 48) : Nat) : Int) ((i + 1 : Nat) : Int) else some (-1) := by
  have hlt : i < s.length := by
    by_cases h : i < s.length
    · exact h
    · rw [List.drop_eq_nil_of_le (by omega)] at hb
      simp at hb
  obtain ⟨b', e1, e2⟩ := mk_bt s i hlt
  rw [e1] at hb
  obtain rfl : b' = b := by simpa using hb
  have hbl := b'.toNat_lt
  rw [broadsheetref03_Number.l0, if_pos (by rw [mk_size]; omega), if_pos (by omega), e2]
  by_cases h1 : (b'.toNat : Int) < 48
  · rw [if_pos h1, if_neg (fun e => by have := isD_lt e; omega)]
  · rw [if_neg h1]
    by_cases h2 : (b'.toNat : Int) > 57
    · rw [if_pos h2, if_neg (fun e => by have := isD_lt e; omega)]
    · have hd : isD b' = true := by unfold isD; simp; omega
      have e3 : wrap64 (wrap64 (wrap64 ((v : Int) * 10) + wrap64 (b'.toNat : Int)) - 48) = ((v * 10 + (b'.toNat - 48) : Nat) : Int) := by
        rw [wrap_id (x := (v : Int) * 10) (by omega) (by omega), wrap_id (x := (b'.toNat : Int)) (by omega) (by omega), wrap_id (x := (v : Int) * 10 + (b'.toNat : Int)) (by omega) (by omega), wrap_id (by omega) (by omega)]
        omega
      rw [if_neg h2, if_pos hd, e3, w1 i (by omega)]
theorem numF (a b c : UInt8) (k : Nat) (hk : 10 ≤ k) : broadsheetref03_Number.f k (mk [a, b, c]) = some (num3 a b c) := by
  obtain ⟨k, rfl⟩ : ∃ k', k = k' + 5 := ⟨k - 5, by omega⟩
  unfold broadsheetref03_Number.f num3
  rw [tl_mk, if_neg (by simp), mk_size, if_neg (by simp), if_pos (by simp), bt_head]
  have h48 : ((a.toNat : Int) = 48) ↔ a = 48 := u8i a 48 (by omega)
  by_cases h : a = 48
  · rw [if_pos (h48.2 h), if_pos h, broadsheetref03_Number.j0, if_pos (by simp)]
  · rw [if_neg (fun e => h (h48.1 e)), if_neg h, broadsheetref03_Number.j0, if_neg (by decide)]
    have s0 := num_step [a, b, c] (k + 3) 0 0 a rfl (by omega) (by omega)
    have e0 : ((0 : Nat) : Int) = 0 := rfl
    rw [e0] at s0
    rw [s0]
    by_cases ha : isD a = true
    · have la := isD_lt ha
      rw [if_pos ha, num_step [a, b, c] (k + 2) 1 _ b rfl (by omega) (by omega)]
      by_cases hb : isD b = true
      · have lb := isD_lt hb
        rw [if_pos hb, num_step [a, b, c] (k + 1) 2 _ c rfl (by omega) (by omega)]
        by_cases hc : isD c = true
        · have lc := isD_lt hc
          rw [if_pos hc, broadsheetref03_Number.l0, if_neg (by rw [mk_size]; simp), if_neg (by omega), if_pos ⟨ha, hb, hc⟩]
          congr 2
          omega
        · rw [if_neg hc, if_neg (fun e => hc e.2.2)]
      · rw [if_neg hb, if_neg (fun e => hb e.2.1)]
    · rw [if_neg ha, if_neg (fun e => ha e.1)]
theorem u8_of {c : UInt8} {n : Nat} (h : c.toNat = n) : c = UInt8.ofNat n := by
  have := (u8_eq c n (by have := c.toNat_lt; omega)).1 h
  exact this
theorem num3_of {a b c : UInt8} {n : Int} (h : num3 a b c = n) (hn : n ∈ sts) : [a, b, c] = dig3 n.toNat := by
  have hb := sts_bd n hn
  unfold num3 at h
  split at h
  · omega
  · split at h
    · rename_i hd
      obtain ⟨h1, h2, h3⟩ := hd
      have la := isD_lt h1
      have lb := isD_lt h2
      have lc := isD_lt h3
      unfold dig3
      rw [← u8_of (c := a) (by omega), ← u8_of (c := b) (by omega), ← u8_of (c := c) (by omega)]
    · omega
/-- The document's look at a first line. -/
def lookS (l : L) : Int := if 13 ≤ l.length ∧ l.take 9 = verL ∧ (l.drop 12).head? = some 32 then (match (l.drop 9).take 3 with
  | [a, b, c] => if reasonS (num3 a b c) ≠ [] ∧ l.drop 13 = reasonS (num3 a b c) then num3 a b c else 0
  | _ => 0) else 0
theorem look_sts : ∀ n ∈ sts, lookS (firstL n) = n := by decide +kernel
theorem look_eq (l : L) : lookS l = statusS l := by
  rcases status_cases l with ⟨n, hn, rfl, e2⟩ | ⟨hno, e2⟩
  · rw [e2]
    exact look_sts n hn
  · rw [e2]
    unfold lookS
    split
    · rename_i hc
      obtain ⟨h1, h2, h3⟩ := hc
      split
      · rename_i a b c e3
        split
        · rename_i hr
          exfalso
          have hin := reason_in hr.1
          refine hno _ hin ?_
          have e4 := num3_of rfl hin
          have e5 : l = l.take 9 ++ ((l.drop 9).take 3 ++ (l.drop 12)) := by
            have a1 := (List.take_append_drop 9 l).symm
            have a2 := (List.take_append_drop 3 (l.drop 9)).symm
            rw [List.drop_drop] at a2
            rw [← a2]
            exact a1
          have e6 : l.drop 12 = 32 :: l.drop 13 := by
            cases e7 : l.drop 12 with
            | nil => rw [e7] at h3; simp at h3
            | cons x y =>
              rw [e7] at h3
              obtain rfl : x = 32 := by simpa using h3
              have := congrArg List.tail e7
              rw [List.tail_drop] at this
              rw [this]
              rfl
          rw [e5, h2, e3, e6, hr.2, e4]
          unfold firstL
          simp
        · rfl
      · rfl
    · rfl
theorem rpj2 (n : Int) (a : List (L × L)) (p : L × L) (bd : L) (k : Nat) (hs : Short (a ++ [p])) (hb : bd.length ≤ 1000000) (hp : p.1 = clenL ∧ p.2 = Mn.dec (bd.length : Int)) (hk : 1000000 ≤ k) :
    broadsheetref21_Parse.j2 k (mk bd) (pairsB (a ++ [p])) (a.length : Int) false n (pairsB (a ++ [p])) (mk bd) = some (txt4 (if (get (a ++ [p]) clenL).2 = 1 ∧ bd.length ≤ 100000 then (n, a, bd, 0) else zr 190)) := by
  obtain ⟨k, rfl⟩ : ∃ k', k = k' + 1 := ⟨k - 1, by omega⟩
  have hl : low clenL = clenL := by decide +kernel
  have hg := get_snoc a p
  rw [hp.1, hl, if_pos rfl] at hg
  rw [broadsheetref21_Parse.j2, if_neg (by decide), if_pos (by omega), if_pos (by rw [pairsB_len, List.length_append, List.length_singleton]; omega), Int.toNat_natCast, pairsB_app, List.take_left' (pairsB_len a)]
  simp only [Option.bind_some]
  have hs2 := short_cut hs
  rw [rlensF k hs2 (by omega), Option.bind_some, mk_size]
  simp only
  have hnn : 0 ≤ (get a clenL).2 := by unfold get; simp
  by_cases h1 : (get a clenL).2 > 0
  · rw [if_pos h1, if_neg (fun e => by omega)]
    rfl
  · rw [if_neg h1]
    by_cases h2 : (bd.length : Int) > 100000
    · rw [if_pos h2, if_neg (fun e => by omega)]
      rfl
    · rw [if_neg h2, if_pos ⟨by omega, by omega⟩]
      rfl
theorem rpj2t (n : Int) (h : List S41) (i : Int) (bd : L) (k : Nat) (hk : 1 ≤ k) : broadsheetref21_Parse.j2 k (mk bd) h i true n h (mk bd) = some (txt4 (zr 190)) := by
  obtain ⟨k, rfl⟩ : ∃ k', k = k' + 1 := ⟨k - 1, by omega⟩
  rw [broadsheetref21_Parse.j2, if_pos rfl]
  rfl
theorem rpjP1 (n : Int) (r : L) (k : Nat) (hr : r.length ≤ 30000) (hk : 2000000 ≤ k) : broadsheetref21_Parse.j1 k (mk r) n false = some (txt4 (behind n r)) := by
  obtain ⟨k, rfl⟩ : ∃ k', k = k' + 1 := ⟨k - 1, by omega⟩
  have hf := fields_len r
  rw [broadsheetref21_Parse.j1, if_neg (by decide), rparseF r k (by omega) (by omega), Option.bind_some]
  unfold fldB behind
  simp only
  by_cases h1 : (fields r).2.2 = 0
  · have hs := fields_ok_short r hr h1
    have hbd := hf.2.2
    rw [if_pos h1, if_neg (show ¬ (fields r).2.2 ≠ 0 by simpa using h1), rbareF, Option.bind_some, tl_mk]
    clear hf
    generalize (fields r).1 = h at *
    generalize (fields r).2.1 = bd at *
    by_cases h2 : bareI n = true
    · rw [if_pos h2, if_pos h2, rlensF k hs (by omega), Option.bind_some]
      simp only
      by_cases h3 : 0 < (get h clenL).2
      · rw [if_pos h3, if_pos (.inl h3)]
        rfl
      · rw [if_neg h3]
        by_cases h4 : bd = []
        · rw [if_pos h4, if_neg (by simp [h3, h4])]
          rfl
        · rw [if_neg h4, if_pos (.inr h4)]
          rfl
    · rw [if_neg h2, if_neg h2]
      rcases List.eq_nil_or_concat h with rfl | ⟨a, p, rfl⟩
      · have hw : wrap64 (((pairsB []).length : Int) - 1) = -1 := by rw [pairsB_len]; exact wrap_id (by decide) (by decide)
        rw [hw, if_pos (by decide), rpj2t _ _ _ _ _ (by omega), if_neg (fun e => by rw [get_none] at e; cases e.1)]
      · rw [List.concat_eq_append] at *
        have hal : a.length ≤ 15000 := by have := hs.1; rw [List.length_append] at this; omega
        rw [pairsB_len, last_idx a p (by omega), if_neg (by omega), if_pos (by omega), if_pos (by rw [List.length_append, List.length_singleton]; omega), last_at]
        simp only [tl_mk]
        rw [show ([99, 111, 110, 116, 101, 110, 116, 45, 108, 101, 110, 103, 116, 104] : List UInt8) = clenL from rfl, List.getLast?_concat]
        by_cases h5 : p.1 = clenL
        · rw [if_pos h5, mk_size, digF (bd.length : Int) k (by omega) (by omega) (by omega), Option.bind_some, tl_mk]
          by_cases h6 : p.2 = Mn.dec (bd.length : Int)
          · rw [h6, bne_self_eq_false, rpj2 n a p bd k hs (by omega) ⟨h5, h6⟩ (by omega), List.dropLast_concat]
            congr 2
            by_cases h7 : (get (a ++ [p]) clenL).2 = 1 ∧ bd.length ≤ 100000
            · rw [if_pos h7, if_pos ⟨h7.1, by rw [← h5, ← h6], h7.2⟩]
            · rw [if_neg h7, if_neg (fun e => h7 ⟨e.1, e.2.2⟩)]
          · have hb2 : (p.2 != Mn.dec (bd.length : Int)) = true := by simpa using h6
            rw [hb2, rpj2t _ _ _ _ _ (by omega), if_neg (fun e => h6 (by have := Option.some.inj e.2.1; rw [this]))]
        · rw [if_neg h5, rpj2t _ _ _ _ _ (by omega), if_neg (fun e => h5 (by have := Option.some.inj e.2.1; rw [this]))]
  · rw [if_neg h1, if_pos h1]
    rfl
theorem rpjt (x : ByteArray) (n : Int) (k : Nat) (hk : 1 ≤ k) : broadsheetref21_Parse.j1 k x n true = some (txt4 (zr 200)) := by
  obtain ⟨k, rfl⟩ : ∃ k', k = k' + 1 := ⟨k - 1, by omega⟩
  rw [broadsheetref21_Parse.j1, if_pos rfl]
  rfl
theorem rpj0t (x y : ByteArray) (k : Nat) (hk : 1 ≤ k) : broadsheetref21_Parse.j0 k x y true = some (txt4 (zr 200)) := by
  obtain ⟨k, rfl⟩ : ∃ k', k = k' + 1 := ⟨k - 1, by omega⟩
  rw [broadsheetref21_Parse.j0, if_pos rfl]
  rfl
theorem rparseRF (s : L) (k : Nat) (hs : s.length ≤ 30000) (hk : 3000000 ≤ k) : broadsheetref21_Parse.f k (mk s) = some (txt4 (parseR s)) := by
  obtain ⟨k, rfl⟩ : ∃ k', k = k' + 1 := ⟨k - 1, by omega⟩
  unfold broadsheetref21_Parse.f parseR
  rw [rLineF s _ (by omega) (by omega), Option.bind_some]
  cases e : line s with
  | none =>
    simp only
    rw [if_neg (by decide)]
    exact rpj0t _ _ _ (by omega)
  | some q =>
    obtain ⟨l, r⟩ := q
    have hll := congrArg List.length (line_len s _ e)
    simp only [List.length_append, List.length_cons] at hll
    simp only [if_true]
    rw [← look_eq, mk_size]
    unfold lookS
    by_cases h1 : l.length < 13
    · rw [if_pos (by omega), if_neg (show ¬ (13 ≤ l.length ∧ l.take 9 = verL ∧ (l.drop 12).head? = some 32) from fun e => by omega), if_pos rfl]
      exact rpj0t _ _ _ (by omega)
    rw [if_neg (by omega), if_pos (by decide), if_pos (by omega), ext_to, tl_mk, show ([72, 84, 84, 80, 47, 49, 46, 49, 32] : List UInt8) = verL from rfl]
    by_cases h2 : l.take 9 = verL
    · rw [if_pos h2, if_pos (by omega)]
      obtain ⟨b, f1, f2⟩ := mk_bt l 12 (by omega)
      have f2' : bt (mk l) 12 = b.toNat := f2
      rw [f2']
      have h32 : ((b.toNat : Int) = 32) ↔ b = 32 := u8i b 32 (by omega)
      by_cases h3 : b = 32
      · have hb0 : ((b.toNat : Int) != 32) = false := by simp [h32.2 h3]
        rw [hb0, if_pos (show 13 ≤ l.length ∧ l.take 9 = verL ∧ (l.drop 12).head? = some 32 from ⟨by omega, h2, by rw [f1, h3]; rfl⟩), broadsheetref21_Parse.j0, if_neg (by decide), if_pos (by decide), if_pos (by rw [mk_size]; omega), ext_mk]
        have hx3 : ((l.drop 9).take (12 - 9)).length = 3 := by rw [List.length_take, List.length_drop]; omega
        have hx : ∃ x y z, (l.drop 9).take (12 - 9) = [x, y, z] := by
          match (l.drop 9).take (12 - 9), hx3 with
          | [x, y, z], _ => exact ⟨x, y, z, rfl⟩
        obtain ⟨x, y, z, hxyz⟩ := hx
        rw [hxyz, numF x y z k (by omega), Option.bind_some, rreasonF, Option.bind_some, tl_mk]
        simp only
        by_cases h4 : reasonS (num3 x y z) = []
        · have hz : (if reasonS (num3 x y z) ≠ [] ∧ l.drop 13 = reasonS (num3 x y z) then num3 x y z else 0) = 0 := if_neg (fun e => e.1 h4)
          rw [if_pos h4, hz, if_pos rfl]
          exact rpjt _ _ _ (by omega)
        · rw [if_neg h4, if_pos (by rw [mk_size]; omega), Option.bind_some, tl_mk, ext_from, tl_mk]
          by_cases h5 : l.drop 13 = reasonS (num3 x y z)
          · have hn0 := sts_bd _ (reason_in h4)
            have hz : (if reasonS (num3 x y z) ≠ [] ∧ l.drop 13 = reasonS (num3 x y z) then num3 x y z else 0) = num3 x y z := if_pos ⟨h4, h5⟩
            rw [hz, h5, bne_self_eq_false, if_neg (by omega)]
            exact rpjP1 _ r k (by omega) (by omega)
          · have hb5 : (l.drop 13 != reasonS (num3 x y z)) = true := by simpa using h5
            have hz : (if reasonS (num3 x y z) ≠ [] ∧ l.drop 13 = reasonS (num3 x y z) then num3 x y z else 0) = 0 := if_neg (fun e => h5 e.2)
            rw [hb5, hz, if_pos rfl]
            exact rpjt _ _ _ (by omega)
      · have hb1 : ((b.toNat : Int) != 32) = true := by simp; exact fun e => h3 (h32.1 e)
        rw [hb1, if_neg (show ¬ (13 ≤ l.length ∧ l.take 9 = verL ∧ (l.drop 12).head? = some 32) from fun e => h3 (by have := e.2.2; rw [f1] at this; simpa using this)), if_pos rfl]
        exact rpj0t _ _ _ (by omega)
    · rw [if_neg h2, if_neg (show ¬ (13 ≤ l.length ∧ l.take 9 = verL ∧ (l.drop 12).head? = some 32) from fun e => h2 e.2.1), if_pos rfl]
      exact rpj0t _ _ _ (by omega)
theorem parse_short (s : L) (hs : s.length ≤ 30000) : (parseR s).2.1.length ≤ 30000 := by
  unfold parseR
  cases e : line s with
  | none => simp [zr]
  | some q =>
    obtain ⟨l, r⟩ := q
    have hll := congrArg List.length (line_len s _ e)
    simp only [List.length_append, List.length_cons] at hll
    have hf := fields_len r
    simp only
    split
    · simp [zr]
    · unfold behind
      split
      · simp [zr]
      · split
        · split
          · simp [zr]
          · simp only; omega
        · split
          · simp only [List.length_dropLast]; omega
          · simp [zr]
theorem resp_same (n : Int) (l : List (L × L)) (b : ByteArray) (k : Nat) (hl : l.length ≤ 100000) (hk : 100000 < k) : broadsheetref21_Same.f k n (pairsB l) b n (pairsB l) b = some true := by
  unfold broadsheetref21_Same.f
  rw [if_pos rfl, if_pos rfl, rsameF _ k (by omega) (by omega)]
  rfl
def awS : L := [72, 84, 84, 80, 47, 49, 46, 49, 32, 52, 48, 52, 32, 78, 111, 116, 32, 70, 111, 117, 110, 100, 13, 10, 67, 111, 110, 116, 101, 110, 116, 45, 76, 101, 110, 103, 116, 104, 58, 32, 48, 13, 10, 13, 10]
theorem short_nil : Short [] := ⟨by simp, by simp⟩
theorem dec0 : Mn.dec (([] : L).length : Int) = [48] := by
  unfold Mn.dec
  rw [Lib.decDigits, dif_pos (by simp)]
  rfl
theorem aw_print : printR 404 [] [] = (awS, 0) := by
  have e : withLen 404 [] [] = [(CLenL, [48])] := by
    unfold withLen
    rw [if_neg (by decide), dec0]
    rfl
  unfold printR
  rw [e, if_neg (by decide +kernel), if_neg (by decide), if_neg (by decide +kernel)]
  have e2 : printS [(CLenL, [48])] = ([67, 111, 110, 116, 101, 110, 116, 45, 76, 101, 110, 103, 116, 104, 58, 32, 48, 13, 10, 13, 10], 0) := by decide +kernel
  rw [e2, if_pos rfl]
  decide +kernel
theorem aw_parse : parseR awS = (404, [], [], 0) := by
  have e1 : line awS = some (firstL 404, [67, 111, 110, 116, 101, 110, 116, 45, 76, 101, 110, 103, 116, 104, 58, 32, 48, 13, 10, 13, 10]) := by decide +kernel
  have e2 : fields [67, 111, 110, 116, 101, 110, 116, 45, 76, 101, 110, 103, 116, 104, 58, 32, 48, 13, 10, 13, 10] = ([(clenL, [48])], [], 0) := by decide +kernel
  unfold parseR
  rw [e1]
  simp only
  rw [status_of (show (404 : Int) ∈ sts by decide), if_neg (by decide)]
  unfold behind
  rw [e2]
  simp only
  rw [if_neg (by decide), if_neg (by decide), dec0, if_pos (by decide +kernel)]
  rfl
theorem aw_bad : printR 1 [] [] = ([], 1) := by
  unfold printR
  rw [if_pos (.inl (by decide +kernel))]
theorem awake21 (k : Nat) (hk : 4000000 ≤ k) : broadsheetlaw21_awake.f k = some true := by
  unfold broadsheetlaw21_awake.f
  have h1 := printF 404 [] [] k (by omega) (by omega) short_nil (by simp) (by omega)
  have h2 := printF 1 [] [] k (by omega) (by omega) short_nil (by simp) (by omega)
  have e0 : (pairsB [] : List S41) = [] := rfl
  rw [e0, aw_print] at h1
  rw [e0, aw_bad] at h2
  rw [show (⟨#[]⟩ : ByteArray) = mk [] from rfl, h1, h2]
  simp only [Option.bind_some]
  rw [parseRF awS k (by decide) (by omega), aw_parse]
  simp only [Option.bind_some, tl_mk, txt4]
  rfl
end Go.Proofs.YtaopopnlnohnpaaGreatDoor.Sp
/- CardW -/
namespace Go.Proofs.YtaopopnlnohnpaaGreatDoor.Cg
open Go.RowKit Go.Proofs.YtaopopnlnohnpaaGreatDoor.P Go.Proofs.YtaopopnlnohnpaaGreatDoorW.PrintWords Go.Proofs.YtaopopnlnohnpaaGreatDoorW.PrintLast Go.Proofs.YtaopopnlnohnpaaGreatDoor.O
open Go.ChangeShapes Go.WideShapes Go.Deep
set_option linter.unusedVariables false
/-- The plain wrap, with a condition of one's own and the world's shape. -/
theorem wrapS {H : Type} {enc : TypeId × Value → H} {a : Assume} {C : Checked} {os : Os} {f : FuncId} {fn : Func} {s : ChangeSpec} {conds : List PathCond} {apart fresh handsOn again : Bool} {X : World → Array Value → Prop}
    (hX : ∀ (w w' : World) (args : Array Value), w.heap = w'.heap → X w args → X w' args)
    (own : ownKnob C.prog.godebug = none) (started : os.Started) (noInit : C.prog.inits.idxOf? f = none) (hfn : C.prog.funcs[f]? = some fn)
    (witness : ∃ (w : World) (tape : Tape) (i : Input), w.os = os ∧ (w.forCall tape i).Shaped C.prog ∧ i.vars = [] ∧ Input.okWide C.prog (w.forCall tape i) .any w.heap.size f i ∧
      ((s.pre enc C.prog fn conds apart (w.forCall tape i).memory i.args ∧ X (w.forCall tape i).memory i.args) ∧ sizedMet enc C.prog fn (OpenSpec.ofChange s) apart (w.forCall tape i).memory i.args) ∧ a.holds C.prog (lone (Frame.enter C.prog f i.args .normal) [] (w.forCall tape i)))
    (contract : ∀ (W : World) (base : Nat) (args : Array Value) (ds gs : List (DataW H)) (before : List MemPlace),
      (∀ (j : Nat) t v, fn.params[j]? = some t → args[j]? = some v → Value.okWide C.prog W .any base t v) →
      DataW.Whole enc C.prog fn.params.toList s.vars apart W args.toList ds gs before →
      (DataW.weightsEach C.prog (fn.params.toList ++ s.plain.varTypes C.prog) (ds ++ gs)).all (· ≤ reachBytes) = true → X W args → W.ShapedOpen C.prog →
      Calls C.prog f args W fun e W' => ∃ v, e = .returned v ∧ s.post enc C.prog fn apart fresh handsOn again W args v W') :
    ReturnsInHanded a C os f .any (fun w args => (s.pre enc C.prog fn conds apart w args ∧ X w args) ∧ sizedMet enc C.prog fn (OpenSpec.ofChange s) apart w args) (s.post enc C.prog fn apart fresh handsOn again) := by
  refine returnsInHanded_of_calls own started noInit witness ?_
  intro w tape i _ hsh _ hok hpre _
  obtain ⟨_, _, _, fn', hfn', _, _, _, _, hval⟩ := hok
  obtain rfl : fn' = fn := Option.some.inj (hfn'.symm.trans hfn)
  obtain ⟨⟨⟨ds, gs, before, hw, _⟩, hx⟩, hz⟩ := hpre
  refine (contract (w.forCall tape i) w.heap.size i.args ds gs before hval (DataW.Whole.of_heap (w' := w.forCall tape i) (by rfl) hw) (hz.weights hw) (hX _ _ _ (by rfl) hx) hsh).mono fun e W' ⟨v, he, hp⟩ => ?_
  subst he
  exact ChangeSpec.post_blind hp
theorem var_iface {W : World} {n nm : String} {d : DataW Unit} {g t : Nat} {ms : Array (String × TypeId)} (h : Lib.VarReads Tryz.prog W n (.iface nm d)) (hg : Tryz.prog.globalNamed n = some g) (ht : (Tryz.prog.globals[g]?).map (·.type) = some t) (hi : Tryz.prog.underlying t = some (.interface ms)) :
    ∃ t p, W.var? Tryz.prog n = some #[.iface t p] := by
  obtain ⟨g', t', cs, fuel, p, hg', ht', hv, hd⟩ := h
  obtain rfl := Option.some.inj (hg.symm.trans hg')
  obtain rfl := Option.some.inj (ht.symm.trans ht')
  obtain ⟨_, u, v, e, _, _⟩ := iface_of_trod hi hd
  refine ⟨u, v, ?_⟩
  rw [hv]
  cases cs
  simp only at e
  rw [e]
abbrev laidL : List (String × DataW Unit) := Rows.responsePrintsRow.laid
theorem glob_of {W : World} (h : laidMetH Tryz.prog laidL W) (hsh : W.ShapedOpen Tryz.prog) : Glob W := by
  rw [MakeChecks.laidMetH_plain _ _ _ (by kernel_rfl)] at h
  refine ⟨?_, ?_, ?_, ?_⟩
  · obtain ⟨g', t', cs, fuel, p, hg', ht', hv, hd⟩ := Lib.laidMet.reads h (n := "internal/strconv.uint64pow10") (d := Rows.laid_internal_strconv_uint64pow10) (.tail _ (.tail _ (.head _)))
    obtain rfl := Option.some.inj (gpow.symm.trans hg')
    obtain rfl := Option.some.inj ((show (Tryz.prog.globals[1]?).map (·.type) = some 109 by kernel_rfl).symm.trans ht')
    have hd' : DataW.trod (fun _ => ()) Tryz.prog W 0 (fun _ => true) false fuel 109 cs.toList = some (Lib.tabData .u64 (Lib.pow10Tab), p) := hd
    unfold Lib.TabIs
    rw [hv, ← Lib.cells_of_tab Tryz.underlying109 Tryz.underlying84 (by kernel_rfl) (by kernel_rfl) hd']
  · have hb : ((begin Tryz.prog (fun _ _ => 0) default).world.heap[0]?).bind Obj.row? = some (#[.int .i64 0], 3) := by kernel_rfl
    obtain ⟨m, hm⟩ := cell_of_shapedOpen_int hsh (of_decide_eq_true (by kernel_rfl)) hb rfl (by kernel_rfl) (by kernel_rfl) Tryz.underlying3
    obtain ⟨cs, hh, hs, _⟩ := hsh.1 _ _ _ (of_decide_eq_true (by kernel_rfl)) hb
    refine ⟨m, ?_⟩
    have h1 : 0 < cs.size := by rw [hs]; decide
    have hc : cs[0] = .int .i64 m := by
      have : W.cell? ⟨0, 0, none⟩ = some cs[0] := by simp [World.cell?, hh, h1]
      exact Option.some.inj (this.symm.trans hm)
    unfold World.var?
    rw [gmlen]
    simp only [Option.bind_some, hh]
    congr 1
    apply Array.ext
    · rw [hs]; rfl
    · intro i hi1 hi2
      have : i = 0 := by rw [hs] at hi1; simp at hi1; exact hi1
      subst this
      rw [hc]; rfl
  · exact var_iface (Lib.laidMet.reads h (n := "strconv.ErrSyntax") (d := Rows.laid_strconv_ErrSyntax) (.tail _ (.tail _ (.tail _ (.tail _ (.tail _ (.head _))))))) gsyn (by kernel_rfl) Tryz.underlying60
  · exact var_iface (Lib.laidMet.reads h (n := "strconv.ErrRange") (d := Rows.laid_strconv_ErrRange) (.tail _ (.tail _ (.tail _ (.tail _ (.head _)))))) grng (by kernel_rfl) Tryz.underlying60
end Go.Proofs.YtaopopnlnohnpaaGreatDoor.Cg
