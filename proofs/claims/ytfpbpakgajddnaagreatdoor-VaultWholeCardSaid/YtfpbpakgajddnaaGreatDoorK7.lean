/- Texts of this seat, joined: lemmas and walks that its statements' proofs use. -/
import Derived.Test.YtfpbpakgajddnaaGreatDoorK4
import Derived.Test.YtfpbpakgajddnaaGreatDoorK6
import Derived.Deep.CutBlock
import Derived.Test.YtfpbpakgajddnaaGreatDoorRows
import Derived.Deep.Slices
import Derived.ChangeSame
import Derived.OpenShut
import Derived.ChangeOld
import Derived.Lib.SmallJoins
import Derived.LaidLaws
import Derived.MakeChecks
import Derived.HandedShaped
import Derived.Lib.LaidU8
import Derived.Lib.LaidTab
import Derived.WalkKit
import Derived.ProofKit
/- Px125 -/
namespace Go.Proofs.YtfpbpakgajddnaaGreatDoor.P
open Go.Proofs.YtfpbpakgajddnaaGreatDoor.B
open Go.RowKit Go.Proofs.YtfpbpakgajddnaaGreatDoorW.PrintWords Go.Proofs.YtfpbpakgajddnaaGreatDoorW.PrintLast Go.Proofs.YtfpbpakgajddnaaGreatDoorW.PrintMore
attribute [local go_sem] run_store_float str_leq str_gtr str_geq max2_int min2_int max_two min_two max_three min_three max_four min_four
set_option linter.unusedVariables false
set_option linter.unusedSimpArgs false
def broadsheetlaw04_act.l0 : Nat → Int → Int → Int → Int → Int → Int → Int → List (S28) → Int → Int → ByteArray → Option (Int × (List (S28)) × List ByteArray × Int × Int × ByteArray)
  | 0, _, _, _, _, _, _, _, _, _, _, _ => none
  | k + 1, x4, x451000, x451001, x451002, x451003, x451004, x453000, x453001, x453003, x453004, x453005 => if x4 < (Int.tmod (wrap64 (x451001)) 4) then (if 0 ≤ (Int.tmod (wrap64 ((wrap64 (x451002)) + (wrap64 (x4 * (wrap64 (x451004)))))) 3) then (if (Int.tmod (wrap64 ((wrap64 (x451002)) + (wrap64 (x4 * (wrap64 (x451004)))))) 3) ≤ (wrap64 ((Int.tmod (wrap64 ((wrap64 (x451002)) + (wrap64 (x4 * (wrap64 (x451004)))))) 3) + 1)) then (if (wrap64 ((Int.tmod (wrap64 ((wrap64 (x451002)) + (wrap64 (x4 * (wrap64 (x451004)))))) 3) + 1)) ≤ 3 then (if 0 ≤ (Int.tmod (wrap64 (x451003)) 8) then (if (Int.tmod (wrap64 (x451003)) 8) ≤ 8 then (if x453001.length < 4398046511104 then (broadsheetlaw04_act.l0 k (wrap64 (x4 + 1)) x451000 x451001 x451002 x451003 x451004 x453000 (x453001 ++ [(⟨(⟨#[97, 98, 99]⟩ : ByteArray).extract ((Int.tmod (wrap64 ((wrap64 (x451002)) + (wrap64 (x4 * (wrap64 (x451004)))))) 3) : Int).toNat ((wrap64 ((Int.tmod (wrap64 ((wrap64 (x451002)) + (wrap64 (x4 * (wrap64 (x451004)))))) 3) + 1)) : Int).toNat, (⟨#[115, 116, 117, 118, 119, 120, 121, 122]⟩ : ByteArray).extract ((Int.tmod (wrap64 (x451003)) 8) : Int).toNat (⟨#[115, 116, 117, 118, 119, 120, 121, 122]⟩ : ByteArray).size⟩ : S28)]) x453003 x453004 x453005) else (none)) else (none)) else (none)) else (none)) else (none)) else (none)) else (if (Int.tmod x451002 4) = 0 then (if 0 ≤ (Int.tmod x451004 3) then (if (Int.tmod x451004 3) ≤ (((Int.tmod x451004 3) + 1) % 256) then (if (((Int.tmod x451004 3) + 1) % 256) ≤ 3 then (some (x453000, x453001, (([(⟨#[97, 98, 99]⟩ : ByteArray).extract ((Int.tmod x451004 3) : Int).toNat ((((Int.tmod x451004 3) + 1) % 256) : Int).toNat] : List ByteArray)), x453003, x453004, x453005)) else (none)) else (none)) else (none)) else (some (x453000, x453001, ([] : List ByteArray), x453003, x453004, x453005)))
def broadsheetlaw04_act.f (k : Nat) (a0_0 : Int) (a0_1 : Int) (a0_2 : Int) (a0_3 : Int) (a0_4 : Int) : Option (Int × (List (S28)) × List ByteArray × Int × Int × ByteArray) := if 0 ≤ (Int.tmod a0_1 3) then (if (Int.tmod a0_1 3) ≤ (((Int.tmod a0_1 3) + 1) % 256) then (if (((Int.tmod a0_1 3) + 1) % 256) ≤ 3 then (broadsheetlaw04_act.l0 k 0 a0_0 a0_1 a0_2 a0_3 a0_4 (wrap64 (a0_0)) ([] : List (S28)) (wrap64 ((Int.tmod (wrap64 (a0_3)) 24) - 1)) (wrap64 ((Int.tmod (wrap64 (a0_4)) 30) - 1)) ((⟨#[97, 98, 99]⟩ : ByteArray).extract ((Int.tmod a0_1 3) : Int).toNat ((((Int.tmod a0_1 3) + 1) % 256) : Int).toNat)) else (none)) else (none)) else (none)
set_option maxRecDepth 100000 in
theorem act_cut (j : Int) (h0 : 0 ≤ j) (h1 : j ≤ (j + 1) % 256) (h2 : (j + 1) % 256 ≤ 3) (W : World) : (Instr.slice 9 (.string ⟨#[97, 98, 99]⟩) (some (.int .u8 j)) (some (.int .u8 (IntKind.u8.wrap (j + 1)))) none).run Tryz.prog W = .ok (.string ((⟨#[97, 98, 99]⟩ : ByteArray).extract j.toNat ((j + 1) % 256).toNat)) W := by
  have : j = 0 ∨ j = 1 ∨ j = 2 := by omega
  rcases this with rfl | rfl | rfl <;> rfl
def broadsheetlaw04_act.T1 : Bool × List (List Nat × List Nat) := (true, [([], []), ([0], [0]), ([1], [1]), ([], []), ([3], [3]), ([4], [4]), ([5], [5]), ([6], [6]), ([], []), ([8], [8]), ([9], [9]), ([10], [10]), ([11], [11]), ([], []), ([13], [13]), ([14], [14]), ([], []), ([16], [16]), ([17], [17]), ([18], [18]), ([15, 19], [15, 19]), ([2, 7, 12, 20], [2, 7, 12, 20]), ([], []), ([22, 21, 0, 1, 2, 3, 4, 5, 6, 7, 8, 9, 10, 11, 12, 13, 14, 15, 16, 17, 18, 19, 20, 21, 22], [21, 22])])
def broadsheetlaw04_act.B1 : List Nat := [0, 1, 3, 0, 8, 24, 56, 120, 0, 256, 768, 1792, 3840, 0, 8192, 24576, 0, 65536, 196608, 458752, 1040384, 2097151, 0, 8388607]
theorem broadsheetlaw04_act.tab1 : rtab .any (opsOf Tryz.f18 1) = broadsheetlaw04_act.T1 := by kernel_rfl
theorem broadsheetlaw04_act.bits1 : waitsOk broadsheetlaw04_act.T1.2 broadsheetlaw04_act.B1 = true := by kernel_rfl
def broadsheetlaw04_act.T6 : Bool × List (List Nat × List Nat) := (true, [([], []), ([0], [0]), ([], []), ([], []), ([3], [3]), ([2, 4], [2, 4]), ([], []), ([6], [6]), ([7], [7]), ([8], [8]), ([9], [9]), ([5, 10], [5, 10]), ([11], [11]), ([1, 12], [1, 12]), ([0, 1, 2, 3, 4, 5, 6, 7, 8, 9, 10, 11, 12, 13], []), ([14, 13, 13, 0, 1, 2, 3, 4, 5, 6, 7, 8, 9, 10, 11, 12, 13], [13, 14])])
def broadsheetlaw04_act.B6 : List Nat := [0, 1, 0, 0, 8, 28, 0, 64, 192, 448, 960, 2044, 4092, 8191, 16383, 32767]
theorem broadsheetlaw04_act.tab6 : rtab .any (opsOf Tryz.f18 6) = broadsheetlaw04_act.T6 := by kernel_rfl
theorem broadsheetlaw04_act.bits6 : waitsOk broadsheetlaw04_act.T6.2 broadsheetlaw04_act.B6 = true := by kernel_rfl
set_option maxHeartbeats 8000000 in
set_option maxRecDepth 100000 in
theorem broadsheetlaw04_act.calls (k : Nat) (a0_0 : Int) (a0_1 : Int) (a0_2 : Int) (a0_3 : Int) (a0_4 : Int) (r1 : Int) (r2 : List (S28)) (r3 : List ByteArray) (r4 : Int) (r5 : Int) (r6 : ByteArray) (w : World) (h : broadsheetlaw04_act.f k a0_0 a0_1 a0_2 a0_3 a0_4 = some (r1, r2, r3, r4, r5, r6)) :
  Calls Tryz.prog 18 #[.agg #[.int .u8 a0_0, .int .u8 a0_1, .int .u8 a0_2, .int .u8 a0_3, .int .u8 a0_4]] w fun e w' => ∃ v1_ v2_ : Value, e = .returned (.agg #[.int .i64 r1, v1_, v2_, .int .i64 r4, .int .i64 r5, .string r6]) ∧ Kd.R k28 28 w' w.heap.size (fun _ => True) v1_ r2 ∧ Kd.R Kd.string 9 w' w.heap.size (fun _ => True) v2_ r3 ∧ Below w.heap.size w w' := by
 have hu48 := Tryz.underlying48
 have hu43 := Tryz.underlying43
 have hu28 := Tryz.underlying28
 have HB := Aside0.mk (Below.refl w.heap.size w)
 have H : (if 0 ≤ (Int.tmod a0_1 3) then (if (Int.tmod a0_1 3) ≤ (((Int.tmod a0_1 3) + 1) % 256) then (if (((Int.tmod a0_1 3) + 1) % 256) ≤ 3 then (broadsheetlaw04_act.l0 k 0 a0_0 a0_1 a0_2 a0_3 a0_4 (wrap64 (a0_0)) ([] : List (S28)) (wrap64 ((Int.tmod (wrap64 (a0_3)) 24) - 1)) (wrap64 ((Int.tmod (wrap64 (a0_4)) 30) - 1)) ((⟨#[97, 98, 99]⟩ : ByteArray).extract ((Int.tmod a0_1 3) : Int).toNat ((((Int.tmod a0_1 3) + 1) % 256) : Int).toNat)) else (none)) else (none)) else (none)) = some (r1, r2, r3, r4, r5, r6) := h
 clear h
 obtain ⟨ji2, hji2⟩ : ∃ j_ : Int, (Int.tmod a0_1 3) = j_ := ⟨_, rfl⟩
 replace H : (if 0 ≤ (ji2) then (if (ji2) ≤ (((ji2) + 1) % 256) then (if (((ji2) + 1) % 256) ≤ 3 then (broadsheetlaw04_act.l0 k 0 a0_0 a0_1 a0_2 a0_3 a0_4 (wrap64 (a0_0)) ([] : List (S28)) (wrap64 ((Int.tmod (wrap64 (a0_3)) 24) - 1)) (wrap64 ((Int.tmod (wrap64 (a0_4)) 30) - 1)) ((⟨#[97, 98, 99]⟩ : ByteArray).extract ((ji2) : Int).toNat ((((ji2) + 1) % 256) : Int).toNat)) else (none)) else (none)) else (none)) = some (r1, r2, r3, r4, r5, r6) := by first | (rw [hji2] at H; exact H) | (simp only [hji2] at H ⊢; exact H)
 by_cases c3 : 0 ≤ (ji2)
 ·rw [if_pos c3] at H
  have c3b0 := eq_true c3
  have c3b1 : decide (0 ≤ (ji2)) = true := decide_eq_true c3
  clear c3
  by_cases c4 : (ji2) ≤ (((ji2) + 1) % 256)
  ·rw [if_pos c4] at H
   have c4b0 := eq_true c4
   have c4b1 : decide ((ji2) ≤ (((ji2) + 1) % 256)) = true := decide_eq_true c4
   by_cases c5 : (((ji2) + 1) % 256) ≤ 3
   ·rw [if_pos c5] at H
    have c5b0 := eq_true c5
    have c5b1 : decide ((((ji2) + 1) % 256) ≤ 3) = true := decide_eq_true c5
    have H' := Aside0.mk H
    clear H
    go_enter Tryz.func18, Tryz.ntmps18
    try go_wp2_with (first | ((with_reducible refine gate_dst (N := 1) rfl ?_); refine box_event ?hg (N := 1) ?hd (cs := #[.int .u8 a0_0, .int .u8 a0_1, .int .u8 a0_2, .int .u8 a0_3, .int .u8 a0_4]) (t := 48) ?hr ?_; (case hd => rfl); (case hg => rfl); (case hr => first | (go_simp; done) | (go_simp; rfl)); intro gb450 hg w6 hbox hb; have n0_ := Aside0.mk (below_step zb1 hb); have n1_ := Aside0.mk (hbox); have n2_ := Aside0.mk ((by rw [hg]; exact (below_size zb1) : w.heap.size ≤ gb450)); have n3_ := Aside0.mk ((by rw [hg]; exact (below_size zb1) : w.heap.size ≤ gb450)); clear HB; have HB := n0_; have BK450 := n1_; have GW450 := n2_; have GE450 := n3_; clear n0_ n1_ n2_ n3_; clear hb hbox hg) | ((with_reducible refine gate_dst (N := 2) rfl ?_); refine box_event ?hg (N := 2) ?hd (cs := #[.int .i64 0, .slice none 0 0, .slice none 0 0, .int .i64 0, .int .i64 0, .string (⟨#[]⟩ : ByteArray)]) (t := 43) ?hr ?_; (case hd => rfl); (case hg => rfl); (case hr => first | (go_simp; done) | (go_simp; rfl)); intro gb451 hg w7 hbox hb; have n0_ := Aside0.mk (blk_below (g := gb450) (o := .cells #[.int .u8 a0_0, .int .u8 a0_1, .int .u8 a0_2, .int .u8 a0_3, .int .u8 a0_4] 48 (0, 0)) zb27 hb); have n1_ := Aside0.mk (below_step zb40 hb); have n2_ := Aside0.mk (hbox); have n3_ := Aside0.mk ((by rw [hg]; exact (below_size zb40) : w.heap.size ≤ gb451)); have n4_ := Aside0.mk ((by rw [hg]; exact (below_size zb40) : w.heap.size ≤ gb451)); have n5_ := Aside0.mk ((by rw [hg]; exact Nat.ne_of_lt (blk_lt (g := gb450) (o := .cells #[.int .u8 a0_0, .int .u8 a0_1, .int .u8 a0_2, .int .u8 a0_3, .int .u8 a0_4] 48 (0, 0)) zb27) : gb450 ≠ gb451)); have n6_ := Aside0.mk ((by rw [hg]; exact Nat.ne_of_gt (blk_lt (g := gb450) (o := .cells #[.int .u8 a0_0, .int .u8 a0_1, .int .u8 a0_2, .int .u8 a0_3, .int .u8 a0_4] 48 (0, 0)) zb27) : gb451 ≠ gb450)); clear BK450; clear HB; have BK450 := n0_; have HB := n1_; have BK451 := n2_; have GW451 := n3_; have GE451 := n4_; have NB450_451 := n5_; have NB451_450 := n6_; clear n0_ n1_ n2_ n3_ n4_ n5_ n6_; clear hb hbox hg))
    have n0_ := Aside0.mk (blk_drew BK450.out)
    have n1_ := Aside0.mk (blk_drew BK451.out)
    have n2_ := Aside0.mk (below_drew1 HB.out)
    clear BK450
    clear BK451
    clear HB
    have BK450 := n0_
    have BK451 := n1_
    have HB := n2_
    clear n0_ n1_ n2_
    refine start_ (n := 24) (S := fun w' => w'.cell? ⟨gb450, 0, none⟩ = some (.int .u8 a0_0) ∧ w'.cell? ⟨gb450, 1, none⟩ = some (.int .u8 a0_1) ∧ w'.cell? ⟨gb450, 2, none⟩ = some (.int .u8 a0_2) ∧ w'.cell? ⟨gb450, 3, none⟩ = some (.int .u8 a0_3) ∧ w'.cell? ⟨gb450, 4, none⟩ = some (.int .u8 a0_4)) (ds := []) #[false, false, false, false, false, false, false, false, false, false, false, false, false, false, false, false, false, false, false, false, false, false, false, false] zb10 rfl rfl ⟨(blk_cell BK450.out 0).trans rfl, (blk_cell BK450.out 1).trans rfl, (blk_cell BK450.out 2).trans rfl, (blk_cell BK450.out 3).trans rfl, (blk_cell BK450.out 4).trans rfl⟩ (fun hHeld => ?_); refine with_tabW broadsheetlaw04_act.tab1 broadsheetlaw04_act.bits1 (fun HT_ HW_ => ?_)
    generalize w7.drew = w8 at BK450 BK451 HB hHeld ⊢
    refine pus_ 0 (some 6) rfl rfl (any_of HT_.out zb10) (fun w' => by (go_simp; first | with_reducible rfl | (rw [act_cut] <;> first | with_reducible rfl | rfl | exact of_decide_eq_true zb30 | exact of_eq_true zb30 | assumption) | (rw [if_neg zb0]))) ?_
    refine pus_ 3 (some 9) rfl rfl (any_of HT_.out zb10) (fun w' => by (go_simp; first | with_reducible rfl | (rw [act_cut] <;> first | with_reducible rfl | rfl | exact of_decide_eq_true zb30 | exact of_eq_true zb30 | assumption) | (rw [if_neg zb0]))) ?_
    refine pus_ 8 (some 14) rfl rfl (any_of HT_.out zb10) (fun w' => by (go_simp; first | with_reducible rfl | (rw [act_cut] <;> first | with_reducible rfl | rfl | exact of_decide_eq_true zb30 | exact of_eq_true zb30 | assumption) | (rw [if_neg zb0]))) ?_
    refine pus_ 13 (some 19) rfl rfl (any_of HT_.out zb10) (fun w' => by (go_simp; first | with_reducible rfl | (rw [act_cut] <;> first | with_reducible rfl | rfl | exact of_decide_eq_true zb30 | exact of_eq_true zb30 | assumption) | (rw [if_neg zb0]))) ?_
    refine pus_ 16 (some 22) rfl rfl (any_of HT_.out zb10) (fun w' => by (go_simp; first | with_reducible rfl | (rw [act_cut] <;> first | with_reducible rfl | rfl | exact of_decide_eq_true zb30 | exact of_eq_true zb30 | assumption) | (rw [if_neg zb0]))) ?_
    refine tas_ 1 (some 7) rfl rfl (take_ofW HT_.out HW_.out zb10) hHeld (fun w' ⟨s0, s1, s2, s3, s4⟩ => by (go_simp; first | with_reducible rfl | (rw [act_cut] <;> first | with_reducible rfl | rfl | exact of_decide_eq_true zb30 | exact of_eq_true zb30 | assumption) | (rw [if_neg zb0]))) ?_
    refine pus_ 2 (some 8) rfl rfl (any_of HT_.out zb10) (fun w' => by (go_simp; first | with_reducible rfl | (rw [act_cut] <;> first | with_reducible rfl | rfl | exact of_decide_eq_true zb30 | exact of_eq_true zb30 | assumption) | (rw [if_neg zb0]))) ?_
    refine tas_ 4 (some 10) rfl rfl (take_ofW HT_.out HW_.out zb10) hHeld (fun w' ⟨s0, s1, s2, s3, s4⟩ => by (go_simp; first | with_reducible rfl | (rw [act_cut] <;> first | with_reducible rfl | rfl | exact of_decide_eq_true zb30 | exact of_eq_true zb30 | assumption) | (rw [if_neg zb0]))) ?_
    refine pus_ 5 (some 11) rfl rfl (any_of HT_.out zb10) (fun w' => by (go_simp; first | with_reducible rfl | (rw [act_cut] <;> first | with_reducible rfl | rfl | exact of_decide_eq_true zb30 | exact of_eq_true zb30 | assumption) | (rw [if_neg zb0]))) ?_
    refine pus_ 6 (some 12) rfl rfl (any_of HT_.out zb10) (fun w' => by (go_simp; first | with_reducible rfl | (rw [act_cut] <;> first | with_reducible rfl | rfl | exact of_decide_eq_true zb30 | exact of_eq_true zb30 | assumption) | (rw [if_neg zb0]))) ?_
    refine pus_ 7 (some 13) rfl rfl (any_of HT_.out zb10) (fun w' => by (go_simp; first | with_reducible rfl | (rw [act_cut] <;> first | with_reducible rfl | rfl | exact of_decide_eq_true zb30 | exact of_eq_true zb30 | assumption) | (rw [if_neg zb0]))) ?_
    refine tas_ 9 (some 15) rfl rfl (take_ofW HT_.out HW_.out zb10) hHeld (fun w' ⟨s0, s1, s2, s3, s4⟩ => by (go_simp; first | with_reducible rfl | (rw [act_cut] <;> first | with_reducible rfl | rfl | exact of_decide_eq_true zb30 | exact of_eq_true zb30 | assumption) | (rw [if_neg zb0]))) ?_
    refine pus_ 10 (some 16) rfl rfl (any_of HT_.out zb10) (fun w' => by (go_simp; first | with_reducible rfl | (rw [act_cut] <;> first | with_reducible rfl | rfl | exact of_decide_eq_true zb30 | exact of_eq_true zb30 | assumption) | (rw [if_neg zb0]))) ?_
    refine pus_ 11 (some 17) rfl rfl (any_of HT_.out zb10) (fun w' => by (go_simp; first | with_reducible rfl | (rw [act_cut] <;> first | with_reducible rfl | rfl | exact of_decide_eq_true zb30 | exact of_eq_true zb30 | assumption) | (rw [if_neg zb0]))) ?_
    refine pus_ 12 (some 18) rfl rfl (any_of HT_.out zb10) (fun w' => by (go_simp; first | with_reducible rfl | (rw [act_cut] <;> first | with_reducible rfl | rfl | exact of_decide_eq_true zb30 | exact of_eq_true zb30 | assumption) | (rw [if_neg zb0]))) ?_
    refine tas_ 14 (some 20) rfl rfl (take_ofW HT_.out HW_.out zb10) hHeld (fun w' ⟨s0, s1, s2, s3, s4⟩ => by (go_simp; first | with_reducible rfl | (rw [act_cut] <;> first | with_reducible rfl | rfl | exact of_decide_eq_true zb30 | exact of_eq_true zb30 | assumption) | (rw [if_neg zb0]))) ?_
    refine pus_ 15 (some 21) rfl rfl (any_of HT_.out zb10) (fun w' => by (go_simp; first | with_reducible rfl | (rw [act_cut] <;> first | with_reducible rfl | rfl | exact of_decide_eq_true zb30 | exact of_eq_true zb30 | assumption) | (rw [if_neg zb0]))) ?_
    refine tas_ 17 (some 23) rfl rfl (take_ofW HT_.out HW_.out zb10) hHeld (fun w' ⟨s0, s1, s2, s3, s4⟩ => by (go_simp; first | with_reducible rfl | (rw [act_cut] <;> first | with_reducible rfl | rfl | exact of_decide_eq_true zb30 | exact of_eq_true zb30 | assumption) | (rw [if_neg zb0]))) ?_
    refine pus_ 18 (some 24) rfl rfl (any_of HT_.out zb10) (fun w' => by (go_simp; first | with_reducible rfl | (rw [act_cut] <;> first | with_reducible rfl | rfl | exact of_decide_eq_true zb30 | exact of_eq_true zb30 | assumption) | (rw [if_neg zb0]))) ?_
    refine pus_ 19 (some 25) rfl rfl (any_of HT_.out zb10) (fun w' => by (go_simp; first | with_reducible rfl | (rw [act_cut] <;> first | with_reducible rfl | rfl | exact of_decide_eq_true zb30 | exact of_eq_true zb30 | assumption) | (rw [if_neg zb0]))) ?_
    refine pus_ 20 (some 26) rfl rfl (any_of HT_.out zb10) (fun w' => by (go_simp; first | with_reducible rfl | (rw [act_cut] <;> first | with_reducible rfl | rfl | exact of_decide_eq_true zb30 | exact of_eq_true zb30 | assumption) | (rw [if_neg zb0]))) ?_
    refine pus_ 21 (some 27) rfl rfl (any_of HT_.out zb10) (fun w' => by (go_simp; first | with_reducible rfl | (rw [act_cut] <;> first | with_reducible rfl | rfl | exact of_decide_eq_true zb30 | exact of_eq_true zb30 | assumption) | (rw [if_neg zb0]))) ?_
    refine ons_ 22 (some 3) rfl rfl (one_of HT_.out zb10) zb25 (fun K hK => ?_)
    refine box_step ?hg (N := 3) ?hd (cs := #[.int .i64 0, .slice none 0 0, .slice none 0 0, .int .i64 0, .int .i64 0, .string (⟨#[]⟩ : ByteArray)]) (t := 43) ?hr ?_; (case hd => rfl); (case hg => rfl); (case hr => first | (go_simp; done) | (go_simp; rfl))
    intro gb452 hg w9 hbox hb
    have n0_ := Aside0.mk (blk_below (g := gb450) (o := .cells #[.int .u8 a0_0, .int .u8 a0_1, .int .u8 a0_2, .int .u8 a0_3, .int .u8 a0_4] 48 (0, 0)) zb27 hb)
    have n1_ := Aside0.mk (blk_below (g := gb451) (o := .cells #[.int .i64 0, .slice none 0 0, .slice none 0 0, .int .i64 0, .int .i64 0, .string (⟨#[]⟩ : ByteArray)] 43 (0, 0)) zb36 hb)
    have n2_ := Aside0.mk (below_step zb39 hb)
    have n3_ := Aside0.mk (hbox)
    have n4_ := Aside0.mk ((by rw [hg]; exact (below_size zb39) : w.heap.size ≤ gb452))
    have n5_ := Aside0.mk ((by rw [hg]; exact (below_size zb39) : w.heap.size ≤ gb452))
    have n6_ := Aside0.mk ((by rw [hg]; exact Nat.ne_of_lt (blk_lt (g := gb450) (o := .cells #[.int .u8 a0_0, .int .u8 a0_1, .int .u8 a0_2, .int .u8 a0_3, .int .u8 a0_4] 48 (0, 0)) zb27) : gb450 ≠ gb452))
    have n7_ := Aside0.mk ((by rw [hg]; exact Nat.ne_of_gt (blk_lt (g := gb450) (o := .cells #[.int .u8 a0_0, .int .u8 a0_1, .int .u8 a0_2, .int .u8 a0_3, .int .u8 a0_4] 48 (0, 0)) zb27) : gb452 ≠ gb450))
    have n8_ := Aside0.mk ((by rw [hg]; exact Nat.ne_of_lt (blk_lt (g := gb451) (o := .cells #[.int .i64 0, .slice none 0 0, .slice none 0 0, .int .i64 0, .int .i64 0, .string (⟨#[]⟩ : ByteArray)] 43 (0, 0)) zb36) : gb451 ≠ gb452))
    have n9_ := Aside0.mk ((by rw [hg]; exact Nat.ne_of_gt (blk_lt (g := gb451) (o := .cells #[.int .i64 0, .slice none 0 0, .slice none 0 0, .int .i64 0, .int .i64 0, .string (⟨#[]⟩ : ByteArray)] 43 (0, 0)) zb36) : gb452 ≠ gb451))
    clear BK450
    clear BK451
    clear HB
    have BK450 := n0_
    have BK451 := n1_
    have HB := n2_
    have BK452 := n3_
    have GW452 := n4_
    have GE452 := n5_
    have NB450_452 := n6_
    have NB452_450 := n7_
    have NB451_452 := n8_
    have NB452_451 := n9_
    clear n0_ n1_ n2_ n3_ n4_ n5_ n6_ n7_ n8_ n9_
    clear hb hbox hg
    refine hK.out _ _ ⟨(blk_cell BK450.out 0).trans rfl, (blk_cell BK450.out 1).trans rfl, (blk_cell BK450.out 2).trans rfl, (blk_cell BK450.out 3).trans rfl, (blk_cell BK450.out 4).trans rfl⟩ (fun hHeld => ?_)
    clear hK K
    refine norm_ (a' := ?_) ?_ ?_
    rotate_left
    ·show Act.put _ (some 3) _ = _
     simp only [Act.put, List.setIfInBounds_toArray, List.set_cons_zero, List.set_cons_succ, i64_w, i32_w]
     rfl
    refine ons_ 23 none rfl rfl (one_of HT_.out zb10) zb25 (fun K hK => ?_)
    have hs10 : w9.cell? ⟨gb452, 0, none⟩ = some (.int .i64 0) := (blk_cell BK452.out 0).trans rfl
    have hfs10 := blk_frozen BK452.out 0
    have hns10_0 := NB450_452.out
    have hns10_1 := NB451_452.out
    have hms10_0 := NB452_450.out
    have hms10_1 := NB452_451.out
    have hs11 : w9.cell? ⟨gb452, 1, none⟩ = some (.slice none 0 0) := (blk_cell BK452.out 1).trans rfl
    have hfs11 := blk_frozen BK452.out 1
    have hns11_0 := NB450_452.out
    have hns11_1 := NB451_452.out
    have hms11_0 := NB452_450.out
    have hms11_1 := NB452_451.out
    have hs12 : w9.cell? ⟨gb452, 2, none⟩ = some (.slice none 0 0) := (blk_cell BK452.out 2).trans rfl
    have hfs12 := blk_frozen BK452.out 2
    have hns12_0 := NB450_452.out
    have hns12_1 := NB451_452.out
    have hms12_0 := NB452_450.out
    have hms12_1 := NB452_451.out
    have hs13 : w9.cell? ⟨gb452, 3, none⟩ = some (.int .i64 0) := (blk_cell BK452.out 3).trans rfl
    have hfs13 := blk_frozen BK452.out 3
    have hns13_0 := NB450_452.out
    have hns13_1 := NB451_452.out
    have hms13_0 := NB452_450.out
    have hms13_1 := NB452_451.out
    have hs14 : w9.cell? ⟨gb452, 4, none⟩ = some (.int .i64 0) := (blk_cell BK452.out 4).trans rfl
    have hfs14 := blk_frozen BK452.out 4
    have hns14_0 := NB450_452.out
    have hns14_1 := NB451_452.out
    have hms14_0 := NB452_450.out
    have hms14_1 := NB452_451.out
    have hs15 : w9.cell? ⟨gb452, 5, none⟩ = some (.string (⟨#[]⟩ : ByteArray)) := (blk_cell BK452.out 5).trans rfl
    have hfs15 := blk_frozen BK452.out 5
    have hns15_0 := NB450_452.out
    have hns15_1 := NB451_452.out
    have hms15_0 := NB452_450.out
    have hms15_1 := NB452_451.out
    refine skip_ (w1 := ?_) (by rfl) rfl ?_ ?_
    rotate_left
    ·go_simp
     rfl
    refine hK.out _ _ ⟨((cell_far (p := ⟨gb452, _, none⟩) NB450_452.out _).trans (((cell_far (p := ⟨gb452, _, none⟩) NB450_452.out _).trans (((cell_far (p := ⟨gb452, _, none⟩) NB450_452.out _).trans (((cell_far (p := ⟨gb452, _, none⟩) NB450_452.out _).trans (((cell_far (p := ⟨gb452, _, none⟩) NB450_452.out _).trans (((cell_far (p := ⟨gb452, _, none⟩) NB450_452.out _).trans (hHeld.1)))))))))))), ((cell_far (p := ⟨gb452, _, none⟩) NB450_452.out _).trans (((cell_far (p := ⟨gb452, _, none⟩) NB450_452.out _).trans (((cell_far (p := ⟨gb452, _, none⟩) NB450_452.out _).trans (((cell_far (p := ⟨gb452, _, none⟩) NB450_452.out _).trans (((cell_far (p := ⟨gb452, _, none⟩) NB450_452.out _).trans (((cell_far (p := ⟨gb452, _, none⟩) NB450_452.out _).trans (hHeld.2.1)))))))))))), ((cell_far (p := ⟨gb452, _, none⟩) NB450_452.out _).trans (((cell_far (p := ⟨gb452, _, none⟩) NB450_452.out _).trans (((cell_far (p := ⟨gb452, _, none⟩) NB450_452.out _).trans (((cell_far (p := ⟨gb452, _, none⟩) NB450_452.out _).trans (((cell_far (p := ⟨gb452, _, none⟩) NB450_452.out _).trans (((cell_far (p := ⟨gb452, _, none⟩) NB450_452.out _).trans (hHeld.2.2.1)))))))))))), ((cell_far (p := ⟨gb452, _, none⟩) NB450_452.out _).trans (((cell_far (p := ⟨gb452, _, none⟩) NB450_452.out _).trans (((cell_far (p := ⟨gb452, _, none⟩) NB450_452.out _).trans (((cell_far (p := ⟨gb452, _, none⟩) NB450_452.out _).trans (((cell_far (p := ⟨gb452, _, none⟩) NB450_452.out _).trans (((cell_far (p := ⟨gb452, _, none⟩) NB450_452.out _).trans (hHeld.2.2.2.1)))))))))))), ((cell_far (p := ⟨gb452, _, none⟩) NB450_452.out _).trans (((cell_far (p := ⟨gb452, _, none⟩) NB450_452.out _).trans (((cell_far (p := ⟨gb452, _, none⟩) NB450_452.out _).trans (((cell_far (p := ⟨gb452, _, none⟩) NB450_452.out _).trans (((cell_far (p := ⟨gb452, _, none⟩) NB450_452.out _).trans (((cell_far (p := ⟨gb452, _, none⟩) NB450_452.out _).trans (hHeld.2.2.2.2))))))))))))⟩ (fun hHeld => ?_)
    clear hK K
    refine done_ (done_of HT_.out zb10) ?_
    try go_wp2
    first | go_loopg [4] k (fun kq v4 w' => ∃ (x4_1 : Int) (x453001_1 : List (S28)) (u453001 : Value), v4 = .int .i64 x4_1 ∧ Aside0 (broadsheetlaw04_act.l0 kq x4_1 a0_0 a0_1 a0_2 a0_3 a0_4 (wrap64 (a0_0)) x453001_1 (wrap64 ((Int.tmod (wrap64 (a0_3)) 24) - 1)) (wrap64 ((Int.tmod (wrap64 (a0_4)) 30) - 1)) ((⟨#[97, 98, 99]⟩ : ByteArray).extract ((ji2) : Int).toNat ((((ji2) + 1) % 256) : Int).toNat) = some (r1, r2, r3, r4, r5, r6)) ∧ Aside0 (kq ≤ k) ∧ Aside0 (Kd.R k28 28 w' w.heap.size (fun _ => True) u453001 x453001_1) ∧ Aside0 (w'.heap[gb450]? = some (.cells #[.int .u8 a0_0, .int .u8 a0_1, .int .u8 a0_2, .int .u8 a0_3, .int .u8 a0_4] 48 (0, 0))) ∧ Aside0 (w'.heap[gb451]? = some (.cells #[.int .i64 0, (.slice none 0 0), (.slice none 0 0), .int .i64 0, .int .i64 0, .string (⟨#[]⟩ : ByteArray)] 43 (0, 0))) ∧ Aside0 (w'.heap[gb452]? = some (.cells #[.int .i64 (wrap64 (a0_0)), u453001, (.slice none 0 0), .int .i64 (wrap64 ((Int.tmod (wrap64 (a0_3)) 24) - 1)), .int .i64 (wrap64 ((Int.tmod (wrap64 (a0_4)) 30) - 1)), .string ((⟨#[97, 98, 99]⟩ : ByteArray).extract ((ji2) : Int).toNat ((((ji2) + 1) % 256) : Int).toNat)] 43 (0, 0))) ∧ Aside0 (Below w.heap.size w w')) | (go_simp; go_loopg [4] k (fun kq v4 w' => ∃ (x4_1 : Int) (x453001_1 : List (S28)) (u453001 : Value), v4 = .int .i64 x4_1 ∧ Aside0 (broadsheetlaw04_act.l0 kq x4_1 a0_0 a0_1 a0_2 a0_3 a0_4 (wrap64 (a0_0)) x453001_1 (wrap64 ((Int.tmod (wrap64 (a0_3)) 24) - 1)) (wrap64 ((Int.tmod (wrap64 (a0_4)) 30) - 1)) ((⟨#[97, 98, 99]⟩ : ByteArray).extract ((ji2) : Int).toNat ((((ji2) + 1) % 256) : Int).toNat) = some (r1, r2, r3, r4, r5, r6)) ∧ Aside0 (kq ≤ k) ∧ Aside0 (Kd.R k28 28 w' w.heap.size (fun _ => True) u453001 x453001_1) ∧ Aside0 (w'.heap[gb450]? = some (.cells #[.int .u8 a0_0, .int .u8 a0_1, .int .u8 a0_2, .int .u8 a0_3, .int .u8 a0_4] 48 (0, 0))) ∧ Aside0 (w'.heap[gb451]? = some (.cells #[.int .i64 0, (.slice none 0 0), (.slice none 0 0), .int .i64 0, .int .i64 0, .string (⟨#[]⟩ : ByteArray)] 43 (0, 0))) ∧ Aside0 (w'.heap[gb452]? = some (.cells #[.int .i64 (wrap64 (a0_0)), u453001, (.slice none 0 0), .int .i64 (wrap64 ((Int.tmod (wrap64 (a0_3)) 24) - 1)), .int .i64 (wrap64 ((Int.tmod (wrap64 (a0_4)) 30) - 1)), .string ((⟨#[97, 98, 99]⟩ : ByteArray).extract ((ji2) : Int).toNat ((((ji2) + 1) % 256) : Int).toNat)] 43 (0, 0))) ∧ Aside0 (Below w.heap.size w w')))
    case atStart => exact ⟨(0), (([] : List (S28))), (.slice none 0 0), zb14, H', ⟨Nat.le_refl _⟩, ⟨by first | exact Kd.R_nil _ _ _ _ _ | exact Kd.N_nil _ _ _ _ _ | exact Kd.V_nil _ _ _ _ _ | exact Kd.Q_nil _ _ _ _ _ | exact Kd.S_nil _ _ _ _ _⟩, ⟨by (with_reducible repeat (first | refine blk_drewN ?_ _ | refine blk_drew ?_ | refine blk_alloc ?_ _)); refine blk_far ?_ NB450_452.out _; (with_reducible repeat (first | refine blk_drewN ?_ _ | refine blk_drew ?_ | refine blk_alloc ?_ _)); refine blk_far ?_ NB450_452.out _; (with_reducible repeat (first | refine blk_drewN ?_ _ | refine blk_drew ?_ | refine blk_alloc ?_ _)); refine blk_far ?_ NB450_452.out _; (with_reducible repeat (first | refine blk_drewN ?_ _ | refine blk_drew ?_ | refine blk_alloc ?_ _)); refine blk_far ?_ NB450_452.out _; (with_reducible repeat (first | refine blk_drewN ?_ _ | refine blk_drew ?_ | refine blk_alloc ?_ _)); refine blk_far ?_ NB450_452.out _; (with_reducible repeat (first | refine blk_drewN ?_ _ | refine blk_drew ?_ | refine blk_alloc ?_ _)); refine blk_far ?_ NB450_452.out _; (with_reducible repeat (first | refine blk_drewN ?_ _ | refine blk_drew ?_ | refine blk_alloc ?_ _)); exact BK450.out⟩, ⟨by (with_reducible repeat (first | refine blk_drewN ?_ _ | refine blk_drew ?_ | refine blk_alloc ?_ _)); refine blk_far ?_ NB451_452.out _; (with_reducible repeat (first | refine blk_drewN ?_ _ | refine blk_drew ?_ | refine blk_alloc ?_ _)); refine blk_far ?_ NB451_452.out _; (with_reducible repeat (first | refine blk_drewN ?_ _ | refine blk_drew ?_ | refine blk_alloc ?_ _)); refine blk_far ?_ NB451_452.out _; (with_reducible repeat (first | refine blk_drewN ?_ _ | refine blk_drew ?_ | refine blk_alloc ?_ _)); refine blk_far ?_ NB451_452.out _; (with_reducible repeat (first | refine blk_drewN ?_ _ | refine blk_drew ?_ | refine blk_alloc ?_ _)); refine blk_far ?_ NB451_452.out _; (with_reducible repeat (first | refine blk_drewN ?_ _ | refine blk_drew ?_ | refine blk_alloc ?_ _)); refine blk_far ?_ NB451_452.out _; (with_reducible repeat (first | refine blk_drewN ?_ _ | refine blk_drew ?_ | refine blk_alloc ?_ _)); exact BK451.out⟩, ⟨by (with_reducible repeat (first | refine blk_drewN ?_ _ | refine blk_drew ?_ | refine blk_alloc ?_ _)); refine blk_put (cs := #[.int .i64 (wrap64 (a0_0)), .slice none 0 0, .slice none 0 0, .int .i64 (wrap64 ((Int.tmod (wrap64 (a0_3)) 24) - 1)), .int .i64 (wrap64 ((Int.tmod (wrap64 (a0_4)) 30) - 1)), .string (⟨#[]⟩ : ByteArray)]) ?_ 5 _ rfl; (with_reducible repeat (first | refine blk_drewN ?_ _ | refine blk_drew ?_ | refine blk_alloc ?_ _)); refine blk_put (cs := #[.int .i64 (wrap64 (a0_0)), .slice none 0 0, .slice none 0 0, .int .i64 (wrap64 ((Int.tmod (wrap64 (a0_3)) 24) - 1)), .int .i64 0, .string (⟨#[]⟩ : ByteArray)]) ?_ 4 _ rfl; (with_reducible repeat (first | refine blk_drewN ?_ _ | refine blk_drew ?_ | refine blk_alloc ?_ _)); refine blk_put (cs := #[.int .i64 (wrap64 (a0_0)), .slice none 0 0, .slice none 0 0, .int .i64 0, .int .i64 0, .string (⟨#[]⟩ : ByteArray)]) ?_ 3 _ rfl; (with_reducible repeat (first | refine blk_drewN ?_ _ | refine blk_drew ?_ | refine blk_alloc ?_ _)); refine blk_put (cs := #[.int .i64 (wrap64 (a0_0)), .slice none 0 0, .slice none 0 0, .int .i64 0, .int .i64 0, .string (⟨#[]⟩ : ByteArray)]) ?_ 2 _ rfl; (with_reducible repeat (first | refine blk_drewN ?_ _ | refine blk_drew ?_ | refine blk_alloc ?_ _)); refine blk_put (cs := #[.int .i64 (wrap64 (a0_0)), .slice none 0 0, .slice none 0 0, .int .i64 0, .int .i64 0, .string (⟨#[]⟩ : ByteArray)]) ?_ 1 _ rfl; (with_reducible repeat (first | refine blk_drewN ?_ _ | refine blk_drew ?_ | refine blk_alloc ?_ _)); refine blk_put (cs := #[.int .i64 0, .slice none 0 0, .slice none 0 0, .int .i64 0, .int .i64 0, .string (⟨#[]⟩ : ByteArray)]) ?_ 0 _ rfl; (with_reducible repeat (first | refine blk_drewN ?_ _ | refine blk_drew ?_ | refine blk_alloc ?_ _)); exact BK452.out⟩, ⟨by repeat (first | (with_reducible first | exact HB.out | apply below_alloc | apply pw_below_drewN | apply below_drew1 | refine below_set ?_ GE450.out | refine below_set ?_ GE451.out | refine below_set ?_ GE452.out) | exact HB.out)⟩⟩
    case round =>
     clear H'
     try clear c1
     try clear p2
     try clear c3
     try clear c3b0
     try clear c3b1
     try clear c4
     try clear c4b0
     try clear c4b1
     try clear c5
     try clear c5b0
     try clear c5b1
     try clear p6
     obtain ⟨x4_1, x453001_1, u453001, rfl, HA, HK1, HO_453001, BK450, BK451, BK452, HB⟩ := hrel
     cases gk with
     | zero => exact absurd HA.out (by simp [broadsheetlaw04_act.l0])
     | succ k1 =>
      have H := HA.out
      clear HA
      simp only [broadsheetlaw04_act.l0] at H
      by_cases c16 : x4_1 < (Int.tmod (wrap64 (a0_1)) 4)
      ·rw [if_pos c16] at H
       have c16b0 : decide (x4_1 < (Int.tmod (wrap64 (a0_1)) 4)) = true := decide_eq_true c16
       clear c16
       obtain ⟨ji17, hji17⟩ : ∃ j_ : Int, (Int.tmod (wrap64 ((wrap64 (a0_2)) + (wrap64 (x4_1 * (wrap64 (a0_4)))))) 3) = j_ := ⟨_, rfl⟩
       replace H : (if 0 ≤ (ji17) then (if (ji17) ≤ (wrap64 ((ji17) + 1)) then (if (wrap64 ((ji17) + 1)) ≤ 3 then (if 0 ≤ (Int.tmod (wrap64 (a0_3)) 8) then (if (Int.tmod (wrap64 (a0_3)) 8) ≤ 8 then (if x453001_1.length < 4398046511104 then (broadsheetlaw04_act.l0 k1 (wrap64 (x4_1 + 1)) a0_0 a0_1 a0_2 a0_3 a0_4 (wrap64 (a0_0)) (x453001_1 ++ [(⟨(⟨#[97, 98, 99]⟩ : ByteArray).extract ((ji17) : Int).toNat ((wrap64 ((ji17) + 1)) : Int).toNat, (⟨#[115, 116, 117, 118, 119, 120, 121, 122]⟩ : ByteArray).extract ((Int.tmod (wrap64 (a0_3)) 8) : Int).toNat (⟨#[115, 116, 117, 118, 119, 120, 121, 122]⟩ : ByteArray).size⟩ : S28)]) (wrap64 ((Int.tmod (wrap64 (a0_3)) 24) - 1)) (wrap64 ((Int.tmod (wrap64 (a0_4)) 30) - 1)) ((⟨#[97, 98, 99]⟩ : ByteArray).extract ((ji2) : Int).toNat ((((ji2) + 1) % 256) : Int).toNat)) else (none)) else (none)) else (none)) else (none)) else (none)) else (none)) = some (r1, r2, r3, r4, r5, r6) := by first | (rw [hji17] at H; exact H) | (simp only [hji17] at H ⊢; exact H)
       by_cases c18 : 0 ≤ (ji17)
       ·rw [if_pos c18] at H
        have c18b0 := eq_true c18
        have c18b1 : decide (0 ≤ (ji17)) = true := decide_eq_true c18
        clear c18
        by_cases c19 : (ji17) ≤ (wrap64 ((ji17) + 1))
        ·rw [if_pos c19] at H
         have c19b0 := eq_true c19
         have c19b1 : decide ((ji17) ≤ (wrap64 ((ji17) + 1))) = true := decide_eq_true c19
         by_cases c20 : (wrap64 ((ji17) + 1)) ≤ 3
         ·rw [if_pos c20] at H
          have c20b0 := eq_true c20
          have c20b1 : decide ((wrap64 ((ji17) + 1)) ≤ 3) = true := decide_eq_true c20
          obtain ⟨ji21, hji21⟩ : ∃ j_ : Int, (Int.tmod (wrap64 (a0_3)) 8) = j_ := ⟨_, rfl⟩
          replace H : (if 0 ≤ (ji21) then (if (ji21) ≤ 8 then (if x453001_1.length < 4398046511104 then (broadsheetlaw04_act.l0 k1 (wrap64 (x4_1 + 1)) a0_0 a0_1 a0_2 a0_3 a0_4 (wrap64 (a0_0)) (x453001_1 ++ [(⟨(⟨#[97, 98, 99]⟩ : ByteArray).extract ((ji17) : Int).toNat ((wrap64 ((ji17) + 1)) : Int).toNat, (⟨#[115, 116, 117, 118, 119, 120, 121, 122]⟩ : ByteArray).extract ((ji21) : Int).toNat (⟨#[115, 116, 117, 118, 119, 120, 121, 122]⟩ : ByteArray).size⟩ : S28)]) (wrap64 ((Int.tmod (wrap64 (a0_3)) 24) - 1)) (wrap64 ((Int.tmod (wrap64 (a0_4)) 30) - 1)) ((⟨#[97, 98, 99]⟩ : ByteArray).extract ((ji2) : Int).toNat ((((ji2) + 1) % 256) : Int).toNat)) else (none)) else (none)) else (none)) = some (r1, r2, r3, r4, r5, r6) := by first | (rw [hji21] at H; exact H) | (simp only [hji21] at H ⊢; exact H)
          by_cases c22 : 0 ≤ (ji21)
          ·rw [if_pos c22] at H
           have c22b0 := eq_true c22
           have c22b1 : decide (0 ≤ (ji21)) = true := decide_eq_true c22
           clear c22
           by_cases c23 : (ji21) ≤ 8
           ·rw [if_pos c23] at H
            have c23b0 := eq_true c23
            have c23b1 : decide ((ji21) ≤ 8) = true := decide_eq_true c23
            clear c23
            by_cases c24 : x453001_1.length < 4398046511104
            ·rw [if_pos c24] at H
             have LMc24 := Aside0.mk c24
             clear c24
             obtain ⟨y453, hy453⟩ : ∃ y_ : List (S28), y_ = (x453001_1 ++ [(⟨(⟨#[97, 98, 99]⟩ : ByteArray).extract ((ji17) : Int).toNat ((wrap64 ((ji17) + 1)) : Int).toNat, (⟨#[115, 116, 117, 118, 119, 120, 121, 122]⟩ : ByteArray).extract ((ji21) : Int).toNat (⟨#[115, 116, 117, 118, 119, 120, 121, 122]⟩ : ByteArray).size⟩ : S28)]) := ⟨_, rfl⟩
             replace H : (broadsheetlaw04_act.l0 k1 (wrap64 (x4_1 + 1)) a0_0 a0_1 a0_2 a0_3 a0_4 (wrap64 (a0_0)) y453 (wrap64 ((Int.tmod (wrap64 (a0_3)) 24) - 1)) (wrap64 ((Int.tmod (wrap64 (a0_4)) 30) - 1)) ((⟨#[97, 98, 99]⟩ : ByteArray).extract ((ji2) : Int).toNat ((((ji2) + 1) % 256) : Int).toNat)) = some (r1, r2, r3, r4, r5, r6) := by first | (rw [hy453]; with_reducible exact H) | (have H2_ := (Option.bind_some _ _).symm.trans H; rw [hy453]; with_reducible exact H2_) | (have H2_ := (Option.bind_some _ _).symm.trans H; with_reducible exact H2_) | with_reducible exact H | (rw [hy453]; exact H) | exact H
             have Ny453 := Aside0.mk hy453
             clear hy453
             have H' := Aside0.mk H
             clear H
             have hnb25 := NB450_451.out
             have hnc25 := NB451_450.out
             have hnb26 := NB450_452.out
             have hnc26 := NB452_450.out
             have hcz27_0 : wr.cell? ⟨gb450, 0, none⟩ = some (.int .u8 a0_0) := (blk_cell BK450.out 0).trans rfl
             have hcz27_1 : wr.cell? ⟨gb450, 1, none⟩ = some (.int .u8 a0_1) := (blk_cell BK450.out 1).trans rfl
             have hcz27_2 : wr.cell? ⟨gb450, 2, none⟩ = some (.int .u8 a0_2) := (blk_cell BK450.out 2).trans rfl
             have hcz27_3 : wr.cell? ⟨gb450, 3, none⟩ = some (.int .u8 a0_3) := (blk_cell BK450.out 3).trans rfl
             have hcz27_4 : wr.cell? ⟨gb450, 4, none⟩ = some (.int .u8 a0_4) := (blk_cell BK450.out 4).trans rfl
             have hfz27_0 := blk_frozen BK450.out 0
             have hfz27_1 := blk_frozen BK450.out 1
             have hfz27_2 := blk_frozen BK450.out 2
             have hfz27_3 := blk_frozen BK450.out 3
             have hfz27_4 := blk_frozen BK450.out 4
             try go_wp2
             have n0_ := Aside0.mk (Kd.R_drew HO_453001.out)
             have n1_ := Aside0.mk (blk_drew BK450.out)
             have n2_ := Aside0.mk (blk_drew BK451.out)
             have n3_ := Aside0.mk (blk_drew BK452.out)
             have n4_ := Aside0.mk (below_drew1 HB.out)
             clear HO_453001
             clear BK450
             clear BK451
             clear BK452
             clear HB
             have HO_453001 := n0_
             have BK450 := n1_
             have BK451 := n2_
             have BK452 := n3_
             have HB := n4_
             clear n0_ n1_ n2_ n3_ n4_
             refine start_ (n := 16) (S := fun w' => w'.cell? ⟨gb452, 0, none⟩ = some (.int .i64 (wrap64 (a0_0))) ∧ w'.cell? ⟨gb452, 1, none⟩ = some (u453001) ∧ w'.cell? ⟨gb452, 2, none⟩ = some (.slice none 0 0) ∧ w'.cell? ⟨gb452, 3, none⟩ = some (.int .i64 (wrap64 ((Int.tmod (wrap64 (a0_3)) 24) - 1))) ∧ w'.cell? ⟨gb452, 4, none⟩ = some (.int .i64 (wrap64 ((Int.tmod (wrap64 (a0_4)) 30) - 1))) ∧ w'.cell? ⟨gb452, 5, none⟩ = some (.string ((⟨#[97, 98, 99]⟩ : ByteArray).extract ((ji2) : Int).toNat ((((ji2) + 1) % 256) : Int).toNat)) ∧ w'.cell? ⟨gb450, 0, none⟩ = some (.int .u8 a0_0) ∧ w'.cell? ⟨gb450, 1, none⟩ = some (.int .u8 a0_1) ∧ w'.cell? ⟨gb450, 2, none⟩ = some (.int .u8 a0_2) ∧ w'.cell? ⟨gb450, 3, none⟩ = some (.int .u8 a0_3) ∧ w'.cell? ⟨gb450, 4, none⟩ = some (.int .u8 a0_4)) (ds := [15]) #[false, false, false, false, false, false, false, false, false, false, false, false, false, false, false, false] zb10 rfl rfl ⟨(blk_cell BK452.out 0).trans rfl, (blk_cell BK452.out 1).trans rfl, (blk_cell BK452.out 2).trans rfl, (blk_cell BK452.out 3).trans rfl, (blk_cell BK452.out 4).trans rfl, (blk_cell BK452.out 5).trans rfl, (blk_cell BK450.out 0).trans rfl, (blk_cell BK450.out 1).trans rfl, (blk_cell BK450.out 2).trans rfl, (blk_cell BK450.out 3).trans rfl, (blk_cell BK450.out 4).trans rfl⟩ (fun hHeld => ?_); refine with_tabW broadsheetlaw04_act.tab6 broadsheetlaw04_act.bits6 (fun HT_ HW_ => ?_)
             generalize wr.drew = w28 at HO_453001 BK450 BK451 BK452 HB hHeld ⊢
             refine pus_ 0 (some 46) rfl rfl (any_of HT_.out zb10) (fun w' => by (go_simp; first | with_reducible rfl | (rw [act_cut] <;> first | with_reducible rfl | rfl | exact of_decide_eq_true zb30 | exact of_eq_true zb30 | assumption) | (rw [if_neg zb0]))) ?_
             refine pus_ 2 (some 48) rfl rfl (any_of HT_.out zb10) (fun w' => by (go_simp; first | with_reducible rfl | (rw [act_cut] <;> first | with_reducible rfl | rfl | exact of_decide_eq_true zb30 | exact of_eq_true zb30 | assumption) | (rw [if_neg zb0]))) ?_
             refine pus_ 3 (some 49) rfl rfl (any_of HT_.out zb10) (fun w' => by (go_simp; first | with_reducible rfl | (rw [act_cut] <;> first | with_reducible rfl | rfl | exact of_decide_eq_true zb30 | exact of_eq_true zb30 | assumption) | (rw [if_neg zb0]))) ?_
             refine pus_ 4 (some 50) rfl rfl (any_of HT_.out zb10) (fun w' => by (go_simp; first | with_reducible rfl | (rw [act_cut] <;> first | with_reducible rfl | rfl | exact of_decide_eq_true zb30 | exact of_eq_true zb30 | assumption) | (rw [if_neg zb0]))) ?_
             refine pus_ 5 (some 51) rfl rfl (any_of HT_.out zb10) (fun w' => by (go_simp; first | with_reducible rfl | (rw [act_cut] <;> first | with_reducible rfl | rfl | exact of_decide_eq_true zb30 | exact of_eq_true zb30 | assumption) | (rw [if_neg zb0]))) ?_
             refine pus_ 6 (some 52) rfl rfl (any_of HT_.out zb10) (fun w' => by (go_simp; first | with_reducible rfl | (rw [act_cut] <;> first | with_reducible rfl | rfl | exact of_decide_eq_true zb30 | exact of_eq_true zb30 | assumption) | (rw [if_neg zb0]))) ?_
             refine tas_ 1 (some 47) rfl rfl (take_ofW HT_.out HW_.out zb10) hHeld (fun w' ⟨s0, s1, s2, s3, s4, s5, s6, s7, s8, s9, s10⟩ => by (go_simp; first | with_reducible rfl | (rw [act_cut] <;> first | with_reducible rfl | rfl | exact of_decide_eq_true zb30 | exact of_eq_true zb30 | assumption) | (rw [if_neg zb0]))) ?_
             refine tas_ 7 (some 53) rfl rfl (take_ofW HT_.out HW_.out zb10) hHeld (fun w' ⟨s0, s1, s2, s3, s4, s5, s6, s7, s8, s9, s10⟩ => by (go_simp; first | with_reducible rfl | (rw [act_cut] <;> first | with_reducible rfl | rfl | exact of_decide_eq_true zb30 | exact of_eq_true zb30 | assumption) | (rw [if_neg zb0]))) ?_
             refine pus_ 8 (some 54) rfl rfl (any_of HT_.out zb10) (fun w' => by (go_simp; first | with_reducible rfl | (rw [act_cut] <;> first | with_reducible rfl | rfl | exact of_decide_eq_true zb30 | exact of_eq_true zb30 | assumption) | (rw [if_neg zb0]))) ?_
             refine pus_ 9 (some 55) rfl rfl (any_of HT_.out zb10) (fun w' => by (go_simp; first | with_reducible rfl | (rw [act_cut] <;> first | with_reducible rfl | rfl | exact of_decide_eq_true zb30 | exact of_eq_true zb30 | assumption) | (rw [if_neg zb0]))) ?_
             refine pus_ 10 (some 56) rfl rfl (any_of HT_.out zb10) (fun w' => by (go_simp; first | with_reducible rfl | (rw [act_cut] <;> first | with_reducible rfl | rfl | exact of_decide_eq_true zb30 | exact of_eq_true zb30 | assumption) | (rw [if_neg zb0]))) ?_
             refine pus_ 11 (some 57) rfl rfl (any_of HT_.out zb10) (fun w' => by (go_simp; first | with_reducible rfl | (rw [act_cut] <;> first | with_reducible rfl | rfl | exact of_decide_eq_true zb30 | exact of_eq_true zb30 | assumption) | (rw [if_neg zb0]))) ?_
             refine ons_ 12 (some 58) rfl rfl (one_of HT_.out zb10) zb25 (fun K hK => ?_)
             refine value_ (w1 := ?_) (v := ?_) (by rfl) rfl ?_ ?_
             rotate_left 2
             ·go_simp
              constructor
              ·rfl
              ·rfl
             refine hK.out _ _ ⟨(blk_cell (blk_alloc BK452.out _) 0).trans rfl, (blk_cell (blk_alloc BK452.out _) 1).trans rfl, (blk_cell (blk_alloc BK452.out _) 2).trans rfl, (blk_cell (blk_alloc BK452.out _) 3).trans rfl, (blk_cell (blk_alloc BK452.out _) 4).trans rfl, (blk_cell (blk_alloc BK452.out _) 5).trans rfl, (blk_cell (blk_alloc BK450.out _) 0).trans rfl, (blk_cell (blk_alloc BK450.out _) 1).trans rfl, (blk_cell (blk_alloc BK450.out _) 2).trans rfl, (blk_cell (blk_alloc BK450.out _) 3).trans rfl, (blk_cell (blk_alloc BK450.out _) 4).trans rfl⟩ (fun hHeld => ?_)
             clear hK K
             refine norm_ (a' := ?_) ?_ ?_
             rotate_left
             ·show Act.put _ (some 58) _ = _
              simp only [Act.put, List.setIfInBounds_toArray, List.set_cons_zero, List.set_cons_succ, i64_w, i32_w]
              rfl
             refine ons_ 13 (some 59) rfl rfl (one_of HT_.out zb10) zb25 (fun K hK => ?_)
             refine Kd.R_append_step k28 (w0 := w) w.heap.size (by rfl) (.tmp 47) (.tmp 58) 22 28 (.agg #[(.string ⟨#[]⟩), (.string ⟨#[]⟩)]) 32 rfl Tryz.underlying22 info28 rfl zb25 zb13 u453001 x453001_1 (⟨(⟨#[97, 98, 99]⟩ : ByteArray).extract ((ji17) : Int).toNat ((wrap64 ((ji17) + 1)) : Int).toNat, (⟨#[115, 116, 117, 118, 119, 120, 121, 122]⟩ : ByteArray).extract ((ji21) : Int).toNat (⟨#[115, 116, 117, 118, 119, 120, 121, 122]⟩ : ByteArray).size⟩ : S28) [.string ((⟨#[97, 98, 99]⟩ : ByteArray).extract ((ji17) : Int).toNat ((wrap64 ((ji17) + 1)) : Int).toNat), .string ((⟨#[115, 116, 117, 118, 119, 120, 121, 122]⟩ : ByteArray).extract ((ji21) : Int).toNat (⟨#[115, 116, 117, 118, 119, 120, 121, 122]⟩ : ByteArray).size)] (fun _ => True) (fun _ => False) rfl rfl ?aP (fun _ hk => hk.elim) ?aF ?aO ?aB ?aS ?aL ?_
             (case aP => exact k28_mkM _ _ _ (⟨(⟨#[97, 98, 99]⟩ : ByteArray).extract ((ji17) : Int).toNat ((wrap64 ((ji17) + 1)) : Int).toNat, (⟨#[115, 116, 117, 118, 119, 120, 121, 122]⟩ : ByteArray).extract ((ji21) : Int).toNat (⟨#[115, 116, 117, 118, 119, 120, 121, 122]⟩ : ByteArray).size⟩ : S28))
             (case aB => exact zb20)
             (case aF => exact (fun _ _ => trivial))
             (case aO => exact (by (with_reducible repeat (first | apply Kd.R_alloc | apply Kd.R_drewN | apply Kd.R_drew)); exact HO_453001.out))
             (case aS => exact (below_size zb20))
             (case aL => have := LMc24.out; omega)
             intro v454 w29 ho hb hg hat
             rw [← Ny453.out] at ho
             have n0_ := Aside0.mk (blk_grown (g := gb450) (o := .cells #[.int .u8 a0_0, .int .u8 a0_1, .int .u8 a0_2, .int .u8 a0_3, .int .u8 a0_4] 48 (0, 0)) zb27 hg (Kd.R_ne HO_453001.out BK450.out zb25))
             have n1_ := Aside0.mk (blk_grown (g := gb451) (o := .cells #[.int .i64 0, .slice none 0 0, .slice none 0 0, .int .i64 0, .int .i64 0, .string (⟨#[]⟩ : ByteArray)] 43 (0, 0)) zb36 hg (Kd.R_ne HO_453001.out BK451.out zb25))
             have n2_ := Aside0.mk (blk_grown (g := gb452) (o := .cells #[.int .i64 (wrap64 (a0_0)), u453001, .slice none 0 0, .int .i64 (wrap64 ((Int.tmod (wrap64 (a0_3)) 24) - 1)), .int .i64 (wrap64 ((Int.tmod (wrap64 (a0_4)) 30) - 1)), .string ((⟨#[97, 98, 99]⟩ : ByteArray).extract ((ji2) : Int).toNat ((((ji2) + 1) % 256) : Int).toNat)] 43 (0, 0)) (by (with_reducible repeat (first | refine blk_drewN ?_ _ | refine blk_drew ?_ | refine blk_alloc ?_ _)); exact BK452.out) hg (Kd.R_ne HO_453001.out BK452.out zb25))
             have n3_ := Aside0.mk (hb)
             have n4_ := Aside0.mk (ho)
             clear BK450
             clear BK451
             clear BK452
             clear HB
             clear HO_453001
             have BK450 := n0_
             have BK451 := n1_
             have BK452 := n2_
             have HB := n3_
             have HO455 := n4_
             clear n0_ n1_ n2_ n3_ n4_
             clear ho hb hg hat
             obtain ⟨Ao30, co30, eo30⟩ := Kd.R_slice HO455.out
             (first | subst eo30 | (injection eo30 with f1_ f2_ f3_; have f4_ := f1_.symm; have f5_ := f3_.symm; clear f1_ f2_ f3_; subst f4_; subst f5_))
             refine hK.out _ _ ⟨(blk_cell BK452.out 0).trans rfl, (blk_cell BK452.out 1).trans rfl, (blk_cell BK452.out 2).trans rfl, (blk_cell BK452.out 3).trans rfl, (blk_cell BK452.out 4).trans rfl, (blk_cell BK452.out 5).trans rfl, (blk_cell BK450.out 0).trans rfl, (blk_cell BK450.out 1).trans rfl, (blk_cell BK450.out 2).trans rfl, (blk_cell BK450.out 3).trans rfl, (blk_cell BK450.out 4).trans rfl⟩ (fun hHeld => ?_)
             clear hK K
             refine norm_ (a' := ?_) ?_ ?_
             rotate_left
             ·show Act.put _ (some 59) _ = _
              simp only [Act.put, List.setIfInBounds_toArray, List.set_cons_zero, List.set_cons_succ, i64_w, i32_w]
              rfl
             refine pus_ 14 (some 60) rfl rfl (any_of HT_.out zb10) (fun w' => by (go_simp; first | with_reducible rfl | (rw [act_cut] <;> first | with_reducible rfl | rfl | exact of_decide_eq_true zb30 | exact of_eq_true zb30 | assumption) | (rw [if_neg zb0]))) ?_
             refine last_ (i := 15) (N := none) #[true, true, true, true, true, true, true, true, true, true, true, true, true, true, true, true] rfl rfl (one_of HT_.out zb10) zb25 (fun K hK => ?_)
             have hs31 : w29.cell? ⟨gb452, 1, none⟩ = some (u453001) := (blk_cell BK452.out 1).trans rfl
             have hfs31 := blk_frozen BK452.out 1
             have hns31_0 := NB450_452.out
             have hns31_1 := NB451_452.out
             have hms31_0 := NB452_450.out
             have hms31_1 := NB452_451.out
             refine skip_ (w1 := ?_) (by rfl) rfl ?_ ?_
             rotate_left
             ·go_simp
              rfl
             refine hK.out _ _ ?_
             clear hK K
             refine done_ (done_of HT_.out zb10) ?_
             try go_wp2
             go_roundg k1
             case measure => have := HK1.out; omega
             case rel => exact ⟨(wrap64 (x4_1 + 1)), (y453), (.slice Ao30 y453.length co30), zb14, H', ⟨by have := HK1.out; omega⟩, ⟨by (with_reducible repeat (first | apply Kd.R_alloc | apply Kd.R_drewN | apply Kd.R_drew)); exact Kd.R_mono (Kd.R_far (p := ⟨gb452, 1, none⟩) (Kd.R_types HO455.out BK452.out zb25) (fun _ hk => hk.2) (.slice Ao30 y453.length co30)) (fun _ hk => trivial)⟩, ⟨by (with_reducible repeat (first | refine blk_drewN ?_ _ | refine blk_drew ?_ | refine blk_alloc ?_ _)); refine blk_far ?_ NB450_452.out _; (with_reducible repeat (first | refine blk_drewN ?_ _ | refine blk_drew ?_ | refine blk_alloc ?_ _)); exact BK450.out⟩, ⟨by (with_reducible repeat (first | refine blk_drewN ?_ _ | refine blk_drew ?_ | refine blk_alloc ?_ _)); refine blk_far ?_ NB451_452.out _; (with_reducible repeat (first | refine blk_drewN ?_ _ | refine blk_drew ?_ | refine blk_alloc ?_ _)); exact BK451.out⟩, ⟨by (with_reducible repeat (first | refine blk_drewN ?_ _ | refine blk_drew ?_ | refine blk_alloc ?_ _)); refine blk_put (cs := #[.int .i64 (wrap64 (a0_0)), u453001, .slice none 0 0, .int .i64 (wrap64 ((Int.tmod (wrap64 (a0_3)) 24) - 1)), .int .i64 (wrap64 ((Int.tmod (wrap64 (a0_4)) 30) - 1)), .string ((⟨#[97, 98, 99]⟩ : ByteArray).extract ((ji2) : Int).toNat ((((ji2) + 1) % 256) : Int).toNat)]) ?_ 1 _ rfl; (with_reducible repeat (first | refine blk_drewN ?_ _ | refine blk_drew ?_ | refine blk_alloc ?_ _)); exact BK452.out⟩, ⟨by repeat (first | (with_reducible first | exact HB.out | apply below_alloc | apply pw_below_drewN | apply below_drew1 | refine below_set ?_ GE450.out | refine below_set ?_ GE451.out | refine below_set ?_ GE452.out) | exact HB.out)⟩⟩
            ·rw [if_neg c24] at H
             exact absurd H zb35
           ·rw [if_neg c23] at H
            exact absurd H zb35
          ·rw [if_neg c22] at H
           exact absurd H zb35
         ·rw [if_neg c20] at H
          exact absurd H zb35
        ·rw [if_neg c19] at H
         exact absurd H zb35
       ·rw [if_neg c18] at H
        exact absurd H zb35
      ·rw [if_neg c16] at H
       have c16b0 : decide (x4_1 < (Int.tmod (wrap64 (a0_1)) 4)) = false := decide_eq_false c16
       clear c16
       by_cases c32 : (Int.tmod a0_2 4) = 0
       ·rw [if_pos c32] at H
        have c32b0 : ((Int.tmod a0_2 4) == 0) = true := beq_iff_eq.mpr c32
        have c32b1 : ((Int.tmod a0_2 4) != 0) = false := bne_eq_false_iff_eq.mpr c32
        clear c32
        obtain ⟨ji33, hji33⟩ : ∃ j_ : Int, (Int.tmod a0_4 3) = j_ := ⟨_, rfl⟩
        replace H : (if 0 ≤ (ji33) then (if (ji33) ≤ (((ji33) + 1) % 256) then (if (((ji33) + 1) % 256) ≤ 3 then (some ((wrap64 (a0_0)), x453001_1, (([(⟨#[97, 98, 99]⟩ : ByteArray).extract ((ji33) : Int).toNat ((((ji33) + 1) % 256) : Int).toNat] : List ByteArray)), (wrap64 ((Int.tmod (wrap64 (a0_3)) 24) - 1)), (wrap64 ((Int.tmod (wrap64 (a0_4)) 30) - 1)), ((⟨#[97, 98, 99]⟩ : ByteArray).extract ((ji2) : Int).toNat ((((ji2) + 1) % 256) : Int).toNat))) else (none)) else (none)) else (none)) = some (r1, r2, r3, r4, r5, r6) := by first | (rw [hji33] at H; exact H) | (simp only [hji33] at H ⊢; exact H)
        by_cases c34 : 0 ≤ (ji33)
        ·rw [if_pos c34] at H
         have c34b0 := eq_true c34
         have c34b1 : decide (0 ≤ (ji33)) = true := decide_eq_true c34
         clear c34
         by_cases c35 : (ji33) ≤ (((ji33) + 1) % 256)
         ·rw [if_pos c35] at H
          have c35b0 := eq_true c35
          have c35b1 : decide ((ji33) ≤ (((ji33) + 1) % 256)) = true := decide_eq_true c35
          by_cases c36 : (((ji33) + 1) % 256) ≤ 3
          ·rw [if_pos c36] at H
           have c36b0 := eq_true c36
           have c36b1 : decide ((((ji33) + 1) % 256) ≤ 3) = true := decide_eq_true c36
           obtain ⟨y456, hy456⟩ : ∃ y_ : List ByteArray, y_ = (([(⟨#[97, 98, 99]⟩ : ByteArray).extract ((ji33) : Int).toNat ((((ji33) + 1) % 256) : Int).toNat] : List ByteArray)) := ⟨_, rfl⟩
           replace H : (some ((wrap64 (a0_0)), x453001_1, y456, (wrap64 ((Int.tmod (wrap64 (a0_3)) 24) - 1)), (wrap64 ((Int.tmod (wrap64 (a0_4)) 30) - 1)), ((⟨#[97, 98, 99]⟩ : ByteArray).extract ((ji2) : Int).toNat ((((ji2) + 1) % 256) : Int).toNat))) = some (r1, r2, r3, r4, r5, r6) := by first | (rw [hy456]; with_reducible exact H) | (have H2_ := (Option.bind_some _ _).symm.trans H; rw [hy456]; with_reducible exact H2_) | (have H2_ := (Option.bind_some _ _).symm.trans H; with_reducible exact H2_) | with_reducible exact H | (rw [hy456]; exact H) | exact H
           have Ny456 := Aside0.mk hy456
           clear hy456
           simp only [Option.some.injEq, Prod.mk.injEq] at H
           obtain ⟨rfl, rfl, rfl, rfl, rfl, rfl⟩ := H
           have hnb37 := NB450_451.out
           have hnc37 := NB451_450.out
           have hnb38 := NB450_452.out
           have hnc38 := NB452_450.out
           have hcz39_0 : wr.cell? ⟨gb450, 0, none⟩ = some (.int .u8 a0_0) := (blk_cell BK450.out 0).trans rfl
           have hcz39_1 : wr.cell? ⟨gb450, 1, none⟩ = some (.int .u8 a0_1) := (blk_cell BK450.out 1).trans rfl
           have hcz39_2 : wr.cell? ⟨gb450, 2, none⟩ = some (.int .u8 a0_2) := (blk_cell BK450.out 2).trans rfl
           have hcz39_3 : wr.cell? ⟨gb450, 3, none⟩ = some (.int .u8 a0_3) := (blk_cell BK450.out 3).trans rfl
           have hcz39_4 : wr.cell? ⟨gb450, 4, none⟩ = some (.int .u8 a0_4) := (blk_cell BK450.out 4).trans rfl
           have hfz39_0 := blk_frozen BK450.out 0
           have hfz39_1 := blk_frozen BK450.out 1
           have hfz39_2 := blk_frozen BK450.out 2
           have hfz39_3 := blk_frozen BK450.out 3
           have hfz39_4 := blk_frozen BK450.out 4
           go_wp2_with (first | ((with_reducible refine gate_dst (N := 73) rfl ?_); refine Kd.R_lit Kd.string _ 9 ?hg (N := 73) ?hd (xs := ([(⟨#[97, 98, 99]⟩ : ByteArray).extract ((ji33) : Int).toNat ((((ji33) + 1) % 256) : Int).toNat] : List ByteArray)) (inner := [.string ((⟨#[97, 98, 99]⟩ : ByteArray).extract ((ji33) : Int).toNat ((((ji33) + 1) % 256) : Int).toNat)]) (ok := fun _ => True) (okp := fun _ => True) ?hr ?hp (fun _ hk => hk) trivial (Below.refl _ _) (Nat.le_refl _) zb35 ?_; (case hd => rfl); (case hg => rfl); (case hr => first | (go_simp; done) | (go_simp; rfl)); (case hp => exact (Reps.one (show Kd.M Kd.string _ _ _ ((⟨#[97, 98, 99]⟩ : ByteArray).extract ((ji33) : Int).toNat ((((ji33) + 1) % 256) : Int).toNat) [.string ((⟨#[97, 98, 99]⟩ : ByteArray).extract ((ji33) : Int).toNat ((((ji33) + 1) % 256) : Int).toNat)] from rfl) (Reps.none _ _))); intro v457 w40 ho41 hb hg_ hnew_; clear hg_ hnew_; (first | rw [← Ny456.out] at ho41 | (simp only [Int.reduceToNat] at ho41; rw [← Ny456.out] at ho41)); have n0_ := Aside0.mk (Kd.R_below (by (with_reducible repeat (first | apply Kd.R_alloc | apply Kd.R_drewN | apply Kd.R_drew)); exact HO_453001.out) hb); have n1_ := Aside0.mk (Kd.R_lower ho41 (below_size zb20)); have n2_ := Aside0.mk (blk_below (g := gb450) (o := .cells #[.int .u8 a0_0, .int .u8 a0_1, .int .u8 a0_2, .int .u8 a0_3, .int .u8 a0_4] 48 (0, 0)) zb27 hb); have n3_ := Aside0.mk (blk_below (g := gb451) (o := .cells #[.int .i64 0, .slice none 0 0, .slice none 0 0, .int .i64 0, .int .i64 0, .string (⟨#[]⟩ : ByteArray)] 43 (0, 0)) zb36 hb); have n4_ := Aside0.mk (blk_below (g := gb452) (o := .cells #[.int .i64 (wrap64 (a0_0)), u453001, .slice none 0 0, .int .i64 (wrap64 ((Int.tmod (wrap64 (a0_3)) 24) - 1)), .int .i64 (wrap64 ((Int.tmod (wrap64 (a0_4)) 30) - 1)), .string ((⟨#[97, 98, 99]⟩ : ByteArray).extract ((ji2) : Int).toNat ((((ji2) + 1) % 256) : Int).toNat)] 43 (0, 0)) (by (with_reducible repeat (first | refine blk_drewN ?_ _ | refine blk_drew ?_ | refine blk_alloc ?_ _)); exact BK452.out) hb); have n5_ := Aside0.mk (below_step zb20 hb); clear HO_453001; clear BK450; clear BK451; clear BK452; clear HB; have HO_453001 := n0_; have HO458 := n1_; have BK450 := n2_; have BK451 := n3_; have BK452 := n4_; have HB := n5_; clear n0_ n1_ n2_ n3_ n4_ n5_; clear hb ho41; obtain ⟨Ao42, co42, eo42⟩ := Kd.R_slice HO458.out; subst eo42; have hnb43 := NB452_451.out; have hnc43 := NB451_452.out; have hcz44_0 : w40.cell? ⟨gb452, 0, none⟩ = some (.int .i64 (wrap64 (a0_0))) := (blk_cell BK452.out 0).trans rfl; have hcz44_1 : w40.cell? ⟨gb452, 1, none⟩ = some (u453001) := (blk_cell BK452.out 1).trans rfl; have hcz44_2 : w40.cell? ⟨gb452, 2, none⟩ = some (.slice none 0 0) := (blk_cell BK452.out 2).trans rfl; have hcz44_3 : w40.cell? ⟨gb452, 3, none⟩ = some (.int .i64 (wrap64 ((Int.tmod (wrap64 (a0_3)) 24) - 1))) := (blk_cell BK452.out 3).trans rfl; have hcz44_4 : w40.cell? ⟨gb452, 4, none⟩ = some (.int .i64 (wrap64 ((Int.tmod (wrap64 (a0_4)) 30) - 1))) := (blk_cell BK452.out 4).trans rfl; have hcz44_5 : w40.cell? ⟨gb452, 5, none⟩ = some (.string ((⟨#[97, 98, 99]⟩ : ByteArray).extract ((ji2) : Int).toNat ((((ji2) + 1) % 256) : Int).toNat)) := (blk_cell BK452.out 5).trans rfl; have hfz44_0 := blk_frozen BK452.out 0; have hfz44_1 := blk_frozen BK452.out 1; have hfz44_2 := blk_frozen BK452.out 2; have hfz44_3 := blk_frozen BK452.out 3; have hfz44_4 := blk_frozen BK452.out 4; have hfz44_5 := blk_frozen BK452.out 5; have hcz45_0 : w40.cell? ⟨gb451, 0, none⟩ = some (.int .i64 0) := (blk_cell BK451.out 0).trans rfl; have hcz45_1 : w40.cell? ⟨gb451, 1, none⟩ = some (.slice none 0 0) := (blk_cell BK451.out 1).trans rfl; have hcz45_2 : w40.cell? ⟨gb451, 2, none⟩ = some (.slice none 0 0) := (blk_cell BK451.out 2).trans rfl; have hcz45_3 : w40.cell? ⟨gb451, 3, none⟩ = some (.int .i64 0) := (blk_cell BK451.out 3).trans rfl; have hcz45_4 : w40.cell? ⟨gb451, 4, none⟩ = some (.int .i64 0) := (blk_cell BK451.out 4).trans rfl; have hcz45_5 : w40.cell? ⟨gb451, 5, none⟩ = some (.string (⟨#[]⟩ : ByteArray)) := (blk_cell BK451.out 5).trans rfl; have hfz45_0 := blk_frozen BK451.out 0; have hfz45_1 := blk_frozen BK451.out 1; have hfz45_2 := blk_frozen BK451.out 2; have hfz45_3 := blk_frozen BK451.out 3; have hfz45_4 := blk_frozen BK451.out 4; have hfz45_5 := blk_frozen BK451.out 5; obtain ⟨Ao46, co46, eo46⟩ := Kd.R_slice HO_453001.out; subst eo46))
           refine bodyPost_ret (results_cell_row rfl _ _ gb451 43 #[.int .i64 (wrap64 (a0_0)), .slice Ao46 x453001_1.length co46, .slice Ao42 y456.length co42, .int .i64 (wrap64 ((Int.tmod (wrap64 (a0_3)) 24) - 1)), .int .i64 (wrap64 ((Int.tmod (wrap64 (a0_4)) 30) - 1)), .string ((⟨#[97, 98, 99]⟩ : ByteArray).extract ((ji2) : Int).toNat ((((ji2) + 1) % 256) : Int).toNat)] (0, 0) _ rfl (by (with_reducible repeat (first | refine blk_drewN ?_ _ | refine blk_drew ?_ | refine blk_alloc ?_ _)); refine blk_put (cs := #[.int .i64 (wrap64 (a0_0)), .slice Ao46 x453001_1.length co46, .slice Ao42 y456.length co42, .int .i64 (wrap64 ((Int.tmod (wrap64 (a0_3)) 24) - 1)), .int .i64 (wrap64 ((Int.tmod (wrap64 (a0_4)) 30) - 1)), .string (⟨#[]⟩ : ByteArray)]) ?_ 5 _ rfl; (with_reducible repeat (first | refine blk_drewN ?_ _ | refine blk_drew ?_ | refine blk_alloc ?_ _)); refine blk_put (cs := #[.int .i64 (wrap64 (a0_0)), .slice Ao46 x453001_1.length co46, .slice Ao42 y456.length co42, .int .i64 (wrap64 ((Int.tmod (wrap64 (a0_3)) 24) - 1)), .int .i64 0, .string (⟨#[]⟩ : ByteArray)]) ?_ 4 _ rfl; (with_reducible repeat (first | refine blk_drewN ?_ _ | refine blk_drew ?_ | refine blk_alloc ?_ _)); refine blk_put (cs := #[.int .i64 (wrap64 (a0_0)), .slice Ao46 x453001_1.length co46, .slice Ao42 y456.length co42, .int .i64 0, .int .i64 0, .string (⟨#[]⟩ : ByteArray)]) ?_ 3 _ rfl; (with_reducible repeat (first | refine blk_drewN ?_ _ | refine blk_drew ?_ | refine blk_alloc ?_ _)); refine blk_put (cs := #[.int .i64 (wrap64 (a0_0)), .slice Ao46 x453001_1.length co46, .slice none 0 0, .int .i64 0, .int .i64 0, .string (⟨#[]⟩ : ByteArray)]) ?_ 2 _ rfl; (with_reducible repeat (first | refine blk_drewN ?_ _ | refine blk_drew ?_ | refine blk_alloc ?_ _)); refine blk_put (cs := #[.int .i64 (wrap64 (a0_0)), .slice none 0 0, .slice none 0 0, .int .i64 0, .int .i64 0, .string (⟨#[]⟩ : ByteArray)]) ?_ 1 _ rfl; (with_reducible repeat (first | refine blk_drewN ?_ _ | refine blk_drew ?_ | refine blk_alloc ?_ _)); refine blk_put (cs := #[.int .i64 0, .slice none 0 0, .slice none 0 0, .int .i64 0, .int .i64 0, .string (⟨#[]⟩ : ByteArray)]) ?_ 0 _ rfl; (with_reducible repeat (first | refine blk_drewN ?_ _ | refine blk_drew ?_ | refine blk_alloc ?_ _)); refine blk_far ?_ NB451_452.out _; (with_reducible repeat (first | refine blk_drewN ?_ _ | refine blk_drew ?_ | refine blk_alloc ?_ _)); exact BK451.out) Tryz.underlying43 rfl zb10) rfl ?_
           exact ⟨_, _, by first | rfl | (simp [errW_none, errW_some, bne_nil_] <;> rfl) | (simp only [← hji2, ← hji33]; first | rfl | (simp [errW_none, errW_some, bne_nil_] <;> rfl)) | (simp [*, errW_none, errW_some] <;> rfl), by (with_reducible repeat (first | apply Kd.R_alloc | apply Kd.R_drewN | apply Kd.R_drew)); exact Kd.R_mono (Kd.R_far (p := ⟨gb451, 5, none⟩) (Kd.R_far (p := ⟨gb451, 4, none⟩) (Kd.R_far (p := ⟨gb451, 3, none⟩) (Kd.R_far (p := ⟨gb451, 2, none⟩) (Kd.R_far (p := ⟨gb451, 1, none⟩) (Kd.R_far (p := ⟨gb451, 0, none⟩) (Kd.R_far (p := ⟨gb452, 2, none⟩) (Kd.R_types (Kd.R_types HO_453001.out BK452.out zb25) BK451.out zb25) (fun _ hk => hk.1.2) (.slice Ao42 y456.length co42)) (fun _ hk => hk.2) (.int .i64 (wrap64 (a0_0)))) (fun _ hk => hk.2) (.slice Ao46 x453001_1.length co46)) (fun _ hk => hk.2) (.slice Ao42 y456.length co42)) (fun _ hk => hk.2) (.int .i64 (wrap64 ((Int.tmod (wrap64 (a0_3)) 24) - 1)))) (fun _ hk => hk.2) (.int .i64 (wrap64 ((Int.tmod (wrap64 (a0_4)) 30) - 1)))) (fun _ hk => hk.2) (.string ((⟨#[97, 98, 99]⟩ : ByteArray).extract ((ji2) : Int).toNat ((((ji2) + 1) % 256) : Int).toNat))) (fun _ hk => trivial), by (with_reducible repeat (first | apply Kd.R_alloc | apply Kd.R_drewN | apply Kd.R_drew)); exact Kd.R_mono (Kd.R_far (p := ⟨gb451, 5, none⟩) (Kd.R_far (p := ⟨gb451, 4, none⟩) (Kd.R_far (p := ⟨gb451, 3, none⟩) (Kd.R_far (p := ⟨gb451, 2, none⟩) (Kd.R_far (p := ⟨gb451, 1, none⟩) (Kd.R_far (p := ⟨gb451, 0, none⟩) (Kd.R_far (p := ⟨gb452, 2, none⟩) (Kd.R_types (Kd.R_types HO458.out BK452.out zb25) BK451.out zb25) (fun _ hk => hk.1.2) (.slice Ao42 y456.length co42)) (fun _ hk => hk.2) (.int .i64 (wrap64 (a0_0)))) (fun _ hk => hk.2) (.slice Ao46 x453001_1.length co46)) (fun _ hk => hk.2) (.slice Ao42 y456.length co42)) (fun _ hk => hk.2) (.int .i64 (wrap64 ((Int.tmod (wrap64 (a0_3)) 24) - 1)))) (fun _ hk => hk.2) (.int .i64 (wrap64 ((Int.tmod (wrap64 (a0_4)) 30) - 1)))) (fun _ hk => hk.2) (.string ((⟨#[97, 98, 99]⟩ : ByteArray).extract ((ji2) : Int).toNat ((((ji2) + 1) % 256) : Int).toNat))) (fun _ hk => trivial), zb20⟩
          ·rw [if_neg c36] at H
           exact absurd H zb35
         ·rw [if_neg c35] at H
          exact absurd H zb35
        ·rw [if_neg c34] at H
         exact absurd H zb35
       ·rw [if_neg c32] at H
        have c32b0 : ((Int.tmod a0_2 4) == 0) = false := beq_eq_false_iff_ne.mpr c32
        have c32b1 : ((Int.tmod a0_2 4) != 0) = true := bne_iff_ne.mpr c32
        simp only [Option.some.injEq, Prod.mk.injEq] at H
        obtain ⟨rfl, rfl, rfl, rfl, rfl, rfl⟩ := H
        have hnb47 := NB450_451.out
        have hnc47 := NB451_450.out
        have hnb48 := NB450_452.out
        have hnc48 := NB452_450.out
        have hcz49_0 : wr.cell? ⟨gb450, 0, none⟩ = some (.int .u8 a0_0) := (blk_cell BK450.out 0).trans rfl
        have hcz49_1 : wr.cell? ⟨gb450, 1, none⟩ = some (.int .u8 a0_1) := (blk_cell BK450.out 1).trans rfl
        have hcz49_2 : wr.cell? ⟨gb450, 2, none⟩ = some (.int .u8 a0_2) := (blk_cell BK450.out 2).trans rfl
        have hcz49_3 : wr.cell? ⟨gb450, 3, none⟩ = some (.int .u8 a0_3) := (blk_cell BK450.out 3).trans rfl
        have hcz49_4 : wr.cell? ⟨gb450, 4, none⟩ = some (.int .u8 a0_4) := (blk_cell BK450.out 4).trans rfl
        have hfz49_0 := blk_frozen BK450.out 0
        have hfz49_1 := blk_frozen BK450.out 1
        have hfz49_2 := blk_frozen BK450.out 2
        have hfz49_3 := blk_frozen BK450.out 3
        have hfz49_4 := blk_frozen BK450.out 4
        have hnb50 := NB452_451.out
        have hnc50 := NB451_452.out
        have hcz51_0 : wr.cell? ⟨gb452, 0, none⟩ = some (.int .i64 (wrap64 (a0_0))) := (blk_cell BK452.out 0).trans rfl
        have hcz51_1 : wr.cell? ⟨gb452, 1, none⟩ = some (u453001) := (blk_cell BK452.out 1).trans rfl
        have hcz51_2 : wr.cell? ⟨gb452, 2, none⟩ = some (.slice none 0 0) := (blk_cell BK452.out 2).trans rfl
        have hcz51_3 : wr.cell? ⟨gb452, 3, none⟩ = some (.int .i64 (wrap64 ((Int.tmod (wrap64 (a0_3)) 24) - 1))) := (blk_cell BK452.out 3).trans rfl
        have hcz51_4 : wr.cell? ⟨gb452, 4, none⟩ = some (.int .i64 (wrap64 ((Int.tmod (wrap64 (a0_4)) 30) - 1))) := (blk_cell BK452.out 4).trans rfl
        have hcz51_5 : wr.cell? ⟨gb452, 5, none⟩ = some (.string ((⟨#[97, 98, 99]⟩ : ByteArray).extract ((ji2) : Int).toNat ((((ji2) + 1) % 256) : Int).toNat)) := (blk_cell BK452.out 5).trans rfl
        have hfz51_0 := blk_frozen BK452.out 0
        have hfz51_1 := blk_frozen BK452.out 1
        have hfz51_2 := blk_frozen BK452.out 2
        have hfz51_3 := blk_frozen BK452.out 3
        have hfz51_4 := blk_frozen BK452.out 4
        have hfz51_5 := blk_frozen BK452.out 5
        have hcz52_0 : wr.cell? ⟨gb451, 0, none⟩ = some (.int .i64 0) := (blk_cell BK451.out 0).trans rfl
        have hcz52_1 : wr.cell? ⟨gb451, 1, none⟩ = some (.slice none 0 0) := (blk_cell BK451.out 1).trans rfl
        have hcz52_2 : wr.cell? ⟨gb451, 2, none⟩ = some (.slice none 0 0) := (blk_cell BK451.out 2).trans rfl
        have hcz52_3 : wr.cell? ⟨gb451, 3, none⟩ = some (.int .i64 0) := (blk_cell BK451.out 3).trans rfl
        have hcz52_4 : wr.cell? ⟨gb451, 4, none⟩ = some (.int .i64 0) := (blk_cell BK451.out 4).trans rfl
        have hcz52_5 : wr.cell? ⟨gb451, 5, none⟩ = some (.string (⟨#[]⟩ : ByteArray)) := (blk_cell BK451.out 5).trans rfl
        have hfz52_0 := blk_frozen BK451.out 0
        have hfz52_1 := blk_frozen BK451.out 1
        have hfz52_2 := blk_frozen BK451.out 2
        have hfz52_3 := blk_frozen BK451.out 3
        have hfz52_4 := blk_frozen BK451.out 4
        have hfz52_5 := blk_frozen BK451.out 5
        obtain ⟨Ao53, co53, eo53⟩ := Kd.R_slice HO_453001.out
        subst eo53
        go_wp2
        refine bodyPost_ret (results_cell_row rfl _ _ gb451 43 #[.int .i64 (wrap64 (a0_0)), .slice Ao53 x453001_1.length co53, .slice none 0 0, .int .i64 (wrap64 ((Int.tmod (wrap64 (a0_3)) 24) - 1)), .int .i64 (wrap64 ((Int.tmod (wrap64 (a0_4)) 30) - 1)), .string ((⟨#[97, 98, 99]⟩ : ByteArray).extract ((ji2) : Int).toNat ((((ji2) + 1) % 256) : Int).toNat)] (0, 0) _ rfl (by (with_reducible repeat (first | refine blk_drewN ?_ _ | refine blk_drew ?_ | refine blk_alloc ?_ _)); refine blk_put (cs := #[.int .i64 (wrap64 (a0_0)), .slice Ao53 x453001_1.length co53, .slice none 0 0, .int .i64 (wrap64 ((Int.tmod (wrap64 (a0_3)) 24) - 1)), .int .i64 (wrap64 ((Int.tmod (wrap64 (a0_4)) 30) - 1)), .string (⟨#[]⟩ : ByteArray)]) ?_ 5 _ rfl; (with_reducible repeat (first | refine blk_drewN ?_ _ | refine blk_drew ?_ | refine blk_alloc ?_ _)); refine blk_put (cs := #[.int .i64 (wrap64 (a0_0)), .slice Ao53 x453001_1.length co53, .slice none 0 0, .int .i64 (wrap64 ((Int.tmod (wrap64 (a0_3)) 24) - 1)), .int .i64 0, .string (⟨#[]⟩ : ByteArray)]) ?_ 4 _ rfl; (with_reducible repeat (first | refine blk_drewN ?_ _ | refine blk_drew ?_ | refine blk_alloc ?_ _)); refine blk_put (cs := #[.int .i64 (wrap64 (a0_0)), .slice Ao53 x453001_1.length co53, .slice none 0 0, .int .i64 0, .int .i64 0, .string (⟨#[]⟩ : ByteArray)]) ?_ 3 _ rfl; (with_reducible repeat (first | refine blk_drewN ?_ _ | refine blk_drew ?_ | refine blk_alloc ?_ _)); refine blk_put (cs := #[.int .i64 (wrap64 (a0_0)), .slice Ao53 x453001_1.length co53, .slice none 0 0, .int .i64 0, .int .i64 0, .string (⟨#[]⟩ : ByteArray)]) ?_ 2 _ rfl; (with_reducible repeat (first | refine blk_drewN ?_ _ | refine blk_drew ?_ | refine blk_alloc ?_ _)); refine blk_put (cs := #[.int .i64 (wrap64 (a0_0)), .slice none 0 0, .slice none 0 0, .int .i64 0, .int .i64 0, .string (⟨#[]⟩ : ByteArray)]) ?_ 1 _ rfl; (with_reducible repeat (first | refine blk_drewN ?_ _ | refine blk_drew ?_ | refine blk_alloc ?_ _)); refine blk_put (cs := #[.int .i64 0, .slice none 0 0, .slice none 0 0, .int .i64 0, .int .i64 0, .string (⟨#[]⟩ : ByteArray)]) ?_ 0 _ rfl; (with_reducible repeat (first | refine blk_drewN ?_ _ | refine blk_drew ?_ | refine blk_alloc ?_ _)); exact BK451.out) Tryz.underlying43 rfl zb10) rfl ?_
        exact ⟨_, _, by first | rfl | (simp [errW_none, errW_some, bne_nil_] <;> rfl) | (simp only [← hji2]; first | rfl | (simp [errW_none, errW_some, bne_nil_] <;> rfl)) | (simp [*, errW_none, errW_some] <;> rfl), by (with_reducible repeat (first | apply Kd.R_alloc | apply Kd.R_drewN | apply Kd.R_drew)); exact Kd.R_mono (Kd.R_far (p := ⟨gb451, 5, none⟩) (Kd.R_far (p := ⟨gb451, 4, none⟩) (Kd.R_far (p := ⟨gb451, 3, none⟩) (Kd.R_far (p := ⟨gb451, 2, none⟩) (Kd.R_far (p := ⟨gb451, 1, none⟩) (Kd.R_far (p := ⟨gb451, 0, none⟩) (Kd.R_types HO_453001.out BK451.out zb25) (fun _ hk => hk.2) (.int .i64 (wrap64 (a0_0)))) (fun _ hk => hk.2) (.slice Ao53 x453001_1.length co53)) (fun _ hk => hk.2) (.slice none 0 0)) (fun _ hk => hk.2) (.int .i64 (wrap64 ((Int.tmod (wrap64 (a0_3)) 24) - 1)))) (fun _ hk => hk.2) (.int .i64 (wrap64 ((Int.tmod (wrap64 (a0_4)) 30) - 1)))) (fun _ hk => hk.2) (.string ((⟨#[97, 98, 99]⟩ : ByteArray).extract ((ji2) : Int).toNat ((((ji2) + 1) % 256) : Int).toNat))) (fun _ hk => trivial), by first | exact Kd.R_nil _ _ _ _ _ | exact Kd.N_nil _ _ _ _ _ | exact Kd.V_nil _ _ _ _ _ | exact Kd.Q_nil _ _ _ _ _ | exact Kd.S_nil _ _ _ _ _, zb20⟩
   ·rw [if_neg c5] at H
    exact absurd H zb35
  ·rw [if_neg c4] at H
   exact absurd H zb35
 ·rw [if_neg c3] at H
  exact absurd H zb35
def broadsheetlaw04_gone.l0 : Nat → ByteArray → Int → Int → List (S28) → List ByteArray → Int → Int → ByteArray → Option (Bool)
  | 0, _, _, _, _, _, _, _, _ => none
  | k + 1, x1, x5, x460000, x460001, x460002, x460003, x460004, x460005 => if x5 < (x460002.length : Int) then (if 0 ≤ x5 then (if (rdOf ByteArray.empty x460002 x5).toList = x1.toList then (some true) else (broadsheetlaw04_gone.l0 k x1 (wrap64 (x5 + 1)) x460000 x460001 x460002 x460003 x460004 x460005)) else (none)) else (some false)
def broadsheetlaw04_gone.f (k : Nat) (a0_0 : Int) (l0_1 : List (S28)) (l0_2 : List ByteArray) (a0_3 : Int) (a0_4 : Int) (a0_5 : ByteArray) (a1 : ByteArray) : Option (Bool) := broadsheetlaw04_gone.l0 k a1 0 a0_0 l0_1 l0_2 a0_3 a0_4 a0_5
set_option maxHeartbeats 8000000 in
set_option maxRecDepth 100000 in
theorem broadsheetlaw04_gone.calls (k : Nat) (a0_0 : Int) (A0_1 : Option Addr) (c0_1 : Nat) (l0_1 : List (S28)) (A0_2 : Option Addr) (c0_2 : Nat) (l0_2 : List ByteArray) (a0_3 : Int) (a0_4 : Int) (a0_5 : ByteArray) (a1 : ByteArray) (r : Bool) (w : World) (hr0_1 : Kd.C k28 w A0_1 l0_1.length l0_1) (hc0_1 : l0_1.length ≤ c0_1) (hr0_2 : Kd.C Kd.string w A0_2 l0_2.length l0_2) (hc0_2 : l0_2.length ≤ c0_2) (h : broadsheetlaw04_gone.f k a0_0 l0_1 l0_2 a0_3 a0_4 a0_5 a1 = some r) :
  Calls Tryz.prog 26 #[.agg #[.int .i64 a0_0, .slice A0_1 l0_1.length c0_1, .slice A0_2 l0_2.length c0_2, .int .i64 a0_3, .int .i64 a0_4, .string a0_5], .string a1] w fun e w' => e = .returned (.bool r) ∧ Below w.heap.size w w' := by
 have hu43 := Tryz.underlying43
 have HR0_1 := Aside0.mk hr0_1
 have HC0_1 := Aside0.mk hc0_1
 clear hr0_1 hc0_1
 have HR0_2 := Aside0.mk hr0_2
 have HC0_2 := Aside0.mk hc0_2
 clear hr0_2 hc0_2
 have HB := Aside0.mk (Below.refl w.heap.size w)
 have H : (broadsheetlaw04_gone.l0 k a1 0 a0_0 l0_1 l0_2 a0_3 a0_4 a0_5) = some r := h
 clear h
 have H' := Aside0.mk H
 clear H
 go_enter Tryz.func26, Tryz.ntmps26
 go_wp2_with (first | ((with_reducible refine gate_dst (N := 2) rfl ?_); refine box_event ?hg (N := 2) ?hd (cs := #[.int .i64 a0_0, .slice A0_1 l0_1.length c0_1, .slice A0_2 l0_2.length c0_2, .int .i64 a0_3, .int .i64 a0_4, .string a0_5]) (t := 43) ?hr ?_; (case hd => rfl); (case hg => rfl); (case hr => first | (go_simp; done) | (go_simp; rfl)); intro gb459 hg w3 hbox hb; have n0_ := Aside0.mk (below_step zb1 hb); have n1_ := Aside0.mk (hbox); have n2_ := Aside0.mk ((by rw [hg]; exact (below_size zb1) : w.heap.size ≤ gb459)); have n3_ := Aside0.mk ((by rw [hg]; exact (below_size zb1) : w.heap.size ≤ gb459)); clear HB; have HB := n0_; have BK459 := n1_; have GW459 := n2_; have GE459 := n3_; clear n0_ n1_ n2_ n3_; clear hb hbox hg))
 first | go_loopg [5] k (fun kq v5 w' => ∃ (x5_1 : Int), v5 = .int .i64 x5_1 ∧ Aside0 (broadsheetlaw04_gone.l0 kq a1 x5_1 a0_0 l0_1 l0_2 a0_3 a0_4 a0_5 = some r) ∧ Aside0 (kq ≤ k) ∧ Aside0 (w'.heap[gb459]? = some (.cells #[.int .i64 a0_0, (.slice A0_1 l0_1.length c0_1), (.slice A0_2 l0_2.length c0_2), .int .i64 a0_3, .int .i64 a0_4, .string a0_5] 43 (0, 0))) ∧ Aside0 (Below w.heap.size w w')) | (go_simp; go_loopg [5] k (fun kq v5 w' => ∃ (x5_1 : Int), v5 = .int .i64 x5_1 ∧ Aside0 (broadsheetlaw04_gone.l0 kq a1 x5_1 a0_0 l0_1 l0_2 a0_3 a0_4 a0_5 = some r) ∧ Aside0 (kq ≤ k) ∧ Aside0 (w'.heap[gb459]? = some (.cells #[.int .i64 a0_0, (.slice A0_1 l0_1.length c0_1), (.slice A0_2 l0_2.length c0_2), .int .i64 a0_3, .int .i64 a0_4, .string a0_5] 43 (0, 0))) ∧ Aside0 (Below w.heap.size w w')))
 case atStart => exact ⟨(0), zb14, H', ⟨Nat.le_refl _⟩, ⟨by (with_reducible repeat (first | refine blk_drewN ?_ _ | refine blk_drew ?_ | refine blk_alloc ?_ _)); exact BK459.out⟩, ⟨by repeat (first | (with_reducible first | exact HB.out | apply below_alloc | apply pw_below_drewN | apply below_drew1 | refine below_set ?_ GE459.out) | exact HB.out)⟩⟩
 case round =>
  clear H'
  try clear c2
  try clear p2
  obtain ⟨x5_1, rfl, HA, HK1, BK459, HB⟩ := hrel
  cases gk with
  | zero => exact absurd HA.out (by simp [broadsheetlaw04_gone.l0])
  | succ k1 =>
   have H := HA.out
   clear HA
   simp only [broadsheetlaw04_gone.l0] at H
   by_cases c4 : x5_1 < (l0_2.length : Int)
   ·rw [if_pos c4] at H
    have c4b0 : decide (x5_1 < (l0_2.length : Int)) = true := decide_eq_true c4
    clear c4
    by_cases c5 : 0 ≤ x5_1
    ·rw [if_pos c5] at H
     have c5b0 : decide (0 ≤ x5_1) = true := decide_eq_true c5
     clear c5
     by_cases c6 : (rdOf ByteArray.empty l0_2 x5_1).toList = a1.toList
     ·rw [if_pos c6] at H
      have c6b0 : ((rdOf ByteArray.empty l0_2 x5_1).toList == a1.toList) = true := beq_iff_eq.mpr c6
      have c6b1 : ((rdOf ByteArray.empty l0_2 x5_1).toList != a1.toList) = false := bne_eq_false_iff_eq.mpr c6
      clear c6
      obtain rfl := Option.some.inj H
      have hcz7_0 : wr.cell? ⟨gb459, 0, none⟩ = some (.int .i64 a0_0) := (blk_cell BK459.out 0).trans rfl
      have hcz7_1 : wr.cell? ⟨gb459, 1, none⟩ = some (.slice A0_1 l0_1.length c0_1) := (blk_cell BK459.out 1).trans rfl
      have hcz7_2 : wr.cell? ⟨gb459, 2, none⟩ = some (.slice A0_2 l0_2.length c0_2) := (blk_cell BK459.out 2).trans rfl
      have hcz7_3 : wr.cell? ⟨gb459, 3, none⟩ = some (.int .i64 a0_3) := (blk_cell BK459.out 3).trans rfl
      have hcz7_4 : wr.cell? ⟨gb459, 4, none⟩ = some (.int .i64 a0_4) := (blk_cell BK459.out 4).trans rfl
      have hcz7_5 : wr.cell? ⟨gb459, 5, none⟩ = some (.string a0_5) := (blk_cell BK459.out 5).trans rfl
      have hfz7_0 := blk_frozen BK459.out 0
      have hfz7_1 := blk_frozen BK459.out 1
      have hfz7_2 := blk_frozen BK459.out 2
      have hfz7_3 := blk_frozen BK459.out 3
      have hfz7_4 := blk_frozen BK459.out 4
      have hfz7_5 := blk_frozen BK459.out 5
      have p460 : 0 ≤ (x5_1 : Int) := of_decide_eq_true zb5
      have q460 : x5_1 < (l0_2.length : Int) := of_decide_eq_true zb5
      obtain ⟨ad460, e460, hx460_0⟩ := Kd.at_string HR0_2.out x5_1 p460 q460
      cases e460
      replace hx460_0 := (HB.out.cell (World.block_lt_of_cell? w _ hx460_0)).trans hx460_0
      replace p460 := eq_true p460
      replace q460 := eq_true q460
      go_wp2
      go_ret
      exact ⟨zb15, (by repeat (first | (with_reducible first | exact HB.out | apply below_alloc | apply pw_below_drewN | apply below_drew1 | refine below_set ?_ GE459.out) | exact HB.out))⟩
     ·rw [if_neg c6] at H
      have c6b0 : ((rdOf ByteArray.empty l0_2 x5_1).toList == a1.toList) = false := beq_eq_false_iff_ne.mpr c6
      have c6b1 : ((rdOf ByteArray.empty l0_2 x5_1).toList != a1.toList) = true := bne_iff_ne.mpr c6
      have H' := Aside0.mk H
      clear H
      have hcz8_0 : wr.cell? ⟨gb459, 0, none⟩ = some (.int .i64 a0_0) := (blk_cell BK459.out 0).trans rfl
      have hcz8_1 : wr.cell? ⟨gb459, 1, none⟩ = some (.slice A0_1 l0_1.length c0_1) := (blk_cell BK459.out 1).trans rfl
      have hcz8_2 : wr.cell? ⟨gb459, 2, none⟩ = some (.slice A0_2 l0_2.length c0_2) := (blk_cell BK459.out 2).trans rfl
      have hcz8_3 : wr.cell? ⟨gb459, 3, none⟩ = some (.int .i64 a0_3) := (blk_cell BK459.out 3).trans rfl
      have hcz8_4 : wr.cell? ⟨gb459, 4, none⟩ = some (.int .i64 a0_4) := (blk_cell BK459.out 4).trans rfl
      have hcz8_5 : wr.cell? ⟨gb459, 5, none⟩ = some (.string a0_5) := (blk_cell BK459.out 5).trans rfl
      have hfz8_0 := blk_frozen BK459.out 0
      have hfz8_1 := blk_frozen BK459.out 1
      have hfz8_2 := blk_frozen BK459.out 2
      have hfz8_3 := blk_frozen BK459.out 3
      have hfz8_4 := blk_frozen BK459.out 4
      have hfz8_5 := blk_frozen BK459.out 5
      have p460 : 0 ≤ (x5_1 : Int) := of_decide_eq_true zb5
      have q460 : x5_1 < (l0_2.length : Int) := of_decide_eq_true zb5
      obtain ⟨ad460, e460, hx460_0⟩ := Kd.at_string HR0_2.out x5_1 p460 q460
      cases e460
      replace hx460_0 := (HB.out.cell (World.block_lt_of_cell? w _ hx460_0)).trans hx460_0
      replace p460 := eq_true p460
      replace q460 := eq_true q460
      go_wp2
      go_roundg k1
      case measure => have := HK1.out; omega
      case rel => exact ⟨(wrap64 (x5_1 + 1)), zb14, H', ⟨by have := HK1.out; omega⟩, ⟨by (with_reducible repeat (first | refine blk_drewN ?_ _ | refine blk_drew ?_ | refine blk_alloc ?_ _)); exact BK459.out⟩, ⟨by repeat (first | (with_reducible first | exact HB.out | apply below_alloc | apply pw_below_drewN | apply below_drew1 | refine below_set ?_ GE459.out) | exact HB.out)⟩⟩
    ·rw [if_neg c5] at H
     exact absurd H zb35
   ·rw [if_neg c4] at H
    have c4b0 : decide (x5_1 < (l0_2.length : Int)) = false := decide_eq_false c4
    clear c4
    obtain rfl := Option.some.inj H
    have hcz9_0 : wr.cell? ⟨gb459, 0, none⟩ = some (.int .i64 a0_0) := (blk_cell BK459.out 0).trans rfl
    have hcz9_1 : wr.cell? ⟨gb459, 1, none⟩ = some (.slice A0_1 l0_1.length c0_1) := (blk_cell BK459.out 1).trans rfl
    have hcz9_2 : wr.cell? ⟨gb459, 2, none⟩ = some (.slice A0_2 l0_2.length c0_2) := (blk_cell BK459.out 2).trans rfl
    have hcz9_3 : wr.cell? ⟨gb459, 3, none⟩ = some (.int .i64 a0_3) := (blk_cell BK459.out 3).trans rfl
    have hcz9_4 : wr.cell? ⟨gb459, 4, none⟩ = some (.int .i64 a0_4) := (blk_cell BK459.out 4).trans rfl
    have hcz9_5 : wr.cell? ⟨gb459, 5, none⟩ = some (.string a0_5) := (blk_cell BK459.out 5).trans rfl
    have hfz9_0 := blk_frozen BK459.out 0
    have hfz9_1 := blk_frozen BK459.out 1
    have hfz9_2 := blk_frozen BK459.out 2
    have hfz9_3 := blk_frozen BK459.out 3
    have hfz9_4 := blk_frozen BK459.out 4
    have hfz9_5 := blk_frozen BK459.out 5
    go_wp2
    go_ret
    exact ⟨zb15, (by repeat (first | (with_reducible first | exact HB.out | apply below_alloc | apply pw_below_drewN | apply below_drew1 | refine below_set ?_ GE459.out) | exact HB.out))⟩
mutual
def broadsheetlaw04_set.l0 : Nat → List ByteArray → ByteArray → ByteArray → List ByteArray → Bool → Int → Option (List ByteArray)
  | 0, _, _, _, _, _, _ => none
  | k + 1, x0, x1, x2, x7, x8, x9 => if x9 < (x0.length : Int) then (if 0 ≤ x9 then (if ((Op.bytesLess ((rdOf ByteArray.empty x0 x9).toList) x1.toList) = true) then (broadsheetlaw04_set.j1 k x0 x1 x2 x7 x8 x9 false) else (broadsheetlaw04_set.j1 k x0 x1 x2 x7 x8 x9 (!x8))) else (none)) else (if x8 = true then (some x7) else ((some (([x1, x2] : List ByteArray) : List ByteArray)).bind fun y461 => (if x7.length + y461.length < 8796093022208 then (some (x7 ++ y461)) else (none))))
def broadsheetlaw04_set.j1 : Nat → List ByteArray → ByteArray → ByteArray → List ByteArray → Bool → Int → Bool → Option (List ByteArray)
  | 0, _, _, _, _, _, _, _ => none
  | k + 1, x0, x1, x2, x7, x8, x9, x25 => if x25 = true then ((some (([x1, x2] : List ByteArray) : List ByteArray)).bind fun y468 => (if x7.length + y468.length < 8796093022208 then ((some (x7 ++ y468 : List ByteArray)).bind fun y471 => (if 0 ≤ x9 then (if x9 < (x0.length : Int) then (if (rdOf ByteArray.empty x0 x9).toList = x1.toList then (broadsheetlaw04_set.l0 k x0 x1 x2 y471 true (wrap64 (x9 + 2))) else (if 0 ≤ (wrap64 (x9 + 1)) then (if (wrap64 (x9 + 1)) < (x0.length : Int) then ((some (([rdOf ByteArray.empty x0 x9, rdOf ByteArray.empty x0 (wrap64 (x9 + 1))] : List ByteArray) : List ByteArray)).bind fun y477 => (if y471.length + y477.length < 8796093022208 then (broadsheetlaw04_set.l0 k x0 x1 x2 (y471 ++ y477) true (wrap64 (x9 + 2))) else (none))) else (none)) else (none))) else (none)) else (none))) else (none))) else (if 0 ≤ x9 then (if x9 < (x0.length : Int) then (if (rdOf ByteArray.empty x0 x9).toList = x1.toList then (broadsheetlaw04_set.l0 k x0 x1 x2 x7 x8 (wrap64 (x9 + 2))) else (if 0 ≤ (wrap64 (x9 + 1)) then (if (wrap64 (x9 + 1)) < (x0.length : Int) then ((some (([rdOf ByteArray.empty x0 x9, rdOf ByteArray.empty x0 (wrap64 (x9 + 1))] : List ByteArray) : List ByteArray)).bind fun y486 => (if x7.length + y486.length < 8796093022208 then (broadsheetlaw04_set.l0 k x0 x1 x2 (x7 ++ y486) x8 (wrap64 (x9 + 2))) else (none))) else (none)) else (none))) else (none)) else (none))
end
def broadsheetlaw04_set.f (k : Nat) (l0 : List ByteArray) (a1 : ByteArray) (a2 : ByteArray) : Option (List ByteArray) := broadsheetlaw04_set.l0 k l0 a1 a2 ([] : List ByteArray) false 0
def broadsheetlaw04_set.T10 : Bool × List (List Nat × List Nat) := (true, [([], []), ([], []), ([], []), ([1, 2], [1, 2]), ([3], [3]), ([], []), ([], []), ([6], [6]), ([5, 7], [5, 7]), ([8], [8]), ([4, 9], [4, 9]), ([0, 10], [0, 10]), ([11, 11, 0, 1, 2, 3, 4, 5, 6, 7, 8, 9, 10, 11], [0, 11])])
def broadsheetlaw04_set.B10 : List Nat := [0, 0, 0, 6, 14, 0, 0, 64, 224, 480, 1022, 2047, 4095]
theorem broadsheetlaw04_set.tab10 : rtab .any (opsOf Tryz.f27 10) = broadsheetlaw04_set.T10 := by kernel_rfl
theorem broadsheetlaw04_set.bits10 : waitsOk broadsheetlaw04_set.T10.2 broadsheetlaw04_set.B10 = true := by kernel_rfl
set_option maxHeartbeats 8000000 in
set_option maxRecDepth 100000 in
theorem broadsheetlaw04_set.calls (k : Nat) (A0 : Option Addr) (c0 : Nat) (l0 : List ByteArray) (a1 : ByteArray) (a2 : ByteArray) (r : List ByteArray) (w : World) (hr0 : Kd.C Kd.string w A0 l0.length l0) (hc0 : l0.length ≤ c0) (h : broadsheetlaw04_set.f k l0 a1 a2 = some r) :
  Calls Tryz.prog 27 #[.slice A0 l0.length c0, .string a1, .string a2] w fun e w' => ∃ v0_ : Value, e = .returned (v0_) ∧ Kd.R Kd.string 9 w' w.heap.size (fun _ => True) v0_ r ∧ Below w.heap.size w w' := by
 have HR0 := Aside0.mk hr0
 have HC0 := Aside0.mk hc0
 clear hr0 hc0
 have HB := Aside0.mk (Below.refl w.heap.size w)
 have H : (broadsheetlaw04_set.l0 k l0 a1 a2 ([] : List ByteArray) false 0) = some r := h
 clear h
 have H' := Aside0.mk H
 clear H
 go_enter Tryz.func27, Tryz.ntmps27
 go_wp2
 first | go_loopg [7, 8, 9] k (fun kq v7 v8 v9 w' => ∃ (x7_1 : List ByteArray) (x8_1 : Bool) (x9_1 : Int), v8 = .bool x8_1 ∧ v9 = .int .i64 x9_1 ∧ Aside0 (broadsheetlaw04_set.l0 kq l0 a1 a2 x7_1 x8_1 x9_1 = some r) ∧ Aside0 (kq ≤ k) ∧ Aside0 (Kd.R Kd.string 9 w' w.heap.size (fun _ => True) v7 x7_1) ∧ Aside0 (Below w.heap.size w w')) | (go_simp; go_loopg [7, 8, 9] k (fun kq v7 v8 v9 w' => ∃ (x7_1 : List ByteArray) (x8_1 : Bool) (x9_1 : Int), v8 = .bool x8_1 ∧ v9 = .int .i64 x9_1 ∧ Aside0 (broadsheetlaw04_set.l0 kq l0 a1 a2 x7_1 x8_1 x9_1 = some r) ∧ Aside0 (kq ≤ k) ∧ Aside0 (Kd.R Kd.string 9 w' w.heap.size (fun _ => True) v7 x7_1) ∧ Aside0 (Below w.heap.size w w')))
 case atStart => exact ⟨(([] : List ByteArray)), (false), (0), zb14, zb14, H', ⟨Nat.le_refl _⟩, ⟨by first | exact Kd.R_nil _ _ _ _ _ | exact Kd.N_nil _ _ _ _ _ | exact Kd.V_nil _ _ _ _ _ | exact Kd.Q_nil _ _ _ _ _ | exact Kd.S_nil _ _ _ _ _⟩, ⟨by repeat (first | (with_reducible first | exact HB.out | apply below_alloc | apply pw_below_drewN | apply below_drew1) | exact HB.out)⟩⟩
 case round =>
  clear H'
  try clear c2
  try clear p2
  obtain ⟨x7_1, x8_1, x9_1, rfl, rfl, HA, HK1, HO_7, HB⟩ := hrel
  cases gk with
  | zero => exact absurd HA.out (by simp [broadsheetlaw04_set.l0])
  | succ k1 =>
   have H := HA.out
   clear HA
   simp only [broadsheetlaw04_set.l0] at H
   by_cases c4 : x9_1 < (l0.length : Int)
   ·rw [if_pos c4] at H
    have c4b0 : decide (x9_1 < (l0.length : Int)) = true := decide_eq_true c4
    clear c4
    have HC5 := Aside0.mk H
    clear H
    go_upto_region 6 with (fail)
    go_cut [25] (fun v25 wc => ∃ (kq : Nat) (x25_4 : Bool), v25 = .bool x25_4 ∧ Aside0 (broadsheetlaw04_set.j1 kq l0 a1 a2 x7_1 x8_1 x9_1 x25_4 = some r) ∧ Aside0 (kq ≤ k1) ∧ Aside0 (Kd.R Kd.string 9 wc w.heap.size (fun _ => True) u7 x7_1) ∧ Aside0 (Below w.heap.size w wc))
    case first =>
     have H := HC5.out
     clear HC5
     by_cases c6 : 0 ≤ x9_1
     ·rw [if_pos c6] at H
      have c6b0 : decide (0 ≤ x9_1) = true := decide_eq_true c6
      clear c6
      (first | rw [c6b0] | (simp only [i64_w, i32_w]; rw [c6b0]) | skip)
      by_cases c7 : ((Op.bytesLess ((rdOf ByteArray.empty l0 x9_1).toList) a1.toList) = true)
      ·rw [if_pos c7] at H
       have c7b0 : (Op.bytesLess ((rdOf ByteArray.empty l0 x9_1).toList) a1.toList) = true := c7
       clear c7
       have H' := Aside0.mk H
       clear H
       have p467 : 0 ≤ (x9_1 : Int) := of_decide_eq_true zb5
       have q467 : x9_1 < (l0.length : Int) := of_decide_eq_true zb5
       obtain ⟨ad467, e467, hx467_0⟩ := Kd.at_string HR0.out x9_1 p467 q467
       cases e467
       replace hx467_0 := (HB.out.cell (World.block_lt_of_cell? w _ hx467_0)).trans hx467_0
       replace p467 := eq_true p467
       replace q467 := eq_true q467
       go_wp2
       go_meet
       case rel => exact ⟨_, (false), zb14, H', ⟨by have := HK1.out; first | omega | exact Nat.le_refl _⟩, ⟨by (with_reducible repeat (first | apply Kd.R_alloc | apply Kd.R_drewN | apply Kd.R_drew)); exact HO_7.out⟩, ⟨by repeat (first | (with_reducible first | exact HB.out | apply below_alloc | apply pw_below_drewN | apply below_drew1) | exact HB.out)⟩⟩
      ·rw [if_neg c7] at H
       have c7b0 : (Op.bytesLess ((rdOf ByteArray.empty l0 x9_1).toList) a1.toList) = false := by simpa using c7
       clear c7
       have H' := Aside0.mk H
       clear H
       have p467 : 0 ≤ (x9_1 : Int) := of_decide_eq_true zb5
       have q467 : x9_1 < (l0.length : Int) := of_decide_eq_true zb5
       obtain ⟨ad467, e467, hx467_0⟩ := Kd.at_string HR0.out x9_1 p467 q467
       cases e467
       replace hx467_0 := (HB.out.cell (World.block_lt_of_cell? w _ hx467_0)).trans hx467_0
       replace p467 := eq_true p467
       replace q467 := eq_true q467
       go_wp2
       go_meet
       case rel => exact ⟨_, (!x8_1), zb14, H', ⟨by have := HK1.out; first | omega | exact Nat.le_refl _⟩, ⟨by (with_reducible repeat (first | apply Kd.R_alloc | apply Kd.R_drewN | apply Kd.R_drew)); exact HO_7.out⟩, ⟨by repeat (first | (with_reducible first | exact HB.out | apply below_alloc | apply pw_below_drewN | apply below_drew1) | exact HB.out)⟩⟩
     ·rw [if_neg c6] at H
      exact absurd H zb35
    case rest =>
     clear HC5
     try clear c2
     try clear p2
     try clear c4
     try clear c4b0
     try clear p4
     try clear q4
     try clear hx4
     try clear c6
     try clear c6b0
     try clear c7
     try clear c7b0
     try clear hx467_0
     try clear p2
     try clear p467
     try clear q467
     obtain ⟨kq, x25_4, rfl, HA, HJ4, HO_7, HB⟩ := hcut
     cases kq with
     | zero => exact absurd HA.out (by simp [broadsheetlaw04_set.j1])
     | succ kj4 =>
      have H := HA.out
      clear HA
      simp only [broadsheetlaw04_set.j1] at H
      by_cases c8 : x25_4 = true
      ·subst c8
       replace H : ((some (([a1, a2] : List ByteArray) : List ByteArray)).bind fun y468 => (if x7_1.length + y468.length < 8796093022208 then ((some (x7_1 ++ y468 : List ByteArray)).bind fun y471 => (if 0 ≤ x9_1 then (if x9_1 < (l0.length : Int) then (if (rdOf ByteArray.empty l0 x9_1).toList = a1.toList then (broadsheetlaw04_set.l0 kj4 l0 a1 a2 y471 true (wrap64 (x9_1 + 2))) else (if 0 ≤ (wrap64 (x9_1 + 1)) then (if (wrap64 (x9_1 + 1)) < (l0.length : Int) then ((some (([rdOf ByteArray.empty l0 x9_1, rdOf ByteArray.empty l0 (wrap64 (x9_1 + 1))] : List ByteArray) : List ByteArray)).bind fun y477 => (if y471.length + y477.length < 8796093022208 then (broadsheetlaw04_set.l0 kj4 l0 a1 a2 (y471 ++ y477) true (wrap64 (x9_1 + 2))) else (none))) else (none)) else (none))) else (none)) else (none))) else (none))) = some r := by rw [if_pos rfl] at H; exact H
       obtain ⟨y468, hy468⟩ : ∃ y_ : List ByteArray, y_ = (([a1, a2] : List ByteArray)) := ⟨_, rfl⟩
       replace H : (if x7_1.length + y468.length < 8796093022208 then ((some (x7_1 ++ y468 : List ByteArray)).bind fun y471 => (if 0 ≤ x9_1 then (if x9_1 < (l0.length : Int) then (if (rdOf ByteArray.empty l0 x9_1).toList = a1.toList then (broadsheetlaw04_set.l0 kj4 l0 a1 a2 y471 true (wrap64 (x9_1 + 2))) else (if 0 ≤ (wrap64 (x9_1 + 1)) then (if (wrap64 (x9_1 + 1)) < (l0.length : Int) then ((some (([rdOf ByteArray.empty l0 x9_1, rdOf ByteArray.empty l0 (wrap64 (x9_1 + 1))] : List ByteArray) : List ByteArray)).bind fun y477 => (if y471.length + y477.length < 8796093022208 then (broadsheetlaw04_set.l0 kj4 l0 a1 a2 (y471 ++ y477) true (wrap64 (x9_1 + 2))) else (none))) else (none)) else (none))) else (none)) else (none))) else (none)) = some r := by first | (rw [hy468]; with_reducible exact H) | (have H2_ := (Option.bind_some _ _).symm.trans H; rw [hy468]; with_reducible exact H2_) | (have H2_ := (Option.bind_some _ _).symm.trans H; with_reducible exact H2_) | with_reducible exact H | (rw [hy468]; exact H) | exact H
       have Ny468 := Aside0.mk hy468
       clear hy468
       by_cases c9 : x7_1.length + y468.length < 8796093022208
       ·rw [if_pos c9] at H
        have LMc9 := Aside0.mk c9
        clear c9
        obtain ⟨y471, hy471⟩ : ∃ y_ : List ByteArray, y_ = (x7_1 ++ y468) := ⟨_, rfl⟩
        replace H : (if 0 ≤ x9_1 then (if x9_1 < (l0.length : Int) then (if (rdOf ByteArray.empty l0 x9_1).toList = a1.toList then (broadsheetlaw04_set.l0 kj4 l0 a1 a2 y471 true (wrap64 (x9_1 + 2))) else (if 0 ≤ (wrap64 (x9_1 + 1)) then (if (wrap64 (x9_1 + 1)) < (l0.length : Int) then ((some (([rdOf ByteArray.empty l0 x9_1, rdOf ByteArray.empty l0 (wrap64 (x9_1 + 1))] : List ByteArray) : List ByteArray)).bind fun y477 => (if y471.length + y477.length < 8796093022208 then (broadsheetlaw04_set.l0 kj4 l0 a1 a2 (y471 ++ y477) true (wrap64 (x9_1 + 2))) else (none))) else (none)) else (none))) else (none)) else (none)) = some r := by first | (rw [hy471]; with_reducible exact H) | (have H2_ := (Option.bind_some _ _).symm.trans H; rw [hy471]; with_reducible exact H2_) | (have H2_ := (Option.bind_some _ _).symm.trans H; with_reducible exact H2_) | with_reducible exact H | (rw [hy471]; exact H) | exact H
        have Ny471 := Aside0.mk hy471
        clear hy471
        by_cases c10 : 0 ≤ x9_1
        ·rw [if_pos c10] at H
         have c10b0 : decide (0 ≤ x9_1) = true := decide_eq_true c10
         clear c10
         by_cases c11 : x9_1 < (l0.length : Int)
         ·rw [if_pos c11] at H
          have c11b0 : decide (x9_1 < (l0.length : Int)) = true := decide_eq_true c11
          clear c11
          by_cases c12 : (rdOf ByteArray.empty l0 x9_1).toList = a1.toList
          ·rw [if_pos c12] at H
           have c12b0 : ((rdOf ByteArray.empty l0 x9_1).toList == a1.toList) = true := beq_iff_eq.mpr c12
           have c12b1 : ((rdOf ByteArray.empty l0 x9_1).toList != a1.toList) = false := bne_eq_false_iff_eq.mpr c12
           clear c12
           have H' := Aside0.mk H
           clear H
           go_wp2_with (first | ((with_reducible refine gate_dst (N := 29) rfl ?_); refine Kd.R_lit Kd.string _ 9 ?hg (N := 29) ?hd (xs := ([a1, a2] : List ByteArray)) (inner := [.string a1, .string a2]) (ok := fun _ => True) (okp := fun _ => True) ?hr ?hp (fun _ hk => hk) trivial (Below.refl _ _) (Nat.le_refl _) zb35 ?_; (case hd => rfl); (case hg => rfl); (case hr => first | (go_simp; done) | (go_simp; rfl)); (case hp => exact (Reps.one (show Kd.M Kd.string _ _ _ a1 [.string a1] from rfl) (Reps.one (show Kd.M Kd.string _ _ _ a2 [.string a2] from rfl) (Reps.none _ _)))); intro v469 w13 ho14 hb hg_ hnew_; clear hg_ hnew_; (first | rw [← Ny468.out] at ho14 | (simp only [Int.reduceToNat] at ho14; rw [← Ny468.out] at ho14)); have n0_ := Aside0.mk (Kd.R_elder' zb29 (Kd.R_base ho14) hb); have n1_ := Aside0.mk (Kd.R_lower (Kd.R_new' ho14 (Kd.R_lt zb29)) (below_size zb1)); have n2_ := Aside0.mk (below_step zb1 hb); clear HO_7; clear HB; have HO_7 := n0_; have HO470 := n1_; have HB := n2_; clear n0_ n1_ n2_; clear hb ho14; obtain ⟨Ao16, co16, eo16⟩ := Kd.R_slice HO470.out; subst eo16) | ((with_reducible refine gate_builtin (b := .append) (xs := #[.tmp 26, .tmp 29]) rfl ?_); at_builtin; refine Kd.R_append_rows Kd.string (w0 := w) w.heap.size rfl (.tmp 26) (.tmp 29) 41 9 (.string ⟨#[]⟩) 16 rfl Tryz.underlying41 info9 rfl zb25 zb13 u7 x7_1 y468 _ _ _ (fun k_ => some k_ ≠ (.slice Ao16 y468.length co16 : Value).ownBlock) (fun _ => False) rfl rfl ?aO ?aR (fun _ _ h => h) (fun _ h => h.elim) ?aF ?aB ?aS ?aL ?_; (case aR => repeat (first | exact (Kd.R_reads' HO470.out).2.2 | (with_reducible refine Kd.C_alloc ?_ _) | (with_reducible refine Kd.C_drewN ?_ _) | (with_reducible refine Kd.C_drew ?_))); (case aB => exact zb1); (case aF => exact (fun k_ hk => Kd.fresh' (Kd.R_lt zb31) k_ hk)); (case aO => exact zb38); (case aS => exact (below_size zb1)); (case aL => have := LMc9.out; omega); intro v472 w15 ho hb hg hat; rw [← Ny471.out] at ho; have n0_ := Aside0.mk (Kd.R_after (ok := (fun _ => True)) zb31 hg hat); have n1_ := Aside0.mk (hb); have n2_ := Aside0.mk (ho); clear HO470; clear HB; clear HO_7; have HO470 := n0_; have HB := n1_; have HO473 := n2_; clear n0_ n1_ n2_; clear ho hb hg hat; have p474 : 0 ≤ (x9_1 : Int) := of_decide_eq_true zb5; have q474 : x9_1 < (l0.length : Int) := of_decide_eq_true zb5; obtain ⟨ad474, e474, hx474_0⟩ := Kd.at_string HR0.out x9_1 p474 q474; cases e474; replace hx474_0 := (HB.out.cell (World.block_lt_of_cell? w _ hx474_0)).trans hx474_0; replace p474 := eq_true p474; replace q474 := eq_true q474))
           go_roundg kj4
           case measure => have := HK1.out; have := HJ4.out; omega
           case rel => exact ⟨(y471), (true), (wrap64 (x9_1 + 2)), zb14, zb14, H', ⟨by have := HK1.out; have := HJ4.out; omega⟩, ⟨by (with_reducible repeat (first | apply Kd.R_alloc | apply Kd.R_drewN | apply Kd.R_drew)); exact Kd.R_mono HO473.out (fun _ hk => trivial)⟩, ⟨by repeat (first | (with_reducible first | exact HB.out | apply below_alloc | apply pw_below_drewN | apply below_drew1) | exact HB.out)⟩⟩
          ·rw [if_neg c12] at H
           have c12b0 : ((rdOf ByteArray.empty l0 x9_1).toList == a1.toList) = false := beq_eq_false_iff_ne.mpr c12
           have c12b1 : ((rdOf ByteArray.empty l0 x9_1).toList != a1.toList) = true := bne_iff_ne.mpr c12
           obtain ⟨ji17, hji17⟩ : ∃ j_ : Int, (wrap64 (x9_1 + 1)) = j_ := ⟨_, rfl⟩
           replace H : (if 0 ≤ (ji17) then (if (ji17) < (l0.length : Int) then ((some (([rdOf ByteArray.empty l0 x9_1, rdOf ByteArray.empty l0 (ji17)] : List ByteArray) : List ByteArray)).bind fun y477 => (if y471.length + y477.length < 8796093022208 then (broadsheetlaw04_set.l0 kj4 l0 a1 a2 (y471 ++ y477) true (wrap64 (x9_1 + 2))) else (none))) else (none)) else (none)) = some r := by first | (rw [hji17] at H; exact H) | (simp only [hji17] at H ⊢; exact H)
           have hji17w : (IntKind.i64.wrap (x9_1 + 1)) = ji17 := (i64_w _).trans hji17
           by_cases c18 : 0 ≤ (ji17)
           ·rw [if_pos c18] at H
            have c18b0 : decide (0 ≤ (ji17)) = true := decide_eq_true c18
            clear c18
            by_cases c19 : (ji17) < (l0.length : Int)
            ·rw [if_pos c19] at H
             have c19b0 : decide ((ji17) < (l0.length : Int)) = true := decide_eq_true c19
             clear c19
             obtain ⟨y477, hy477⟩ : ∃ y_ : List ByteArray, y_ = (([rdOf ByteArray.empty l0 x9_1, rdOf ByteArray.empty l0 (ji17)] : List ByteArray)) := ⟨_, rfl⟩
             replace H : (if y471.length + y477.length < 8796093022208 then (broadsheetlaw04_set.l0 kj4 l0 a1 a2 (y471 ++ y477) true (wrap64 (x9_1 + 2))) else (none)) = some r := by first | (rw [hy477]; with_reducible exact H) | (have H2_ := (Option.bind_some _ _).symm.trans H; rw [hy477]; with_reducible exact H2_) | (have H2_ := (Option.bind_some _ _).symm.trans H; with_reducible exact H2_) | with_reducible exact H | (rw [hy477]; exact H) | exact H
             have Ny477 := Aside0.mk hy477
             clear hy477
             by_cases c20 : y471.length + y477.length < 8796093022208
             ·rw [if_pos c20] at H
              have LMc20 := Aside0.mk c20
              clear c20
              obtain ⟨y480, hy480⟩ : ∃ y_ : List ByteArray, y_ = (y471 ++ y477) := ⟨_, rfl⟩
              replace H : (broadsheetlaw04_set.l0 kj4 l0 a1 a2 y480 true (wrap64 (x9_1 + 2))) = some r := by first | (rw [hy480]; with_reducible exact H) | (have H2_ := (Option.bind_some _ _).symm.trans H; rw [hy480]; with_reducible exact H2_) | (have H2_ := (Option.bind_some _ _).symm.trans H; with_reducible exact H2_) | with_reducible exact H | (rw [hy480]; exact H) | exact H
              have Ny480 := Aside0.mk hy480
              clear hy480
              have H' := Aside0.mk H
              clear H
              try go_wp2_with (first | ((with_reducible refine gate_dst (N := 29) rfl ?_); refine Kd.R_lit Kd.string _ 9 ?hg (N := 29) ?hd (xs := ([a1, a2] : List ByteArray)) (inner := [.string a1, .string a2]) (ok := fun _ => True) (okp := fun _ => True) ?hr ?hp (fun _ hk => hk) trivial (Below.refl _ _) (Nat.le_refl _) zb35 ?_; (case hd => rfl); (case hg => rfl); (case hr => first | (go_simp; done) | (go_simp; rfl)); (case hp => exact (Reps.one (show Kd.M Kd.string _ _ _ a1 [.string a1] from rfl) (Reps.one (show Kd.M Kd.string _ _ _ a2 [.string a2] from rfl) (Reps.none _ _)))); intro v469 w21 ho22 hb hg_ hnew_; clear hg_ hnew_; (first | rw [← Ny468.out] at ho22 | (simp only [Int.reduceToNat] at ho22; rw [← Ny468.out] at ho22)); have n0_ := Aside0.mk (Kd.R_elder' zb29 (Kd.R_base ho22) hb); have n1_ := Aside0.mk (Kd.R_lower (Kd.R_new' ho22 (Kd.R_lt zb29)) (below_size zb1)); have n2_ := Aside0.mk (below_step zb1 hb); clear HO_7; clear HB; have HO_7 := n0_; have HO470 := n1_; have HB := n2_; clear n0_ n1_ n2_; clear hb ho22; obtain ⟨Ao24, co24, eo24⟩ := Kd.R_slice HO470.out; subst eo24) | ((with_reducible refine gate_builtin (b := .append) (xs := #[.tmp 26, .tmp 29]) rfl ?_); at_builtin; refine Kd.R_append_rows Kd.string (w0 := w) w.heap.size rfl (.tmp 26) (.tmp 29) 41 9 (.string ⟨#[]⟩) 16 rfl Tryz.underlying41 info9 rfl zb25 zb13 u7 x7_1 y468 _ _ _ (fun k_ => some k_ ≠ (.slice Ao24 y468.length co24 : Value).ownBlock) (fun _ => False) rfl rfl ?aO ?aR (fun _ _ h => h) (fun _ h => h.elim) ?aF ?aB ?aS ?aL ?_; (case aR => repeat (first | exact (Kd.R_reads' HO470.out).2.2 | (with_reducible refine Kd.C_alloc ?_ _) | (with_reducible refine Kd.C_drewN ?_ _) | (with_reducible refine Kd.C_drew ?_))); (case aB => exact zb1); (case aF => exact (fun k_ hk => Kd.fresh' (Kd.R_lt zb31) k_ hk)); (case aO => exact zb38); (case aS => exact (below_size zb1)); (case aL => have := LMc9.out; omega); intro v472 w23 ho hb hg hat; rw [← Ny471.out] at ho; have n0_ := Aside0.mk (Kd.R_after (ok := (fun _ => True)) zb31 hg hat); have n1_ := Aside0.mk (hb); have n2_ := Aside0.mk (ho); clear HO470; clear HB; clear HO_7; have HO470 := n0_; have HB := n1_; have HO473 := n2_; clear n0_ n1_ n2_; clear ho hb hg hat; have p474 : 0 ≤ (x9_1 : Int) := of_decide_eq_true zb5; have q474 : x9_1 < (l0.length : Int) := of_decide_eq_true zb5; obtain ⟨ad474, e474, hx474_0⟩ := Kd.at_string HR0.out x9_1 p474 q474; cases e474; replace hx474_0 := (HB.out.cell (World.block_lt_of_cell? w _ hx474_0)).trans hx474_0; replace p474 := eq_true p474; replace q474 := eq_true q474))
              have n0_ := Aside0.mk (Kd.R_drew HO470.out)
              have n1_ := Aside0.mk (Kd.R_drew HO473.out)
              have n2_ := Aside0.mk (below_drew1 HB.out)
              clear HO470
              clear HO473
              clear HB
              have HO470 := n0_
              have HO473 := n1_
              have HB := n2_
              clear n0_ n1_ n2_
              have p475 : 0 ≤ (x9_1 : Int) := of_decide_eq_true zb5
              have q475 : x9_1 < (l0.length : Int) := of_decide_eq_true zb5
              obtain ⟨ad475, e475, hx475_0⟩ := Kd.at_string HR0.out x9_1 p475 q475
              have hw475_0 := hx475_0
              obtain rfl : ad474 = ad475 := (by injection e475)
              replace hx475_0 := (HB.out.cell (World.block_lt_of_cell? w _ hx475_0)).trans hx475_0
              replace p475 := eq_true p475
              replace q475 := eq_true q475
              have p476 : 0 ≤ ((ji17) : Int) := of_decide_eq_true zb5
              have q476 : (ji17) < (l0.length : Int) := of_decide_eq_true zb5
              obtain ⟨ad476, e476, hx476_0⟩ := Kd.at_string HR0.out (ji17) p476 q476
              have hw476_0 := hx476_0
              obtain rfl : ad474 = ad476 := (by injection e476)
              replace hx476_0 := (HB.out.cell (World.block_lt_of_cell? w _ hx476_0)).trans hx476_0
              replace p476 := eq_true p476
              replace q476 := eq_true q476
              refine start_ (n := 13) (S := fun w' => w'.cell? (ad474.add (x9_1).toNat) = some (.string (rdOf ByteArray.empty l0 x9_1)) ∧ w'.cell? (ad474.add ((ji17)).toNat) = some (.string (rdOf ByteArray.empty l0 (ji17)))) (ds := []) #[false, false, false, false, false, false, false, false, false, false, false, false, false] zb10 rfl rfl ⟨((HB.out.cell (World.block_lt_of_cell? w _ hw475_0)).trans hw475_0), ((HB.out.cell (World.block_lt_of_cell? w _ hw476_0)).trans hw476_0)⟩ (fun hHeld => ?_); refine with_tabW broadsheetlaw04_set.tab10 broadsheetlaw04_set.bits10 (fun HT_ HW_ => ?_)
              generalize w23.drew = w25 at HO470 HO473 HB hx475_0 hx476_0 hHeld ⊢
              refine pus_ 0 (some 37) rfl rfl (any_of HT_.out zb10) (fun w' => by (go_simp; first | with_reducible rfl | (rw [if_neg zb0]))) ?_
              refine pus_ 1 (some 38) rfl rfl (any_of HT_.out zb10) (fun w' => by (go_simp; first | with_reducible rfl | (rw [if_neg zb0]))) ?_
              refine pus_ 2 (some 39) rfl rfl (any_of HT_.out zb10) (fun w' => by (go_simp; first | with_reducible rfl | (rw [if_neg zb0]))) ?_
              refine pus_ 3 (some 40) rfl rfl (any_of HT_.out zb10) (fun w' => by (go_simp; first | with_reducible rfl | (rw [if_neg zb0]))) ?_
              refine pus_ 5 (some 42) rfl rfl (any_of HT_.out zb10) (fun w' => by (go_simp; first | with_reducible rfl | (rw [if_neg zb0]))) ?_
              refine pus_ 6 (some 43) rfl rfl (any_of HT_.out zb10) (fun w' => by (go_simp; first | with_reducible rfl | (rw [if_neg zb0]))) ?_
              refine pus_ 7 (some 44) rfl rfl (any_of HT_.out zb10) (fun w' => by (go_simp; first | with_reducible rfl | (rw [if_neg zb0]))) ?_
              refine pus_ 8 (some 45) rfl rfl (any_of HT_.out zb10) (fun w' => by (go_simp; first | with_reducible rfl | (rw [if_neg zb0]))) ?_
              refine tas_ 4 (some 41) rfl rfl (take_ofW HT_.out HW_.out zb10) hHeld (fun w' ⟨s0, s1⟩ => by (go_simp; first | with_reducible rfl | (rw [if_neg zb0]))) ?_
              refine tas_ 9 (some 46) rfl rfl (take_ofW HT_.out HW_.out zb10) hHeld (fun w' ⟨s0, s1⟩ => by (go_simp; first | with_reducible rfl | (rw [if_neg zb0]))) ?_
              refine ons_ 10 (some 47) rfl rfl (one_of HT_.out zb10) zb25 (fun K hK => ?_)
              refine Kd.R_lit_step Kd.string _ 9 ?hg (N := 47) ?hd (xs := ([rdOf ByteArray.empty l0 x9_1, rdOf ByteArray.empty l0 (ji17)] : List ByteArray)) (inner := [.string (rdOf ByteArray.empty l0 x9_1), .string (rdOf ByteArray.empty l0 (ji17))]) (ok := fun _ => True) (okp := fun _ => True) ?hr ?hp (fun _ hk => hk) trivial (Below.refl _ _) (Nat.le_refl _) zb35 ?_; (case hd => rfl); (case hg => rfl); (case hr => first | (go_simp; done) | (go_simp; rfl)); (case hp => exact (Reps.one (show Kd.M Kd.string _ _ _ (rdOf ByteArray.empty l0 x9_1) [.string (rdOf ByteArray.empty l0 x9_1)] from rfl) (Reps.one (show Kd.M Kd.string _ _ _ (rdOf ByteArray.empty l0 (ji17)) [.string (rdOf ByteArray.empty l0 (ji17))] from rfl) (Reps.none _ _))))
              intro v478 w26 ho27 hb hg_ hnew_
              clear hg_ hnew_
              (first | rw [← Ny477.out] at ho27 | (simp only [Int.reduceToNat] at ho27; rw [← Ny477.out] at ho27))
              have n0_ := Aside0.mk (Kd.R_elder' zb31 (Kd.R_base ho27) hb)
              have n1_ := Aside0.mk (Kd.R_elder' (by (with_reducible repeat (first | apply Kd.R_alloc | apply Kd.R_drewN | apply Kd.R_drew)); exact HO473.out) (Kd.R_base ho27) hb)
              have n2_ := Aside0.mk (Kd.R_lower (Kd.R_new' (Kd.R_new' ho27 (Kd.R_lt zb31)) (Kd.R_lt (by (with_reducible repeat (first | apply Kd.R_alloc | apply Kd.R_drewN | apply Kd.R_drew)); exact HO473.out))) (below_size zb1))
              have n3_ := Aside0.mk (below_step zb1 hb)
              clear HO470
              clear HO473
              clear HB
              have HO470 := n0_
              have HO473 := n1_
              have HO479 := n2_
              have HB := n3_
              clear n0_ n1_ n2_ n3_
              clear hb ho27
              obtain ⟨Ao29, co29, eo29⟩ := Kd.R_slice HO479.out
              (first | subst eo29 | (injection eo29 with f1_ f2_ f3_; have f4_ := f1_.symm; have f5_ := f3_.symm; clear f1_ f2_ f3_; subst f4_; subst f5_))
              refine hK.out _ _ ⟨((HB.out.cell (World.block_lt_of_cell? w _ hw475_0)).trans hw475_0), ((HB.out.cell (World.block_lt_of_cell? w _ hw476_0)).trans hw476_0)⟩ (fun hHeld => ?_)
              clear hK K
              refine norm_ (a' := ?_) ?_ ?_
              rotate_left
              ·show Act.put _ (some 47) _ = _
               simp only [Act.put, List.setIfInBounds_toArray, List.set_cons_zero, List.set_cons_succ, i64_w, i32_w]
               rfl
              refine ons_ 11 (some 48) rfl rfl (one_of HT_.out zb10) zb25 (fun K hK => ?_)
              refine Kd.R_append_rows_step Kd.string (w0 := w) w.heap.size (by rfl) (.tmp 37) (.tmp 47) 41 9 (.string ⟨#[]⟩) 16 rfl Tryz.underlying41 info9 rfl zb25 zb13 v472 y471 y477 _ _ _ (fun k_ => some k_ ≠ (.slice Ao24 y468.length co24 : Value).ownBlock ∧ some k_ ≠ (.slice Ao29 y477.length co29 : Value).ownBlock) (fun _ => False) rfl rfl ?aO ?aR (fun _ _ h => h) (fun _ h => h.elim) ?aF ?aB ?aS ?aL ?_
              (case aR => repeat (first | exact (Kd.R_reads' HO479.out).2.2 | (with_reducible refine Kd.C_alloc ?_ _) | (with_reducible refine Kd.C_drewN ?_ _) | (with_reducible refine Kd.C_drew ?_)))
              (case aB => exact zb1)
              (case aF => exact (fun k_ hk => ⟨Kd.fresh' (Kd.R_lt zb31) k_ hk, Kd.fresh' (Kd.R_lt (by (with_reducible repeat (first | apply Kd.R_alloc | apply Kd.R_drewN | apply Kd.R_drew)); exact HO479.out)) k_ hk⟩))
              (case aO => exact (by (with_reducible repeat (first | apply Kd.R_alloc | apply Kd.R_drewN | apply Kd.R_drew)); exact HO473.out))
              (case aS => exact (below_size zb1))
              (case aL => have := LMc20.out; omega)
              intro v481 w28 ho hb hg hat
              rw [← Ny480.out] at ho
              have n0_ := Aside0.mk (Kd.R_after (ok := (fun k_ => some k_ ≠ (.slice Ao29 y477.length co29 : Value).ownBlock)) (by (with_reducible repeat (first | apply Kd.R_alloc | apply Kd.R_drewN | apply Kd.R_drew)); exact Kd.R_mono HO470.out (fun _ hk => ⟨hk.2, hk.1.2⟩)) hg hat)
              have n1_ := Aside0.mk (Kd.R_after (ok := (fun k_ => some k_ ≠ (.slice Ao24 y468.length co24 : Value).ownBlock)) (by (with_reducible repeat (first | apply Kd.R_alloc | apply Kd.R_drewN | apply Kd.R_drew)); exact Kd.R_mono HO479.out (fun _ hk => ⟨hk.1.2, hk.2⟩)) hg hat)
              have n2_ := Aside0.mk (hb)
              have n3_ := Aside0.mk (ho)
              clear HO470
              clear HO479
              clear HB
              clear HO473
              have HO470 := n0_
              have HO479 := n1_
              have HB := n2_
              have HO482 := n3_
              clear n0_ n1_ n2_ n3_
              clear ho hb hg hat
              refine hK.out _ _ ⟨((HB.out.cell (World.block_lt_of_cell? w _ hw475_0)).trans hw475_0), ((HB.out.cell (World.block_lt_of_cell? w _ hw476_0)).trans hw476_0)⟩ (fun hHeld => ?_)
              clear hK K
              refine norm_ (a' := ?_) ?_ ?_
              rotate_left
              ·show Act.put _ (some 48) _ = _
               simp only [Act.put, List.setIfInBounds_toArray, List.set_cons_zero, List.set_cons_succ, i64_w, i32_w]
               rfl
              refine pus_ 12 (some 7) rfl rfl (any_of HT_.out zb10) (fun w' => by (go_simp; first | with_reducible rfl | (rw [if_neg zb0]))) ?_
              refine done_ (done_of HT_.out zb10) ?_
              try go_wp2
              go_roundg kj4
              case measure => have := HK1.out; have := HJ4.out; omega
              case rel => exact ⟨(y480), (true), (wrap64 (x9_1 + 2)), zb14, zb14, H', ⟨by have := HK1.out; have := HJ4.out; omega⟩, ⟨by (with_reducible repeat (first | apply Kd.R_alloc | apply Kd.R_drewN | apply Kd.R_drew)); exact Kd.R_mono HO482.out (fun _ hk => trivial)⟩, ⟨by repeat (first | (with_reducible first | exact HB.out | apply below_alloc | apply pw_below_drewN | apply below_drew1) | exact HB.out)⟩⟩
             ·rw [if_neg c20] at H
              exact absurd H zb35
            ·rw [if_neg c19] at H
             exact absurd H zb35
           ·rw [if_neg c18] at H
            exact absurd H zb35
         ·rw [if_neg c11] at H
          exact absurd H zb35
        ·rw [if_neg c10] at H
         exact absurd H zb35
       ·rw [if_neg c9] at H
        exact absurd H zb35
      ·replace c8 := Bool.eq_false_iff.mpr c8
       subst c8
       replace H : (if 0 ≤ x9_1 then (if x9_1 < (l0.length : Int) then (if (rdOf ByteArray.empty l0 x9_1).toList = a1.toList then (broadsheetlaw04_set.l0 kj4 l0 a1 a2 x7_1 x8_1 (wrap64 (x9_1 + 2))) else (if 0 ≤ (wrap64 (x9_1 + 1)) then (if (wrap64 (x9_1 + 1)) < (l0.length : Int) then ((some (([rdOf ByteArray.empty l0 x9_1, rdOf ByteArray.empty l0 (wrap64 (x9_1 + 1))] : List ByteArray) : List ByteArray)).bind fun y486 => (if x7_1.length + y486.length < 8796093022208 then (broadsheetlaw04_set.l0 kj4 l0 a1 a2 (x7_1 ++ y486) x8_1 (wrap64 (x9_1 + 2))) else (none))) else (none)) else (none))) else (none)) else (none)) = some r := by rw [if_neg (show ¬ (false = true) by decide)] at H; exact H
       by_cases c30 : 0 ≤ x9_1
       ·rw [if_pos c30] at H
        have c30b0 : decide (0 ≤ x9_1) = true := decide_eq_true c30
        clear c30
        by_cases c31 : x9_1 < (l0.length : Int)
        ·rw [if_pos c31] at H
         have c31b0 : decide (x9_1 < (l0.length : Int)) = true := decide_eq_true c31
         clear c31
         by_cases c32 : (rdOf ByteArray.empty l0 x9_1).toList = a1.toList
         ·rw [if_pos c32] at H
          have c32b0 : ((rdOf ByteArray.empty l0 x9_1).toList == a1.toList) = true := beq_iff_eq.mpr c32
          have c32b1 : ((rdOf ByteArray.empty l0 x9_1).toList != a1.toList) = false := bne_eq_false_iff_eq.mpr c32
          clear c32
          have H' := Aside0.mk H
          clear H
          have p483 : 0 ≤ (x9_1 : Int) := of_decide_eq_true zb5
          have q483 : x9_1 < (l0.length : Int) := of_decide_eq_true zb5
          obtain ⟨ad483, e483, hx483_0⟩ := Kd.at_string HR0.out x9_1 p483 q483
          cases e483
          replace hx483_0 := (HB.out.cell (World.block_lt_of_cell? w _ hx483_0)).trans hx483_0
          replace p483 := eq_true p483
          replace q483 := eq_true q483
          go_wp2
          go_roundg kj4
          case measure => have := HK1.out; have := HJ4.out; omega
          case rel => exact ⟨(x7_1), (x8_1), (wrap64 (x9_1 + 2)), zb14, zb14, H', ⟨by have := HK1.out; have := HJ4.out; omega⟩, ⟨by (with_reducible repeat (first | apply Kd.R_alloc | apply Kd.R_drewN | apply Kd.R_drew)); exact HO_7.out⟩, ⟨by repeat (first | (with_reducible first | exact HB.out | apply below_alloc | apply pw_below_drewN | apply below_drew1) | exact HB.out)⟩⟩
         ·rw [if_neg c32] at H
          have c32b0 : ((rdOf ByteArray.empty l0 x9_1).toList == a1.toList) = false := beq_eq_false_iff_ne.mpr c32
          have c32b1 : ((rdOf ByteArray.empty l0 x9_1).toList != a1.toList) = true := bne_iff_ne.mpr c32
          obtain ⟨ji33, hji33⟩ : ∃ j_ : Int, (wrap64 (x9_1 + 1)) = j_ := ⟨_, rfl⟩
          replace H : (if 0 ≤ (ji33) then (if (ji33) < (l0.length : Int) then ((some (([rdOf ByteArray.empty l0 x9_1, rdOf ByteArray.empty l0 (ji33)] : List ByteArray) : List ByteArray)).bind fun y486 => (if x7_1.length + y486.length < 8796093022208 then (broadsheetlaw04_set.l0 kj4 l0 a1 a2 (x7_1 ++ y486) x8_1 (wrap64 (x9_1 + 2))) else (none))) else (none)) else (none)) = some r := by first | (rw [hji33] at H; exact H) | (simp only [hji33] at H ⊢; exact H)
          have hji33w : (IntKind.i64.wrap (x9_1 + 1)) = ji33 := (i64_w _).trans hji33
          by_cases c34 : 0 ≤ (ji33)
          ·rw [if_pos c34] at H
           have c34b0 : decide (0 ≤ (ji33)) = true := decide_eq_true c34
           clear c34
           by_cases c35 : (ji33) < (l0.length : Int)
           ·rw [if_pos c35] at H
            have c35b0 : decide ((ji33) < (l0.length : Int)) = true := decide_eq_true c35
            clear c35
            obtain ⟨y486, hy486⟩ : ∃ y_ : List ByteArray, y_ = (([rdOf ByteArray.empty l0 x9_1, rdOf ByteArray.empty l0 (ji33)] : List ByteArray)) := ⟨_, rfl⟩
            replace H : (if x7_1.length + y486.length < 8796093022208 then (broadsheetlaw04_set.l0 kj4 l0 a1 a2 (x7_1 ++ y486) x8_1 (wrap64 (x9_1 + 2))) else (none)) = some r := by first | (rw [hy486]; with_reducible exact H) | (have H2_ := (Option.bind_some _ _).symm.trans H; rw [hy486]; with_reducible exact H2_) | (have H2_ := (Option.bind_some _ _).symm.trans H; with_reducible exact H2_) | with_reducible exact H | (rw [hy486]; exact H) | exact H
            have Ny486 := Aside0.mk hy486
            clear hy486
            by_cases c36 : x7_1.length + y486.length < 8796093022208
            ·rw [if_pos c36] at H
             have LMc36 := Aside0.mk c36
             clear c36
             obtain ⟨y489, hy489⟩ : ∃ y_ : List ByteArray, y_ = (x7_1 ++ y486) := ⟨_, rfl⟩
             replace H : (broadsheetlaw04_set.l0 kj4 l0 a1 a2 y489 x8_1 (wrap64 (x9_1 + 2))) = some r := by first | (rw [hy489]; with_reducible exact H) | (have H2_ := (Option.bind_some _ _).symm.trans H; rw [hy489]; with_reducible exact H2_) | (have H2_ := (Option.bind_some _ _).symm.trans H; with_reducible exact H2_) | with_reducible exact H | (rw [hy489]; exact H) | exact H
             have Ny489 := Aside0.mk hy489
             clear hy489
             have H' := Aside0.mk H
             clear H
             have p483 : 0 ≤ (x9_1 : Int) := of_decide_eq_true zb5
             have q483 : x9_1 < (l0.length : Int) := of_decide_eq_true zb5
             obtain ⟨ad483, e483, hx483_0⟩ := Kd.at_string HR0.out x9_1 p483 q483
             cases e483
             replace hx483_0 := (HB.out.cell (World.block_lt_of_cell? w _ hx483_0)).trans hx483_0
             replace p483 := eq_true p483
             replace q483 := eq_true q483
             try go_wp2
             have n0_ := Aside0.mk (Kd.R_drew HO_7.out)
             have n1_ := Aside0.mk (below_drew1 HB.out)
             clear HO_7
             clear HB
             have HO_7 := n0_
             have HB := n1_
             clear n0_ n1_
             have p484 : 0 ≤ (x9_1 : Int) := of_decide_eq_true zb5
             have q484 : x9_1 < (l0.length : Int) := of_decide_eq_true zb5
             obtain ⟨ad484, e484, hx484_0⟩ := Kd.at_string HR0.out x9_1 p484 q484
             have hw484_0 := hx484_0
             obtain rfl : ad483 = ad484 := (by injection e484)
             replace hx484_0 := (HB.out.cell (World.block_lt_of_cell? w _ hx484_0)).trans hx484_0
             replace p484 := eq_true p484
             replace q484 := eq_true q484
             have p485 : 0 ≤ ((ji33) : Int) := of_decide_eq_true zb5
             have q485 : (ji33) < (l0.length : Int) := of_decide_eq_true zb5
             obtain ⟨ad485, e485, hx485_0⟩ := Kd.at_string HR0.out (ji33) p485 q485
             have hw485_0 := hx485_0
             obtain rfl : ad483 = ad485 := (by injection e485)
             replace hx485_0 := (HB.out.cell (World.block_lt_of_cell? w _ hx485_0)).trans hx485_0
             replace p485 := eq_true p485
             replace q485 := eq_true q485
             refine start_ (n := 13) (S := fun w' => w'.cell? (ad483.add (x9_1).toNat) = some (.string (rdOf ByteArray.empty l0 x9_1)) ∧ w'.cell? (ad483.add ((ji33)).toNat) = some (.string (rdOf ByteArray.empty l0 (ji33)))) (ds := []) #[false, false, false, false, false, false, false, false, false, false, false, false, false] zb10 rfl rfl ⟨((HB.out.cell (World.block_lt_of_cell? w _ hw484_0)).trans hw484_0), ((HB.out.cell (World.block_lt_of_cell? w _ hw485_0)).trans hw485_0)⟩ (fun hHeld => ?_); refine with_tabW broadsheetlaw04_set.tab10 broadsheetlaw04_set.bits10 (fun HT_ HW_ => ?_)
             generalize wc.drew = w37 at HO_7 HB hx484_0 hx485_0 hHeld ⊢
             refine pus_ 0 (some 37) rfl rfl (any_of HT_.out zb10) (fun w' => by (go_simp; first | with_reducible rfl | (rw [if_neg zb0]))) ?_
             refine pus_ 1 (some 38) rfl rfl (any_of HT_.out zb10) (fun w' => by (go_simp; first | with_reducible rfl | (rw [if_neg zb0]))) ?_
             refine pus_ 2 (some 39) rfl rfl (any_of HT_.out zb10) (fun w' => by (go_simp; first | with_reducible rfl | (rw [if_neg zb0]))) ?_
             refine pus_ 3 (some 40) rfl rfl (any_of HT_.out zb10) (fun w' => by (go_simp; first | with_reducible rfl | (rw [if_neg zb0]))) ?_
             refine pus_ 5 (some 42) rfl rfl (any_of HT_.out zb10) (fun w' => by (go_simp; first | with_reducible rfl | (rw [if_neg zb0]))) ?_
             refine pus_ 6 (some 43) rfl rfl (any_of HT_.out zb10) (fun w' => by (go_simp; first | with_reducible rfl | (rw [if_neg zb0]))) ?_
             refine pus_ 7 (some 44) rfl rfl (any_of HT_.out zb10) (fun w' => by (go_simp; first | with_reducible rfl | (rw [if_neg zb0]))) ?_
             refine pus_ 8 (some 45) rfl rfl (any_of HT_.out zb10) (fun w' => by (go_simp; first | with_reducible rfl | (rw [if_neg zb0]))) ?_
             refine tas_ 4 (some 41) rfl rfl (take_ofW HT_.out HW_.out zb10) hHeld (fun w' ⟨s0, s1⟩ => by (go_simp; first | with_reducible rfl | (rw [if_neg zb0]))) ?_
             refine tas_ 9 (some 46) rfl rfl (take_ofW HT_.out HW_.out zb10) hHeld (fun w' ⟨s0, s1⟩ => by (go_simp; first | with_reducible rfl | (rw [if_neg zb0]))) ?_
             refine ons_ 10 (some 47) rfl rfl (one_of HT_.out zb10) zb25 (fun K hK => ?_)
             refine Kd.R_lit_step Kd.string _ 9 ?hg (N := 47) ?hd (xs := ([rdOf ByteArray.empty l0 x9_1, rdOf ByteArray.empty l0 (ji33)] : List ByteArray)) (inner := [.string (rdOf ByteArray.empty l0 x9_1), .string (rdOf ByteArray.empty l0 (ji33))]) (ok := fun _ => True) (okp := fun _ => True) ?hr ?hp (fun _ hk => hk) trivial (Below.refl _ _) (Nat.le_refl _) zb35 ?_; (case hd => rfl); (case hg => rfl); (case hr => first | (go_simp; done) | (go_simp; rfl)); (case hp => exact (Reps.one (show Kd.M Kd.string _ _ _ (rdOf ByteArray.empty l0 x9_1) [.string (rdOf ByteArray.empty l0 x9_1)] from rfl) (Reps.one (show Kd.M Kd.string _ _ _ (rdOf ByteArray.empty l0 (ji33)) [.string (rdOf ByteArray.empty l0 (ji33))] from rfl) (Reps.none _ _))))
             intro v487 w38 ho39 hb hg_ hnew_
             clear hg_ hnew_
             (first | rw [← Ny486.out] at ho39 | (simp only [Int.reduceToNat] at ho39; rw [← Ny486.out] at ho39))
             have n0_ := Aside0.mk (Kd.R_elder' zb29 (Kd.R_base ho39) hb)
             have n1_ := Aside0.mk (Kd.R_lower (Kd.R_new' ho39 (Kd.R_lt zb29)) (below_size zb1))
             have n2_ := Aside0.mk (below_step zb1 hb)
             clear HO_7
             clear HB
             have HO_7 := n0_
             have HO488 := n1_
             have HB := n2_
             clear n0_ n1_ n2_
             clear hb ho39
             obtain ⟨Ao41, co41, eo41⟩ := Kd.R_slice HO488.out
             (first | subst eo41 | (injection eo41 with f1_ f2_ f3_; have f4_ := f1_.symm; have f5_ := f3_.symm; clear f1_ f2_ f3_; subst f4_; subst f5_))
             refine hK.out _ _ ⟨((HB.out.cell (World.block_lt_of_cell? w _ hw484_0)).trans hw484_0), ((HB.out.cell (World.block_lt_of_cell? w _ hw485_0)).trans hw485_0)⟩ (fun hHeld => ?_)
             clear hK K
             refine norm_ (a' := ?_) ?_ ?_
             rotate_left
             ·show Act.put _ (some 47) _ = _
              simp only [Act.put, List.setIfInBounds_toArray, List.set_cons_zero, List.set_cons_succ, i64_w, i32_w]
              rfl
             refine ons_ 11 (some 48) rfl rfl (one_of HT_.out zb10) zb25 (fun K hK => ?_)
             refine Kd.R_append_rows_step Kd.string (w0 := w) w.heap.size (by rfl) (.tmp 37) (.tmp 47) 41 9 (.string ⟨#[]⟩) 16 rfl Tryz.underlying41 info9 rfl zb25 zb13 u7 x7_1 y486 _ _ _ (fun k_ => some k_ ≠ (.slice Ao41 y486.length co41 : Value).ownBlock) (fun _ => False) rfl rfl ?aO ?aR (fun _ _ h => h) (fun _ h => h.elim) ?aF ?aB ?aS ?aL ?_
             (case aR => repeat (first | exact (Kd.R_reads' HO488.out).2.2 | (with_reducible refine Kd.C_alloc ?_ _) | (with_reducible refine Kd.C_drewN ?_ _) | (with_reducible refine Kd.C_drew ?_)))
             (case aB => exact zb1)
             (case aF => exact (fun k_ hk => Kd.fresh' (Kd.R_lt (by (with_reducible repeat (first | apply Kd.R_alloc | apply Kd.R_drewN | apply Kd.R_drew)); exact HO488.out)) k_ hk))
             (case aO => exact zb38)
             (case aS => exact (below_size zb1))
             (case aL => have := LMc36.out; omega)
             intro v490 w40 ho hb hg hat
             rw [← Ny489.out] at ho
             have n0_ := Aside0.mk (Kd.R_after (ok := (fun _ => True)) (by (with_reducible repeat (first | apply Kd.R_alloc | apply Kd.R_drewN | apply Kd.R_drew)); exact HO488.out) hg hat)
             have n1_ := Aside0.mk (hb)
             have n2_ := Aside0.mk (ho)
             clear HO488
             clear HB
             clear HO_7
             have HO488 := n0_
             have HB := n1_
             have HO491 := n2_
             clear n0_ n1_ n2_
             clear ho hb hg hat
             refine hK.out _ _ ⟨((HB.out.cell (World.block_lt_of_cell? w _ hw484_0)).trans hw484_0), ((HB.out.cell (World.block_lt_of_cell? w _ hw485_0)).trans hw485_0)⟩ (fun hHeld => ?_)
             clear hK K
             refine norm_ (a' := ?_) ?_ ?_
             rotate_left
             ·show Act.put _ (some 48) _ = _
              simp only [Act.put, List.setIfInBounds_toArray, List.set_cons_zero, List.set_cons_succ, i64_w, i32_w]
              rfl
             refine pus_ 12 (some 7) rfl rfl (any_of HT_.out zb10) (fun w' => by (go_simp; first | with_reducible rfl | (rw [if_neg zb0]))) ?_
             refine done_ (done_of HT_.out zb10) ?_
             try go_wp2
             go_roundg kj4
             case measure => have := HK1.out; have := HJ4.out; omega
             case rel => exact ⟨(y489), (x8_1), (wrap64 (x9_1 + 2)), zb14, zb14, H', ⟨by have := HK1.out; have := HJ4.out; omega⟩, ⟨by (with_reducible repeat (first | apply Kd.R_alloc | apply Kd.R_drewN | apply Kd.R_drew)); exact Kd.R_mono HO491.out (fun _ hk => trivial)⟩, ⟨by repeat (first | (with_reducible first | exact HB.out | apply below_alloc | apply pw_below_drewN | apply below_drew1) | exact HB.out)⟩⟩
            ·rw [if_neg c36] at H
             exact absurd H zb35
           ·rw [if_neg c35] at H
            exact absurd H zb35
          ·rw [if_neg c34] at H
           exact absurd H zb35
        ·rw [if_neg c31] at H
         exact absurd H zb35
       ·rw [if_neg c30] at H
        exact absurd H zb35
   ·rw [if_neg c4] at H
    have c4b0 : decide (x9_1 < (l0.length : Int)) = false := decide_eq_false c4
    clear c4
    by_cases c42 : x8_1 = true
    ·subst c42
     replace H : (some x7_1) = some r := by rw [if_pos rfl] at H; exact H
     obtain rfl := Option.some.inj H
     go_wp2
     go_ret
     exact ⟨_, by first | rfl | (simp [errW_none, errW_some, bne_nil_] <;> rfl) | (simp [*, errW_none, errW_some] <;> rfl), by (with_reducible repeat (first | apply Kd.R_alloc | apply Kd.R_drewN | apply Kd.R_drew)); exact HO_7.out, zb1⟩
    ·replace c42 := Bool.eq_false_iff.mpr c42
     subst c42
     replace H : ((some (([a1, a2] : List ByteArray) : List ByteArray)).bind fun y461 => (if x7_1.length + y461.length < 8796093022208 then (some (x7_1 ++ y461)) else (none))) = some r := by rw [if_neg (show ¬ (false = true) by decide)] at H; exact H
     obtain ⟨y461, hy461⟩ : ∃ y_ : List ByteArray, y_ = (([a1, a2] : List ByteArray)) := ⟨_, rfl⟩
     replace H : (if x7_1.length + y461.length < 8796093022208 then (some (x7_1 ++ y461)) else (none)) = some r := by first | (rw [hy461]; with_reducible exact H) | (have H2_ := (Option.bind_some _ _).symm.trans H; rw [hy461]; with_reducible exact H2_) | (have H2_ := (Option.bind_some _ _).symm.trans H; with_reducible exact H2_) | with_reducible exact H | (rw [hy461]; exact H) | exact H
     have Ny461 := Aside0.mk hy461
     clear hy461
     by_cases c43 : x7_1.length + y461.length < 8796093022208
     ·rw [if_pos c43] at H
      have LMc43 := Aside0.mk c43
      clear c43
      obtain ⟨y464, hy464⟩ : ∃ y_ : List ByteArray, y_ = (x7_1 ++ y461) := ⟨_, rfl⟩
      replace H : (some y464) = some r := by first | (rw [hy464]; with_reducible exact H) | (have H2_ := (Option.bind_some _ _).symm.trans H; rw [hy464]; with_reducible exact H2_) | (have H2_ := (Option.bind_some _ _).symm.trans H; with_reducible exact H2_) | with_reducible exact H | (rw [hy464]; exact H) | exact H
      have Ny464 := Aside0.mk hy464
      clear hy464
      obtain rfl := Option.some.inj H
      go_wp2_with (first | ((with_reducible refine gate_dst (N := 54) rfl ?_); refine Kd.R_lit Kd.string _ 9 ?hg (N := 54) ?hd (xs := ([a1, a2] : List ByteArray)) (inner := [.string a1, .string a2]) (ok := fun _ => True) (okp := fun _ => True) ?hr ?hp (fun _ hk => hk) trivial (Below.refl _ _) (Nat.le_refl _) zb35 ?_; (case hd => rfl); (case hg => rfl); (case hr => first | (go_simp; done) | (go_simp; rfl)); (case hp => exact (Reps.one (show Kd.M Kd.string _ _ _ a1 [.string a1] from rfl) (Reps.one (show Kd.M Kd.string _ _ _ a2 [.string a2] from rfl) (Reps.none _ _)))); intro v462 w44 ho45 hb hg_ hnew_; clear hg_ hnew_; (first | rw [← Ny461.out] at ho45 | (simp only [Int.reduceToNat] at ho45; rw [← Ny461.out] at ho45)); have n0_ := Aside0.mk (Kd.R_elder' zb29 (Kd.R_base ho45) hb); have n1_ := Aside0.mk (Kd.R_lower (Kd.R_new' ho45 (Kd.R_lt zb29)) (below_size zb1)); have n2_ := Aside0.mk (below_step zb1 hb); clear HO_7; clear HB; have HO_7 := n0_; have HO463 := n1_; have HB := n2_; clear n0_ n1_ n2_; clear hb ho45; obtain ⟨Ao47, co47, eo47⟩ := Kd.R_slice HO463.out; subst eo47) | ((with_reducible refine gate_builtin (b := .append) (xs := #[.tmp 51, .tmp 54]) rfl ?_); at_builtin; refine Kd.R_append_rows Kd.string (w0 := w) w.heap.size rfl (.tmp 51) (.tmp 54) 41 9 (.string ⟨#[]⟩) 16 rfl Tryz.underlying41 info9 rfl zb25 zb13 u7 x7_1 y461 _ _ _ (fun k_ => some k_ ≠ (.slice Ao47 y461.length co47 : Value).ownBlock) (fun _ => False) rfl rfl ?aO ?aR (fun _ _ h => h) (fun _ h => h.elim) ?aF ?aB ?aS ?aL ?_; (case aR => repeat (first | exact (Kd.R_reads' HO463.out).2.2 | (with_reducible refine Kd.C_alloc ?_ _) | (with_reducible refine Kd.C_drewN ?_ _) | (with_reducible refine Kd.C_drew ?_))); (case aB => exact zb1); (case aF => exact (fun k_ hk => Kd.fresh' (Kd.R_lt (by (with_reducible repeat (first | apply Kd.R_alloc | apply Kd.R_drewN | apply Kd.R_drew)); exact HO463.out)) k_ hk)); (case aO => exact zb38); (case aS => exact (below_size zb1)); (case aL => have := LMc43.out; omega); intro v465 w46 ho hb hg hat; rw [← Ny464.out] at ho; have n0_ := Aside0.mk (Kd.R_after (ok := (fun _ => True)) (by (with_reducible repeat (first | apply Kd.R_alloc | apply Kd.R_drewN | apply Kd.R_drew)); exact HO463.out) hg hat); have n1_ := Aside0.mk (hb); have n2_ := Aside0.mk (ho); clear HO463; clear HB; clear HO_7; have HO463 := n0_; have HB := n1_; have HO466 := n2_; clear n0_ n1_ n2_; clear ho hb hg hat))
      go_ret
      exact ⟨_, by first | rfl | (simp [errW_none, errW_some, bne_nil_] <;> rfl) | (simp [*, errW_none, errW_some] <;> rfl), by (with_reducible repeat (first | apply Kd.R_alloc | apply Kd.R_drewN | apply Kd.R_drew)); exact Kd.R_mono HO466.out (fun _ hk => trivial), zb1⟩
     ·rw [if_neg c43] at H
      exact absurd H zb35
end Go.Proofs.YtfpbpakgajddnaaGreatDoor.P
/- VdA -/
namespace Go.Proofs.YtfpbpakgajddnaaGreatDoor.Pl
open Go Go.RowKit Go.Maps Go.Proofs.YtfpbpakgajddnaaGreatDoorW.PrintWords
set_option linter.unusedVariables false
set_option linter.unusedSimpArgs false
theorem tmodV (a b : Nat) : Int.tmod (a : Int) (b : Int) = ((a % b : Nat) : Int) := rfl
theorem toListV (x : L) : (mkB x).toList = x := by rw [ByteArray.toList_eq, mkB_data]
theorem rd_str (l : List L) (i : Nat) {x : L} (h : l[i]? = some x) : rdOf ByteArray.empty (l.map mkB) (i : Int) = mkB x := by
 unfold rdOf
 rw [Int.toNat_natCast, List.getD_eq_getElem?_getD, List.getElem?_map, h]
 rfl
def dataB (k : Nat) : ByteArray := (⟨#[115, 116, 117, 118, 119, 120, 121, 122]⟩ : ByteArray).extract k (⟨#[115, 116, 117, 118, 119, 120, 121, 122]⟩ : ByteArray).size
theorem dataB_len : ∀ k : Fin 8, (dataB k.val).data.toList.length ≤ 8 := by decide
/-- What an act's blobs and names are like. -/
structure ActOk (ps : List (L × L)) (gs : List L) : Prop where
  few : ps.length ≤ 3
  gone : gs.length ≤ 1
  short : ∀ b ∈ ps, b.2.length ≤ 8
theorem act_l0 (a0 a1 a2 a3 a4 : Nat) (h1 : a1 < 256) (h2 : a2 < 256) (h3 : a3 < 256) (h4 : a4 < 256) (x0 x3 x4 : Int) (x5 : ByteArray) : ∀ (d k i : Nat) (acc : List (L × L)), i + d = a1 % 4 → d + 2 ≤ k → acc.length = i → (∀ b ∈ acc, b.2.length ≤ 8) →
  ∃ ps gs, P.broadsheetlaw04_act.l0 k (i : Int) (a0 : Int) (a1 : Int) (a2 : Int) (a3 : Int) (a4 : Int) x0 (acc.map toB) x3 x4 x5 = some (x0, ps.map toB, gs.map mkB, x3, x4, x5) ∧ ActOk ps gs := by
 have W1 := Lib.hid (wrap_nat a1 zb13)
 have W2 := Lib.hid (wrap_nat a2 zb13)
 have W3 := Lib.hid (wrap_nat a3 zb13)
 have W4 := Lib.hid (wrap_nat a4 zb13)
 have M1 := Lib.hid (show Int.tmod (a1 : Int) 4 = ((a1 % 4 : Nat) : Int) from tmodV a1 4)
 intro d
 induction d with
 | zero =>
  intro k i acc hi hk ha hb
  obtain ⟨k, rfl⟩ : ∃ j, k = j + 1 := ⟨k - 1, by omega⟩
  have M2 := Lib.hid (show Int.tmod (a2 : Int) 4 = ((a2 % 4 : Nat) : Int) from tmodV a2 4)
  have M4 := Lib.hid (show Int.tmod (a4 : Int) 3 = ((a4 % 3 : Nat) : Int) from tmodV a4 3)
  unfold P.broadsheetlaw04_act.l0
  rw [W1.out, M1.out, if_neg zb13, M2.out, M4.out]
  have hl : acc.length ≤ 3 := by omega
  split
  ·rw [if_pos zb13, if_pos zb13, if_pos zb13]
   refine ⟨acc, [((⟨#[97, 98, 99]⟩ : ByteArray).extract (((a4 % 3 : Nat) : Int)).toNat ((((a4 % 3 : Nat) : Int) + 1) % 256).toNat).data.toList], ?_, hl, by simp, hb⟩
   rw [List.map_singleton, mkB_self]
  ·exact ⟨acc, [], rfl, hl, by simp, hb⟩
 | succ d ih =>
  intro k i acc hi hk ha hb
  obtain ⟨k, rfl⟩ : ∃ j, k = j + 1 := ⟨k - 1, by omega⟩
  have hi3 : i ≤ 3 := by omega
  have hm : i * a4 ≤ 3 * 255 := Nat.mul_le_mul hi3 zb13
  obtain ⟨q, hq⟩ : ∃ q, q = i * a4 := ⟨_, rfl⟩
  rw [← hq] at hm
  have E1 := Lib.hid (show wrap64 ((i : Int) * (a4 : Int)) = ((q : Nat) : Int) by
   rw [show (i : Int) * (a4 : Int) = ((i * a4 : Nat) : Int) by push_cast; rfl, ← hq]
   exact wrap_nat _ zb13)
  clear hq
  have E2 := Lib.hid (show wrap64 ((a2 : Int) + (q : Int)) = ((a2 + q : Nat) : Int) by
   rw [show (a2 : Int) + (q : Int) = ((a2 + q : Nat) : Int) by push_cast; rfl]
   exact wrap_nat _ zb13)
  have E3 := Lib.hid (show Int.tmod ((a2 + q : Nat) : Int) 3 = (((a2 + q) % 3 : Nat) : Int) from tmodV (a2 + q) 3)
  have hr := Nat.mod_lt (a2 + q) (show 0 < 3 by decide)
  generalize (a2 + q) % 3 = r at *
  have E4 := Lib.hid (show wrap64 ((r : Int) + 1) = ((r + 1 : Nat) : Int) by
   rw [show (r : Int) + 1 = ((r + 1 : Nat) : Int) by push_cast; rfl]
   exact wrap_nat _ zb13)
  have E5 := Lib.hid (show Int.tmod (a3 : Int) 8 = ((a3 % 8 : Nat) : Int) from tmodV a3 8)
  have hd := dataB_len ⟨a3 % 8, Nat.mod_lt _ zb25⟩
  have hs := Nat.mod_lt a3 (show 0 < 8 by decide)
  simp only at hd
  generalize a3 % 8 = s at *
  have E6 := Lib.hid (show wrap64 ((i : Int) + 1) = ((i + 1 : Nat) : Int) by
   rw [show (i : Int) + 1 = ((i + 1 : Nat) : Int) by omega]
   exact wrap_nat _ zb13)
  unfold P.broadsheetlaw04_act.l0
  rw [W1.out, M1.out, if_pos zb13, W2.out, W3.out, W4.out, E1.out, E2.out, E3.out, E4.out, E5.out, E6.out]
  rw [if_pos zb13, if_pos zb13, if_pos zb13, if_pos zb13, if_pos zb13, if_pos (by rw [List.length_map]; omega)]
  have key := ih k (i + 1) (acc ++ [(((⟨#[97, 98, 99]⟩ : ByteArray).extract ((r : Int)).toNat (((r + 1 : Nat) : Int)).toNat).data.toList, (dataB ((s : Int)).toNat).data.toList)]) zb13 zb13 (by rw [List.length_append, List.length_singleton]; omega) (fun b hm => by
   rcases List.mem_append.1 hm with h | h
   ·exact hb b h
   ·rw [List.mem_singleton.1 h]
    exact hd)
  rw [List.map_append, List.map_singleton] at key
  have et : toB (((⟨#[97, 98, 99]⟩ : ByteArray).extract ((r : Int)).toNat (((r + 1 : Nat) : Int)).toNat).data.toList, (dataB ((s : Int)).toNat).data.toList) = (⟨(⟨#[97, 98, 99]⟩ : ByteArray).extract ((r : Int)).toNat (((r + 1 : Nat) : Int)).toNat, dataB ((s : Int)).toNat⟩ : Bw) := by
   unfold toB
   simp only [mkB_self]
  rw [et] at key
  exact key
theorem act_f (a0 a1 a2 a3 a4 : Nat) (h1 : a1 < 256) (h2 : a2 < 256) (h3 : a3 < 256) (h4 : a4 < 256) : ∃ r1 ps gs r4 r5 r6, P.broadsheetlaw04_act.f 10 (a0 : Int) (a1 : Int) (a2 : Int) (a3 : Int) (a4 : Int) = some (r1, ps.map toB, gs.map mkB, r4, r5, r6) ∧ ActOk ps gs := by
 unfold P.broadsheetlaw04_act.f
 rw [show Int.tmod (a1 : Int) 3 = ((a1 % 3 : Nat) : Int) from tmodV a1 3, if_pos zb13, if_pos zb13, if_pos zb13]
 obtain ⟨ps, gs, h, ho⟩ := act_l0 a0 a1 a2 a3 a4 h1 h2 h3 h4 _ _ _ _ (a1 % 4) 10 0 [] zb13 zb13 rfl (fun b hb => by simp at hb)
 exact ⟨_, ps, gs, _, _, _, h, ho⟩
theorem gone_l0 (x : L) (a0 : Int) (l1 : List Bw) (gs : List L) (a3 a4 : Int) (a5 : ByteArray) (hg : gs.length ≤ 1000000) : ∀ (d k i : Nat), i + d = gs.length → d + 1 ≤ k → P.broadsheetlaw04_gone.l0 k (mkB x) (i : Int) a0 l1 (gs.map mkB) a3 a4 a5 = some ((gs.drop i).contains x) := by
 intro d
 induction d with
 | zero =>
  intro k i hi hk
  obtain ⟨k, rfl⟩ : ∃ j, k = j + 1 := ⟨k - 1, by omega⟩
  unfold P.broadsheetlaw04_gone.l0
  rw [List.length_map, if_neg zb13, List.drop_eq_nil_of_le zb13]
  rfl
 | succ d ih =>
  intro k i hi hk
  obtain ⟨k, rfl⟩ : ∃ j, k = j + 1 := ⟨k - 1, by omega⟩
  obtain ⟨y, hy⟩ : ∃ y, gs[i]? = some y := ⟨_, List.getElem?_eq_getElem zb13⟩
  have E6 := Lib.hid (show wrap64 ((i : Int) + 1) = ((i + 1 : Nat) : Int) by
   rw [show (i : Int) + 1 = ((i + 1 : Nat) : Int) by omega]
   exact wrap_nat _ zb13)
  have e1 : gs.drop i = y :: gs.drop (i + 1) := by
   obtain ⟨h1, h2⟩ := List.getElem?_eq_some_iff.1 hy
   rw [← h2]
   exact List.drop_eq_getElem_cons h1
  unfold P.broadsheetlaw04_gone.l0
  rw [List.length_map, if_pos zb13, if_pos zb13, rd_str gs i hy, E6.out, ih k (i + 1) zb13 zb13, e1, List.contains_cons]
  by_cases hxy : x = y
  ·rw [if_pos (by rw [hxy])]
   simp [hxy]
  ·have hne : ¬ ((mkB y).toList = (mkB x).toList) := fun e => hxy (by
    rw [toListV, toListV] at e
    exact e.symm)
   rw [if_neg hne]
   have : (x == y) = false := by simpa using hxy
   rw [this, Bool.false_or]
theorem setT_two (x s a b : L) (r out : List L) (done : Bool) : setT x s (a :: b :: r) out done = setT x s r (if a = x then (if bytesBefore a x = false ∧ done = false then out ++ [x, s] else out) else (if bytesBefore a x = false ∧ done = false then out ++ [x, s] else out) ++ [a, b]) (if bytesBefore a x = false ∧ done = false then true else done) := by
 rw [setT]
theorem setT_nil (x s : L) (out : List L) (done : Bool) : setT x s [] out done = if done then out else out ++ [x, s] := by
 unfold setT
 rfl
theorem set_l0 (x s : L) (l : List L) (hl : l.length ≤ 1000000) : ∀ (d k i : Nat) (out : List L) (done : Bool), i + 2 * d = l.length → 2 * d + 3 ≤ k → out.length + 4 * d ≤ 10000000 →
  P.broadsheetlaw04_set.l0 k (l.map mkB) (mkB x) (mkB s) (out.map mkB) done (i : Int) = some ((setT x s (l.drop i) out done).map mkB) := by
 intro d
 induction d with
 | zero =>
  intro k i out done hi hk ho
  obtain ⟨k, rfl⟩ : ∃ j, k = j + 1 := ⟨k - 1, by omega⟩
  unfold P.broadsheetlaw04_set.l0
  rw [List.length_map, if_neg zb13, List.drop_eq_nil_of_le zb13, setT_nil]
  cases done with
  | true => rfl
  | false =>
   rw [if_neg zb25]
   simp only [Option.bind_some]
   rw [if_pos (by rw [List.length_map]; simp; omega)]
   simp
 | succ d ih =>
  intro k i out done hi hk ho
  obtain ⟨k, rfl⟩ : ∃ j, k = j + 1 + 1 := ⟨k - 2, by omega⟩
  obtain ⟨a, ha⟩ : ∃ y, l[i]? = some y := ⟨_, List.getElem?_eq_getElem zb13⟩
  obtain ⟨b, hb⟩ : ∃ y, l[i + 1]? = some y := ⟨_, List.getElem?_eq_getElem zb13⟩
  have W1 := Lib.hid (show wrap64 ((i : Int) + 1) = ((i + 1 : Nat) : Int) by
   rw [show (i : Int) + 1 = ((i + 1 : Nat) : Int) by omega]
   exact wrap_nat _ zb13)
  have W2 := Lib.hid (show wrap64 ((i : Int) + 2) = ((i + 2 : Nat) : Int) by
   rw [show (i : Int) + 2 = ((i + 2 : Nat) : Int) by omega]
   exact wrap_nat _ zb13)
  have e1 : l.drop i = a :: b :: l.drop (i + 2) := by
   obtain ⟨h1, h2⟩ := List.getElem?_eq_some_iff.1 ha
   obtain ⟨h3, h4⟩ := List.getElem?_eq_some_iff.1 hb
   rw [List.drop_eq_getElem_cons h1, List.drop_eq_getElem_cons h3, h2, h4]
  have IH := Lib.hid (fun out done h => ih k (i + 2) out done zb13 zb13 h)
  have hb1 := rd_str l i ha
  have hb2 := rd_str l (i + 1) hb
  have hbb := less_bb a x
  have hj : ∀ q : Bool, P.broadsheetlaw04_set.j1 (k + 1) (l.map mkB) (mkB x) (mkB s) (out.map mkB) done (i : Int) q = some ((setT x s (l.drop (i + 2)) (if a = x then (if q = true then out ++ [x, s] else out) else (if q = true then out ++ [x, s] else out) ++ [a, b]) (if q = true then true else done)).map mkB) := by
   intro q
   unfold P.broadsheetlaw04_set.j1
   cases q with
   | true =>
    rw [if_pos rfl]
    simp only [Option.bind_some, if_true]
    rw [if_pos (by rw [List.length_map]; simp; omega), if_pos zb13, List.length_map, if_pos zb13, hb1, W1.out, hb2, W2.out, toListV, toListV]
    by_cases hax : a = x
    ·rw [if_pos hax, if_pos hax, ← IH.out _ _ zb41]
     simp
    ·rw [if_neg hax, if_neg hax, if_pos zb13, if_pos zb13, if_pos zb41, ← IH.out _ _ zb41]
     simp
   | false =>
    rw [if_neg zb25]
    simp only [Option.bind_some]
    rw [if_pos zb13, List.length_map, if_pos zb13, hb1, W1.out, hb2, W2.out, toListV, toListV]
    by_cases hax : a = x
    ·rw [if_pos hax, if_pos hax, ← IH.out _ _ zb41]
     simp
    ·rw [if_neg hax, if_neg hax, if_pos zb13, if_pos zb13, if_pos (by rw [List.length_map]; simp; omega), ← IH.out _ _ zb41]
     simp
  rw [e1, setT_two]
  unfold P.broadsheetlaw04_set.l0
  rw [List.length_map, if_pos zb13, if_pos zb13, hb1, hbb]
  cases h1 : bytesBefore a x with
  | true =>
   rw [if_pos rfl, hj false]
   simp
  | false =>
   rw [if_neg zb25, hj]
   cases done <;> simp
theorem set_f (x s : L) (D : List (RowM × L)) (hD : D.length ≤ 100000) : P.broadsheetlaw04_set.f (2 * D.length + 3) ((tx D).map mkB) (mkB x) (mkB s) = some ((setT x s (tx D) [] false).map mkB) := by
 have h := set_l0 x s (tx D) (by rw [tx_len]; omega) D.length (2 * D.length + 3) 0 [] false (by rw [tx_len]; omega) zb13 zb41
 rw [List.drop_zero] at h
 exact h
end Go.Proofs.YtfpbpakgajddnaaGreatDoor.Pl
/- VaK -/
namespace Go.Proofs.YtfpbpakgajddnaaGreatDoor.Pl
open Go
set_option linter.unusedVariables false
set_option linter.unusedSimpArgs false
section
variable {C K n n0 i : Nat} {D D' : List (RowM × L)} {m : Mach} {x y s : L} {c : Codec}
theorem spend_pw {p : Int} (h : p = -1) : spend p = -1 := by rw [h]; rfl
theorem create_pw (h : m.power = -1) : (create m x).2.power = -1 := by
 unfold create
 (repeat' split) <;> first | exact h | exact spend_pw h
theorem write_pw (h : m.power = -1) : (write m x s).2.power = -1 := by
 unfold write
 (repeat' split) <;> first | exact h | exact spend_pw h
theorem sync_pw (h : m.power = -1) : (sync m x).2.power = -1 := by
 unfold sync
 (repeat' split) <;> first | exact h | exact spend_pw h
theorem rename_pw (h : m.power = -1) : (rename m x y).2.power = -1 := by
 unfold rename
 (repeat' split) <;> first | exact h | exact spend_pw h
theorem syncDir_pw (h : m.power = -1) : (syncDir m).2.power = -1 ∧ (syncDir m).1 = 0 := by
 unfold syncDir
 rw [if_neg zb13]
 exact ⟨spend_pw h, rfl⟩
theorem put3_pw (h : m.power = -1) : (put3 m x s).2.power = -1 := by
 unfold put3
 split
 ·split
  ·exact sync_pw (write_pw (create_pw h))
  ·exact write_pw (create_pw h)
 ·exact create_pw h
theorem doPuts_pw (n : Nat) : ∀ (ps : List L) (i : Nat) {m : Mach}, m.power = -1 → (doPuts c n i ps m).2.power = -1
 | [], _, _, h => h
 | s :: r, i, m, h => by
  unfold doPuts
  split
  ·exact doPuts_pw n r (i + 1) (put3_pw h)
  ·exact put3_pw h
theorem stage_pw (n : Nat) (ps : List L) (lines : L) (h : m.power = -1) : (stage c n ps lines m).2.power = -1 := by
 have h1 := doPuts_pw (c := c) n ps 0 h
 unfold stage
 split
 ·split
  ·split
   ·exact rename_pw (syncDir_pw (put3_pw h1)).1
   ·exact (syncDir_pw (put3_pw h1)).1
  ·exact put3_pw h1
 ·exact h1
theorem commit_pw (hc : c.Names) (ps : List L) (hg : Good C K m) (hs : Safe c n0 D m) (hD : Fits c (n0 + 1) D D' ps) (hp : m.power = -1) :
  ((commitM c n0 D D' ps m).2.1 = false → Safe c n0 D (commitM c n0 D D' ps m).2.2) ∧ ((commitM c n0 D D' ps m).2.1 = true → Safe c (n0 + 1) D' (commitM c n0 D D' ps m).2.2) ∧ (commitM c n0 D D' ps m).2.2.power = -1 := by
 obtain ⟨h1, h2, _⟩ := stage_made (D := D) (D' := D') hc ps (c.print (n0 + 1) (D'.map (·.1))) hg.inv hs (Nat.succ_pos n0) rfl hD
 have h3 := stage_pw (c := c) (n0 + 1) ps (c.print (n0 + 1) (D'.map (·.1))) hp
 have h4 := Good.stage c (n0 + 1) ps (c.print (n0 + 1) (D'.map (·.1))) hg
 unfold commitM
 generalize stage c (n0 + 1) ps (c.print (n0 + 1) (D'.map (·.1))) m = st at *
 have h5 := syncDir_pw h3
 by_cases e1 : st.1 = 0
 ·rw [if_pos e1, if_pos h5.2]
  have he := h2 e1
  rcases he.syncDir with ⟨e2, s2⟩ | ⟨e2, s2⟩
  ·exact ⟨fun h => (by cases h), fun _ => s2.sweep, (sweep_full (h4.syncDir).inv h5.1 _).2⟩
  ·exact absurd h5.2 e2
 ·rw [if_neg e1]
  exact ⟨fun _ => (h1 e1).sweep, fun h => (by cases h), (sweep_full h4.inv h3 _).2⟩
/-- What a vault is like behind i commits. -/
structure HeldV (i n : Nat) (D : List (RowM × L)) (m : Mach) : Prop where
  fine : Fine (vm n D)
  bulk : bulk (vm n D).rows ≤ 282 * i
  rise : Rising D
  own : Own cdc n D
  safe : Safe cdc n D m
  good : Good (200 * i) (5 * i) m
theorem HeldV.len (h : HeldV i n D m) : D.length ≤ 282 * i := by
 have h1 := bulk_len (vm n D).rows
 have h2 := h.bulk
 have h3 : (vm n D).rows.length = D.length := List.length_map _
 omega
theorem HeldV.lines (h : HeldV i n D m) : (cdc.print n (D.map (·.1))).length ≤ 282 * i + 60 := by
 have h1 := print_len h.fine
 have h2 := h.bulk
 exact Nat.le_trans h1 zb13
theorem HeldV.back (h : HeldV i n D m) (hi : i ≤ 100) : cdc.parse (cdc.print n (D.map (·.1))) = some (n, D.map (·.1)) := h.fine.back (Nat.le_trans h.lines zb13)
theorem HeldV.fresh (room : Int) (h0 : 0 ≤ room) (h1 : room ≤ 4194304) : HeldV 0 0 [] (Pl.fresh room) :=
 ⟨Fine.empty, by decide, List.Pairwise.nil, fun p hp => by simp at hp, fun j => ⟨fun h => absurd h zb25, fun _ => ⟨fun p hp => by simp [Pl.fresh, after] at hp, rfl⟩, fun p hp => by simp at hp⟩, Good.fresh room h0 h1⟩
theorem next_rows (ps : List (L × L)) (gs : List L) : vm (n + 1) (nextD cdc (n + 1) ps gs D) = ⟨n + 1, nextR cdc (n + 1) ps gs (vm n D).rows⟩ := by
 unfold vm
 rw [nextD_rows]
/-- A commit: whatever its power was. -/
theorem HeldV.commit {ps : List (L × L)} {gs : List L} (h : HeldV i n D m) (hi : i ≤ 14) (h3 : ps.length ≤ 3) (h8 : ∀ b ∈ ps, b.2.length ≤ 8) (hz : checkI (n + 1) ps = 0) (m' : Mach) (hg : Good (200 * i) (5 * i) m') (hm : m' = m ∨ ∃ k, m' = limit m k) :
  commitR cdc (vm n D) ps gs m' = ((commitM cdc n D (nextD cdc (n + 1) ps gs D) (ps.map (·.2)) m').1, (if (commitM cdc n D (nextD cdc (n + 1) ps gs D) (ps.map (·.2)) m').2.1 = true then vm (n + 1) (nextD cdc (n + 1) ps gs D) else vm n D), (commitM cdc n D (nextD cdc (n + 1) ps gs D) (ps.map (·.2)) m').2.2) ∧
  Safe cdc n D m' ∧ Fits cdc (n + 1) D (nextD cdc (n + 1) ps gs D) (ps.map (·.2)) ∧ Good (200 * (i + 1)) (5 * (i + 1)) (commitR cdc (vm n D) ps gs m').2.2 ∧
  Fine (vm (n + 1) (nextD cdc (n + 1) ps gs D)) ∧ Pl.bulk (vm (n + 1) (nextD cdc (n + 1) ps gs D)).rows ≤ 282 * (i + 1) ∧ Rising (nextD cdc (n + 1) ps gs D) ∧ Own cdc (n + 1) (nextD cdc (n + 1) ps gs D) := by
 have hsafe : Safe cdc n D m' := by
  rcases hm with rfl | ⟨k, rfl⟩
  ·exact h.safe
  ·exact h.safe.limit k
 obtain ⟨f1, f2⟩ := fits_next cdc_names cdc_inj h.own ps gs
 have hgc := Good.commitR cdc (vm n D) ps gs hg
 have hb := h.bulk
 have hrn : (vm n D).n = n := rfl
 obtain ⟨c1, c2, c3⟩ := commitR_good cdc (vm n D) ps gs m' hz
 have nf := next_fine gs h.fine c1 (fun b hb2 => ⟨c2 b hb2, by have := h8 b hb2; omega⟩) zb13
 rw [hrn] at nf c3
 refine ⟨?_, hsafe, f1, hgc.mono zb13 zb13, ?_, ?_, rising_next h.rise, f2⟩
 ·rw [c3]
  have e : nextR cdc (n + 1) ps gs (vm n D).rows = (nextD cdc (n + 1) ps gs D).map (·.1) := (nextD_rows cdc (n + 1) ps gs D).symm
  rw [e]
  exact commitV_M cdc n D _ _ m'
 ·rw [next_rows]
  exact nf.1
 ·rw [next_rows]
  have := nf.2
  show Pl.bulk (nextR cdc (n + 1) ps gs (vm n D).rows) ≤ _
  omega
/-- A commit with endless power. -/
theorem HeldV.step {ps : List (L × L)} {gs : List L} (h : HeldV i n D m) (hp : m.power = -1) (hi : i ≤ 14) (h3 : ps.length ≤ 3) (h8 : ∀ b ∈ ps, b.2.length ≤ 8) :
  ∃ n' D', (commitR cdc (vm n D) ps gs m).2.1 = vm n' D' ∧ HeldV (i + 1) n' D' (commitR cdc (vm n D) ps gs m).2.2 ∧ (commitR cdc (vm n D) ps gs m).2.2.power = -1 := by
 have hb := h.bulk
 by_cases hz : checkI (n + 1) ps = 0
 ·obtain ⟨e, _, f1, g1, f2, f3, f4, f5⟩ := h.commit hi h3 h8 hz m h.good (.inl rfl) (gs := gs)
  have hcp := commit_pw cdc_names (ps.map (·.2)) h.good h.safe f1 hp
  rw [e] at g1 ⊢
  cases hq : (commitM cdc n D (nextD cdc (n + 1) ps gs D) (ps.map (·.2)) m).2.1 with
  | true => exact ⟨n + 1, _, rfl, ⟨f2, f3, f4, f5, hcp.2.1 hq, g1⟩, hcp.2.2⟩
  | false => exact ⟨n, D, rfl, ⟨h.fine, by omega, h.rise, h.own, hcp.1 hq, g1⟩, hcp.2.2⟩
 ·rw [commitR_bad cdc (vm n D) ps gs m hz]
  exact ⟨n, D, rfl, ⟨h.fine, by omega, h.rise, h.own, h.safe, h.good.mono zb13 zb13⟩, hp⟩
end
section
variable {C K n n0 i : Nat} {D D' : List (RowM × L)} {m : Mach} {x y s : L} {c : Codec}
theorem man_len {k : Nat} (hi : Inv C m) (hs : Safe cdc n D m) (hl : (cdc.print n (D.map (·.1))).length ≤ k) : (read m manL).1.length ≤ k := by
 rcases Nat.eq_zero_or_pos n with h0 | h0
 ·have h1 := (hs.now.noman h0).1
  have hf : m.find manL = none := by
   cases hq : m.find manL with
   | none => rfl
   | some k => exact absurd rfl (h1 _ (look_mem hq))
  unfold read
  rw [hf]
  exact Nat.zero_le _
 ·rw [(hs.now.man h0).read hi]
  exact hl
/-- A vault that is told and lies safe on a plate: all that a walk wants of it. -/
structure Rest (n : Nat) (D : List (RowM × L)) (m : Mach) : Prop where
  fine : Fine (vm n D)
  bulk : bulk (vm n D).rows ≤ 5000
  rise : Rising D
  safe : Safe cdc n D m
  good : Good 10000 200 m
theorem Rest.len (h : Rest n D m) : D.length ≤ 5000 := by
 have h1 := bulk_len (vm n D).rows
 have h2 := h.bulk
 have h3 : (vm n D).rows.length = D.length := List.length_map _
 omega
theorem Rest.lines (h : Rest n D m) : (cdc.print n (D.map (·.1))).length ≤ 5060 := by
 have h1 := print_len h.fine
 have h2 := h.bulk
 exact Nat.le_trans h1 zb13
theorem Rest.man (h : Rest n D m) : (read m manL).1.length ≤ 90000 := Nat.le_trans (man_len h.good.inv h.safe h.lines) zb25
theorem Rest.back (h : Rest n D m) : cdc.parse (cdc.print n (D.map (·.1))) = some (n, D.map (·.1)) := h.fine.back (Nat.le_trans h.lines zb25)
theorem HeldV.rest (h : HeldV i n D m) (hi : i ≤ 14) : Rest n D m := ⟨h.fine, by have := h.bulk; omega, h.rise, h.safe, h.good.mono zb13 zb13⟩
/-- The last commit, whatever power, a crash, and it is opened. -/
theorem whole_end {ps : List (L × L)} {gs : List L} (h : HeldV i n D m) (hi : i ≤ 12) (h3 : ps.length ≤ 3) (h8 : ∀ b ∈ ps, b.2.length ≤ 8) (k a b : Int) (hk : k ≤ 1000) :
  Good 3000 70 (limit m k) ∧ Good 3000 70 (commitR cdc (vm n D) ps gs (limit m k)).2.2 ∧
  ∃ n' D', Rest n' D' (crash (commitR cdc (vm n D) ps gs (limit m k)).2.2 a b) ∧ (n' = n ∧ D' = D ∧ (commitR cdc (vm n D) ps gs (limit m k)).1 ≠ 0 ∨ n' = n + 1 ∧ D' = nextD cdc (n + 1) ps gs D) := by
 have hgl : Good (200 * i) (5 * i) (limit m k) := h.good.limit k zb13
 have hb := h.bulk
 refine ⟨hgl.mono zb13 zb13, ?_⟩
 by_cases hz : checkI (n + 1) ps = 0
 ·obtain ⟨e, s0, f1, g1, f2, f3, f4, f5⟩ := h.commit zb13 h3 h8 hz (limit m k) hgl (.inr ⟨k, rfl⟩) (gs := gs)
  have hcc := commit_crash cdc_names (ps.map (·.2)) hgl.inv s0 f1 a b
  refine ⟨g1.mono zb13 zb13, ?_⟩
  rw [e] at g1 ⊢
  rcases hcc with ⟨q1, q2⟩ | q2
  ·exact ⟨n, D, ⟨h.fine, by omega, h.rise, q2, (g1.crash a b).mono zb13 zb13⟩, .inl ⟨rfl, rfl, q1⟩⟩
  ·exact ⟨n + 1, _, ⟨f2, by omega, f4, q2, (g1.crash a b).mono zb13 zb13⟩, .inr ⟨rfl, rfl⟩⟩
 ·rw [commitR_bad cdc (vm n D) ps gs _ hz]
  exact ⟨hgl.mono zb13 zb13, n, D, ⟨h.fine, by omega, h.rise, (h.safe.limit k).crash a b, (hgl.crash a b).mono zb13 zb13⟩, .inl ⟨rfl, rfl, hz⟩⟩
theorem crash_pw (a b : Int) : (crash m a b).power = -1 := rfl
/-- Opened with power: there it is. -/
theorem Rest.open (h : Rest n D m) (hp : m.power = -1) : ∃ M, openV cdc m = (0, some (vm n D), M) ∧ Safe cdc n D M ∧ Good 10400 200 M := by
 have h1 := open_full h.good.inv hp h.safe h.back
 have h2 := open_any h.good.inv h.safe h.back
 have h3 := Good.openV cdc h.good
 refine ⟨(openV cdc m).2.2, ?_, h2.2, h3.mono zb13 zb13⟩
 have e1 : (openV cdc m).1 = 0 := h1.1
 have e2 : (openV cdc m).2.1 = some (vm n D) := h1.2.1
 rw [← e1, ← e2]
end
end Go.Proofs.YtfpbpakgajddnaaGreatDoor.Pl
/- VvT -/
namespace Go.Proofs.YtfpbpakgajddnaaGreatDoor.Pl
open Go Go.RowKit Go.Maps Go.Proofs.YtfpbpakgajddnaaGreatDoorW.PrintWords
open Go.Proofs.YtfpbpakgajddnaaGreatDoor.O (Glob)
set_option linter.unusedVariables false
set_option linter.unusedSimpArgs false
/-- An act as small numbers. -/
structure BitV where
  what : Nat
  a : Nat
  b : Nat
  n : Nat
  m : Nat
def BitV.ok (x : BitV) : Prop := x.what < 256 ∧ x.a < 256 ∧ x.b < 256 ∧ x.n < 256 ∧ x.m < 256
def BitV.cells (x : BitV) : List Value := [.int .u8 (x.what : Int), .int .u8 (x.a : Int), .int .u8 (x.b : Int), .int .u8 (x.n : Int), .int .u8 (x.m : Int)]
def BitVRow (W : World) (A : Option Addr) (l : List BitV) : Prop := ∀ i x, l[i]? = some x → ∃ ad : Addr, A = some ad ∧ W.cell? (ad.add (i * 5)) = some (.int .u8 (x.what : Int)) ∧ W.cell? ⟨(ad.add (i * 5)).block, (ad.add (i * 5)).off + 1, none⟩ = some (.int .u8 (x.a : Int)) ∧ W.cell? ⟨(ad.add (i * 5)).block, (ad.add (i * 5)).off + 2, none⟩ = some (.int .u8 (x.b : Int)) ∧ W.cell? ⟨(ad.add (i * 5)).block, (ad.add (i * 5)).off + 3, none⟩ = some (.int .u8 (x.n : Int)) ∧ W.cell? ⟨(ad.add (i * 5)).block, (ad.add (i * 5)).off + 4, none⟩ = some (.int .u8 (x.m : Int))
theorem cell_bel {W W' : World} {a : Addr} {u : Value} (hb : Below W.heap.size W W') (h : W.cell? a = some u) : W'.cell? a = some u := (cell_block (hb.block _ (block_lt_of_cell h))).trans h
theorem BitVRow.below {W W' : World} {A : Option Addr} {l : List BitV} (h : BitVRow W A l) (hb : Below W.heap.size W W') : BitVRow W' A l := by
 intro i x hx
 obtain ⟨ad, e, c0, c1, c2, c3, c4⟩ := h i x hx
 exact ⟨ad, e, cell_bel hb c0, cell_bel hb c1, cell_bel hb c2, cell_bel hb c3, cell_bel hb c4⟩
/-- A row of the print's own, as it is read; where it lies. -/
theorem R_reads {α : Type} {d : Kd α} {e base : Nat} {w : World} {ok : Nat → Prop} {v : Value} {xs : List α} (h : d.R e w base ok v xs) (hK : ∀ x cs, d.M w base (fun k => ok k ∧ some k ≠ v.ownBlock) x cs → d.K w x cs) : ∃ A c, v = .slice A xs.length c ∧ xs.length ≤ c ∧ d.C w A xs.length xs ∧ ∀ ad, A = some ad → base ≤ ad.block ∧ ad.block < w.heap.size := by
 obtain ⟨_, inner, ho, hlen, hr⟩ := h
 obtain ⟨A, c, rfl, hc⟩ := own_reads_row ho (show Reps (d.K w) d.sz xs inner from ⟨hlen, fun j p hj => hK _ _ (hr j p hj)⟩) rfl
 refine ⟨A, c, rfl, row_cap ho, hc, fun ad e => ?_⟩
 subst e
 rcases ho.2 with ⟨h1, _⟩ | ⟨g, cap, cur, h1, hb, hg, _⟩
 ·cases h1
 ·injection h1 with e1
  rw [Option.some.inj e1]
  exact ⟨hb, blk_lt hg⟩
section
variable {w w' : World} {vb bp C K : Nat} {v : VM} {H : Nat → Prop} {m : Mach}
theorem act_calls (x : BitV) (hx : x.ok) : Calls Tryz.prog 18 #[.agg #[.int .u8 (x.what : Int), .int .u8 (x.a : Int), .int .u8 (x.b : Int), .int .u8 (x.n : Int), .int .u8 (x.m : Int)]] w fun e w' => ∃ A1 c1 A2 c2 ps gs r1 r4 r5 r6, e = .returned (.agg #[.int .i64 r1, .slice A1 (List.length ps) c1, .slice A2 (List.length gs) c2, .int .i64 r4, .int .i64 r5, .string r6]) ∧ ActOk ps gs ∧ Blobs w' A1 ps ∧ Strs w' A2 gs ∧ ps.length ≤ c1 ∧ gs.length ≤ c2 ∧ (∀ ad, A1 = some ad → w.heap.size ≤ ad.block ∧ ad.block < w'.heap.size) ∧ (∀ ad, A2 = some ad → w.heap.size ≤ ad.block ∧ ad.block < w'.heap.size) ∧ Below w.heap.size w w' := by
 obtain ⟨h0, h1, h2, h3, h4⟩ := hx
 obtain ⟨r1, ps, gs, r4, r5, r6, hf, ho⟩ := act_f x.what x.a x.b x.n x.m h1 h2 h3 h4
 refine (P.broadsheetlaw04_act.calls 10 _ _ _ _ _ r1 (ps.map toB) (gs.map mkB) r4 r5 r6 w hf).mono ?_
 rintro e w' ⟨v1, v2, rfl, hR1, hR2, hb⟩
 obtain ⟨A1, c1, rfl, k1, q1, l1⟩ := R_reads hR1 (fun x cs h => by obtain rfl := P.k28_openM h; exact P.k28_mk _ _)
 obtain ⟨A2, c2, rfl, k2, q2, l2⟩ := R_reads hR2 (fun x cs h => h)
 rw [List.length_map] at k1 q1
 rw [List.length_map] at k2 q2
 rw [List.length_map, List.length_map]
 exact ⟨A1, c1, A2, c2, ps, gs, r1, r4, r5, r6, rfl, ho, q1, q2, k1, k2, l1, l2, hb⟩
theorem limit_lv (k : Int) (h : LV w vb bp v m H) : Calls Tryz.prog 23 #[.pointer (some ⟨bp, 0, none⟩), .int .i64 k] w fun e w' => e = .returned (.tuple #[]) ∧ ∃ H', Fr H w H' w' ∧ LV w' vb bp v (limit m k) H' := by
 obtain ⟨rv, F, hs⟩ := h
 refine (Limit_calls k hs.plate).mono ?_
 rintro e w' ⟨h1, h2, h3⟩
 exact ⟨h1, Pl.grow H w w', ⟨h3.mono (fun k hk _ => hs.inF k hk), fun i hi => hi.imp id (fun h => h.1)⟩, rv, _, hs.vp.tch h3 hs.apart, h2, fun i hi => not_grow (hs.apart i hi) (hs.vp.lt hi), fun i hi => hi.imp (hs.inF i) id, fun i hi => .inl (hs.inV i hi)⟩
/-- Only blocks that are there. -/
theorem LV.tight (h : LV w vb bp v m H) : LV w vb bp v m (fun i => H i ∧ i < w.heap.size) := by
 obtain ⟨rv, F, hs⟩ := h
 have ht := hs.tight
 exact ⟨rv, _, ht.vp, ht.plate, ht.apart, fun i hi => ⟨hs.inF i hi.1, hi.2⟩, fun i hi => ⟨hs.inV i hi, hs.vp.lt hi⟩⟩
theorem Fr.strs {H' : Nat → Prop} {A : Option Addr} {l : List L} (h : Fr H w H' w') (hs : Strs w A l) (hA : ∀ ad, A = some ad → ¬ H ad.block ∧ ad.block < w.heap.size) : Strs w' A l := hs.move (fun ad e _ => h.tch.block _ (hA ad e).2 (hA ad e).1)
theorem Fr.blobs {H' : Nat → Prop} {A : Option Addr} {l : List (L × L)} (h : Fr H w H' w') (hs : Blobs w A l) (hA : ∀ ad, A = some ad → ¬ H ad.block ∧ ad.block < w.heap.size) : Blobs w' A l := hs.move (fun ad e _ => h.tch.block _ (hA ad e).2 (hA ad e).1)
end
def U8Row (W : World) (A : Option Addr) (l : List Nat) : Prop := ∀ (i k : Nat), l[i]? = some k → ∃ ad : Addr, A = some ad ∧ W.cell? (ad.add i) = some (.int .u8 (k : Int))
theorem U8Row.below {W W' : World} {A : Option Addr} {l : List Nat} (h : U8Row W A l) (hb : Below W.heap.size W W') : U8Row W' A l := by
 intro i k hk
 obtain ⟨ad, e, c0⟩ := h i k hk
 exact ⟨ad, e, cell_bel hb c0⟩
/-- A vault that lies on its plate alone; what was told of it keeps. -/
structure Lies (c : Nat) (n : Nat) (D : List (RowM × L)) (m : Mach) : Prop where
  fine : Fine (vm n D)
  bulk : bulk (vm n D).rows ≤ 5000
  rise : Rising D
  safe : Safe cdc n D m
  good : Good (3000 + 600 * c) 80 m
section
variable {n c : Nat} {D : List (RowM × L)} {m : Mach}
theorem Lies.rest (h : Lies c n D m) (hc : c ≤ 11) : Rest n D m := ⟨h.fine, h.bulk, h.rise, h.safe, h.good.mono zb13 zb13⟩
theorem Lies.limit (h : Lies c n D m) (k : Nat) : Lies c n D (limit m ((k : Int) % 4)) := ⟨h.fine, h.bulk, h.rise, h.safe.limit _, h.good.limit _ zb13⟩
theorem Lies.crash (h : Lies c n D m) (a b : Int) : Lies c n D (crash m a b) ∧ (Pl.crash m a b).power = -1 := ⟨⟨h.fine, h.bulk, h.rise, h.safe.crash a b, h.good.crash a b⟩, rfl⟩
theorem Lies.open (h : Lies c n D m) (hc : c ≤ 11) : ((openV cdc m).2.1 = some (vm n D) ∧ (openV cdc m).1 = 0 ∨ (openV cdc m).2.1 = none ∧ (openV cdc m).1 ≠ 0) ∧ Lies (c + 1) n D (openV cdc m).2.2 := by
 obtain ⟨h1, h2⟩ := open_any h.good.inv h.safe (h.rest hc).back
 exact ⟨h1, ⟨h.fine, h.bulk, h.rise, h2, (Good.openV cdc h.good).mono zb13 zb13⟩⟩
end
theorem strs_where {w : World} {base : Nat} {v : Value} {l : List L} (h : OwnStrs w base v l) : ∃ A c, v = .slice A l.length c ∧ l.length ≤ c ∧ Strs w A l ∧ ∀ ad, A = some ad → base ≤ ad.block ∧ ad.block < w.heap.size := by
 obtain ⟨A, c, rfl, k, s⟩ := textsV_row h
 refine ⟨A, c, rfl, k, s, fun ad e => ?_⟩
 subst e
 rcases h.2 with ⟨h1, _⟩ | ⟨g, cap, cur, h1, hb, hg, _⟩
 ·cases h1
 ·injection h1 with e1
  rw [Option.some.inj e1]
  exact ⟨hb, blk_lt hg⟩
/-- The acts' loop: one round. -/
theorem act_round {w wr : World} {vb bp n i : Nat} {D : List (RowM × L)} {m : Mach} {H : Nat → Prop} {ps : List (L × L)} {gs : List L} {A1 A2 : Option Addr} {c1 c2 : Nat} (hh : HeldV i n D m) (hi : i ≤ 12) (hp : m.power = -1) (hl : LV wr vb bp (vm n D) m H) (hH : ∀ j, H j → w.heap.size ≤ j) (hb : Below w.heap.size w wr) (hG : Glob w) (ho : ActOk ps gs) (hput : Blobs wr A1 ps) (hgone : Strs wr A2 gs) (hc1 : ps.length ≤ c1) :
  Calls Tryz.prog 21 #[.pointer (some ⟨vb, 0, none⟩), .slice A1 ps.length c1, .slice A2 gs.length c2] wr fun e w' => ∃ z n' D' m' H', e = .returned (.int .i64 z) ∧ HeldV (i + 1) n' D' m' ∧ m'.power = -1 ∧ LV w' vb bp (vm n' D') m' H' ∧ (∀ j, H' j → w.heap.size ≤ j) ∧ Below w.heap.size w w' := by
 have hbk := hh.bulk
 have h3 := ho.few
 obtain ⟨n', D', e1, h1, h2⟩ := hh.step hp zb13 h3 ho.short (gs := gs)
 refine (commit_lv hl hh.fine zb13 hput hgone hc1 (fun b hb2 => by have := ho.short b hb2; omega) hh.good zb13 (fun W t => hG.below (hb.trans (t.below hb.size hH)))).mono ?_
 rintro e w' ⟨rfl, H', hf, hl'⟩
 rw [e1] at hl'
 exact ⟨_, n', D', _, H', rfl, h1, h2, hl', hf.low hb.size hH, hb.trans (hf.below hb.size hH)⟩
theorem setD_last {r : RowM} {s : L} : ∀ {E : List (RowM × L)}, (∀ p ∈ E, bytesBefore p.1.name r.name = true) → setD r s E = E ++ [(r, s)]
 | [], _ => rfl
 | q :: t, h => by
  have h1 := h q List.mem_cons_self
  unfold setD
  rw [if_neg (fun e => before_ne h1 e.symm), if_neg (by rw [before_asymm h1]; decide), setD_last (fun p hp => h p (List.mem_cons_of_mem _ hp))]
  rfl
/-- Rows that rise, laid one by one: they stand as they stood. -/
theorem set_round {D : List (RowM × L)} (hR : Rising D) (f : RowM × L → Bool) {j : Nat} {p : RowM × L} (hp : D[j]? = some p) :
  (D.take (j + 1)).filter f = if f p = true then setD p.1 p.2 ((D.take j).filter f) else (D.take j).filter f := by
 rw [List.take_add_one, hp, List.filter_append]
 cases hf : f p with
 | false => simp [hf]
 | true =>
  rw [if_pos rfl, setD_last (fun q hq => ?_)]
  ·simp [hf]
  ·have hq2 := (List.mem_filter.1 hq).1
   obtain ⟨i, hi⟩ := List.getElem?_of_mem hq2
   have hil : i < j := by
    have := (List.getElem?_eq_some_iff.1 hi).1
    rw [List.length_take] at this
    omega
   rw [List.getElem?_take_of_lt hil] at hi
   obtain ⟨h1, h2⟩ := List.getElem?_eq_some_iff.1 hi
   obtain ⟨h3, h4⟩ := List.getElem?_eq_some_iff.1 hp
   rw [← h2, ← h4]
   exact List.pairwise_iff_getElem.1 hR i j h1 h3 hil
theorem rising_sub {D : List (RowM × L)} (hR : Rising D) (f : RowM × L → Bool) (j : Nat) : Rising ((D.take j).filter f) := List.Pairwise.filter _ (List.Pairwise.sublist (List.take_sublist _ _) hR)
section
variable {w : World} {A A1 A2 : Option Addr} {c c1 c2 : Nat}
theorem gone_calls (x : L) {ps : List (L × L)} {gs : List L} (r1 r4 r5 : Int) (r6 : ByteArray) (hp : Blobs w A1 ps) (hc1 : ps.length ≤ c1) (hs : Strs w A2 gs) (hc2 : gs.length ≤ c2) (hg : gs.length ≤ 1000000) :
  Calls Tryz.prog 26 #[.agg #[.int .i64 r1, .slice A1 ps.length c1, .slice A2 gs.length c2, .int .i64 r4, .int .i64 r5, .string r6], .string (mkB x)] w fun e w' => e = .returned (.bool (gs.contains x)) ∧ Below w.heap.size w w' := by
 have hf : P.broadsheetlaw04_gone.f (gs.length + 1) r1 (ps.map toB) (gs.map mkB) r4 r5 r6 (mkB x) = some (gs.contains x) := gone_l0 x r1 (ps.map toB) gs r4 r5 r6 hg gs.length (gs.length + 1) 0 zb13 zb13
 have h := P.broadsheetlaw04_gone.calls (gs.length + 1) r1 A1 c1 (ps.map toB) A2 c2 (gs.map mkB) r4 r5 r6 (mkB x) (gs.contains x) w (by rw [List.length_map]; exact hp) (by rw [List.length_map]; exact hc1) (by rw [List.length_map]; exact hs) (by rw [List.length_map]; exact hc2) hf
 rw [List.length_map, List.length_map] at h
 exact h
theorem set_calls (r : RowM) (s : L) {E : List (RowM × L)} (hR : Rising E) (hs : Strs w A (tx E)) (hc : (tx E).length ≤ c) (hE : E.length ≤ 100000) :
  Calls Tryz.prog 27 #[.slice A (tx E).length c, .string (mkB r.name), .string (mkB s)] w fun e w' => ∃ A' c', e = .returned (.slice A' (tx (setD r s E)).length c') ∧ (tx (setD r s E)).length ≤ c' ∧ Strs w' A' (tx (setD r s E)) ∧ Below w.heap.size w w' := by
 have hf := set_f r.name s E hE
 rw [setT_tx r s E [] hR, List.nil_append] at hf
 have h := P.broadsheetlaw04_set.calls _ A c ((tx E).map mkB) (mkB r.name) (mkB s) _ w (by rw [List.length_map]; exact hs) (by rw [List.length_map]; exact hc) hf
 rw [List.length_map] at h
 refine h.mono ?_
 rintro e w' ⟨v, rfl, hRr, hb⟩
 obtain ⟨A', c', rfl, k, q, _⟩ := R_reads hRr (fun x cs h => h)
 rw [List.length_map] at k q
 exact ⟨A', c', by rw [List.length_map], k, q, hb⟩
end
theorem setD_len (r : RowM) (s : L) : ∀ E : List (RowM × L), (setD r s E).length ≤ E.length + 1
 | [] => by simp [setD]
 | q :: t => by
  unfold setD
  split
  ·simp
  ·split
   ·simp
   ·have := setD_len r s t
    simp only [List.length_cons]
    omega
end Go.Proofs.YtfpbpakgajddnaaGreatDoor.Pl
/- VvW -/
namespace Go.Proofs.YtfpbpakgajddnaaGreatDoor.Pl
open Go Go.RowKit Go.Maps Go.Proofs.YtfpbpakgajddnaaGreatDoorW.PrintWords Go.Proofs.YtfpbpakgajddnaaGreatDoorW.PrintLast Go.Proofs.YtfpbpakgajddnaaGreatDoorW.PrintMore
open Go.Proofs.YtfpbpakgajddnaaGreatDoor.O (Glob)
set_option linter.unusedVariables false
set_option linter.unusedSimpArgs false
theorem act_at {w : World} (x : BitV) {r1 r4 r5 : Int} {r6 : ByteArray} {ps : List (L × L)} {gs : List L} (hf : P.broadsheetlaw04_act.f 10 (x.what : Int) (x.a : Int) (x.b : Int) (x.n : Int) (x.m : Int) = some (r1, ps.map toB, gs.map mkB, r4, r5, r6)) :
  Calls Tryz.prog 18 #[.agg #[.int .u8 (x.what : Int), .int .u8 (x.a : Int), .int .u8 (x.b : Int), .int .u8 (x.n : Int), .int .u8 (x.m : Int)]] w fun e w' => ∃ A1 c1 A2 c2, e = .returned (.agg #[.int .i64 r1, .slice A1 (List.length ps) c1, .slice A2 (List.length gs) c2, .int .i64 r4, .int .i64 r5, .string r6]) ∧ Blobs w' A1 ps ∧ Strs w' A2 gs ∧ ps.length ≤ c1 ∧ gs.length ≤ c2 ∧ (∀ ad, A1 = some ad → w.heap.size ≤ ad.block ∧ ad.block < w'.heap.size) ∧ (∀ ad, A2 = some ad → w.heap.size ≤ ad.block ∧ ad.block < w'.heap.size) ∧ Below w.heap.size w w' := by
 refine (P.broadsheetlaw04_act.calls 10 _ _ _ _ _ r1 (ps.map toB) (gs.map mkB) r4 r5 r6 w hf).mono ?_
 rintro e w' ⟨v1, v2, rfl, hR1, hR2, hb⟩
 obtain ⟨A1, c1, rfl, k1, q1, l1⟩ := R_reads hR1 (fun x cs h => by obtain rfl := P.k28_openM h; exact P.k28_mk _ _)
 obtain ⟨A2, c2, rfl, k2, q2, l2⟩ := R_reads hR2 (fun x cs h => h)
 rw [List.length_map] at k1 q1
 rw [List.length_map] at k2 q2
 rw [List.length_map, List.length_map]
 exact ⟨A1, c1, A2, c2, rfl, q1, q2, k1, k2, l1, l2, hb⟩
theorem tx_at : ∀ {D : List (RowM × L)} {j : Nat} {p : RowM × L}, D[j]? = some p → (tx D)[2 * j]? = some p.1.name ∧ (tx D)[2 * j + 1]? = some p.2
 | q :: t, 0, p, h => by
  obtain rfl := Option.some.inj h
  exact ⟨rfl, rfl⟩
 | q :: t, j + 1, p, h => by
  have h1 := tx_at (D := t) (j := j) (p := p) (by simpa using h)
  have e : tx (q :: t) = q.1.name :: q.2 :: tx t := by simp [tx]
  rw [e, show 2 * (j + 1) = 2 * j + 1 + 1 by omega, show 2 * j + 1 + 1 + 1 = (2 * j + 1) + 1 + 1 by omega]
  exact h1
theorem step_two_lt {a i : Nat} (h : i < a) : a - ((i : Int) + 2).toNat < a - (i : Int).toNat := by omega
set_option maxRecDepth 100000 in
set_option maxHeartbeats 16000000 in
theorem whole_law_calls (A0 : Option Addr) (c0 : Nat) (l0 : List BitV) (y : BitV) (pw st by_ : Nat) (w : World) (r0 : BitVRow w A0 l0) (k0 : ∀ x ∈ l0, x.ok) (ky : y.ok) (hpw : pw < 256) (hst : st < 256) (hby : by_ < 256) (hG : Glob w) :
  Calls Tryz.prog 6 #[.slice A0 l0.length c0, .agg #[.int .u8 (y.what : Int), .int .u8 (y.a : Int), .int .u8 (y.b : Int), .int .u8 (y.n : Int), .int .u8 (y.m : Int)], .int .u8 (pw : Int), .int .u8 (st : Int), .int .u8 (by_ : Int)] w fun e w' => e = .returned (.bool true) ∧ Below w.heap.size w w' := by
 have R0 := Lib.hid r0
 have K0 := Lib.hid k0
 obtain ⟨r1, ps, gs, r4, r5, r6, hf, ho⟩ := act_f y.what y.a y.b y.n y.m ky.2.1 ky.2.2.1 ky.2.2.2.1 ky.2.2.2.2
 have HAY := Lib.hid (fun (W : World) => act_at (w := W) y hf)
 have HO := Lib.hid ho
 have hpl := ho.few
 have hgl := ho.gone
 have hba : Below w.heap.size w (w.alloc (.cells #[.int .u8 (y.what : Int), .int .u8 (y.a : Int), .int .u8 (y.b : Int), .int .u8 (y.n : Int), .int .u8 (y.m : Int)] 48 (0, 0))) := (Below.refl _ _).alloc (Nat.le_refl _) _
 have hbx : (w.alloc (.cells #[.int .u8 (y.what : Int), .int .u8 (y.a : Int), .int .u8 (y.b : Int), .int .u8 (y.n : Int), .int .u8 (y.m : Int)] 48 (0, 0))).heap[w.heap.size]? = some (.cells #[.int .u8 (y.what : Int), .int .u8 (y.a : Int), .int .u8 (y.b : Int), .int .u8 (y.n : Int), .int .u8 (y.m : Int)] 48 (0, 0)) := alloc_new w _
 have HBA := Lib.hid hba
 have HBX := Lib.hid hbx
 have HAW := Lib.hid (awake_law (hG.below hba))
 have HG := Lib.hid hG
 have HNW := Lib.hid (fun W => new_lp 100000 W zb25 zb25)
 have HOP := Lib.hid (fun (W : World) (bp : Nat) (H : Nat → Prop) (hb : Below w.heap.size w W) (h : LP W bp (fresh 100000) H) => by
  have := open_lp h (Good.fresh 100000 zb25 zb25) zb25 (hG.below hb) (by show (read (fresh 100000) manL).1.length ≤ 90000; decide)
  rw [first_open] at this
  exact this)
 clear hG r0 k0 hf ho hba hbx ky
 go_enter Tryz.func6, Tryz.ntmps6
 go_upto_block 0 with (first
  | (go_at_call 8; refine HAW.out.mono ?_; rintro e w0 ⟨rfl, hb0⟩; have HB0 := Lib.hid (HBA.out.trans (hb0.mono HBA.out.size)); have HX0 := Lib.hid ((hb0.block _ (blk_lt HBX.out)).trans HBX.out); have HG0 := Lib.hid (HG.out.below HB0.out); clear hb0)
  | (go_at_call 19; refine (HNW.out _).mono ?_; rintro e w1 ⟨bp, rfl, hb1, hp1⟩; have HB1 := Lib.hid hb1; have HP1 := Lib.hid hp1; clear hb1 hp1)
  | (go_at_call 20; refine (HOP.out _ _ _ (HB0.out.trans (HB1.out.mono HB0.out.size)) HP1.out).mono ?_; rintro e w2 ⟨pv, H2, rfl, hf2, vb, rfl, hv2⟩; have HB2 := Lib.hid (HB1.out.trans (hf2.below (b := w0.heap.size) HB1.out.size (fun j hj => hj))); have HL2 := Lib.hid (hf2.low (b := w0.heap.size) HB1.out.size (fun j hj => hj)); have HV2 := Lib.hid hv2; clear hf2 hv2)
  | go_in)
 go_cut [] from 29 (fun wc => ∃ (i n : Nat) (D : List (RowM × L)) (m : Mach) (H : Nat → Prop), i ≤ 12 ∧ HeldV i n D m ∧ m.power = -1 ∧ LV wc vb bp (vm n D) m H ∧ (∀ j, H j → w0.heap.size ≤ j) ∧ Below w0.heap.size w0 wc)
 case first =>
  go_step
  go_loopw [16, 17] (fun v16 _ wr => ∃ (i n : Nat) (D : List (RowM × L)) (m : Mach) (H : Nat → Prop), v16 = Value.int .i64 (i : Int) ∧ i ≤ 12 ∧ HeldV i n D m ∧ m.power = -1 ∧ LV wr vb bp (vm n D) m H ∧ (∀ j, H j → w0.heap.size ≤ j) ∧ Below w0.heap.size w0 wr)
   (fun v16 _ _ => 12 - (intOf v16).toNat)
  case atStart => exact ⟨0, 0, [], _, H2, rfl, by decide, HeldV.fresh 100000 zb25 zb25, rfl, HV2.out, HL2.out, HB2.out⟩
  case round =>
   obtain ⟨i, n, D, m, H, rfl, hi12, hh, hpow, hlv, hlow, hbw⟩ := hrel
   have HH := Lib.hid hh
   have HPW := Lib.hid hpow
   have HLV := Lib.hid hlv
   have HLO := Lib.hid hlow
   have HBW := Lib.hid hbw
   clear hh hpow hlv hlow hbw
   by_cases hgo : i < l0.length ∧ i < 12
   ·obtain ⟨hlt, hlt2⟩ := hgo
    have hdec : ((i : Int) < (l0.length : Int)) := by omega
    have hdec2 : ((i : Int) < 12) := by omega
    have hin : 0 ≤ (i : Int) ∧ (i : Int) < (l0.length : Int) := by omega
    obtain ⟨x, hx⟩ : ∃ x, l0[i]? = some x := ⟨_, List.getElem?_eq_getElem hlt⟩
    obtain ⟨ad, rfl, q0, q1, q2, q3, q4⟩ := (R0.out.below HB0.out).below (HBW.out.mono (Nat.le_refl _)) i x hx
    have HAC := Lib.hid (act_calls (w := wr) x (K0.out x (List.mem_of_getElem? hx)))
    clear hx
    go_wp2_with (first
     | (go_at_call 18; refine HAC.out.mono ?_; rintro e w3 ⟨A3, c3, A4, c4, ps, gs, x1, x4, x5, x6, rfl, ho, hp3, hs4, hc3, hc4, _, _, hb3⟩; have hal := (Below.refl w3.heap.size w3).alloc (Nat.le_refl _) (.cells #[.int .i64 x1, .slice A3 ps.length c3, .slice A4 gs.length c4, .int .i64 x4, .int .i64 x5, .string x6] 43 (0, 0)); have hb3a := hb3.trans (hal.mono hb3.size); have HCM := Lib.hid (act_round (c2 := c4) HH.out hi12 HPW.out (HLV.out.still hb3a) HLO.out (HBW.out.trans (hb3a.mono HBW.out.size)) HG0.out ho (Kd.C_below hp3 hal) (Kd.C_below hs4 hal) hc3); clear hal hb3a hb3 hp3 hs4 hc3 hc4 ho)
     | (go_at_call 21; refine HCM.out.mono ?_; rintro e w4 ⟨z4, n', D', m', H', rfl, f1, f2, f3, f4, f5⟩; have F1 := Lib.hid f1; have F2 := Lib.hid f2; have F3 := Lib.hid f3; have F4 := Lib.hid f4; have F5 := Lib.hid f5; clear f1 f2 f3 f4 f5)
     | go_in)
    go_roundw
    case rel => exact ⟨i + 1, n', D', m', H', by push_cast; rfl, by omega, F1.out, F2.out, F3.out, F4.out, F5.out⟩
    case measure =>
     show 12 - ((i : Int) + 1).toNat < 12 - (i : Int).toNat
     omega
   ·have hz' : ¬ ((i : Int) < (l0.length : Int)) ∨ (((i : Int) < (l0.length : Int)) ∧ ¬ ((i : Int) < 12)) := by omega
    clear hgo
    rcases hz' with hz1 | ⟨hz1, hz2⟩
    all_goals
     go_wp2
     go_meet
     case rel => exact ⟨i, n, D, m, H, hi12, HH.out, HPW.out, HLV.out, HLO.out, HBW.out⟩
 case rest =>
  obtain ⟨i, n, D, m, H, hi12, hh, hpow, hlv, hlow, hbw⟩ := hcut
  have HH := Lib.hid hh
  have HPW := Lib.hid hpow
  have HLV := Lib.hid hlv
  have HLO := Lib.hid hlow
  have HBW := Lib.hid hbw
  clear hh hpow hlv hlow hbw
  have hrs := HH.out.rest zb13
  have HKP := Lib.hid (kept_law HLV.out.tight hrs.fine hrs.safe hrs.rise hrs.good.inv (by have := hrs.len; omega))
  have HLT := Lib.hid HLV.out.tight
  obtain ⟨T, hT⟩ : ∃ T : Nat → Prop, T = fun j => H j ∧ j < wc.heap.size := ⟨_, rfl⟩
  rw [← hT] at HLT
  have TL := Lib.hid (show ∀ j, T j → w0.heap.size ≤ j from fun j hj => by rw [hT] at hj; exact HLO.out j hj.1)
  have TS := Lib.hid (show ∀ j, T j → j < wc.heap.size from fun j hj => by rw [hT] at hj; exact hj.2)
  have hwpw : wrap64 (pw : Int) = (pw : Int) := wrap_nat pw zb13
  have hwst : wrap64 (st : Int) = (st : Int) := wrap_nat st zb13
  have hwby : wrap64 (by_ : Int) = (by_ : Int) := wrap_nat by_ zb13
  have htpw : Int.tmod (pw : Int) 40 = (pw : Int) % 40 := Int.tmod_eq_emod_of_nonneg zb13
  have htst : Int.tmod (st : Int) 50 = (st : Int) % 50 := Int.tmod_eq_emod_of_nonneg zb13
  have htby : Int.tmod (by_ : Int) 50 = (by_ : Int) % 50 := Int.tmod_eq_emod_of_nonneg zb13
  have hwe := whole_end (gs := gs) HH.out hi12 hpl HO.out.short ((pw : Int) % 40) ((st : Int) % 50) ((by_ : Int) % 50) zb13
  obtain ⟨M1, hM1⟩ : ∃ M1, M1 = limit m ((pw : Int) % 40) := ⟨_, rfl⟩
  have hLM : ∀ (W : World), LV W vb bp (vm n D) m T → Calls Tryz.prog 23 #[.pointer (some ⟨bp, 0, none⟩), .int .i64 ((pw : Int) % 40)] W fun e w' => e = .returned (.tuple #[]) ∧ ∃ H', Fr T W H' w' ∧ LV w' vb bp (vm n D) M1 H' := fun W h => by rw [hM1]; exact limit_lv _ h
  rw [← hM1] at hwe
  obtain ⟨z, V2, M2, hcr⟩ : ∃ z V2 M2, commitR cdc (vm n D) ps gs M1 = (z, V2, M2) := ⟨_, _, _, rfl⟩
  rw [hcr] at hwe
  simp only at hwe
  obtain ⟨hg1, hg2, n', D', hrest, hcase⟩ := hwe
  obtain ⟨M3, hM3⟩ : ∃ M3, M3 = crash M2 ((st : Int) % 50) ((by_ : Int) % 50) := ⟨_, rfl⟩
  have hCS : ∀ (W : World) (G : Nat → Prop), LP W bp M2 G → Calls Tryz.prog 24 #[.pointer (some ⟨bp, 0, none⟩), .int .i64 ((st : Int) % 50), .int .i64 ((by_ : Int) % 50)] W fun e w' => e = .returned (.tuple #[]) ∧ ∃ H', LP w' bp M3 H' ∧ Fr G W H' w' := fun W G h => by rw [hM3]; exact crash_lp _ _ h hg2 zb13
  have hpw3 : M3.power = -1 := by rw [hM3]; exact crash_pw _ _
  rw [← hM3] at hrest
  have hCM : ∀ (W : World) (G : Nat → Prop) (A3 : Option Addr) (c3 : Nat) (A4 : Option Addr) (c4 : Nat), LV W vb bp (vm n D) M1 G → (∀ W2, Tch G W W2 → Glob W2) → Blobs W A3 ps → ps.length ≤ c3 → Strs W A4 gs → Calls Tryz.prog 21 #[.pointer (some ⟨vb, 0, none⟩), .slice A3 ps.length c3, .slice A4 gs.length c4] W fun e w' => e = .returned (.int .i64 z) ∧ ∃ H', Fr G W H' w' ∧ LP w' bp M2 H' := fun W G A3 c3 A4 c4 h hg hb hc hs => by
   have hbk := hrs.bulk
   refine (commit_lv (c1 := c3) (c2 := c4) h hrs.fine zb13 hb hs hc (fun b hb2 => by have := HO.out.short b hb2; omega) hg1 zb13 hg).mono ?_
   rw [hcr]
   rintro e w' ⟨he, H', h1, h2⟩
   exact ⟨he, H', h1, h2.plate⟩
  obtain ⟨M4, eo, so, go⟩ := hrest.open hpw3
  have hOP : ∀ (W : World) (G : Nat → Prop), Glob W → LP W bp M3 G → Calls Tryz.prog 20 #[.pointer (some ⟨bp, 0, none⟩)] W fun e w' => ∃ vb' H', e = .returned (.tuple #[.pointer (some ⟨vb', 0, none⟩), .int .i64 0]) ∧ Fr G W H' w' ∧ LV w' vb' bp (vm n' D') M4 H' := fun W G hg h => by
   have := open_lp h hrest.good zb13 hg hrest.man
   rw [eo] at this
   refine this.mono ?_
   rintro e w' ⟨pv, H', rfl, h1, vb', rfl, h2⟩
   exact ⟨vb', H', rfl, h1, h2⟩
  have hKN : ∀ (W : World) (vb2 : Nat) (G : Nat → Prop), LV W vb2 bp (vm n' D') M4 G → Calls Tryz.prog 22 #[.pointer (some ⟨vb2, 0, none⟩)] W fun e w' => ∃ v', e = .returned (.tuple #[v', .int .i64 (n' : Nat)]) ∧ OwnStrs w' W.heap.size v' (tx D') ∧ Below W.heap.size W w' := fun W vb2 G h => kept_law h hrest.fine so hrest.rise go.inv (by have := hrest.len; omega)
  have HLM := Lib.hid hLM
  have HCS := Lib.hid hCS
  have HCM := Lib.hid hCM
  have HOP2 := Lib.hid hOP
  have HKN := Lib.hid hKN
  have HLEN := Lib.hid hrs.len
  have HLEN2 := Lib.hid hrest.len
  have HRI := Lib.hid hrs.rise
  have HRI2 := Lib.hid hrest.rise
  have HFN := Lib.hid hrs.fine.num
  clear hLM hCS hCM hOP hKN hM1 hM3 hcr hpw3 eo so go hrs hrest hg1 hg2 hT
  have HGL := Lib.hid (fun (W : World) (b : Below w0.heap.size w0 W) => HG0.out.below b)
  rcases hcase with ⟨e1, e2, hzn⟩ | ⟨hn', hD'⟩
  ·subst e1
   subst e2
   have hz0 : (z != 0) = true := by simpa using hzn
   go_wp2_with (first
     | (go_at_call 22; refine (HKN.out _ _ _ V11.out).mono ?_; rintro e w12 ⟨v12, rfl, ho12, hb12⟩; obtain ⟨A12, c12, rfl, k12, s12, _⟩ := strs_where ho12; have HS12 := Lib.hid s12; have K12 := Lib.hid k12; have HB12 := Lib.hid hb12; have HB12W := Lib.hid (HB11W.out.trans (hb12.mono HB11W.out.size)); clear s12 k12 ho12 hb12)
     | (go_at_call 22; refine HKP.out.mono ?_; rintro e w5 ⟨v5, rfl, ho5, hb5⟩; obtain ⟨A5, c5, rfl, k5, s5, a5⟩ := strs_where ho5; have HS5 := Lib.hid s5; have HA5 := Lib.hid a5; have K5 := Lib.hid k5; have HB5 := Lib.hid hb5; have hx5 := (((HBW.out.trans (hb5.mono HBW.out.size)).block _ (blk_lt HX0.out)).trans HX0.out); have e0 := cell_at hx5 0; have e1 := cell_at hx5 1; have e2 := cell_at hx5 2; have e3 := cell_at hx5 3; have e4 := cell_at hx5 4; clear s5 a5 k5 ho5 hb5 hx5)
     | (go_at_call 18; refine (HAY.out _).mono ?_; rintro e w6 ⟨A3, c3, A4, c4, rfl, hp3, hs4, hc3, hc4, ha3, ha4, hb6⟩; have hal := (Below.refl w6.heap.size w6).alloc (Nat.le_refl _) (.cells #[.int .i64 r1, .slice A3 ps.length c3, .slice A4 gs.length c4, .int .i64 r4, .int .i64 r5, .string r6] 43 (0, 0)); have hs56 := HB5.out.size; have hs66 := hb6.size; have hs67 := hal.size; have HB7 := Lib.hid (HB5.out.trans ((hb6.trans (hal.mono hb6.size)).mono HB5.out.size)); have HB7W := Lib.hid (HBW.out.trans (HB7.out.mono HBW.out.size)); have HC3 := Lib.hid hc3; have HC4 := Lib.hid hc4; have HK := Lib.hid (fun (W : World) (t : Tch T (w6.alloc (.cells #[.int .i64 r1, .slice A3 ps.length c3, .slice A4 gs.length c4, .int .i64 r4, .int .i64 r5, .string r6] 43 (0, 0))) W) => (have fr : Fr T (w6.alloc (.cells #[.int .i64 r1, .slice A3 ps.length c3, .slice A4 gs.length c4, .int .i64 r4, .int .i64 r5, .string r6] 43 (0, 0))) (fun i => T i ∨ (w6.alloc (.cells #[.int .i64 r1, .slice A3 ps.length c3, .slice A4 gs.length c4, .int .i64 r4, .int .i64 r5, .string r6] 43 (0, 0))).heap.size ≤ i) W := ⟨t, fun i hi => hi⟩; And.intro (fr.strs (Kd.C_below HS5.out (hb6.trans (hal.mono hb6.size))) (fun ad e => ⟨fun h => by (have h1 := (HA5.out ad e).1; have h2 := TS.out _ h; omega), by (have h1 := (HA5.out ad e).2; omega)⟩)) (And.intro (t.keep (alloc_new w6 _) (fun h => by (have h2 := TS.out _ h; omega))) (And.intro (fr.blobs (Kd.C_below hp3 hal) (fun ad e => ⟨fun h => by (have h1 := (ha3 ad e).1; have h2 := TS.out _ h; omega), by (have h1 := (ha3 ad e).2; omega)⟩)) (fr.strs (Kd.C_below hs4 hal) (fun ad e => ⟨fun h => by (have h1 := (ha4 ad e).1; have h2 := TS.out _ h; omega), by (have h1 := (ha4 ad e).2; omega)⟩)))))); clear hal hs56 hs66 hs67 hp3 hs4 hc3 hc4 ha3 ha4 hb6 e0 e1 e2 e3 e4)
     | (go_at_call 23; refine (HLM.out _ (HLT.out.still HB7.out)).mono ?_; rintro e w8 ⟨rfl, H8, hf8, hv8⟩; have F8 := Lib.hid hf8; have V8 := Lib.hid hv8; have B8W := Lib.hid (HB7W.out.trans (hf8.below (b := w0.heap.size) HB7W.out.size TL.out)); have L8 := Lib.hid (hf8.low (b := w0.heap.size) HB7W.out.size TL.out); have k8 := (HK.out _ hf8.tch).2.1; have g81 := cell_at k8 1; have g82 := cell_at k8 2; clear hf8 hv8 k8)
     | (go_at_call 21; refine (HCM.out _ _ _ c3 _ c4 V8.out (fun W t => HGL.out W (B8W.out.trans (t.below B8W.out.size L8.out))) (HK.out _ F8.out.tch).2.2.1 HC3.out (HK.out _ F8.out.tch).2.2.2).mono ?_; rintro e w9 ⟨rfl, H9, hf9, hp9⟩; have F9 := Lib.hid (F8.out.trans hf9); have P9 := Lib.hid hp9; clear hf9 hp9)
     | (go_at_call 24; refine (HCS.out _ _ P9.out).mono ?_; rintro e w10 ⟨rfl, H10, hp10, hf10⟩; have F10 := Lib.hid (F9.out.trans hf10); have P10 := Lib.hid hp10; clear hf10 hp10)
     | (go_at_call 20; refine (HOP2.out _ _ (HGL.out _ (HB7W.out.trans (F10.out.below (b := w0.heap.size) HB7W.out.size TL.out))) P10.out).mono ?_; rintro e w11 ⟨vb11, H11, rfl, hf11, hv11⟩; have HFK := Lib.hid (F10.out.trans hf11); have V11 := Lib.hid hv11; have HB11W := Lib.hid (HB7W.out.trans ((F10.out.trans hf11).below (b := w0.heap.size) HB7W.out.size TL.out)); clear hf11 hv11)
     | (go_at_call 25; refine (sameV _ (by rw [tx_len]; have := HLEN.out; omega) (HK.out _ (HFK.out.tch.andBelow HB12.out)).1 K5.out HS12.out K12.out).mono ?_; rintro e w13 ⟨rfl, hb13⟩; have HE := Lib.hid ((HB12W.out.trans (hb13.mono HB12W.out.size))); clear hb13)
     | go_in)
   go_ret
   exact ⟨rfl, HB0.out.trans (HE.out.mono HB0.out.size)⟩
  ·have hne : ¬ ((n' : Int) = (n : Int)) := by omega
   have hsum : (n : Int) + 1 = (n' : Int) := by omega
   have hwn : wrap64 (n' : Int) = (n' : Int) := wrap_nat n' (by have := HFN.out; simp only [vm] at this; omega)
   have HD' := Lib.hid hD'
   have HNN := Lib.hid hn'
   clear hn' hD'
   go_upto_region 26 with (first
     | (go_at_call 22; refine (HKN.out _ _ _ V11.out).mono ?_; rintro e w12 ⟨v12, rfl, ho12, hb12⟩; obtain ⟨A12, c12, rfl, k12, s12, _⟩ := strs_where ho12; have HS12 := Lib.hid s12; have K12 := Lib.hid k12; have HB12 := Lib.hid hb12; have HB12W := Lib.hid (HB11W.out.trans (hb12.mono HB11W.out.size)); clear s12 k12 ho12 hb12)
     | (go_at_call 22; refine HKP.out.mono ?_; rintro e w5 ⟨v5, rfl, ho5, hb5⟩; obtain ⟨A5, c5, rfl, k5, s5, a5⟩ := strs_where ho5; have HS5 := Lib.hid s5; have HA5 := Lib.hid a5; have K5 := Lib.hid k5; have HB5 := Lib.hid hb5; have hx5 := (((HBW.out.trans (hb5.mono HBW.out.size)).block _ (blk_lt HX0.out)).trans HX0.out); have e0 := cell_at hx5 0; have e1 := cell_at hx5 1; have e2 := cell_at hx5 2; have e3 := cell_at hx5 3; have e4 := cell_at hx5 4; clear s5 a5 k5 ho5 hb5 hx5)
     | (go_at_call 18; refine (HAY.out _).mono ?_; rintro e w6 ⟨A3, c3, A4, c4, rfl, hp3, hs4, hc3, hc4, ha3, ha4, hb6⟩; have hal := (Below.refl w6.heap.size w6).alloc (Nat.le_refl _) (.cells #[.int .i64 r1, .slice A3 ps.length c3, .slice A4 gs.length c4, .int .i64 r4, .int .i64 r5, .string r6] 43 (0, 0)); have hs56 := HB5.out.size; have hs66 := hb6.size; have hs67 := hal.size; have HB7 := Lib.hid (HB5.out.trans ((hb6.trans (hal.mono hb6.size)).mono HB5.out.size)); have HB7W := Lib.hid (HBW.out.trans (HB7.out.mono HBW.out.size)); have HC3 := Lib.hid hc3; have HC4 := Lib.hid hc4; have HK := Lib.hid (fun (W : World) (t : Tch T (w6.alloc (.cells #[.int .i64 r1, .slice A3 ps.length c3, .slice A4 gs.length c4, .int .i64 r4, .int .i64 r5, .string r6] 43 (0, 0))) W) => (have fr : Fr T (w6.alloc (.cells #[.int .i64 r1, .slice A3 ps.length c3, .slice A4 gs.length c4, .int .i64 r4, .int .i64 r5, .string r6] 43 (0, 0))) (fun i => T i ∨ (w6.alloc (.cells #[.int .i64 r1, .slice A3 ps.length c3, .slice A4 gs.length c4, .int .i64 r4, .int .i64 r5, .string r6] 43 (0, 0))).heap.size ≤ i) W := ⟨t, fun i hi => hi⟩; And.intro (fr.strs (Kd.C_below HS5.out (hb6.trans (hal.mono hb6.size))) (fun ad e => ⟨fun h => by (have h1 := (HA5.out ad e).1; have h2 := TS.out _ h; omega), by (have h1 := (HA5.out ad e).2; omega)⟩)) (And.intro (t.keep (alloc_new w6 _) (fun h => by (have h2 := TS.out _ h; omega))) (And.intro (fr.blobs (Kd.C_below hp3 hal) (fun ad e => ⟨fun h => by (have h1 := (ha3 ad e).1; have h2 := TS.out _ h; omega), by (have h1 := (ha3 ad e).2; omega)⟩)) (fr.strs (Kd.C_below hs4 hal) (fun ad e => ⟨fun h => by (have h1 := (ha4 ad e).1; have h2 := TS.out _ h; omega), by (have h1 := (ha4 ad e).2; omega)⟩)))))); clear hal hs56 hs66 hs67 hp3 hs4 hc3 hc4 ha3 ha4 hb6 e0 e1 e2 e3 e4)
     | (go_at_call 23; refine (HLM.out _ (HLT.out.still HB7.out)).mono ?_; rintro e w8 ⟨rfl, H8, hf8, hv8⟩; have F8 := Lib.hid hf8; have V8 := Lib.hid hv8; have B8W := Lib.hid (HB7W.out.trans (hf8.below (b := w0.heap.size) HB7W.out.size TL.out)); have L8 := Lib.hid (hf8.low (b := w0.heap.size) HB7W.out.size TL.out); have k8 := (HK.out _ hf8.tch).2.1; have g81 := cell_at k8 1; have g82 := cell_at k8 2; clear hf8 hv8 k8)
     | (go_at_call 21; refine (HCM.out _ _ _ c3 _ c4 V8.out (fun W t => HGL.out W (B8W.out.trans (t.below B8W.out.size L8.out))) (HK.out _ F8.out.tch).2.2.1 HC3.out (HK.out _ F8.out.tch).2.2.2).mono ?_; rintro e w9 ⟨rfl, H9, hf9, hp9⟩; have F9 := Lib.hid (F8.out.trans hf9); have P9 := Lib.hid hp9; clear hf9 hp9)
     | (go_at_call 24; refine (HCS.out _ _ P9.out).mono ?_; rintro e w10 ⟨rfl, H10, hp10, hf10⟩; have F10 := Lib.hid (F9.out.trans hf10); have P10 := Lib.hid hp10; clear hf10 hp10)
     | (go_at_call 20; refine (HOP2.out _ _ (HGL.out _ (HB7W.out.trans (F10.out.below (b := w0.heap.size) HB7W.out.size TL.out))) P10.out).mono ?_; rintro e w11 ⟨vb11, H11, rfl, hf11, hv11⟩; have HFK := Lib.hid (F10.out.trans hf11); have V11 := Lib.hid hv11; have HB11W := Lib.hid (HB7W.out.trans ((F10.out.trans hf11).below (b := w0.heap.size) HB7W.out.size TL.out)); clear hf11 hv11)
     | go_in)
   go_cut [26] from 29 (fun v26 wc2 => v26 = Value.slice none 0 0 ∧ w12 = wc2)
   case first =>
    go_wp2
    go_meet
    case rel => exact ⟨rfl, rfl⟩
   case rest =>
    obtain ⟨rfl, hw12⟩ := hcut
    subst hw12
    go_wp2
    have HNX := Lib.hid (And.intro hne (And.intro hsum hwn))
    clear htpw htst htby hwpw hwst hwby hne hsum hwn
    go_loopw [26, 27] (fun v26 v27 wl => ∃ (j i : Nat) (A : Option Addr) (c : Nat), v27 = Value.int .i64 (i : Int) ∧ i = 2 * j ∧ j ≤ D.length ∧ v26 = Value.slice A (tx ((D.take j).filter fun p => !gs.contains p.1.name)).length c ∧ (tx ((D.take j).filter fun p => !gs.contains p.1.name)).length ≤ c ∧ Strs wl A (tx ((D.take j).filter fun p => !gs.contains p.1.name)) ∧ Below w12.heap.size w12 wl)
     (fun _ v27 _ => (tx D).length - (intOf v27).toNat)
    case atStart => exact ⟨0, 0, none, 0, rfl, rfl, Nat.zero_le _, rfl, Nat.zero_le _, strs_nil _, Below.refl _ _⟩
    case round =>
     obtain ⟨j, i, A14, c14, rfl, hij, hjl, rfl, hca, hsa, hbl⟩ := hrel
     have htl : (tx D).length = 2 * D.length := tx_len D
     have HKW := Lib.hid (HK.out wr (HFK.out.tch.andBelow (HB12.out.trans (hbl.mono HB12.out.size))))
     have hlen := HLEN.out
     have hib : i ≤ 10000 := by omega
     have HBL := Lib.hid hbl
     have HIJ := Lib.hid hij
     by_cases hlt : j < D.length
     ·obtain ⟨p, hp⟩ : ∃ p, D[j]? = some p := ⟨_, List.getElem?_eq_getElem hlt⟩
      obtain ⟨t1, t2⟩ := tx_at hp
      rw [← hij] at t1 t2
      obtain ⟨i1, hi1⟩ : ∃ i1, i1 = i + 1 := ⟨_, rfl⟩
      rw [← hi1] at t2
      obtain ⟨ad, hA5, x1⟩ := str_at HKW.out.1 t1
      obtain ⟨ad', hA5', x2⟩ := str_at HKW.out.1 t2
      obtain rfl : ad = ad' := Option.some.inj (hA5.symm.trans hA5')
      have hdec : ((i : Int) < ((tx D).length : Int)) := by omega
      have hin : 0 ≤ (i : Int) ∧ (i : Int) < ((tx D).length : Int) := by omega
      have hin1 : 0 ≤ (i1 : Int) ∧ (i1 : Int) < ((tx D).length : Int) := by omega
      have hs1 : (i : Int) + 1 = (i1 : Int) := by omega
      have hi1b : i1 ≤ 9223372036854775807 := by omega
      have HSR := Lib.hid (set_round HRI.out (fun p => !gs.contains p.1.name) hp)
      have hRE := rising_sub HRI.out (fun p => !gs.contains p.1.name) j
      have hEL : ((D.take j).filter fun p => !gs.contains p.1.name).length ≤ 5000 := Nat.le_trans (List.length_filter_le _ _) (Nat.le_trans (List.length_take_le _ _) zb13)
      obtain ⟨E, hE⟩ : ∃ E, E = (D.take j).filter fun p => !gs.contains p.1.name := ⟨_, rfl⟩
      rw [← hE] at hsa hca HSR hRE hEL ⊢
      have HCE := Lib.hid (fun (W : World) (b : Below wr.heap.size wr W) => (show W.cell? (ad.add i) = some (.string (mkB p.1.name)) ∧ W.cell? (ad.add i1) = some (.string (mkB p.2)) ∧ W.cell? ⟨w6.heap.size, 0, none⟩ = some (.int .i64 r1) ∧ W.cell? ⟨w6.heap.size, 1, none⟩ = some (.slice A3 ps.length c3) ∧ W.cell? ⟨w6.heap.size, 2, none⟩ = some (.slice A4 gs.length c4) ∧ W.cell? ⟨w6.heap.size, 3, none⟩ = some (.int .i64 r4) ∧ W.cell? ⟨w6.heap.size, 4, none⟩ = some (.int .i64 r5) ∧ W.cell? ⟨w6.heap.size, 5, none⟩ = some (.string r6) from ⟨cell_bel b x1, cell_bel b x2, cell_bel b (cell_at HKW.out.2.1 0), cell_bel b (cell_at HKW.out.2.1 1), cell_bel b (cell_at HKW.out.2.1 2), cell_bel b (cell_at HKW.out.2.1 3), cell_bel b (cell_at HKW.out.2.1 4), cell_bel b (cell_at HKW.out.2.1 5)⟩))
      have HGN := Lib.hid (fun (W : World) (b : Below wr.heap.size wr W) => gone_calls p.1.name r1 r4 r5 r6 (Kd.C_below HKW.out.2.2.1 b) HC3.out (Kd.C_below HKW.out.2.2.2 b) HC4.out zb13)
      obtain ⟨qg, hgc⟩ : ∃ q, q = gs.contains p.1.name := ⟨_, rfl⟩
      rw [← hgc] at HGN
      have HGC := Lib.hid hgc
      clear hgc
      have HST := Lib.hid (fun (W : World) (b : Below wr.heap.size wr W) => set_calls p.1 p.2 hRE (Kd.C_below hsa b) hca zb13)
      have HSA := Lib.hid hsa
      have HCA := Lib.hid hca
      have HM := Lib.hid (step_two_lt (a := (tx D).length) (i := i) zb13)
      have HW1 := Lib.hid (wrap_nat i1 hi1b)
      clear htl hi1b
      clear hE hRE hEL hsa hca hbl hp t1 t2 x1 x2 hij hi1 hA5'
      subst hA5
      go_wp2
      refine start_ (n := 7) (S := fun w' => Below wr.heap.size wr w') (ds := []) #[false, false, false, false, false, false, false] zb10 rfl rfl ((Below.refl _ _).drew) (fun hHeld => ?_)
      refine tak_ 0 (some 131) rfl rfl hHeld (fun w' hs => by (have cs0 : w'.cell? ⟨w6.heap.size, 0, none⟩ = some (.int .i64 r1) := (HCE.out _ (show Below wr.heap.size wr w' from hs)).2.2.1; have cs1 : w'.cell? ⟨w6.heap.size, 1, none⟩ = some (.slice A3 ps.length c3) := (HCE.out _ (show Below wr.heap.size wr w' from hs)).2.2.2.1; have cs2 : w'.cell? ⟨w6.heap.size, 2, none⟩ = some (.slice A4 gs.length c4) := (HCE.out _ (show Below wr.heap.size wr w' from hs)).2.2.2.2.1; have cs3 : w'.cell? ⟨w6.heap.size, 3, none⟩ = some (.int .i64 r4) := (HCE.out _ (show Below wr.heap.size wr w' from hs)).2.2.2.2.2.1; have cs4 : w'.cell? ⟨w6.heap.size, 4, none⟩ = some (.int .i64 r5) := (HCE.out _ (show Below wr.heap.size wr w' from hs)).2.2.2.2.2.2.1; have cs5 : w'.cell? ⟨w6.heap.size, 5, none⟩ = some (.string r6) := (HCE.out _ (show Below wr.heap.size wr w' from hs)).2.2.2.2.2.2.2; go_simp; first | with_reducible rfl | rfl)) ?_
      refine pur_ 1 (some 132) rfl rfl ?_
      refine pur_ 2 (some 133) rfl rfl ?_
      refine pur_ 3 (some 134) rfl rfl ?_
      refine tak_ 4 (some 135) rfl rfl hHeld (fun w' hs => by (have cs : w'.cell? (ad.add i) = some (.string (mkB p.1.name)) := (HCE.out _ (show Below wr.heap.size wr w' from hs)).1; go_simp; first | with_reducible rfl | rfl)) ?_
      refine on_ 5 (some 136) rfl rfl (fun K hK => ?_)
      refine goes_ Tryz.func26 zb10 rfl #[.agg #[.int .i64 r1, .slice A3 ps.length c3, .slice A4 gs.length c4, .int .i64 r4, .int .i64 r5, .string r6], .string (mkB p.1.name)] (by rfl) rfl rfl zb17 ?_
      refine (HGN.out _ hHeld).mono ?_
      rintro e w14 ⟨rfl, hb14⟩
      have HB14 := Lib.hid (hHeld.trans (hb14.mono hHeld.size))
      clear hb14
      refine ⟨_, rfl, ?_⟩
      refine hK.out _ _ (HB14.out) (fun hHeld => ?_)
      clear hK K
      refine norm_ (a' := ?_) ?_ ?_
      rotate_left
      ·show Act.put _ (some 136) _ = _
       simp only [Act.put, List.setIfInBounds_toArray, List.set_cons_zero, List.set_cons_succ, i64_w, i32_w]
       rfl
      refine pur_ 6 (some 137) rfl rfl ?_
      refine done_ zb10 ?_
      cases qg with
      | true =>
       have HSX := Lib.hid (HSR.out.trans (if_neg (by rw [← HGC.out]; decide)))
       go_wp2
       go_roundw
       case rel => exact ⟨j + 1, i + 2, A14, c14, by push_cast; rfl, by have := HIJ.out; omega, by omega, by rw [HSX.out], by rw [HSX.out]; exact HCA.out, by rw [HSX.out]; exact Kd.C_below HSA.out HB14.out, HBL.out.trans (HB14.out.mono HBL.out.size)⟩
       case measure => exact HM.out
      | false =>
       have HSX := Lib.hid (HSR.out.trans (if_pos (by rw [← HGC.out]; rfl)))
       have hw1 := HW1.out
       go_wp2
       refine start_ (n := 12) (S := fun w' => Below wr.heap.size wr w') (ds := []) #[false, false, false, false, false, false, false, false, false, false, false, false] zb10 rfl rfl (HB14.out.drew) (fun hHeld => ?_)
       refine pur_ 0 (some 138) rfl rfl ?_
       refine pur_ 1 (some 139) rfl rfl ?_
       refine pur_ 2 (some 140) rfl rfl ?_
       refine pur_ 3 (some 141) rfl rfl ?_
       refine tak_ 4 (some 142) rfl rfl hHeld (fun w' hs => by (have cs : w'.cell? (ad.add i) = some (.string (mkB p.1.name)) := (HCE.out _ (show Below wr.heap.size wr w' from hs)).1; go_simp; first | with_reducible rfl | rfl)) ?_
       refine pur_ 5 (some 143) rfl rfl ?_
       refine pur_ 6 (some 144) rfl rfl ?_
       refine pur_ 7 (some 145) rfl rfl ?_
       refine pur_ 8 (some 146) rfl rfl ?_
       refine tak_ 9 (some 147) rfl rfl hHeld (fun w' hs => by (have cs : w'.cell? (ad.add i1) = some (.string (mkB p.2)) := (HCE.out _ (show Below wr.heap.size wr w' from hs)).2.1; go_simp; first | with_reducible rfl | rfl)) ?_
       refine on_ 10 (some 148) rfl rfl (fun K hK => ?_)
       refine goes_ Tryz.func27 zb10 rfl #[.slice A14 (tx E).length c14, .string (mkB p.1.name), .string (mkB p.2)] (by rfl) rfl rfl zb17 ?_
       refine (HST.out _ hHeld).mono ?_
       rintro e w15 ⟨A15, c15, rfl, k15, s15, hb15⟩
       have HB15 := Lib.hid (hHeld.trans (hb15.mono hHeld.size))
       have K15 := Lib.hid k15
       have S15 := Lib.hid s15
       clear hb15 k15 s15
       refine ⟨_, rfl, ?_⟩
       refine hK.out _ _ (HB15.out) (fun hHeld => ?_)
       clear hK K
       refine norm_ (a' := ?_) ?_ ?_
       rotate_left
       ·show Act.put _ (some 148) _ = _
        simp only [Act.put, List.setIfInBounds_toArray, List.set_cons_zero, List.set_cons_succ, i64_w, i32_w]
        rfl
       refine pur_ 11 (some 26) rfl rfl ?_
       refine done_ zb10 ?_
       clear hw1
       go_wp2
       go_roundw
       case rel => exact ⟨j + 1, i + 2, A15, c15, by push_cast; rfl, by have := HIJ.out; omega, by omega, by rw [HSX.out], by rw [HSX.out]; exact K15.out, by rw [HSX.out]; exact S15.out, HBL.out.trans (HB15.out.mono HBL.out.size)⟩
       case measure => exact HM.out
     ·have hdec : ¬ ((i : Int) < ((tx D).length : Int)) := by omega
      have hje : j = D.length := by omega
      clear htl
      subst hje
      rw [List.take_length] at hca hsa ⊢
      obtain ⟨E0, hE0⟩ : ∃ E0, E0 = D.filter fun p => !gs.contains p.1.name := ⟨_, rfl⟩
      have hD0 : putD cdc (n + 1) 0 ps E0 = D' := by rw [hE0, HD'.out]; rfl
      have hR0 : Rising E0 := by rw [hE0]; exact List.Pairwise.filter _ HRI.out
      have hl0 : E0.length ≤ 5000 := by rw [hE0]; exact Nat.le_trans (List.length_filter_le _ _) zb13
      rw [← hE0] at hca hsa ⊢
      have HSA := Lib.hid hsa
      have HCA := Lib.hid hca
      have HD0 := Lib.hid hD0
      have HR0 := Lib.hid hR0
      have HL0 := Lib.hid hl0
      clear hE0 hsa hca hD0 hR0 hl0 hij hbl HIJ hlt hjl
      go_wp2
      go_loopw [26, 28] (fun v26 v28 wl => ∃ (i : Nat) (E : List (RowM × L)) (A : Option Addr) (c : Nat), v28 = Value.int .i64 (i : Int) ∧ i ≤ ps.length ∧ v26 = Value.slice A (tx E).length c ∧ (tx E).length ≤ c ∧ Strs wl A (tx E) ∧ Rising E ∧ E.length ≤ 5000 + i ∧ putD cdc (n + 1) i (ps.drop i) E = D' ∧ Below w12.heap.size w12 wl)
       (fun _ v28 _ => ps.length - (intOf v28).toNat)
      case atStart => exact ⟨0, E0, A14, c14, rfl, Nat.zero_le _, rfl, HCA.out, HSA.out, HR0.out, by have := HL0.out; omega, HD0.out, HBL.out⟩
      case round =>
       clear HSA HCA HBL HKW
       obtain ⟨i, E, A14, c14, rfl, hil, rfl, hca, hsa, hRE, hEL, hput, hbl⟩ := hrel
       have HKW := Lib.hid (HK.out wr (HFK.out.tch.andBelow (HB12.out.trans (hbl.mono HB12.out.size))))
       have HBL := Lib.hid hbl
       have d1 : wr.cell? ⟨w6.heap.size, 1, none⟩ = some (.slice A3 ps.length c3) := cell_at HKW.out.2.1 1
       by_cases hlt : i < ps.length
       ·have hdec : ((i : Int) < (ps.length : Int)) := by omega
        have hin : 0 ≤ (i : Int) ∧ (i : Int) < (ps.length : Int) := by omega
        obtain ⟨b, hb⟩ : ∃ b, ps[i]? = some b := ⟨_, List.getElem?_eq_getElem hlt⟩
        obtain ⟨ad3, hA3, z1, z2⟩ := blob_at HKW.out.2.2.1 hb
        have hdr : ps.drop i = b :: ps.drop (i + 1) := by
         obtain ⟨h1, h2⟩ := List.getElem?_eq_some_iff.1 hb
         rw [List.drop_eq_getElem_cons h1, h2]
        rw [hdr] at hput
        have HPU := Lib.hid (show putD cdc (n + 1) (i + 1) (ps.drop (i + 1)) (setD ⟨b.1, cdc.name (n + 1) i, b.2.length, cdc.sum b.2⟩ b.2 E) = D' from hput)
        have HRS := Lib.hid (rising_setD (r := ⟨b.1, cdc.name (n + 1) i, b.2.length, cdc.sum b.2⟩) (s := b.2) hRE)
        have HSL := Lib.hid (setD_len ⟨b.1, cdc.name (n + 1) i, b.2.length, cdc.sum b.2⟩ b.2 E)
        have HST := Lib.hid (fun (W : World) (q : Below wr.heap.size wr W) => set_calls ⟨b.1, cdc.name (n + 1) i, b.2.length, cdc.sum b.2⟩ b.2 hRE (Kd.C_below hsa q) hca zb13)
        have HEL := Lib.hid hEL
        subst hA3
        have HCE := Lib.hid (fun (W : World) (q : Below wr.heap.size wr W) => (show W.cell? ⟨w6.heap.size, 1, none⟩ = some (.slice (some ad3) ps.length c3) ∧ W.cell? (ad3.add (i * 2)) = some (.string (mkB b.1)) ∧ W.cell? ⟨(ad3.add (i * 2)).block, (ad3.add (i * 2)).off + 1, none⟩ = some (.string (mkB b.2)) from ⟨cell_bel q d1, cell_bel q z1, cell_bel q z2⟩))
        clear hbl hsa hca hRE hEL hput hdr hb z1 z2
        go_wp2
        refine start_ (n := 15) (S := fun w' => Below wr.heap.size wr w') (ds := []) #[false, false, false, false, false, false, false, false, false, false, false, false, false, false, false] zb10 rfl rfl ((Below.refl _ _).drew) (fun hHeld => ?_)
        refine pur_ 0 (some 156) rfl rfl ?_
        refine pur_ 1 (some 157) rfl rfl ?_
        refine tak_ 2 (some 158) rfl rfl hHeld (fun w' hs => by (have cs : w'.cell? ⟨w6.heap.size, 1, none⟩ = some (.slice (some ad3) ps.length c3) := (HCE.out _ (show Below wr.heap.size wr w' from hs)).1; go_simp; first | with_reducible rfl | rfl)) ?_
        refine pur_ 3 (some 159) rfl rfl ?_
        refine pur_ 4 (some 160) rfl rfl ?_
        refine pur_ 5 (some 161) rfl rfl ?_
        refine tak_ 6 (some 162) rfl rfl hHeld (fun w' hs => by (have cs : w'.cell? (ad3.add (i * 2)) = some (.string (mkB b.1)) := (HCE.out _ (show Below wr.heap.size wr w' from hs)).2.1; go_simp; first | with_reducible rfl | rfl)) ?_
        refine pur_ 7 (some 163) rfl rfl ?_
        refine tak_ 8 (some 164) rfl rfl hHeld (fun w' hs => by (have cs : w'.cell? ⟨w6.heap.size, 1, none⟩ = some (.slice (some ad3) ps.length c3) := (HCE.out _ (show Below wr.heap.size wr w' from hs)).1; go_simp; first | with_reducible rfl | rfl)) ?_
        refine pur_ 9 (some 165) rfl rfl ?_
        refine pur_ 10 (some 166) rfl rfl ?_
        refine pur_ 11 (some 167) rfl rfl ?_
        refine tak_ 12 (some 168) rfl rfl hHeld (fun w' hs => by (have cs : w'.cell? ⟨(ad3.add (i * 2)).block, (ad3.add (i * 2)).off + 1, none⟩ = some (.string (mkB b.2)) := (HCE.out _ (show Below wr.heap.size wr w' from hs)).2.2; go_simp; first | with_reducible rfl | rfl)) ?_
        refine on_ 13 (some 169) rfl rfl (fun K hK => ?_)
        refine goes_ Tryz.func27 zb10 rfl #[.slice A14 (tx E).length c14, .string (mkB b.1), .string (mkB b.2)] (by rfl) rfl rfl zb17 ?_
        refine (HST.out _ hHeld).mono ?_
        rintro e w15 ⟨A15, c15, rfl, k15, s15, hb15⟩
        have HB15 := Lib.hid (hHeld.trans (hb15.mono hHeld.size))
        have K15 := Lib.hid k15
        have S15 := Lib.hid s15
        clear hb15 k15 s15
        refine ⟨_, rfl, ?_⟩
        refine hK.out _ _ (HB15.out) (fun hHeld => ?_)
        clear hK K
        refine norm_ (a' := ?_) ?_ ?_
        rotate_left
        ·show Act.put _ (some 169) _ = _
         simp only [Act.put, List.setIfInBounds_toArray, List.set_cons_zero, List.set_cons_succ, i64_w, i32_w]
         rfl
        refine pur_ 14 (some 26) rfl rfl ?_
        refine done_ zb10 ?_
        go_wp2
        go_roundw
        case rel => exact ⟨i + 1, _, A15, c15, by push_cast; rfl, by omega, rfl, K15.out, S15.out, HRS.out, by have h1 := HSL.out; have h2 := HEL.out; omega, HPU.out, HBL.out.trans (HB15.out.mono HBL.out.size)⟩
        case measure =>
         show ps.length - ((i : Int) + 1).toNat < ps.length - (i : Int).toNat
         omega
       ·have hdec : ¬ ((i : Int) < (ps.length : Int)) := by omega
        have hie : i = ps.length := by omega
        have hED : E = D' := by
         rw [hie, List.drop_length] at hput
         exact hput
        subst hED
        have HSM := Lib.hid (sameV (tx E) (by rw [tx_len]; omega) (Kd.C_below hsa (Below.refl _ _)) hca (Kd.C_below HS12.out hbl) K12.out)
        clear hie hput hsa hRE hEL hbl
        obtain ⟨hne, hsum, hwn⟩ := HNX.out
        go_wp2_with (first
         | (go_at_call 25; refine HSM.out.mono ?_; rintro e w16 ⟨rfl, hb16⟩; have HE := Lib.hid (HB12W.out.trans ((HBL.out.trans (hb16.mono HBL.out.size)).mono HB12W.out.size)); clear hb16)
         | go_in)
        go_ret
        exact ⟨rfl, HB0.out.trans (HE.out.mono HB0.out.size)⟩
end Go.Proofs.YtfpbpakgajddnaaGreatDoor.Pl
/- CvA -/
namespace Go.Proofs.YtfpbpakgajddnaaGreatDoor.Pl
open Go Go.RowKit Go.Maps Go.Proofs.YtfpbpakgajddnaaGreatDoorW.PrintWords Go.ChangeShapes Go.WideShapes Go.Deep
set_option linter.unusedVariables false
set_option linter.unusedSimpArgs false
theorem u8_natV {n : Int} (h : (Lit.int .u8 n).wf = true) : ∃ k : Nat, k < 256 ∧ n = (k : Int) := by
 have h1 : IntKind.u8.min ≤ n ∧ n ≤ IntKind.u8.max := by simpa [Lit.wf] using h
 have m1 : IntKind.u8.min = 0 := by decide
 have m2 : IntKind.u8.max = 255 := by decide
 rw [m1, m2] at h1
 exact ⟨n.toNat, by omega, by omega⟩
set_option maxRecDepth 100000 in
/-- Five cells of an act. -/
theorem bit_cells {H : Type} {enc : TypeId × Value → H} {W : World} {fuel : Nat} {cs : List Value} {x : DataW H × List MemPlace} (h : DataW.trod enc Tryz.prog W 0 (fun _ => true) true fuel 48 cs = some x) (hl : cs.length = 5) :
  ∃ b : BitV, b.ok ∧ cs = b.cells := by
 have hc1 : Tryz.prog.cellsOf 5 = 1 := by kernel_rfl
 obtain ⟨xs, k, hk, hxy, _, hxl, hfld⟩ := DataW.trod_struct Tryz.underlying48 h
 match xs, hxl, cs, hl with
 | [y0, y1, y2, y3, y4], _, [v0, v1, v2, v3, v4], _ =>
  have g0 := hfld 0 _ rfl
  have g1 := hfld 1 _ rfl
  have g2 := hfld 2 _ rfl
  have g3 := hfld 3 _ rfl
  have g4 := hfld 4 _ rfl
  simp [hc1] at g0 g1 g2 g3 g4
  obtain ⟨n0, e0, _, w0⟩ := DataW.trod_int Tryz.underlying5 g0
  obtain ⟨n1, e1, _, w1⟩ := DataW.trod_int Tryz.underlying5 g1
  obtain ⟨n2, e2, _, w2⟩ := DataW.trod_int Tryz.underlying5 g2
  obtain ⟨n3, e3, _, w3⟩ := DataW.trod_int Tryz.underlying5 g3
  obtain ⟨n4, e4, _, w4⟩ := DataW.trod_int Tryz.underlying5 g4
  obtain ⟨k0, l0, rfl⟩ := u8_natV w0
  obtain ⟨k1, l1, rfl⟩ := u8_natV w1
  obtain ⟨k2, l2, rfl⟩ := u8_natV w2
  obtain ⟨k3, l3, rfl⟩ := u8_natV w3
  obtain ⟨k4, l4, rfl⟩ := u8_natV w4
  simp at e0 e1 e2 e3 e4
  refine ⟨⟨k0, k1, k2, k3, k4⟩, ⟨l0, l1, l2, l3, l4⟩, ?_⟩
  subst e0 e1 e2 e3 e4
  rfl
set_option maxRecDepth 100000 in
theorem bits_openV {H : Type} {enc : TypeId × Value → H} {W : World} {v : Value} {d : DataW H} {p : List MemPlace} (h : DataW.Trod enc Tryz.prog W 0 (fun _ => true) true 45 v d p) (hv : ∃ a len cap, v = .slice a len cap) :
  ∃ A c l, v = .slice A l.length c ∧ l.length ≤ c ∧ BitVRow W A l ∧ ∀ x ∈ l, BitV.ok x := by
 obtain ⟨a, len, cap, rfl⟩ := hv
 obtain ⟨fuel, hf⟩ := h
 rcases open_slice Tryz.underlying45 hf with ⟨hcs, _⟩ | ⟨a', len', cap', m, n, D, Pl, hcs, _, hl, hm, hmm, hx, hi⟩
 ·simp [Value.cells] at hcs
  obtain ⟨rfl, rfl, rfl⟩ := hcs
  exact ⟨none, 0, [], rfl, Nat.le_refl _, fun i x hx => by simp at hx, fun x hx => by simp at hx⟩
 ·simp [Value.cells] at hcs
  obtain ⟨rfl, rfl, rfl⟩ := hcs
  have hlm : len ≤ m := by rw [hmm]; split <;> omega
  have hc5 : Tryz.prog.cellsOf 48 = 5 := by kernel_rfl
  have key : ∀ i, ∃ x : BitV, i < len → x.ok ∧ ∀ j u, x.cells[j]? = some u → W.cell? (a'.add (i * 5 + j)) = some u := by
   intro i
   by_cases hil : i < len
   ·obtain ⟨cs', h1, h2⟩ := hi i zb13
    rw [hc5] at h1
    obtain ⟨_, hlen, hcell⟩ := World.cells?_some h1
    obtain ⟨b, hb, rfl⟩ := bit_cells h2 hlen
    refine ⟨b, fun _ => ⟨hb, fun j u hu => ?_⟩⟩
    have hj : j < 5 := (List.getElem?_eq_some_iff.1 hu).1
    have q := hcell j zb13
    rw [Deep.add_add, hu] at q
    exact q
   ·exact ⟨⟨0, 0, 0, 0, 0⟩, fun h => absurd h hil⟩
  obtain ⟨f, hf'⟩ := Classical.axiomOfChoice key
  have hat : ∀ i x, ((List.range len).map f)[i]? = some x → i < len ∧ x = f i := by
   intro i x hx
   rw [List.getElem?_map] at hx
   obtain ⟨j, hj, rfl⟩ := Option.map_eq_some_iff.1 hx
   have hjl : i < len := by
    have := (List.getElem?_eq_some_iff.1 hj).1
    simpa using this
   rw [List.getElem?_range hjl] at hj
   exact ⟨hjl, by rw [Option.some.inj hj]⟩
  refine ⟨some a', cap, (List.range len).map f, by simp, by simpa using hl, fun i x hx => ?_, fun x hx => ?_⟩
  ·obtain ⟨hil, rfl⟩ := hat i x hx
   have hc := (hf' i hil).2
   refine ⟨a', rfl, hc 0 _ rfl, ?_, ?_, ?_, ?_⟩
   ·rw [← add_field _ _ 1 zb13]; exact hc 1 _ rfl
   ·rw [← add_field _ _ 2 zb13]; exact hc 2 _ rfl
   ·rw [← add_field _ _ 3 zb13]; exact hc 3 _ rfl
   ·rw [← add_field _ _ 4 zb13]; exact hc 4 _ rfl
  ·obtain ⟨i, hi2⟩ := List.getElem?_of_mem hx
   obtain ⟨hil, rfl⟩ := hat i x hi2
   exact (hf' i hil).1
set_option maxRecDepth 100000 in
/-- An act by value. -/
theorem bit_openV {H : Type} {enc : TypeId × Value → H} {W : World} {v : Value} {d : DataW H} {p : List MemPlace} {r : Go.Reach} {b0 : Nat} (h : DataW.Trod enc Tryz.prog W 0 (fun _ => true) true 48 v d p) (hv : Value.okWide Tryz.prog W r b0 48 v) :
  ∃ b : BitV, b.ok ∧ v = .agg b.cells.toArray := by
 obtain ⟨cs, rfl, hsz⟩ := okWide_struct Tryz.underlying48 hv
 obtain ⟨fuel, hf⟩ := h
 have hc5 : Tryz.prog.cellsOf 48 = 5 := by kernel_rfl
 have hl : cs.toList.length = 5 := by rw [Array.length_toList, hsz, hc5]
 obtain ⟨b, hb, e⟩ := bit_cells (cs := cs.toList) (by simpa [Value.cells] using hf) hl
 exact ⟨b, hb, by rw [← e]⟩
end Go.Proofs.YtfpbpakgajddnaaGreatDoor.Pl
/- CardW -/
namespace Go.Proofs.YtfpbpakgajddnaaGreatDoor.Cg
open Go.RowKit Go.Proofs.YtfpbpakgajddnaaGreatDoor.P Go.Proofs.YtfpbpakgajddnaaGreatDoorW.PrintWords Go.Proofs.YtfpbpakgajddnaaGreatDoorW.PrintLast Go.Proofs.YtfpbpakgajddnaaGreatDoor.O
open Go.ChangeShapes Go.WideShapes Go.Deep
set_option linter.unusedVariables false
/-- The plain wrap, with a condition of one's own and the world's shape. -/
theorem wrapS {H : Type} {enc : TypeId × Value → H} {a : Assume} {C : Checked} {os : Os} {f : FuncId} {fn : Func} {s : ChangeSpec} {conds : List PathCond} {apart fresh handsOn again : Bool} {X : World → Array Value → Prop}
  (hX : ∀ (w w' : World) (args : Array Value), w.heap = w'.heap → X w args → X w' args)
  (own : ownKnob C.prog.godebug = none) (started : os.Started) (noInit : C.prog.inits.idxOf? f = none) (hfn : C.prog.funcs[f]? = some fn)
  (witness : ∃ (w : World) (tape : Tape) (i : Input), w.os = os ∧ (w.forCall tape i).Shaped C.prog ∧ i.vars = [] ∧ Input.okWide C.prog (w.forCall tape i) .any w.heap.size f i ∧
   ((s.pre enc C.prog fn conds apart (w.forCall tape i).memory i.args ∧ X (w.forCall tape i).memory i.args) ∧ sizedMet enc C.prog fn (OpenSpec.ofChange s) apart (w.forCall tape i).memory i.args) ∧ a.holds C.prog (lone (Frame.enter C.prog f i.args .normal) [] (w.forCall tape i)))
  (contract : ∀ (W : World) (base : Nat) (args : Array Value) (ds gs : List (DataW H)) (before : List MemPlace),
   (∀ (j : Nat) t v, fn.params[j]? = some t → args[j]? = some v → Value.okWide C.prog W .any base t v) →
   DataW.Whole enc C.prog fn.params.toList s.vars apart W args.toList ds gs before →
   (DataW.weightsEach C.prog (fn.params.toList ++ s.plain.varTypes C.prog) (ds ++ gs)).all (· ≤ reachBytes) = true → X W args → W.ShapedOpen C.prog →
   Calls C.prog f args W fun e W' => ∃ v, e = .returned v ∧ s.post enc C.prog fn apart fresh handsOn again W args v W') :
  ReturnsInHanded a C os f .any (fun w args => (s.pre enc C.prog fn conds apart w args ∧ X w args) ∧ sizedMet enc C.prog fn (OpenSpec.ofChange s) apart w args) (s.post enc C.prog fn apart fresh handsOn again) := by
 refine returnsInHanded_of_calls own started noInit witness ?_
 intro w tape i _ hsh _ hok hpre _
 obtain ⟨_, _, _, fn', hfn', _, _, _, _, hval⟩ := hok
 obtain rfl : fn' = fn := Option.some.inj (hfn'.symm.trans hfn)
 obtain ⟨⟨⟨ds, gs, before, hw, _⟩, hx⟩, hz⟩ := hpre
 refine (contract (w.forCall tape i) w.heap.size i.args ds gs before hval (DataW.Whole.of_heap (w' := w.forCall tape i) (by rfl) hw) (hz.weights hw) (hX _ _ _ (by rfl) hx) hsh).mono fun e W' ⟨v, he, hp⟩ => ?_
 subst he
 exact ChangeSpec.post_blind hp
theorem var_iface {W : World} {n nm : String} {d : DataW Unit} {g t : Nat} {ms : Array (String × TypeId)} (h : Lib.VarReads Tryz.prog W n (.iface nm d)) (hg : Tryz.prog.globalNamed n = some g) (ht : (Tryz.prog.globals[g]?).map (·.type) = some t) (hi : Tryz.prog.underlying t = some (.interface ms)) :
  ∃ t p, W.var? Tryz.prog n = some #[.iface t p] := by
 obtain ⟨g', t', cs, fuel, p, hg', ht', hv, hd⟩ := h
 obtain rfl := Option.some.inj (hg.symm.trans hg')
 obtain rfl := Option.some.inj (ht.symm.trans ht')
 obtain ⟨_, u, v, e, _, _⟩ := iface_of_trod hi hd
 refine ⟨u, v, ?_⟩
 rw [hv]
 cases cs
 simp only at e
 rw [e]
abbrev laidL : List (String × DataW Unit) := Rows.vaultOddRow.laid
set_option maxRecDepth 100000 in
theorem glob_of {W : World} (h : laidMetH Tryz.prog laidL W) (hsh : W.ShapedOpen Tryz.prog) : Glob W := by
 rw [MakeChecks.laidMetH_plain _ _ _ (by kernel_rfl)] at h
 refine ⟨?_, ?_, ?_, ?_⟩
 ·obtain ⟨g', t', cs, fuel, p, hg', ht', hv, hd⟩ := Lib.laidMet.reads h (n := "internal/strconv.uint64pow10") (d := Rows.laid_internal_strconv_uint64pow10) (.tail _ (.tail _ (.head _)))
  obtain rfl := Option.some.inj (gpow.symm.trans hg')
  obtain rfl := Option.some.inj ((show (Tryz.prog.globals[3]?).map (·.type) = some 227 by kernel_rfl).symm.trans ht')
  have hd' : DataW.trod (fun _ => ()) Tryz.prog W 0 (fun _ => true) false fuel 227 cs.toList = some (Lib.tabData .u64 (Lib.pow10Tab), p) := hd
  unfold Lib.TabIs
  rw [hv, ← Lib.cells_of_tab Tryz.underlying227 Tryz.underlying200 (by kernel_rfl) (by kernel_rfl) hd']
 ·have hb : ((begin Tryz.prog (fun _ _ => 0) default).world.heap[2]?).bind Obj.row? = some (#[.int .i64 0], 3) := by kernel_rfl
  obtain ⟨m, hm⟩ := cell_of_shapedOpen_int hsh (of_decide_eq_true (by kernel_rfl)) hb rfl (by kernel_rfl) (by kernel_rfl) Tryz.underlying3
  obtain ⟨cs, hh, hs, _⟩ := hsh.1 _ _ _ (of_decide_eq_true (by kernel_rfl)) hb
  refine ⟨m, ?_⟩
  have h1 : 0 < cs.size := by rw [hs]; decide
  have hc : cs[0] = .int .i64 m := by
   have : W.cell? ⟨2, 0, none⟩ = some cs[0] := by simp [World.cell?, hh, h1]
   exact Option.some.inj (this.symm.trans hm)
  unfold World.var?
  rw [gmlen]
  simp only [Option.bind_some, hh]
  congr 1
  apply Array.ext
  ·rw [hs]; rfl
  ·intro i hi1 hi2
   have : i = 0 := by rw [hs] at hi1; simp at hi1; exact hi1
   subst this
   rw [hc]; rfl
 ·exact var_iface (Lib.laidMet.reads h (n := "strconv.ErrSyntax") (d := Rows.laid_strconv_ErrSyntax) (.tail _ (.tail _ (.tail _ (.tail _ (.tail _ (.head _))))))) gsyn (by kernel_rfl) Tryz.underlying136
 ·exact var_iface (Lib.laidMet.reads h (n := "strconv.ErrRange") (d := Rows.laid_strconv_ErrRange) (.tail _ (.tail _ (.tail _ (.tail _ (.head _)))))) grng (by kernel_rfl) Tryz.underlying136
end Go.Proofs.YtfpbpakgajddnaaGreatDoor.Cg
