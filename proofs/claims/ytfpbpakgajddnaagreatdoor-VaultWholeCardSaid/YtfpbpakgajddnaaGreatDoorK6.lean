/- Texts of this seat, joined: lemmas and walks that its statements' proofs use. -/
import Derived.Test.YtfpbpakgajddnaaGreatDoorK4
import Derived.Test.YtfpbpakgajddnaaGreatDoorK5
import Derived.WalkMore
import Derived.OwnWalk
/- Px22 -/
namespace Go.Proofs.YtfpbpakgajddnaaGreatDoor.P
open Go.Proofs.YtfpbpakgajddnaaGreatDoor.B
open Go.RowKit Go.Proofs.YtfpbpakgajddnaaGreatDoorW.PrintWords Go.Proofs.YtfpbpakgajddnaaGreatDoorW.PrintLast Go.Proofs.YtfpbpakgajddnaaGreatDoorW.PrintMore
attribute [local go_sem] run_store_float str_leq str_gtr str_geq max2_int min2_int max_two min_two max_three min_three max_four min_four
set_option linter.unusedVariables false
set_option linter.unusedSimpArgs false
open Go.Proofs.YtfpbpakgajddnaaGreatDoor.O
def vault_check.l0 : Nat → List (S28) → Int → Int → Option (Int)
  | 0, _, _, _ => none
  | k + 1, x11, x12, x13 => if x13 < x12 then (if 0 ≤ x13 then (if x13 < (x11.length : Int) then ((manifest_Print.f k 0 (([(⟨(rd_T28 x11 x13).f0, (rd_T28 x11 x13).f0, 0, 0⟩ : S120)] : List (S120)))).bind fun bt215 => (if bt215.2 = 0 then (vault_check.l0 k x11 x12 (wrap64 (x13 + 1))) else (some 1))) else (none)) else (none)) else (some 0)
def vault_check.f (k : Nat) (a0 : Int) (l1 : List (S28)) : Option (Int) := if a0 > 1099511627776 then (some 2) else (vault_check.l0 k l1 (l1.length : Int) 0)
set_option maxHeartbeats 8000000 in
set_option maxRecDepth 100000 in
theorem vault_check.calls (k : Nat) (a0 : Int) (A1 : Option Addr) (c1 : Nat) (l1 : List (S28)) (r : Int) (w : World) (hr1 : Kd.C k28 w A1 l1.length l1) (hc1 : l1.length ≤ c1) (hG : Glob w) (h : vault_check.f k a0 l1 = some r) :
  Calls Tryz.prog 58 #[.int .i64 a0, .slice A1 l1.length c1] w fun e w' => e = .returned (.int .i64 r) ∧ Below w.heap.size w w' := by
 have hu28 := Tryz.underlying28
 have hu120 := Tryz.underlying120
 have HR1 := Aside0.mk hr1
 have HC1 := Aside0.mk hc1
 clear hr1 hc1
 have HB := Aside0.mk (Below.refl w.heap.size w)
 have hGA := Aside0.mk hG
 clear hG
 have H : (if a0 > 1099511627776 then (some 2) else (vault_check.l0 k l1 (l1.length : Int) 0)) = some r := h
 clear h
 by_cases c3 : a0 > 1099511627776
 ·rw [if_pos c3] at H
  have c3b0 : decide (1099511627776 < a0) = true := decide_eq_true c3
  clear c3
  obtain rfl := Option.some.inj H
  go_enter Tryz.func58, Tryz.ntmps58
  go_wp2
  go_ret
  exact ⟨zb15, zb1⟩
 ·rw [if_neg c3] at H
  have c3b0 : decide (1099511627776 < a0) = false := decide_eq_false c3
  clear c3
  have H' := Aside0.mk H
  clear H
  go_enter Tryz.func58, Tryz.ntmps58
  go_wp2
  first | go_loopg [13] k (fun kq v13 w' => ∃ (x13_1 : Int), v13 = .int .i64 x13_1 ∧ Aside0 (vault_check.l0 kq l1 (l1.length : Int) x13_1 = some r) ∧ Aside0 (kq ≤ k) ∧ Aside0 (Below w.heap.size w w')) | (go_simp; go_loopg [13] k (fun kq v13 w' => ∃ (x13_1 : Int), v13 = .int .i64 x13_1 ∧ Aside0 (vault_check.l0 kq l1 (l1.length : Int) x13_1 = some r) ∧ Aside0 (kq ≤ k) ∧ Aside0 (Below w.heap.size w w')))
  case atStart => exact ⟨(0), zb14, H', ⟨Nat.le_refl _⟩, ⟨by repeat (first | (with_reducible first | exact HB.out | apply below_alloc | apply pw_below_drewN | apply below_drew1) | exact HB.out)⟩⟩
  case round =>
   clear H'
   try clear c1
   try clear p2
   try clear c3
   try clear c3b0
   obtain ⟨x13_1, rfl, HA, HK1, HB⟩ := hrel
   cases gk with
   | zero => exact absurd HA.out (by simp [vault_check.l0])
   | succ k1 =>
    have H := HA.out
    clear HA
    simp only [vault_check.l0] at H
    by_cases c4 : x13_1 < (l1.length : Int)
    ·rw [if_pos c4] at H
     have c4b0 : decide (x13_1 < (l1.length : Int)) = true := decide_eq_true c4
     clear c4
     by_cases c5 : 0 ≤ x13_1
     ·rw [if_pos c5] at H
      have c5b0 : decide (0 ≤ x13_1) = true := decide_eq_true c5
      clear c5
      by_cases c6 : x13_1 < (l1.length : Int)
      ·rw [if_pos c6] at H
       have c6b0 : decide (x13_1 < (l1.length : Int)) = true := decide_eq_true c6
       clear c6
       obtain ⟨y212, hy212⟩ : ∃ y_ : List (S120), y_ = (([(⟨(rd_T28 l1 x13_1).f0, (rd_T28 l1 x13_1).f0, 0, 0⟩ : S120)] : List (S120))) := ⟨_, rfl⟩
       replace H : ((manifest_Print.f k1 0 y212).bind fun bt215 => (if bt215.2 = 0 then (vault_check.l0 k1 l1 (l1.length : Int) (wrap64 (x13_1 + 1))) else (some 1))) = some r := by first | (rw [hy212]; with_reducible exact H) | (have H2_ := (Option.bind_some _ _).symm.trans H; rw [hy212]; with_reducible exact H2_) | (have H2_ := (Option.bind_some _ _).symm.trans H; with_reducible exact H2_) | with_reducible exact H | (rw [hy212]; exact H) | exact H
       have Ny212 := Aside0.mk hy212
       clear hy212
       replace H := Option.bind_eq_some_iff.mp H
       obtain ⟨⟨t215, t216⟩, A70, H⟩ := H
       replace H : (if t216 = 0 then (vault_check.l0 k1 l1 (l1.length : Int) (wrap64 (x13_1 + 1))) else (some 1)) = some r := H
       have A7 := Aside0.mk A70
       clear A70
       by_cases c8 : t216 = 0
       ·rw [if_pos c8] at H
        have c8b0 : (t216 == 0) = true := beq_iff_eq.mpr c8
        have c8b1 : (t216 != 0) = false := bne_eq_false_iff_eq.mpr c8
        clear c8
        have H' := Aside0.mk H
        clear H
        have p210 : 0 ≤ (x13_1 : Int) := of_decide_eq_true zb5
        have q210 : x13_1 < (l1.length : Int) := of_decide_eq_true zb5
        obtain ⟨ad210, e210, hx210_0, hx210_1⟩ := at_T28 HR1.out x13_1 p210 q210
        cases e210
        replace hx210_0 := (HB.out.cell (World.block_lt_of_cell? w _ hx210_0)).trans hx210_0
        replace hx210_1 := (HB.out.cell (World.block_lt_of_cell? w _ hx210_1)).trans hx210_1
        replace p210 := eq_true p210
        replace q210 := eq_true q210
        go_wp2_with (first | ((with_reducible refine gate_dst (N := 6) rfl ?_); refine box_event ?hg (N := 6) ?hd (cs := #[.string (⟨#[]⟩ : ByteArray), .string (⟨#[]⟩ : ByteArray)]) (t := 28) ?hr ?_; (case hd => rfl); (case hg => rfl); (case hr => first | (go_simp; done) | (go_simp; rfl)); intro gb211 hg w9 hbox hb; have n0_ := Aside0.mk (below_step zb1 hb); have n1_ := Aside0.mk (hbox); have n2_ := Aside0.mk ((by rw [hg]; exact (below_size zb1) : w.heap.size ≤ gb211)); have n3_ := Aside0.mk ((by rw [hg]; exact (below_size zb1) : w.heap.size ≤ gb211)); clear HB; have HB := n0_; have BK211 := n1_; have GW211 := n2_; have GE211 := n3_; clear n0_ n1_ n2_ n3_; clear hb hbox hg; have hcz10_0 : w9.cell? ⟨gb211, 0, none⟩ = some (.string (⟨#[]⟩ : ByteArray)) := (blk_cell BK211.out 0).trans rfl; have hcz10_1 : w9.cell? ⟨gb211, 1, none⟩ = some (.string (⟨#[]⟩ : ByteArray)) := (blk_cell BK211.out 1).trans rfl; have hfz10_0 := blk_frozen BK211.out 0; have hfz10_1 := blk_frozen BK211.out 1) | ((with_reducible refine gate_dst (N := 23) rfl ?_); refine Kd.R_lit k120 _ 120 ?hg (N := 23) ?hd (xs := ([(⟨(rd_T28 l1 x13_1).f0, (rd_T28 l1 x13_1).f0, 0, 0⟩ : S120)] : List (S120))) (inner := [.string ((rd_T28 l1 x13_1).f0), .string ((rd_T28 l1 x13_1).f0), .int .i64 0, .int .i64 0]) (ok := fun _ => True) (okp := fun _ => True) ?hr ?hp (fun _ hk => hk) trivial (Below.refl _ _) (Nat.le_refl _) zb35 ?_; (case hd => rfl); (case hg => rfl); (case hr => first | (go_simp; done) | (go_simp; rfl)); (case hp => exact (Reps.c4 (show Kd.M k120 _ _ _ (⟨(rd_T28 l1 x13_1).f0, (rd_T28 l1 x13_1).f0, 0, 0⟩ : S120) [.string ((rd_T28 l1 x13_1).f0), .string ((rd_T28 l1 x13_1).f0), .int .i64 0, .int .i64 0] from (k120_mkM _ _ _ (⟨(rd_T28 l1 x13_1).f0, (rd_T28 l1 x13_1).f0, 0, 0⟩ : S120) )) (Reps.none _ _))); intro v213 w11 ho12 hb hg_ hnew_; clear hg_ hnew_; (first | rw [← Ny212.out] at ho12 | (simp only [Int.reduceToNat] at ho12; rw [← Ny212.out] at ho12)); have n0_ := Aside0.mk (Kd.R_lower ho12 (below_size zb18)); have n1_ := Aside0.mk (blk_below (g := gb211) (o := .cells #[.string ((rd_T28 l1 x13_1).f0), .string ((rd_T28 l1 x13_1).f1)] 28 (0, 0)) zb32 hb); have n2_ := Aside0.mk (below_step zb18 hb); clear BK211; clear HB; have HO214 := n0_; have BK211 := n1_; have HB := n2_; clear n0_ n1_ n2_; clear hb ho12; obtain ⟨Ao13, co13, eo13⟩ := Kd.R_slice HO214.out; subst eo13) | ((with_reducible refine gate_callee (f := 63) rfl ?_); refine goesL_ (some 24) rfl rfl Tryz.func63 zb10 rfl #[.int .i64 0, .slice Ao13 y212.length co13] rfl zb3 ?_; (with_reducible refine (manifest_Print.calls k1 0 _ _ y212 t215 t216 _ ?side1 ?side2 ?side3 A7.out).mono ?_); (case side1 => repeat (first | exact (Kd.R_reads' HO214.out).2.2 | (with_reducible refine Kd.C_alloc ?_ _) | (with_reducible refine Kd.C_drewN ?_ _) | (with_reducible refine Kd.C_drew ?_))); (case side2 => exact (Kd.R_reads' HO214.out).2.1); (case side3 => exact Glob.below hGA.out zb18); rintro e w14 ⟨rfl, hb⟩; refine ⟨_, rfl, ?_⟩; have n0_ := Aside0.mk (Kd.R_below (by (with_reducible repeat (first | apply Kd.R_alloc | apply Kd.R_drewN | apply Kd.R_drew)); exact HO214.out) hb); have n1_ := Aside0.mk (blk_below (g := gb211) (o := .cells #[.string ((rd_T28 l1 x13_1).f0), .string ((rd_T28 l1 x13_1).f1)] 28 (0, 0)) (by (with_reducible repeat (first | refine blk_drewN ?_ _ | refine blk_drew ?_ | refine blk_alloc ?_ _)); exact BK211.out) hb); have n2_ := Aside0.mk (below_step zb18 hb); clear HO214; clear BK211; clear HB; have HO214 := n0_; have BK211 := n1_; have HB := n2_; clear n0_ n1_ n2_; (try clear hb); (try clear hb2); (try clear hk); (try clear hi)))
        go_roundg k1
        case measure => have := HK1.out; omega
        case rel => exact ⟨(wrap64 (x13_1 + 1)), zb14, H', ⟨by have := HK1.out; omega⟩, ⟨by repeat (first | (with_reducible first | exact HB.out | apply below_alloc | apply pw_below_drewN | apply below_drew1 | refine below_set ?_ GE211.out) | exact HB.out)⟩⟩
       ·rw [if_neg c8] at H
        have c8b0 : (t216 == 0) = false := beq_eq_false_iff_ne.mpr c8
        have c8b1 : (t216 != 0) = true := bne_iff_ne.mpr c8
        obtain rfl := Option.some.inj H
        have p210 : 0 ≤ (x13_1 : Int) := of_decide_eq_true zb5
        have q210 : x13_1 < (l1.length : Int) := of_decide_eq_true zb5
        obtain ⟨ad210, e210, hx210_0, hx210_1⟩ := at_T28 HR1.out x13_1 p210 q210
        cases e210
        replace hx210_0 := (HB.out.cell (World.block_lt_of_cell? w _ hx210_0)).trans hx210_0
        replace hx210_1 := (HB.out.cell (World.block_lt_of_cell? w _ hx210_1)).trans hx210_1
        replace p210 := eq_true p210
        replace q210 := eq_true q210
        go_wp2_with (first | ((with_reducible refine gate_dst (N := 6) rfl ?_); refine box_event ?hg (N := 6) ?hd (cs := #[.string (⟨#[]⟩ : ByteArray), .string (⟨#[]⟩ : ByteArray)]) (t := 28) ?hr ?_; (case hd => rfl); (case hg => rfl); (case hr => first | (go_simp; done) | (go_simp; rfl)); intro gb211 hg w15 hbox hb; have n0_ := Aside0.mk (below_step zb1 hb); have n1_ := Aside0.mk (hbox); have n2_ := Aside0.mk ((by rw [hg]; exact (below_size zb1) : w.heap.size ≤ gb211)); have n3_ := Aside0.mk ((by rw [hg]; exact (below_size zb1) : w.heap.size ≤ gb211)); clear HB; have HB := n0_; have BK211 := n1_; have GW211 := n2_; have GE211 := n3_; clear n0_ n1_ n2_ n3_; clear hb hbox hg; have hcz16_0 : w15.cell? ⟨gb211, 0, none⟩ = some (.string (⟨#[]⟩ : ByteArray)) := (blk_cell BK211.out 0).trans rfl; have hcz16_1 : w15.cell? ⟨gb211, 1, none⟩ = some (.string (⟨#[]⟩ : ByteArray)) := (blk_cell BK211.out 1).trans rfl; have hfz16_0 := blk_frozen BK211.out 0; have hfz16_1 := blk_frozen BK211.out 1) | ((with_reducible refine gate_dst (N := 23) rfl ?_); refine Kd.R_lit k120 _ 120 ?hg (N := 23) ?hd (xs := ([(⟨(rd_T28 l1 x13_1).f0, (rd_T28 l1 x13_1).f0, 0, 0⟩ : S120)] : List (S120))) (inner := [.string ((rd_T28 l1 x13_1).f0), .string ((rd_T28 l1 x13_1).f0), .int .i64 0, .int .i64 0]) (ok := fun _ => True) (okp := fun _ => True) ?hr ?hp (fun _ hk => hk) trivial (Below.refl _ _) (Nat.le_refl _) zb35 ?_; (case hd => rfl); (case hg => rfl); (case hr => first | (go_simp; done) | (go_simp; rfl)); (case hp => exact (Reps.c4 (show Kd.M k120 _ _ _ (⟨(rd_T28 l1 x13_1).f0, (rd_T28 l1 x13_1).f0, 0, 0⟩ : S120) [.string ((rd_T28 l1 x13_1).f0), .string ((rd_T28 l1 x13_1).f0), .int .i64 0, .int .i64 0] from (k120_mkM _ _ _ (⟨(rd_T28 l1 x13_1).f0, (rd_T28 l1 x13_1).f0, 0, 0⟩ : S120) )) (Reps.none _ _))); intro v213 w17 ho18 hb hg_ hnew_; clear hg_ hnew_; (first | rw [← Ny212.out] at ho18 | (simp only [Int.reduceToNat] at ho18; rw [← Ny212.out] at ho18)); have n0_ := Aside0.mk (Kd.R_lower ho18 (below_size zb18)); have n1_ := Aside0.mk (blk_below (g := gb211) (o := .cells #[.string ((rd_T28 l1 x13_1).f0), .string ((rd_T28 l1 x13_1).f1)] 28 (0, 0)) zb32 hb); have n2_ := Aside0.mk (below_step zb18 hb); clear BK211; clear HB; have HO214 := n0_; have BK211 := n1_; have HB := n2_; clear n0_ n1_ n2_; clear hb ho18; obtain ⟨Ao19, co19, eo19⟩ := Kd.R_slice HO214.out; subst eo19) | ((with_reducible refine gate_callee (f := 63) rfl ?_); refine goesL_ (some 24) rfl rfl Tryz.func63 zb10 rfl #[.int .i64 0, .slice Ao19 y212.length co19] rfl zb3 ?_; (with_reducible refine (manifest_Print.calls k1 0 _ _ y212 t215 t216 _ ?side1 ?side2 ?side3 A7.out).mono ?_); (case side1 => repeat (first | exact (Kd.R_reads' HO214.out).2.2 | (with_reducible refine Kd.C_alloc ?_ _) | (with_reducible refine Kd.C_drewN ?_ _) | (with_reducible refine Kd.C_drew ?_))); (case side2 => exact (Kd.R_reads' HO214.out).2.1); (case side3 => exact Glob.below hGA.out zb18); rintro e w20 ⟨rfl, hb⟩; refine ⟨_, rfl, ?_⟩; have n0_ := Aside0.mk (Kd.R_below (by (with_reducible repeat (first | apply Kd.R_alloc | apply Kd.R_drewN | apply Kd.R_drew)); exact HO214.out) hb); have n1_ := Aside0.mk (blk_below (g := gb211) (o := .cells #[.string ((rd_T28 l1 x13_1).f0), .string ((rd_T28 l1 x13_1).f1)] 28 (0, 0)) (by (with_reducible repeat (first | refine blk_drewN ?_ _ | refine blk_drew ?_ | refine blk_alloc ?_ _)); exact BK211.out) hb); have n2_ := Aside0.mk (below_step zb18 hb); clear HO214; clear BK211; clear HB; have HO214 := n0_; have BK211 := n1_; have HB := n2_; clear n0_ n1_ n2_; (try clear hb); (try clear hb2); (try clear hk); (try clear hi)))
        go_ret
        exact ⟨zb15, zb18⟩
      ·rw [if_neg c6] at H
       exact absurd H zb35
     ·rw [if_neg c5] at H
      exact absurd H zb35
    ·rw [if_neg c4] at H
     have c4b0 : decide (x13_1 < (l1.length : Int)) = false := decide_eq_false c4
     clear c4
     obtain rfl := Option.some.inj H
     go_wp2
     go_ret
     exact ⟨zb15, zb1⟩
def vault_file.f (a0 : Int) (a1 : Int) : Option (ByteArray) := (strconv_Itoa.f a0).bind fun t217 => (if 1 + t217.size ≤ 9223372036854775807 then (if ((⟨#[103]⟩ : ByteArray) ++ t217).size + 1 ≤ 9223372036854775807 then ((strconv_Itoa.f a1).bind fun t218 => (if (((⟨#[103]⟩ : ByteArray) ++ t217) ++ (⟨#[45]⟩ : ByteArray)).size + t218.size ≤ 9223372036854775807 then (some ((((⟨#[103]⟩ : ByteArray) ++ t217) ++ (⟨#[45]⟩ : ByteArray)) ++ t218)) else (none))) else (none)) else (none))
set_option maxHeartbeats 8000000 in
set_option maxRecDepth 100000 in
theorem vault_file.calls (a0 : Int) (a1 : Int) (r : ByteArray) (w : World) (hG : Glob w) (h : vault_file.f a0 a1 = some r) :
  Calls Tryz.prog 62 #[.int .i64 a0, .int .i64 a1] w fun e w' => e = .returned (.string r) ∧ Below w.heap.size w w' := by
 have HB := Aside0.mk (Below.refl w.heap.size w)
 have hGA := Aside0.mk hG
 clear hG
 have H : ((strconv_Itoa.f a0).bind fun t217 => (if 1 + t217.size ≤ 9223372036854775807 then (if ((⟨#[103]⟩ : ByteArray) ++ t217).size + 1 ≤ 9223372036854775807 then ((strconv_Itoa.f a1).bind fun t218 => (if (((⟨#[103]⟩ : ByteArray) ++ t217) ++ (⟨#[45]⟩ : ByteArray)).size + t218.size ≤ 9223372036854775807 then (some ((((⟨#[103]⟩ : ByteArray) ++ t217) ++ (⟨#[45]⟩ : ByteArray)) ++ t218)) else (none))) else (none)) else (none))) = some r := h
 clear h
 replace H := Option.bind_eq_some_iff.mp H
 obtain ⟨t217, A30, H⟩ := H
 replace H : (if 1 + t217.size ≤ 9223372036854775807 then (if ((⟨#[103]⟩ : ByteArray) ++ t217).size + 1 ≤ 9223372036854775807 then ((strconv_Itoa.f a1).bind fun t218 => (if (((⟨#[103]⟩ : ByteArray) ++ t217) ++ (⟨#[45]⟩ : ByteArray)).size + t218.size ≤ 9223372036854775807 then (some ((((⟨#[103]⟩ : ByteArray) ++ t217) ++ (⟨#[45]⟩ : ByteArray)) ++ t218)) else (none))) else (none)) else (none)) = some r := H
 have A3 := Aside0.mk A30
 clear A30
 by_cases c4 : 1 + t217.size ≤ 9223372036854775807
 ·rw [if_pos c4] at H
  have c4b0 := eq_true c4
  have c4b1 : decide (1 + t217.size ≤ 9223372036854775807) = true := decide_eq_true c4
  try have c4b2 : (9223372036854775807 < 1 + t217.size) = False := eq_false (Nat.not_lt.2 c4)
  by_cases c5 : ((⟨#[103]⟩ : ByteArray) ++ t217).size + 1 ≤ 9223372036854775807
  ·rw [if_pos c5] at H
   have c5b0 := eq_true c5
   have c5b1 : decide (((⟨#[103]⟩ : ByteArray) ++ t217).size + 1 ≤ 9223372036854775807) = true := decide_eq_true c5
   try have c5b2 : (9223372036854775807 < ((⟨#[103]⟩ : ByteArray) ++ t217).size + 1) = False := eq_false (Nat.not_lt.2 c5)
   obtain ⟨nc5, hc5⟩ : ∃ n_ : Nat, n_ = ((⟨#[103]⟩ : ByteArray) ++ t217).size + 1 := ⟨_, rfl⟩
   have c5m0 : nc5 ≤ 9223372036854775807 := by rw [hc5]; exact c5
   (first | simp [go_sem, c4b0] at hc5 | simp [go_sem] at hc5 | skip)
   rw [hc5] at c5m0
   have c5m1 := eq_false (Nat.not_lt.2 c5m0)
   have c5m2 := decide_eq_true c5m0
   clear hc5 c5m0
   replace H := Option.bind_eq_some_iff.mp H
   obtain ⟨t218, A60, H⟩ := H
   replace H : (if (((⟨#[103]⟩ : ByteArray) ++ t217) ++ (⟨#[45]⟩ : ByteArray)).size + t218.size ≤ 9223372036854775807 then (some ((((⟨#[103]⟩ : ByteArray) ++ t217) ++ (⟨#[45]⟩ : ByteArray)) ++ t218)) else (none)) = some r := H
   have A6 := Aside0.mk A60
   clear A60
   by_cases c7 : (((⟨#[103]⟩ : ByteArray) ++ t217) ++ (⟨#[45]⟩ : ByteArray)).size + t218.size ≤ 9223372036854775807
   ·rw [if_pos c7] at H
    have c7b0 := eq_true c7
    have c7b1 : decide ((((⟨#[103]⟩ : ByteArray) ++ t217) ++ (⟨#[45]⟩ : ByteArray)).size + t218.size ≤ 9223372036854775807) = true := decide_eq_true c7
    try have c7b2 : (9223372036854775807 < (((⟨#[103]⟩ : ByteArray) ++ t217) ++ (⟨#[45]⟩ : ByteArray)).size + t218.size) = False := eq_false (Nat.not_lt.2 c7)
    obtain ⟨nc7, hc7⟩ : ∃ n_ : Nat, n_ = (((⟨#[103]⟩ : ByteArray) ++ t217) ++ (⟨#[45]⟩ : ByteArray)).size + t218.size := ⟨_, rfl⟩
    have c7m0 : nc7 ≤ 9223372036854775807 := by rw [hc7]; exact c7
    (first | simp [go_sem, c4b0, c5b0] at hc7 | simp [go_sem] at hc7 | skip)
    rw [hc7] at c7m0
    have c7m1 := eq_false (Nat.not_lt.2 c7m0)
    have c7m2 := decide_eq_true c7m0
    clear hc7 c7m0
    obtain rfl := Option.some.inj H
    go_enter Tryz.func62, Tryz.ntmps62
    go_wp2_with (first | ((with_reducible refine gate_callee (f := 107) rfl ?_); refine goesL_ (some 6) rfl rfl Tryz.func107 zb10 rfl #[.int .i64 a0] rfl zb3 ?_; (with_reducible refine (strconv_Itoa.calls a0 t217 _ ?side1 A3.out).mono ?_); (case side1 => exact Glob.below hGA.out zb1); rintro e w8 ⟨rfl, hb⟩; refine ⟨_, rfl, ?_⟩; have n0_ := Aside0.mk (below_step zb1 hb); clear HB; have HB := n0_; clear n0_; (try clear hb); (try clear hb2); (try clear hk); (try clear hi)) | ((with_reducible refine gate_callee (f := 107) rfl ?_); refine goesL_ (some 10) rfl rfl Tryz.func107 zb10 rfl #[.int .i64 a1] rfl zb3 ?_; (with_reducible refine (strconv_Itoa.calls a1 t218 _ ?side1 A6.out).mono ?_); (case side1 => exact Glob.below hGA.out zb1); rintro e w9 ⟨rfl, hb⟩; refine ⟨_, rfl, ?_⟩; have n0_ := Aside0.mk (below_step zb1 hb); clear HB; have HB := n0_; clear n0_; (try clear hb); (try clear hb2); (try clear hk); (try clear hi)))
    go_ret
    exact ⟨zb15, zb1⟩
   ·rw [if_neg c7] at H
    exact absurd H zb35
  ·rw [if_neg c5] at H
   exact absurd H zb35
 ·rw [if_neg c4] at H
  exact absurd H zb35
end Go.Proofs.YtfpbpakgajddnaaGreatDoor.P
/- VcC -/
namespace Go.Proofs.YtfpbpakgajddnaaGreatDoor.Pl
open Go Go.RowKit Go.Maps Go.Proofs.YtfpbpakgajddnaaGreatDoorW.PrintWords
open Go.Proofs.YtfpbpakgajddnaaGreatDoor.O (Glob)
set_option linter.unusedVariables false
set_option linter.unusedSimpArgs false
abbrev Bw := P.S28
def toB (b : L × L) : Bw := ⟨mkB b.1, mkB b.2⟩
abbrev Blobs (w : World) (A : Option Addr) (l : List (L × L)) : Prop := Kd.C P.k28 w A l.length (l.map toB)
abbrev Strs (w : World) (A : Option Addr) (l : List L) : Prop := Kd.C Kd.string w A l.length (l.map mkB)
theorem cell_block {w w' : World} {a : Addr} (h : w'.heap[a.block]? = w.heap[a.block]?) : w'.cell? a = w.cell? a := by
 unfold World.cell?
 rw [h]
theorem add_block (a : Addr) (k : Nat) : (a.add k).block = a.block := by
 unfold Addr.add
 split <;> rfl
theorem C_move {α : Type} {d : Kd α} (hK : ∀ {w w' : World} {x cs}, d.K w x cs → d.K w' x cs) {w w' : World} {A : Option Addr} {n : Nat} {xs : List α} (h : d.C w A n xs) (hm : ∀ ad, A = some ad → 0 < n → w'.heap[ad.block]? = w.heap[ad.block]?) : d.C w' A n xs := by
 refine ⟨h.1, h.2.1, fun hp => ?_⟩
 obtain ⟨ad, e, hc⟩ := h.2.2 hp
 refine ⟨ad, e, fun j p hj => ?_⟩
 obtain ⟨c, h1, h2, h3⟩ := hc j p hj
 exact ⟨c, h1, hK h2, fun i u hi => (cell_block (by rw [add_block]; exact hm ad e hp)).trans (h3 i u hi)⟩
theorem Blobs.move {w w' : World} {A : Option Addr} {l : List (L × L)} (h : Blobs w A l) (hm : ∀ ad, A = some ad → 0 < l.length → w'.heap[ad.block]? = w.heap[ad.block]?) : Blobs w' A l :=
 C_move (fun hk => by obtain rfl := P.k28_open hk; exact P.k28_mk _ _) h hm
theorem Strs.move {w w' : World} {A : Option Addr} {l : List L} (h : Strs w A l) (hm : ∀ ad, A = some ad → 0 < l.length → w'.heap[ad.block]? = w.heap[ad.block]?) : Strs w' A l :=
 C_move (fun hk => hk) h hm
theorem blob_at {w : World} {A : Option Addr} {l : List (L × L)} (h : Blobs w A l) {i : Nat} {b : L × L} (hi : l[i]? = some b) : ∃ ad, A = some ad ∧ w.cell? (ad.add (i * 2)) = some (.string (mkB b.1)) ∧ w.cell? ⟨(ad.add (i * 2)).block, (ad.add (i * 2)).off + 1, none⟩ = some (.string (mkB b.2)) := by
 have hlt := (List.getElem?_eq_some_iff.1 hi).1
 obtain ⟨ad, e, c0, c1⟩ := P.at_T28 h (i : Int) zb13 zb13
 have hr : P.rd_T28 (l.map toB) (i : Int) = toB b := by
  unfold P.rd_T28
  rw [Int.toNat_natCast, List.getD_eq_getElem?_getD, List.getElem?_map, hi]
  rfl
 rw [hr, Int.toNat_natCast] at c0 c1
 exact ⟨ad, e, c0, c1⟩
theorem str_at {w : World} {A : Option Addr} {l : List L} (h : Strs w A l) {i : Nat} {x : L} (hi : l[i]? = some x) : ∃ ad, A = some ad ∧ w.cell? (ad.add i) = some (.string (mkB x)) := by
 have hlt := (List.getElem?_eq_some_iff.1 hi).1
 obtain ⟨ad, e, c0⟩ := Kd.at_string h (i : Int) zb13 zb13
 have hr : rdOf ByteArray.empty (l.map mkB) (i : Int) = mkB x := by
  unfold rdOf
  rw [Int.toNat_natCast, List.getD_eq_getElem?_getD, List.getElem?_map, hi]
  rfl
 rw [hr, Int.toNat_natCast] at c0
 exact ⟨ad, e, c0⟩
section
variable {w : World} {A : Option Addr} {c : Nat}
theorem sum_nat (s : L) : ((cdc.sum s : Nat) : Int) = Mn.adl s := Int.toNat_of_nonneg (Mn.adl_bd s).1
theorem sum_le (s : L) : cdc.sum s ≤ 1099511627776 := by
 obtain ⟨h1, h2, h3, h4⟩ := O.adS_bd (Mn.mk s) (Mn.mk s).size
 show (Mn.adl s).toNat ≤ _
 unfold Mn.adl
 omega
theorem sum_calls (s : L) (hs : s.length ≤ 9223372036854775807) : Calls Tryz.prog 94 #[.string (mkB s)] w fun e w' => e = .returned (.int .i64 (cdc.sum s : Nat)) ∧ Below w.heap.size w w' := by
 rw [sum_nat]
 exact O.adler_Sum.calls (mkB s) _ w (Ad.adler_some (mkB s) (by rw [mkB_size]; exact hs))
theorem file_calls (n i : Nat) (hG : Glob w) (hn : n < 9223372036854775808) (hi : i < 9223372036854775808) : Calls Tryz.prog 62 #[.int .i64 (n : Nat), .int .i64 (i : Nat)] w fun e w' => e = .returned (.string (mkB (cdc.name n i))) ∧ Below w.heap.size w w' := by
 refine P.vault_file.calls (n : Int) (i : Int) _ w hG ?_
 have h1 := Mn.dec_len19 (n : Int) zb13 zb13
 have h2 := Mn.dec_len19 (i : Int) zb13 zb13
 unfold P.vault_file.f
 rw [Mn.itoaF _ zb13 zb13, Mn.itoaF _ zb13 zb13]
 simp only [Option.bind_some]
 have e1 : (⟨#[103]⟩ : ByteArray) ++ Mn.mk (Mn.dec (n : Int)) = Mn.mk ([103] ++ Mn.dec (n : Int)) := Mn.mk_append [103] _
 rw [e1, if_pos (by rw [Mn.mk_size]; omega), if_pos (by rw [Mn.mk_size]; simp; omega)]
 have e2 : Mn.mk ([103] ++ Mn.dec (n : Int)) ++ (⟨#[45]⟩ : ByteArray) = Mn.mk ([103] ++ Mn.dec (n : Int) ++ [45]) := Mn.mk_append _ [45]
 rw [e2, if_pos (by rw [Mn.mk_size, Mn.mk_size]; simp; omega), Mn.mk_append]
 rfl
theorem print_calls (n : Nat) {l : List RowM} (hG : Glob w) (hr : OwnRows w 0 (.slice A l.length c) l) (hl : l.length ≤ 1000000) : Calls Tryz.prog 63 #[.int .i64 (n : Nat), .slice A l.length c] w fun e w' => e = .returned (.tuple #[.string (mkB (cdc.print n l)), .int .i64 (Mn.pr (n : Int) (l.map toR)).2]) ∧ Below w.heap.size w w' := by
 obtain ⟨A', c', e, hrd⟩ := own_reads_row hr (reps_toR w l) (by rw [List.length_map])
 injection e with e1 e2 e3
 subst e1
 subst e3
 have hlen : (l.map toR).length = l.length := List.length_map _
 have h := P.manifest_Print.calls (2 * l.length + 10) (n : Int) A c (l.map toR) _ _ w (by rw [hlen]; exact hrd) (by rw [hlen]; exact (row_room hr).1) hG (Mn.print_eq (n : Int) (l.map toR) _ (by rw [hlen]; exact hl) (by rw [hlen]; omega))
 rw [hlen] at h
 have e : mkB (cdc.print n l) = (Mn.pr (n : Int) (l.map toR)).1 := mkB_self _
 rw [e]
 exact h
/-- What a text says, as a manifest. -/
theorem parse_calls (s : L) (hG : Glob w) (hs : s.length ≤ 90000) : Calls Tryz.prog 55 #[.string (mkB s)] w fun e w' => (match cdc.parse s with
  | none => ∃ v', e = .returned (.tuple #[.int .i64 0, v', .int .i64 30]) ∧ OwnRows w' w.heap.size v' []
  | some (n, l) => ∃ v', e = .returned (.tuple #[.int .i64 (n : Nat), v', .int .i64 0]) ∧ OwnRows w' w.heap.size v' l) ∧ Below w.heap.size w w' := by
 obtain ⟨q, hf, hq⟩ := Mn.parse_eq (mkB s) (by rw [mkB_size]; exact hs) 1000000 (Nat.le_refl _)
 obtain ⟨n, l, z⟩ := q
 refine (P.manifest_Parse.calls 1000000 (mkB s) n l z w hG hf).mono ?_
 rintro e w' ⟨v1, he, hR, hb⟩
 refine ⟨?_, hb⟩
 rcases hq.1 with e1 | ⟨n', l', e1, e2⟩
 ·have h1 := cdc_parse_none (e1 ▸ hq)
  rw [h1]
  have hn := (Prod.mk.inj e1).1
  have hl := (Prod.mk.inj (Prod.mk.inj e1).2).1
  have hz := (Prod.mk.inj (Prod.mk.inj e1).2).2
  subst hn
  subst hl
  subst hz
  exact ⟨v1, he, rows_of (l := []) hR⟩
 ·have hn := (Prod.mk.inj e1).1
  have hl := (Prod.mk.inj (Prod.mk.inj e1).2).1
  have hz := (Prod.mk.inj (Prod.mk.inj e1).2).2
  subst hn
  subst hl
  subst hz
  have h1 := (cdc_parse_some hq (fun e => by
   have := (Prod.mk.inj (Prod.mk.inj e).2).2
   simp at this)).1
  rw [h1]
  obtain ⟨o1, o2, o3⟩ := Mn.pr_ok e2
  have hb := Mn.numOk_bd o1
  refine ⟨v1, ?_, rows_of (by rw [rowsOk_back l _ o2]; exact hR)⟩
  rw [Int.toNat_of_nonneg hb.1]
  exact he
theorem check_row (x : L) : (Mn.pr 0 [(⟨mkB x, mkB x, 0, 0⟩ : Rw)]).2 = if nameOk x = true then 0 else 30 := by
 have h := rowsOk_iff [⟨x, x, 0, 0⟩] []
 have e : [(⟨x, x, 0, 0⟩ : RowM)].map toR = [(⟨mkB x, mkB x, 0, 0⟩ : Rw)] := rfl
 rw [e] at h
 unfold Mn.pr
 by_cases hx : nameOk x = true
 ·have h1 : Mn.rowsOk (Mn.mk []) [(⟨mkB x, mkB x, 0, 0⟩ : Rw)] = true := h.2 ⟨fun r hr => by
   rw [List.mem_singleton.1 hr]
   exact ⟨⟨hx, hx, Nat.zero_le _, Nat.zero_le _⟩, nil_before hx⟩, List.pairwise_singleton _ _⟩
  rw [h1, if_pos zb25, if_pos hx]
 ·have h1 : Mn.rowsOk (Mn.mk []) [(⟨mkB x, mkB x, 0, 0⟩ : Rw)] = false := by
   cases hb : Mn.rowsOk (Mn.mk []) [(⟨mkB x, mkB x, 0, 0⟩ : Rw)] with
   | false => rfl
   | true => exact absurd ((h.1 hb).1 _ List.mem_cons_self).1.name hx
  rw [h1, if_neg zb25, if_neg hx]
theorem check_l0 (ps : List (L × L)) (hps : ps.length ≤ 1000000) : ∀ (d k i : Nat), i + d = ps.length → d + 20 ≤ k → P.vault_check.l0 k (ps.map toB) ps.length i = some (if ((ps.drop i).all fun b => nameOk b.1) = true then 0 else 1) := by
 intro d
 induction d with
 | zero =>
  intro k i hi hk
  obtain ⟨k, rfl⟩ : ∃ j, k = j + 1 := ⟨k - 1, by omega⟩
  unfold P.vault_check.l0
  rw [if_neg zb13, List.drop_eq_nil_of_le zb13]
  rfl
 | succ d ih =>
  intro k i hi hk
  obtain ⟨k, rfl⟩ : ∃ j, k = j + 1 := ⟨k - 1, by omega⟩
  obtain ⟨b, hb⟩ : ∃ b, ps[i]? = some b := ⟨_, List.getElem?_eq_getElem zb13⟩
  have hr : P.rd_T28 (ps.map toB) (i : Int) = toB b := by
   unfold P.rd_T28
   rw [Int.toNat_natCast, List.getD_eq_getElem?_getD, List.getElem?_map, hb]
   rfl
  have e1 : ps.drop i = b :: ps.drop (i + 1) := by
   obtain ⟨h1, h2⟩ := List.getElem?_eq_some_iff.1 hb
   rw [← h2]
   exact List.drop_eq_getElem_cons h1
  unfold P.vault_check.l0
  rw [if_pos zb13, if_pos zb13, if_pos (by rw [List.length_map]; omega), hr]
  have hp := Mn.print_eq 0 [(⟨mkB b.1, mkB b.1, 0, 0⟩ : Rw)] k zb35 zb41
  show (P.manifest_Print.f k 0 [(⟨mkB b.1, mkB b.1, 0, 0⟩ : Rw)]).bind _ = _
  rw [hp, Option.bind_some, check_row, e1, List.all_cons]
  by_cases hn : nameOk b.1 = true
  ·rw [if_pos hn, if_pos rfl, hn, Bool.true_and]
   have hw : wrap64 ((i : Int) + 1) = ((i + 1 : Nat) : Int) := by
    rw [show (i : Int) + 1 = ((i + 1 : Nat) : Int) by omega]
    exact wrap_nat _ zb13
   rw [hw]
   exact ih k (i + 1) zb13 zb13
  ·rw [if_neg hn, if_neg zb25, show nameOk b.1 = false by simpa using hn]
   rfl
def checkI (n : Nat) (ps : List (L × L)) : Int := if 1099511627776 < n then 2 else if (ps.all fun b => nameOk b.1) = false then 1 else 0
theorem check_calls (n : Nat) {ps : List (L × L)} (hG : Glob w) (hr : Blobs w A ps) (hc : ps.length ≤ c) (hps : ps.length ≤ 1000000) : Calls Tryz.prog 58 #[.int .i64 (n : Nat), .slice A ps.length c] w fun e w' => e = .returned (.int .i64 (checkI n ps)) ∧ Below w.heap.size w w' := by
 have hlen : (ps.map toB).length = ps.length := List.length_map _
 have h := P.vault_check.calls (ps.length + 20) (n : Int) A c (ps.map toB) (checkI n ps) w (by rw [hlen]; exact hr) (by rw [hlen]; exact hc) hG (by
  unfold P.vault_check.f checkI
  by_cases hn : 1099511627776 < n
  ·rw [if_pos zb13, if_pos hn]
  ·rw [if_neg zb13, if_neg hn, hlen]
   have h1 := check_l0 ps hps ps.length (ps.length + 20) 0 zb13 zb13
   rw [List.drop_zero] at h1
   refine h1.trans ?_
   cases hq : ps.all fun b => nameOk b.1 <;> simp)
 rw [hlen] at h
 exact h
end
end Go.Proofs.YtfpbpakgajddnaaGreatDoor.Pl
/- VvD -/
namespace Go.Proofs.YtfpbpakgajddnaaGreatDoor.Pl
open Go Go.RowKit Go.Maps Go.Proofs.YtfpbpakgajddnaaGreatDoorW.PrintWords Go.Proofs.YtfpbpakgajddnaaGreatDoorW.PrintLast Go.Proofs.YtfpbpakgajddnaaGreatDoorW.PrintMore
open Go.Proofs.YtfpbpakgajddnaaGreatDoor.O (Glob)
set_option linter.unusedVariables false
set_option linter.unusedSimpArgs false
def okRow (c : Codec) (m : Mach) (r : RowM) : Bool := decide ((read m r.file).2 = 0) && decide ((read m r.file).1.length = r.size) && decide (c.sum (read m r.file).1 = r.sum)
theorem whole_eq (c : Codec) (m : Mach) (l : List RowM) : whole c m l = l.all (okRow c m) := rfl
theorem not_all {α : Type} (p : α → Bool) : ∀ l : List α, (!(l.any fun x => !p x)) = l.all p
 | [] => rfl
 | x :: l => by
  rw [List.any_cons, List.all_cons, ← not_all p l]
  cases p x <;> simp
theorem read_len {C : Nat} {m : Mach} (hi : Inv C m) (x : L) : (read m x).1.length ≤ 4194304 := by
 unfold read
 cases hk : m.find x with
 | none => exact Nat.zero_le _
 | some k =>
  have h1 : ((fileAt m.files k).all.length : Int) ≤ m.room := hi.size _ (fileAt_mem (hi.now_key _ (look_mem hk)))
  have h2 := hi.room1
  show (fileAt m.files k).all.length ≤ _
  omega
section
variable {w w' : World} {vb bp pb C K : Nat} {v : VM} {rv : Value} {F H : Nat → Prop} {m : Mach}
set_option maxRecDepth 100000 in
set_option maxHeartbeats 8000000 in
theorem whole1_calls (r : RowM) (hb : w.heap[pb]? = some (.cells #[.pointer (some ⟨vb, 0, none⟩)] 31 (0, 0))) (ht : w.cell? ⟨vb, 0, none⟩ = some (.pointer (some ⟨bp, 0, none⟩))) (hp : Plate w bp m F) (hg : Good C K m) (hr : (mkB r.file).size ≤ 100000000000000) :
  Calls Tryz.prog 93 (#[.agg #[.string (mkB r.name), .string (mkB r.file), .int .i64 (r.size : Int), .int .i64 (r.sum : Int)]] ++ #[.pointer (some ⟨pb, 0, none⟩)]) w fun e w' => e = .returned (.bool (!okRow cdc m r)) ∧ Below w.heap.size w w' := by
 have hlt := blk_lt hb
 have hvl : vb < w.heap.size := block_lt_of_cell ht
 have hok : okRow cdc m r = (decide ((read m r.file).2 = 0) && decide ((read m r.file).1.length = r.size) && decide (cdc.sum (read m r.file).1 = r.sum)) := rfl
 have HOK := Lib.hid hok
 have hbx : (w.alloc (.cells #[.string (mkB r.name), .string (mkB r.file), .int .i64 (r.size : Int), .int .i64 (r.sum : Int)] 120 (0, 0))).heap[w.heap.size]? = some (.cells #[.string (mkB r.name), .string (mkB r.file), .int .i64 (r.size : Int), .int .i64 (r.sum : Int)] 120 (0, 0)) := alloc_new w _
 have hba : Below w.heap.size w (w.alloc (.cells #[.string (mkB r.name), .string (mkB r.file), .int .i64 (r.size : Int), .int .i64 (r.sum : Int)] 120 (0, 0))) := (Below.refl _ _).alloc (Nat.le_refl _) _
 have HBA := Lib.hid hba
 have HCL := Lib.hid (fun (W : World) (b : Below (w.alloc (.cells #[.string (mkB r.name), .string (mkB r.file), .int .i64 (r.size : Int), .int .i64 (r.sum : Int)] 120 (0, 0))).heap.size (w.alloc (.cells #[.string (mkB r.name), .string (mkB r.file), .int .i64 (r.size : Int), .int .i64 (r.sum : Int)] 120 (0, 0))) W) =>
  (show W.cell? ⟨pb, 0, none⟩ = some (.pointer (some ⟨vb, 0, none⟩)) ∧ W.cell? ⟨vb, 0, none⟩ = some (.pointer (some ⟨bp, 0, none⟩)) ∧ W.cell? ⟨w.heap.size, 1, none⟩ = some (.string (mkB r.file)) ∧ W.cell? ⟨w.heap.size, 2, none⟩ = some (.int .i64 (r.size : Int)) ∧ W.cell? ⟨w.heap.size, 3, none⟩ = some (.int .i64 (r.sum : Int)) from by
   have h1 := hba.trans (b.mono hba.size)
   have h2 := (b.block _ (blk_lt hbx)).trans hbx
   exact ⟨cell_at ((h1.block _ hlt).trans hb) 0, (cell_block (h1.block _ hvl)).trans ht, cell_at h2 1, cell_at h2 2, cell_at h2 3⟩))
 have HRD := Lib.hid (fun (W : World) (b : Below (w.alloc (.cells #[.string (mkB r.name), .string (mkB r.file), .int .i64 (r.size : Int), .int .i64 (r.sum : Int)] 120 (0, 0))).heap.size (w.alloc (.cells #[.string (mkB r.name), .string (mkB r.file), .int .i64 (r.size : Int), .int .i64 (r.sum : Int)] 120 (0, 0))) W) => Read_calls (mkB r.file) (hp.still (hba.trans (b.mono hba.size))) hr)
 have HH := Lib.hid (fun (W W' : World) (b : Below (w.alloc (.cells #[.string (mkB r.name), .string (mkB r.file), .int .i64 (r.size : Int), .int .i64 (r.sum : Int)] 120 (0, 0))).heap.size (w.alloc (.cells #[.string (mkB r.name), .string (mkB r.file), .int .i64 (r.size : Int), .int .i64 (r.sum : Int)] 120 (0, 0))) W) (t : Tch (fun _ => False) W W') => b.trans ((t.below (Nat.le_refl _) (fun _ h => h.elim)).mono b.size))
 rw [mkB_data] at HRD
 obtain ⟨s, z, hsz⟩ : ∃ s z, read m r.file = (s, z) := ⟨_, _, rfl⟩
 have hsl : s.length ≤ 9223372036854775807 := by
  have := read_len hg.inv r.file
  rw [hsz] at this
  simp only at this
  omega
 rw [hsz] at HRD HOK
 simp only at HRD HOK
 have HSUM := Lib.hid (fun (W : World) => sum_calls (w := W) s hsl)
 have hms : (mkB s).size = s.length := mkB_size s
 clear hp hb hok hsz hbx hba ht
 show Calls Tryz.prog _ #[_, _] _ _
 go_enter Tryz.func93, Tryz.ntmps93
 go_wp2
 refine start_ (n := 12) (S := fun w' => Below (w.alloc (.cells #[.string (mkB r.name), .string (mkB r.file), .int .i64 (r.size : Int), .int .i64 (r.sum : Int)] 120 (0, 0))).heap.size (w.alloc (.cells #[.string (mkB r.name), .string (mkB r.file), .int .i64 (r.size : Int), .int .i64 (r.sum : Int)] 120 (0, 0))) w') (ds := []) #[false, false, false, false, false, false, false, false, false, false, false, false] zb10 rfl rfl ((Below.refl _ _).drew) (fun hHeld => ?_)
 refine pur_ 4 (some 11) rfl rfl ?_
 refine tak_ 0 (some 7) rfl rfl hHeld (fun w' hs => by (have cs : w'.cell? ⟨pb, 0, none⟩ = some (.pointer (some ⟨vb, 0, none⟩)) := (HCL.out _ (show Below (w.alloc (.cells #[.string (mkB r.name), .string (mkB r.file), .int .i64 (r.size : Int), .int .i64 (r.sum : Int)] 120 (0, 0))).heap.size (w.alloc (.cells #[.string (mkB r.name), .string (mkB r.file), .int .i64 (r.size : Int), .int .i64 (r.sum : Int)] 120 (0, 0))) w' from hs)).1; go_simp; first | with_reducible rfl | rfl)) ?_
 refine pur_ 1 (some 8) rfl rfl ?_
 refine pur_ 2 (some 9) rfl rfl ?_
 refine tak_ 3 (some 10) rfl rfl hHeld (fun w' hs => by (have cs : w'.cell? ⟨vb, 0, none⟩ = some (.pointer (some ⟨bp, 0, none⟩)) := (HCL.out _ (show Below (w.alloc (.cells #[.string (mkB r.name), .string (mkB r.file), .int .i64 (r.size : Int), .int .i64 (r.sum : Int)] 120 (0, 0))).heap.size (w.alloc (.cells #[.string (mkB r.name), .string (mkB r.file), .int .i64 (r.size : Int), .int .i64 (r.sum : Int)] 120 (0, 0))) w' from hs)).2.1; go_simp; first | with_reducible rfl | rfl)) ?_
 refine tak_ 5 (some 12) rfl rfl hHeld (fun w' hs => by (have cs : w'.cell? ⟨w.heap.size, 1, none⟩ = some (.string (mkB r.file)) := (HCL.out _ (show Below (w.alloc (.cells #[.string (mkB r.name), .string (mkB r.file), .int .i64 (r.size : Int), .int .i64 (r.sum : Int)] 120 (0, 0))).heap.size (w.alloc (.cells #[.string (mkB r.name), .string (mkB r.file), .int .i64 (r.size : Int), .int .i64 (r.sum : Int)] 120 (0, 0))) w' from hs)).2.2.1; go_simp; first | with_reducible rfl | rfl)) ?_
 refine on_ 6 (some 13) rfl rfl (fun K hK => ?_)
 refine goes_ Tryz.func47 zb10 rfl #[.pointer (some ⟨bp, 0, none⟩), .string (mkB r.file)] (by rfl) rfl rfl zb17 ?_
 refine (HRD.out _ (hHeld)).mono ?_
 rintro e w1 ⟨rfl, _, ht1⟩
 have hh1 := HH.out _ _ hHeld ht1
 clear ht1
 refine ⟨_, rfl, ?_⟩
 refine hK.out _ _ (hh1) (fun hHeld => ?_)
 clear hK K
 refine norm_ (a' := ?_) ?_ ?_
 rotate_left
 ·show Act.put _ (some 13) _ = _
  simp only [Act.put, List.setIfInBounds_toArray, List.set_cons_zero, List.set_cons_succ, i64_w, i32_w]
  rfl
 refine pur_ 7 (some 6) rfl rfl ?_
 refine pur_ 8 (some 14) rfl rfl ?_
 refine pur_ 9 (some 15) rfl rfl ?_
 refine pur_ 10 (some 4) rfl rfl ?_
 refine pur_ 11 (some 5) rfl rfl ?_
 refine done_ zb10 ?_
 have HC2 := Lib.hid (fun (W : World) (b : Below w1.heap.size w1 W) => (show W.cell? ⟨w.heap.size, 2, none⟩ = some (.int .i64 (r.size : Int)) ∧ W.cell? ⟨w.heap.size, 3, none⟩ = some (.int .i64 (r.sum : Int)) from (HCL.out _ (hh1.trans (b.mono hh1.size))).2.2.2))
 have fin : ∀ w4 (q : Bool), Below w1.heap.size w1 w4 → q = (!(decide (z = 0) && decide (s.length = r.size) && decide (cdc.sum s = r.sum))) → Ending.returned (.bool q) = .returned (.bool (!okRow cdc m r)) ∧ Below w.heap.size w w4 := fun w4 q hb hq => ⟨by rw [HOK.out, hq], (HBA.out.trans (hh1.mono HBA.out.size)).trans (hb.mono (Nat.le_trans HBA.out.size hh1.size))⟩
 have FIN := Lib.hid fin
 clear fin hh1
 go_wp2
 by_cases hz : z = 0
 ·subst hz
  by_cases hl : s.length = r.size
  ·have hl1 : ((s.length : Int) != (r.size : Int)) = false := by rw [hl]; simp
   refine start_ (n := 17) (S := fun w' => Below w1.heap.size w1 w') (ds := []) #[false, false, false, false, false, false, false, false, false, false, false, false, false, false, false, false, false] zb10 rfl rfl ((Below.refl _ w1).drew) (fun hHeld => ?_)
   refine pur_ 0 (some 16) rfl rfl ?_
   refine pur_ 1 (some 17) rfl rfl ?_
   refine pur_ 2 (some 18) rfl rfl ?_
   refine pur_ 3 (some 19) rfl rfl ?_
   refine pur_ 4 (some 20) rfl rfl ?_
   refine pur_ 5 (some 21) rfl rfl ?_
   refine tak_ 6 (some 22) rfl rfl hHeld (fun w' hs => by (have cs : w'.cell? ⟨w.heap.size, 2, none⟩ = some (.int .i64 (r.size : Int)) := (HC2.out _ (show Below w1.heap.size w1 w' from hs)).1; go_simp; first | with_reducible rfl | rfl)) ?_
   refine pur_ 7 (some 23) rfl rfl ?_
   refine pur_ 8 (some 24) rfl rfl ?_
   refine pur_ 9 (some 25) rfl rfl ?_
   refine pur_ 10 (some 26) rfl rfl ?_
   refine pur_ 12 (some 28) rfl rfl ?_
   refine tak_ 13 (some 29) rfl rfl hHeld (fun w' hs => by (have cs : w'.cell? ⟨w.heap.size, 3, none⟩ = some (.int .i64 (r.sum : Int)) := (HC2.out _ (show Below w1.heap.size w1 w' from hs)).2; go_simp; first | with_reducible rfl | rfl)) ?_
   refine on_ 11 (some 27) rfl rfl (fun K hK => ?_)
   refine goes_ Tryz.func94 zb10 rfl #[.string (mkB s)] (by rfl) rfl rfl zb17 ?_
   refine (HSUM.out _).mono ?_
   rintro e w4 ⟨rfl, hb4⟩
   have hh4 := hHeld.trans (hb4.mono hHeld.size)
   clear hb4
   refine ⟨_, rfl, ?_⟩
   refine hK.out _ _ (hh4) (fun hHeld => ?_)
   clear hK K
   refine norm_ (a' := ?_) ?_ ?_
   rotate_left
   ·show Act.put _ (some 27) _ = _
    simp only [Act.put, List.setIfInBounds_toArray, List.set_cons_zero, List.set_cons_succ, i64_w, i32_w]
    rfl
   refine pur_ 14 (some 30) rfl rfl ?_
   refine pur_ 15 (some 31) rfl rfl ?_
   refine pur_ 16 (some 3) rfl rfl ?_
   refine done_ zb10 ?_
   by_cases hq : cdc.sum s = r.sum
   ·have hq1 : ((cdc.sum s : Int) != (r.sum : Int)) = false := by rw [hq]; simp
    have hfin : false = (!(decide ((0 : Int) = 0) && decide (s.length = r.size) && decide (cdc.sum s = r.sum))) := by simp [hl, hq]
    have HF := Lib.hid hfin
    clear hfin
    go_wp2
    go_ret
    exact FIN.out _ _ hh4 HF.out
   ·have hq1 : ((cdc.sum s : Int) != (r.sum : Int)) = true := by simp; omega
    have hfin : true = (!(decide ((0 : Int) = 0) && decide (s.length = r.size) && decide (cdc.sum s = r.sum))) := by simp [hl, hq]
    have HF := Lib.hid hfin
    clear hfin
    go_wp2
    go_ret
    exact FIN.out _ _ hh4 HF.out
  ·have hl1 : ((s.length : Int) != (r.size : Int)) = true := by simp; omega
   have hfin : true = (!(decide ((0 : Int) = 0) && decide (s.length = r.size) && decide (cdc.sum s = r.sum))) := by simp [hl]
   have HF := Lib.hid hfin
   clear hfin
   refine start_ (n := 17) (S := fun w' => Below w1.heap.size w1 w') (ds := []) #[false, false, false, false, false, false, false, false, false, false, false, false, false, false, false, false, false] zb10 rfl rfl ((Below.refl _ w1).drew) (fun hHeld => ?_)
   refine pur_ 0 (some 16) rfl rfl ?_
   refine pur_ 1 (some 17) rfl rfl ?_
   refine pur_ 2 (some 18) rfl rfl ?_
   refine pur_ 3 (some 19) rfl rfl ?_
   refine pur_ 4 (some 20) rfl rfl ?_
   refine pur_ 5 (some 21) rfl rfl ?_
   refine tak_ 6 (some 22) rfl rfl hHeld (fun w' hs => by (have cs : w'.cell? ⟨w.heap.size, 2, none⟩ = some (.int .i64 (r.size : Int)) := (HC2.out _ (show Below w1.heap.size w1 w' from hs)).1; go_simp; first | with_reducible rfl | rfl)) ?_
   refine pur_ 7 (some 23) rfl rfl ?_
   refine pur_ 8 (some 24) rfl rfl ?_
   refine pur_ 9 (some 25) rfl rfl ?_
   refine pof_ 10 (some 26) rfl rfl ?_
   refine pof_ 12 (some 28) rfl rfl ?_
   refine pof_ 11 (some 27) rfl rfl ?_
   refine pof_ 13 (some 29) rfl rfl ?_
   refine pof_ 14 (some 30) rfl rfl ?_
   refine pur_ 15 (some 31) rfl rfl ?_
   refine pur_ 16 (some 3) rfl rfl ?_
   refine done_ zb10 ?_
   go_wp2
   go_ret
   exact FIN.out _ _ (Below.refl _ _).drew HF.out
 ·have hz1 : (z != 0) = true := by simpa using hz
  have hfin : true = (!(decide (z = 0) && decide (s.length = r.size) && decide (cdc.sum s = r.sum))) := by simp [hz]
  have HF := Lib.hid hfin
  clear hfin
  refine start_ (n := 17) (S := fun w' => Below w1.heap.size w1 w') (ds := []) #[false, false, false, false, false, false, false, false, false, false, false, false, false, false, false, false, false] zb10 rfl rfl ((Below.refl _ w1).drew) (fun hHeld => ?_)
  refine pur_ 0 (some 16) rfl rfl ?_
  refine pur_ 1 (some 17) rfl rfl ?_
  refine pur_ 2 (some 18) rfl rfl ?_
  refine pof_ 3 (some 19) rfl rfl ?_
  refine pof_ 4 (some 20) rfl rfl ?_
  refine pof_ 5 (some 21) rfl rfl ?_
  refine pof_ 6 (some 22) rfl rfl ?_
  refine pof_ 7 (some 23) rfl rfl ?_
  refine pur_ 8 (some 24) rfl rfl ?_
  refine pur_ 9 (some 25) rfl rfl ?_
  refine pof_ 10 (some 26) rfl rfl ?_
  refine pof_ 12 (some 28) rfl rfl ?_
  refine pof_ 11 (some 27) rfl rfl ?_
  refine pof_ 13 (some 29) rfl rfl ?_
  refine pof_ 14 (some 30) rfl rfl ?_
  refine pur_ 15 (some 31) rfl rfl ?_
  refine pur_ 16 (some 3) rfl rfl ?_
  refine done_ zb10 ?_
  go_wp2
  go_ret
  exact FIN.out _ _ (Below.refl _ _).drew HF.out
end
end Go.Proofs.YtfpbpakgajddnaaGreatDoor.Pl
/- VvE -/
namespace Go.Proofs.YtfpbpakgajddnaaGreatDoor.Pl
open Go Go.RowKit Go.Maps Go.Proofs.YtfpbpakgajddnaaGreatDoorW.PrintWords
open Go.Proofs.YtfpbpakgajddnaaGreatDoor.O (Glob)
set_option linter.unusedVariables false
set_option linter.unusedSimpArgs false
section
variable {w w' : World} {vb bp pb C K : Nat} {v : VM} {rv : Value} {F H : Nat → Prop} {m : Mach}
theorem whole1_eg : ∀ args w, (callFunc 93 args).run Tryz.prog w = .ok (.enter 93 args) w := enters_of Tryz.func93 zb10 rfl
theorem rowFile_short {r : RowM} (h : nameOk r.file = true) : (mkB r.file).size ≤ 100000000000000 := mkB_name h
set_option maxRecDepth 100000 in
set_option maxHeartbeats 8000000 in
theorem whole_calls (hv : VP w vb bp v rv) (hp : Plate w bp m F) (hg : Good C K m) (hf : ∀ r ∈ v.rows, nameOk r.file = true) :
  Calls Tryz.prog 56 #[.pointer (some ⟨vb, 0, none⟩)] w fun e w' => e = .returned (.bool (whole cdc m v.rows)) ∧ Below w.heap.size w w' := by
 obtain ⟨A, c, rfl⟩ := row_slice hv.rows
 have hlt := blk_lt hv.top
 have k1 : ¬ vb = w.heap.size := by omega
 have k2 : ¬ w.heap.size = vb := by omega
 have c2 : w.cell? ⟨vb, 2, none⟩ = some (.slice A v.rows.length c) := cell_at hv.top 2
 have ha : Below w.heap.size w (w.alloc (.cells #[.pointer (some ⟨vb, 0, none⟩)] 31 (0, 0))) := (Below.refl _ _).alloc (Nat.le_refl _) _
 have HC := Lib.hid (containsRows (w := w.alloc (.cells #[.pointer (some ⟨vb, 0, none⟩)] 31 (0, 0))) (p := fun r => !okRow cdc m r) (F := fun _ => False) whole1_eg (hv.rows.alloc _) (lb := #[.pointer (some ⟨w.heap.size, 0, none⟩)]) (fun W r hr t => by
  have hb : Below w.heap.size w W := ha.trans ((t.below (Nat.le_refl _) (fun _ h => h.elim)).mono ha.size)
  exact whole1_calls r (t.keep (alloc_new w _) id) ((cell_block (hb.block _ hlt)).trans (cell_at hv.top 0)) (hp.still hb) hg (rowFile_short (hf r hr))))
 have HW := Lib.hid (show (!(v.rows.any fun r => !okRow cdc m r)) = whole cdc m v.rows from by rw [whole_eq, not_all])
 have HA := Lib.hid ha
 generalize v.rows.any (fun r => !okRow cdc m r) = q at HC HW
 clear hv hp hf ha
 go_enter Tryz.func56, Tryz.ntmps56
 go_wp2_with (first
  | (go_at_call 92; refine HC.out.mono ?_; rintro e w2 ⟨rfl, hb2⟩)
  | go_in)
 go_ret
 refine ⟨?_, HA.out.trans (hb2.mono HA.out.size)⟩
 rw [← HW.out]
 rfl
/-- What Open has answered. -/
def Opened (bp : Nat) (F : Nat → Prop) (w : World) (r : Int × Option VM × Mach) (e : Ending) (w' : World) : Prop :=
  ∃ pv, e = .returned (.tuple #[pv, .int .i64 r.1]) ∧ Tch F w w' ∧ (match r.2.1 with
    | none => pv = .pointer none ∧ Plate w' bp r.2.2 (grow F w w')
    | some v => ∃ vb rv F', pv = .pointer (some ⟨vb, 0, none⟩) ∧ w.heap.size ≤ vb ∧ VS w' vb bp v r.2.2 rv F' (grow F w w'))
theorem vp_new (w : World) (bp : Nat) : VP (w.alloc (vtopC bp 0 (.slice none 0 0))) w.heap.size bp ⟨0, []⟩ (.slice none 0 0) := ⟨alloc_new w _, World.ownsRow_nil _ _ _ _⟩
/-- Behind Parse: its two stores. -/
theorem vp_set {w : World} {vb bp n : Nat} {l : List RowM} {v0 : VM} {r0 v' : Value} (h : VP w vb bp v0 r0) (hr : OwnRows w 0 v' l) : VP ((w.setCell ⟨vb, 1, none⟩ (.int .i64 (n : Int))).setCell ⟨vb, 2, none⟩ v') vb bp ⟨n, l⟩ v' := by
 have hne : v'.ownBlock ≠ some vb := fun e => by
  obtain ⟨_, e2⟩ := row_block hr e
  exact cells_ne h.top e2 zb25 rfl
 refine ⟨set_same (set_same h.top 1 (.int .i64 (n : Int))) 2 v', own_move hr (fun k hk => ?_)⟩
 have hk2 : k ≠ vb := fun e => hne (e ▸ hk)
 rw [set_other 2 _ hk2, set_other 1 _ hk2]
theorem open_fin {w4 w5 : World} {F0 : Nat → Prop} {e5 : Ending} (hB : Below w.heap.size w w4) (hv : VP w4 vb bp v rv) (h1 : w.heap.size ≤ vb) (h2 : ∀ k, rv.ownBlock = some k → w.heap.size ≤ k) (hF : ∀ i, F0 i → F i) (hF2 : ∀ i, F0 i → i < w.heap.size) (hs : says cdc m = some v) (hd : Done bp F0 w4 (sweep v m) e5 w5) :
  ((sweep v m).1 = 0 → Opened bp F w (openV cdc m) (.returned (.tuple #[.pointer (some ⟨vb, 0, none⟩), .int .i64 0])) w5) ∧ ((sweep v m).1 ≠ 0 → Opened bp F w (openV cdc m) (.returned (.tuple #[.pointer none, .int .i64 (sweep v m).1])) w5) := by
 obtain ⟨_, hp, ht⟩ := hd
 have hT : Tch F w w5 := (Tch.of_below hB).trans (ht.mono (fun k hk _ => hF k hk)) (fun k hk => .inl hk)
 have hgr : ∀ i, grow F0 w4 w5 i → grow F w w5 i := fun i hi => hi.imp (hF i) (fun h => ⟨Nat.le_trans hB.size h.1, h.2⟩)
 have hvl : ∀ i, vfoot vb rv i → w.heap.size ≤ i := fun i hi => by
  rcases hi with rfl | hi
  ·exact h1
  ·exact h2 i hi
 have hv5 : VP w5 vb bp v rv := hv.tch ht (fun i hi h => by
  have a1 := hvl i hi
  have a2 := hF2 i h
  omega)
 constructor
 ·intro hz
  have e : openV cdc m = (0, some v, (sweep v m).2) := by
   unfold openV
   rw [hs]
   simp only
   rw [if_pos hz]
  rw [e]
  refine ⟨_, rfl, hT, vb, rv, grow F0 w4 w5, rfl, h1, hv5, hp, fun i hi hg => ?_, hgr, fun i hi => .inr ⟨hvl i hi, hv5.lt hi⟩⟩
  rcases hg with hg | hg
  ·have a1 := hvl i hi
   have a2 := hF2 i hg
   omega
  ·have a1 := hv.lt hi
   omega
 ·intro hz
  have e : openV cdc m = ((sweep v m).1, none, (sweep v m).2) := by
   unfold openV
   rw [hs]
   simp only
   rw [if_neg hz]
  rw [e]
  exact ⟨_, rfl, hT, rfl, hp.widen hgr⟩
set_option maxRecDepth 100000 in
set_option maxHeartbeats 8000000 in
theorem open_calls (hp0 : Plate w bp m F) (hg : Good C K m) (hC : C + 2 * K ≤ 10000000) (hG : Glob w) (hm : (read m manL).1.length ≤ 90000) :
  Calls Tryz.prog 20 #[.pointer (some ⟨bp, 0, none⟩)] w (Opened bp F w (openV cdc m)) := by
 have hp := hp0.tight
 obtain ⟨F0, hF0⟩ : ∃ F0 : Nat → Prop, F0 = fun i => F i ∧ i < w.heap.size := ⟨_, rfl⟩
 rw [← hF0] at hp
 have HFF := Lib.hid (show ∀ i, F0 i → F i from fun i hi => by rw [hF0] at hi; exact hi.1)
 have HFL := Lib.hid (show ∀ i, F0 i → i < w.heap.size from fun i hi => by rw [hF0] at hi; exact hi.2)
 have hb1 : Below w.heap.size w (w.alloc (vtopC bp 0 (.slice none 0 0))) := (Below.refl _ _).alloc (Nat.le_refl _) _
 have HB1 := Lib.hid hb1
 have HRD := Lib.hid (show Calls Tryz.prog 47 #[.pointer (some ⟨bp, 0, none⟩), .string ⟨#[109, 97, 110, 105, 102, 101, 115, 116]⟩] (w.alloc (vtopC bp 0 (.slice none 0 0))) _ from Read_calls (mkB manL) (hp.still hb1) (by rw [mkB_size]; decide))
 rw [show (mkB manL).data.toList = manL from mkB_data _] at HRD
 obtain ⟨s, z, hsz⟩ : ∃ s z, read m manL = (s, z) := ⟨_, _, rfl⟩
 rw [hsz] at HRD hm
 simp only at HRD hm
 have HG := Lib.hid hg
 have HGL := Lib.hid hG
 have hsay : says cdc m = if z = 0 then (match cdc.parse s with
  | some (n, l) => if whole cdc m l then some ⟨n, l⟩ else none
  | none => none) else some ⟨0, []⟩ := by unfold says; rw [hsz]; rfl
 have HSAY := Lib.hid hsay
 have hl0 : w.heap.size < (w.alloc (vtopC bp 0 (.slice none 0 0))).heap.size := by simp
 have f0 : (w.alloc (vtopC bp 0 (.slice none 0 0))).heap[w.heap.size]? = some (vtopC bp 0 (.slice none 0 0)) := alloc_new w _
 have HF0 := Lib.hid f0
 clear hp hp0 hF0 hg hG hsay hb1 f0 hsz
 by_cases hz : z = 0
 ·subst hz
  rw [if_pos rfl] at HSAY
  have HPAR := Lib.hid (fun (W : World) (b : Below w.heap.size w W) => parse_calls (w := W) s (HGL.out.below b) hm)
  have HPD := Lib.hid (fun (n : Nat) (l : List RowM) (h : cdc.parse s = some (n, l)) => (Fine.parsed hm h).1)
  cases hps : cdc.parse s with
  | none =>
   rw [hps] at HSAY HPAR
   simp only at HSAY HPAR
   have HOP := Lib.hid (show openV cdc m = (30, none, m) from by unfold openV; rw [HSAY.out])
   go_enter Tryz.func20, Tryz.ntmps20
   go_wp2_with (first
    | (go_at_call 47; refine HRD.out.mono ?_; rintro e w2 ⟨rfl, hp2, ht2⟩; have HP2 := Lib.hid hp2; have HT2 := Lib.hid ht2; clear hp2 ht2; have HV2 := Lib.hid ((vp_new w bp).tch HT2.out (fun _ _ h => h)); have HB2 := Lib.hid (HB1.out.trans ((HT2.out.below (Nat.le_refl _) (fun _ h => h.elim)).mono HB1.out.size)))
    | (go_at_call 55; refine (HPAR.out _ HB2.out).mono ?_; rintro e w3 ⟨⟨v', rfl, ho3⟩, hb3⟩; have hv3 := HV2.out.tch (F := fun _ => False) (.of_below hb3) (fun _ _ => id); have e1 := cell_at hv3.top 1; have z1 := melt_at hv3.top 1; have e2 := cell_at hv3.top 2; have z2 := melt_at hv3.top 2; have HB3 := Lib.hid hb3; obtain ⟨A3, c3, rfl⟩ := row_slice ho3; clear ho3 hv3 hb3)
    | go_in)
   go_ret2
   rw [HOP.out]
   refine ⟨_, rfl, ?_, rfl, ?_⟩
   ·exact (((Tch.of_below HB2.out).andBelow HB3.out).andSet _ (.inr (Nat.le_refl _))).andSet _ (.inr (Nat.le_refl _))
   ·have hp3 : Plate w3 bp m F0 := HP2.out.still HB3.out
    refine (hp3.move (fun i hi hl => ?_)).widen (fun i hi => .inl (HFF.out i hi))
    have hne : i ≠ w.heap.size := by have := HFL.out i hi; omega
    rw [set_other 2 _ hne, set_other 1 _ hne]
  | some q =>
   obtain ⟨n, l⟩ := q
   have HFN := Lib.hid (HPD.out n l hps)
   rw [hps] at HSAY HPAR
   simp only at HSAY HPAR
   cases hwh : whole cdc m l with
   | false =>
    rw [hwh, if_neg zb25] at HSAY
    have HOP := Lib.hid (show openV cdc m = (30, none, m) from by unfold openV; rw [HSAY.out])
    go_enter Tryz.func20, Tryz.ntmps20
    go_wp2_with (first
     | (go_at_call 47; refine HRD.out.mono ?_; rintro e w2 ⟨rfl, hp2, ht2⟩; have HP2 := Lib.hid hp2; have HT2 := Lib.hid ht2; clear hp2 ht2; have HV2 := Lib.hid ((vp_new w bp).tch HT2.out (fun _ _ h => h)); have HB2 := Lib.hid (HB1.out.trans ((HT2.out.below (Nat.le_refl _) (fun _ h => h.elim)).mono HB1.out.size)))
     | (go_at_call 55; refine (HPAR.out _ HB2.out).mono ?_; rintro e w3 ⟨⟨v', rfl, ho3⟩, hb3⟩; have hv3 := HV2.out.tch (F := fun _ => False) (.of_below hb3) (fun _ _ => id); have e1 := cell_at hv3.top 1; have z1 := melt_at hv3.top 1; have e2 := cell_at hv3.top 2; have z2 := melt_at hv3.top 2; have HB3 := Lib.hid hb3; have HO3 := Lib.hid ho3; have HV3 := Lib.hid hv3; obtain ⟨A3, c3, rfl⟩ := row_slice ho3; clear ho3 hv3 hb3)
     | (go_at_call 56; refine (whole_calls (m := m) (F := F0) (vp_set HV3.out (own_weaken HO3.out (Nat.zero_le _))) ((HP2.out.still HB3.out).move (fun i hi hl => by have hne : i ≠ w.heap.size := (by have := HFL.out i hi; omega); rw [set_other 2 _ hne, set_other 1 _ hne])) HG.out (fun r hr => (HFN.out.each r hr).file)).mono ?_; rintro e w4 ⟨rfl, hb4⟩; rw [show whole cdc m (VM.rows ⟨n, l⟩) = false from hwh]; have HB4 := Lib.hid hb4; clear hb4)
     | go_in)
    go_ret2
    rw [HOP.out]
    refine ⟨_, rfl, ?_, rfl, ?_⟩
    ·exact ((((Tch.of_below HB2.out).andBelow HB3.out).andSet _ (.inr (Nat.le_refl _))).andSet _ (.inr (Nat.le_refl _))).andBelow HB4.out
    ·have hp3 : Plate w3 bp m F0 := HP2.out.still HB3.out
     refine (((hp3.move (w' := (w3.setCell ⟨w.heap.size, 1, none⟩ (.int .i64 (n : Int))).setCell ⟨w.heap.size, 2, none⟩ _) (fun i hi hl => ?_)).still HB4.out)).widen (fun i hi => .inl (HFF.out i hi))
     have hne : i ≠ w.heap.size := by have := HFL.out i hi; omega
     rw [set_other 2 _ hne, set_other 1 _ hne]
   | true =>
    rw [hwh, if_pos rfl] at HSAY
    obtain ⟨z3, hz3⟩ : ∃ z3, (sweep ⟨n, l⟩ m).1 = z3 := ⟨_, rfl⟩
    have HZ3 := Lib.hid hz3
    clear hz3
    by_cases h3 : z3 = 0
    ·subst h3
     go_enter Tryz.func20, Tryz.ntmps20
     go_wp2_with (first
      | (go_at_call 47; refine HRD.out.mono ?_; rintro e w2 ⟨rfl, hp2, ht2⟩; have HP2 := Lib.hid hp2; have HT2 := Lib.hid ht2; clear hp2 ht2; have HV2 := Lib.hid ((vp_new w bp).tch HT2.out (fun _ _ h => h)); have HB2 := Lib.hid (HB1.out.trans ((HT2.out.below (Nat.le_refl _) (fun _ h => h.elim)).mono HB1.out.size)))
      | (go_at_call 55; refine (HPAR.out _ HB2.out).mono ?_; rintro e w3 ⟨⟨v', rfl, ho3⟩, hb3⟩; have hv3 := HV2.out.tch (F := fun _ => False) (.of_below hb3) (fun _ _ => id); have e1 := cell_at hv3.top 1; have z1 := melt_at hv3.top 1; have e2 := cell_at hv3.top 2; have z2 := melt_at hv3.top 2; have HB3 := Lib.hid hb3; have HO3 := Lib.hid ho3; have HV3 := Lib.hid hv3; obtain ⟨A3, c3, rfl⟩ := row_slice ho3; clear ho3 hv3 hb3)
      | (go_at_call 56; have HV4 := Lib.hid (vp_set (n := n) HV3.out (own_weaken HO3.out (Nat.zero_le _))); have HP4 := Lib.hid ((HP2.out.still HB3.out).move (w' := (w3.setCell ⟨w.heap.size, 1, none⟩ (.int .i64 (n : Int))).setCell ⟨w.heap.size, 2, none⟩ (.slice A3 l.length c3)) (fun i hi hl => by have hne : i ≠ w.heap.size := (by have := HFL.out i hi; omega); rw [set_other 2 _ hne, set_other 1 _ hne])); refine (whole_calls (m := m) (F := F0) HV4.out HP4.out HG.out (fun r hr => (HFN.out.each r hr).file)).mono ?_; rintro e w4 ⟨rfl, hb4⟩; rw [show whole cdc m (VM.rows ⟨n, l⟩) = true from hwh]; have HB4 := Lib.hid hb4; have hb24 := ((HB2.out.trans (HB3.out.mono HB2.out.size)).setCell (p := ⟨w.heap.size, 1, none⟩) (Nat.le_refl _) (.int .i64 (n : Int))).setCell (p := ⟨w.heap.size, 2, none⟩) (Nat.le_refl _) (.slice A3 l.length c3); have HBW := Lib.hid (hb24.trans (hb4.mono hb24.size)); have hv5 := HV4.out.tch (F := fun _ => False) (.of_below hb4) (fun _ _ => id); have HV5 := Lib.hid hv5; have HRB := Lib.hid (show ∀ k, (Value.slice A3 l.length c3).ownBlock = some k → w.heap.size ≤ k from fun k hk => Nat.le_trans HB2.out.size (own_base HO3.out k hk)); have HSW := Lib.hid (sweep_calls hv5 (HP4.out.still hb4) (fun i hi h => by have a1 := HFL.out i h; rcases hi with hi | hi; omega; have a2 := HRB.out i hi; omega) HG.out hC); clear hb4 hv5 hb24)
      | (go_at_call 57; refine HSW.out.mono ?_; rintro e w5 hd; have HD := Lib.hid hd; obtain ⟨rfl, _, _⟩ := hd; rw [HZ3.out]; have HFIN := Lib.hid (open_fin HBW.out HV5.out (Nat.le_refl _) HRB.out HFF.out HFL.out HSAY.out HD.out))
      | go_in)
     go_ret2
     exact HFIN.out.1 HZ3.out
    ·have h3a : (z3 != 0) = true := by simpa using h3
     go_enter Tryz.func20, Tryz.ntmps20
     go_wp2_with (first
      | (go_at_call 47; refine HRD.out.mono ?_; rintro e w2 ⟨rfl, hp2, ht2⟩; have HP2 := Lib.hid hp2; have HT2 := Lib.hid ht2; clear hp2 ht2; have HV2 := Lib.hid ((vp_new w bp).tch HT2.out (fun _ _ h => h)); have HB2 := Lib.hid (HB1.out.trans ((HT2.out.below (Nat.le_refl _) (fun _ h => h.elim)).mono HB1.out.size)))
      | (go_at_call 55; refine (HPAR.out _ HB2.out).mono ?_; rintro e w3 ⟨⟨v', rfl, ho3⟩, hb3⟩; have hv3 := HV2.out.tch (F := fun _ => False) (.of_below hb3) (fun _ _ => id); have e1 := cell_at hv3.top 1; have z1 := melt_at hv3.top 1; have e2 := cell_at hv3.top 2; have z2 := melt_at hv3.top 2; have HB3 := Lib.hid hb3; have HO3 := Lib.hid ho3; have HV3 := Lib.hid hv3; obtain ⟨A3, c3, rfl⟩ := row_slice ho3; clear ho3 hv3 hb3)
      | (go_at_call 56; have HV4 := Lib.hid (vp_set (n := n) HV3.out (own_weaken HO3.out (Nat.zero_le _))); have HP4 := Lib.hid ((HP2.out.still HB3.out).move (w' := (w3.setCell ⟨w.heap.size, 1, none⟩ (.int .i64 (n : Int))).setCell ⟨w.heap.size, 2, none⟩ (.slice A3 l.length c3)) (fun i hi hl => by have hne : i ≠ w.heap.size := (by have := HFL.out i hi; omega); rw [set_other 2 _ hne, set_other 1 _ hne])); refine (whole_calls (m := m) (F := F0) HV4.out HP4.out HG.out (fun r hr => (HFN.out.each r hr).file)).mono ?_; rintro e w4 ⟨rfl, hb4⟩; rw [show whole cdc m (VM.rows ⟨n, l⟩) = true from hwh]; have HB4 := Lib.hid hb4; have hb24 := ((HB2.out.trans (HB3.out.mono HB2.out.size)).setCell (p := ⟨w.heap.size, 1, none⟩) (Nat.le_refl _) (.int .i64 (n : Int))).setCell (p := ⟨w.heap.size, 2, none⟩) (Nat.le_refl _) (.slice A3 l.length c3); have HBW := Lib.hid (hb24.trans (hb4.mono hb24.size)); have hv5 := HV4.out.tch (F := fun _ => False) (.of_below hb4) (fun _ _ => id); have HV5 := Lib.hid hv5; have HRB := Lib.hid (show ∀ k, (Value.slice A3 l.length c3).ownBlock = some k → w.heap.size ≤ k from fun k hk => Nat.le_trans HB2.out.size (own_base HO3.out k hk)); have HSW := Lib.hid (sweep_calls hv5 (HP4.out.still hb4) (fun i hi h => by have a1 := HFL.out i h; rcases hi with hi | hi; omega; have a2 := HRB.out i hi; omega) HG.out hC); clear hb4 hv5 hb24)
      | (go_at_call 57; refine HSW.out.mono ?_; rintro e w5 hd; have HD := Lib.hid hd; obtain ⟨rfl, _, _⟩ := hd; rw [HZ3.out]; have HFIN := Lib.hid (open_fin HBW.out HV5.out (Nat.le_refl _) HRB.out HFF.out HFL.out HSAY.out HD.out))
      | go_in)
     go_ret2
     have := HFIN.out.2 (by rw [HZ3.out]; exact h3)
     rw [HZ3.out] at this
     exact this
 ·have hz1 : (z != 0) = true := by simpa using hz
  have hz2 : (z == 0) = false := by simpa using hz
  rw [if_neg hz] at HSAY
  obtain ⟨z3, hz3⟩ : ∃ z3, (sweep ⟨0, []⟩ m).1 = z3 := ⟨_, rfl⟩
  have HZ3 := Lib.hid hz3
  clear hz3
  by_cases h3 : z3 = 0
  ·subst h3
   go_enter Tryz.func20, Tryz.ntmps20
   go_wp2_with (first
    | (go_at_call 47; refine HRD.out.mono ?_; rintro e w2 ⟨rfl, hp2, ht2⟩; have HP2 := Lib.hid hp2; have HT2 := Lib.hid ht2; clear hp2 ht2; have hv2 : VP w2 w.heap.size bp ⟨0, []⟩ (.slice none 0 0) := (vp_new w bp).tch HT2.out (fun _ _ h => h); have HV2 := Lib.hid hv2; have hb2 : Below w.heap.size w w2 := HB1.out.trans ((HT2.out.below (Nat.le_refl _) (fun _ h => h.elim)).mono HB1.out.size); have HB2 := Lib.hid hb2; have HSW := Lib.hid (sweep_calls hv2 HP2.out (fun i hi h => by have a1 := HFL.out i h; rcases hi with hi | hi; omega; cases hi) HG.out hC); clear hv2 hb2)
    | (go_at_call 57; refine HSW.out.mono ?_; rintro e w3 hd; have HD := Lib.hid hd; obtain ⟨rfl, _, _⟩ := hd; rw [HZ3.out]; have HFIN := Lib.hid (open_fin HB2.out HV2.out (Nat.le_refl _) (fun k hk => by cases hk) HFF.out HFL.out HSAY.out HD.out))
    | go_in)
   go_ret2
   exact HFIN.out.1 HZ3.out
  ·have h3a : (z3 != 0) = true := by simpa using h3
   go_enter Tryz.func20, Tryz.ntmps20
   go_wp2_with (first
    | (go_at_call 47; refine HRD.out.mono ?_; rintro e w2 ⟨rfl, hp2, ht2⟩; have HP2 := Lib.hid hp2; have HT2 := Lib.hid ht2; clear hp2 ht2; have hv2 : VP w2 w.heap.size bp ⟨0, []⟩ (.slice none 0 0) := (vp_new w bp).tch HT2.out (fun _ _ h => h); have HV2 := Lib.hid hv2; have hb2 : Below w.heap.size w w2 := HB1.out.trans ((HT2.out.below (Nat.le_refl _) (fun _ h => h.elim)).mono HB1.out.size); have HB2 := Lib.hid hb2; have HSW := Lib.hid (sweep_calls hv2 HP2.out (fun i hi h => by have a1 := HFL.out i h; rcases hi with hi | hi; omega; cases hi) HG.out hC); clear hv2 hb2)
    | (go_at_call 57; refine HSW.out.mono ?_; rintro e w3 hd; have HD := Lib.hid hd; obtain ⟨rfl, _, _⟩ := hd; rw [HZ3.out]; have HFIN := Lib.hid (open_fin HB2.out HV2.out (Nat.le_refl _) (fun k hk => by cases hk) HFF.out HFL.out HSAY.out HD.out))
    | go_in)
   go_ret2
   have := HFIN.out.2 (by rw [HZ3.out]; exact h3)
   rw [HZ3.out] at this
   exact this
end
theorem lowB_cons (x : L) (q : RowM) (t : List RowM) : lowB x (q :: t) = if bytesBefore q.name x = true then lowB x t + 1 else 0 := by
 unfold lowB
 rw [List.takeWhile_cons]
 split
 ·rw [List.length_cons]
 ·rfl
theorem hitB_cons (x : L) (q : RowM) (t : List RowM) : hitB x (q :: t) = if bytesBefore q.name x = true then hitB x t else q.name == x := by
 unfold hitB
 rw [lowB_cons]
 by_cases h : bytesBefore q.name x = true
 ·rw [if_pos h, if_pos h]
  rfl
 ·rw [if_neg h, if_neg h]
  rfl
theorem setR_at (r : RowM) : ∀ (l : List RowM), RisingR l → setR r l = if hitB r.name l = true then l.set (lowB r.name l) r else insL l (lowB r.name l) r
 | [], _ => rfl
 | q :: t, h => by
  have h1 := List.pairwise_cons.1 h
  have e1 := lowB_cons r.name q t
  have e2 := hitB_cons r.name q t
  unfold setR
  by_cases hq : r.name = q.name
  ·rw [← hq, WideAt.bytes_irrefl, if_neg zb25] at e1 e2
   rw [if_pos hq, e1, e2, if_pos zb35]
   rfl
  ·rw [if_neg hq]
   cases hb : bytesBefore r.name q.name with
   | true =>
    rw [before_asymm hb, if_neg zb25] at e1 e2
    rw [if_pos rfl, e1, e2, if_neg (by simpa using fun e : q.name = r.name => hq e.symm)]
    rfl
   | false =>
    have hb2 : bytesBefore q.name r.name = true := by
     rcases WideAt.bytes_total q.name r.name (fun e => hq e.symm) with h2 | h2
     ·exact h2
     ·rw [h2] at hb
      cases hb
    rw [hb2, if_pos rfl] at e1 e2
    rw [if_neg zb25, e1, e2, setR_at r t h1.2]
    split <;> rfl
section
variable {w w' : World} {A : Option Addr} {c gb : Nat}
set_option maxRecDepth 100000 in
set_option maxHeartbeats 4000000 in
theorem next1_calls (r : RowM) {gs : List L} (hb : w.heap[gb]? = some (.cells #[.slice A gs.length c] 41 (0, 0))) (hs : Strs w A gs) :
  Calls Tryz.prog 100 (#[.agg #[.string (mkB r.name), .string (mkB r.file), .int .i64 (r.size : Int), .int .i64 (r.sum : Int)]] ++ #[.pointer (some ⟨gb, 0, none⟩)]) w fun e w' => e = .returned (.bool (gs.contains r.name)) ∧ Below w.heap.size w w' := by
 have hlt := blk_lt hb
 have c0 : w.cell? ⟨gb, 0, none⟩ = some (.slice A gs.length c) := cell_at hb 0
 have k1 : ¬ gb = w.heap.size := by omega
 have k2 : ¬ w.heap.size = gb := by omega
 have ha : Below w.heap.size w (w.alloc (.cells #[.string (mkB r.name), .string (mkB r.file), .int .i64 (r.size : Int), .int .i64 (r.sum : Int)] 120 (0, 0))) := (Below.refl _ _).alloc (Nat.le_refl _) _
 have HC := Lib.hid (containsStr (w := w.alloc (.cells #[.string (mkB r.name), .string (mkB r.file), .int .i64 (r.size : Int), .int .i64 (r.sum : Int)] 120 (0, 0))) (A := A) (c := c) (l := gs) r.name (Kd.C_max hs) (fun W b i y hy => str_at (Kd.C_below hs (ha.trans (b.mono ha.size))) hy))
 have HA := Lib.hid ha
 generalize gs.contains r.name = q at *
 clear hb hs ha
 show Calls Tryz.prog _ #[_, _] _ _
 go_enter Tryz.func100, Tryz.ntmps100
 go_wp2_with (first
  | (go_at_call 101; refine HC.out.mono ?_; rintro e w2 ⟨rfl, hb2⟩)
  | go_in)
 go_ret
 exact ⟨rfl, HA.out.trans (hb2.mono HA.out.size)⟩
theorem next1_eg : ∀ args w, (callFunc 100 args).run Tryz.prog w = .ok (.enter 100 args) w := enters_of Tryz.func100 zb10 rfl
end
end Go.Proofs.YtfpbpakgajddnaaGreatDoor.Pl
/- VvG -/
namespace Go.Proofs.YtfpbpakgajddnaaGreatDoor.Pl
open Go Go.RowKit Go.Maps Go.Proofs.YtfpbpakgajddnaaGreatDoorW.PrintWords Go.Proofs.YtfpbpakgajddnaaGreatDoorW.PrintLast Go.Proofs.YtfpbpakgajddnaaGreatDoorW.PrintMore
open Go.Proofs.YtfpbpakgajddnaaGreatDoor.O (Glob)
set_option linter.unusedVariables false
set_option linter.unusedSimpArgs false
section
variable {w w' : World} {vb bp : Nat} {v : VM} {rv : Value} {A1 A2 : Option Addr} {c1 c2 : Nat}
set_option maxRecDepth 100000 in
set_option maxHeartbeats 16000000 in
theorem next_calls (n : Nat) {ps : List (L × L)} {gs : List L} (hv : VP w vb bp v rv) (hs : RisingR v.rows) (hl : v.rows.length ≤ 1000000) (hput : Blobs w A1 ps) (hps : ps.length ≤ 1000000) (hpd : ∀ b ∈ ps, b.2.length ≤ 9223372036854775807) (hgone : Strs w A2 gs) (hG : Glob w) (hn : n < 9223372036854775808) :
  Calls Tryz.prog 59 #[.pointer (some ⟨vb, 0, none⟩), .int .i64 (n : Nat), .slice A1 ps.length c1, .slice A2 gs.length c2] w fun e w' => ∃ v', e = .returned v' ∧ OwnRows w' w.heap.size v' (nextR cdc n ps gs v.rows) ∧ Below w.heap.size w w' := by
 obtain ⟨A, c, rfl⟩ := row_slice hv.rows
 have hlt := blk_lt hv.top
 have k1 : ¬ vb = w.heap.size := by omega
 have k2 : ¬ w.heap.size = vb := by omega
 have e2 : w.cell? ⟨vb, 2, none⟩ = some (.slice A v.rows.length c) := cell_at hv.top 2
 have ha : Below w.heap.size w (w.alloc (.cells #[.slice A2 gs.length c2] 41 (0, 0))) := (Below.refl _ _).alloc (Nat.le_refl _) _
 have HA := Lib.hid ha
 have HCL := Lib.hid (cloneRows (w := w.alloc (.cells #[.slice A2 gs.length c2] 41 (0, 0))) (hv.rows.alloc _) zb13)
 have HDEL := Lib.hid (fun (W : World) (A' : Option Addr) (c' : Nat) (hb : Below (w.alloc (.cells #[.slice A2 gs.length c2] 41 (0, 0))).heap.size (w.alloc (.cells #[.slice A2 gs.length c2] 41 (0, 0))) W) (hr : OwnRows W (w.alloc (.cells #[.slice A2 gs.length c2] 41 (0, 0))).heap.size (.slice A' v.rows.length c') v.rows) =>
  deleteRows (lb := #[.pointer (some ⟨w.heap.size, 0, none⟩)]) (p := fun r => gs.contains r.name) next1_eg hr (fun W2 r _ t => by
   have hbt : Below (w.alloc (.cells #[.slice A2 gs.length c2] 41 (0, 0))).heap.size (w.alloc (.cells #[.slice A2 gs.length c2] 41 (0, 0))) W2 := hb.trans (t.below hb.size (fun k hk => own_base hr k hk))
   exact next1_calls r ((hbt.block _ zb35).trans (alloc_new w _)) (Kd.C_below hgone (ha.trans (hbt.mono ha.size)))))
 have HPU := Lib.hid hput
 have HGL := Lib.hid hG
 have HPD := Lib.hid hpd
 have HSR := Lib.hid hs
 have HNX := Lib.hid (show putR cdc n 0 (ps.drop 0) (goneR gs v.rows) = nextR cdc n ps gs v.rows from rfl)
 have HGO := Lib.hid (show (v.rows.filter fun r => !gs.contains r.name) = goneR gs v.rows from rfl)
 generalize nextR cdc n ps gs v.rows = goal at *
 have hglen : (goneR gs v.rows).length ≤ v.rows.length := List.length_filter_le _ _
 have HRG := Lib.hid (show RisingR (goneR gs v.rows) from List.Pairwise.filter _ hs)
 clear hv hput hG ha hgone hpd hs
 go_enter Tryz.func59, Tryz.ntmps59
 go_wp2_with (first
  | (go_at_call 99; refine HCL.out.mono ?_; rintro e w1 ⟨v1, rfl, ho1, hb1⟩; obtain ⟨A', c', rfl⟩ := row_slice ho1; have HO1 := Lib.hid ho1; have HB1 := Lib.hid hb1; clear ho1 hb1)
  | (go_at_call 98; refine (HDEL.out _ _ _ HB1.out HO1.out).mono ?_; rintro e w2 ⟨v2, rfl, ho2, ht2, _⟩; rw [HGO.out] at ho2; have HO2 := Lib.hid ho2; have HB2 := Lib.hid (HA.out.trans ((HB1.out.trans (ht2.below HB1.out.size (fun k hk => own_base HO1.out k hk))).mono HA.out.size)); clear ho2 ht2)
  | go_in)
 go_loopw [9, 10, 11, 12, 13, 14, 24] (fun v9 _ _ _ _ _ v24 wr => ∃ (i : Nat) (cur : List RowM), v24 = Value.int .i64 (i : Int) ∧ i ≤ ps.length ∧ OwnRows wr w.heap.size v9 cur ∧ RisingR cur ∧ cur.length ≤ v.rows.length + i ∧ putR cdc n i (ps.drop i) cur = goal ∧ Below w.heap.size w wr)
  (fun _ _ _ _ _ _ v24 _ => ps.length - (intOf v24).toNat)
 case atStart => exact ⟨0, _, rfl, Nat.zero_le _, own_weaken HO2.out zb35, HRG.out, hglen, HNX.out, HB2.out⟩
 case round =>
  obtain ⟨i, cur, rfl, hil, how, hri, hcl, hpr, hbw⟩ := hrel
  obtain ⟨A9, c9, rfl⟩ := row_slice how
  have HOW := Lib.hid how
  have HRI := Lib.hid hri
  have HPR := Lib.hid hpr
  have HBW := Lib.hid hbw
  clear how hri hpr hbw
  by_cases hlt2 : i < ps.length
  ·have hdec : ((i : Int) < (ps.length : Int)) := by omega
   obtain ⟨b, hb⟩ : ∃ b, ps[i]? = some b := ⟨_, List.getElem?_eq_getElem hlt2⟩
   obtain ⟨ad, rfl, q0, q1⟩ := blob_at (Kd.C_below HPU.out HBW.out) hb
   have hbd := HPD.out b (List.mem_of_getElem? hb)
   have hms : (mkB b.2).size = b.2.length := mkB_size _
   have hal : Below wr.heap.size wr (wr.alloc (.cells #[.string (mkB b.1), .string (mkB b.2)] 28 (0, 0))) := (Below.refl _ _).alloc (Nat.le_refl _) _
   have HAL := Lib.hid hal
   have HBX := Lib.hid (fun (W : World) (h : Below (wr.alloc (.cells #[.string (mkB b.1), .string (mkB b.2)] 28 (0, 0))).heap.size (wr.alloc (.cells #[.string (mkB b.1), .string (mkB b.2)] 28 (0, 0))) W) => (show W.cell? ⟨wr.heap.size, 0, none⟩ = some (.string (mkB b.1)) ∧ W.cell? ⟨wr.heap.size, 1, none⟩ = some (.string (mkB b.2)) from by
    have h2 := (h.block _ zb35).trans (alloc_new wr _)
    exact ⟨cell_at h2 0, cell_at h2 1⟩))
   have HFI := Lib.hid (fun (W : World) (h : Below (wr.alloc (.cells #[.string (mkB b.1), .string (mkB b.2)] 28 (0, 0))).heap.size (wr.alloc (.cells #[.string (mkB b.1), .string (mkB b.2)] 28 (0, 0))) W) => file_calls (w := W) n i (HGL.out.below (HBW.out.trans ((hal.trans (h.mono hal.size)).mono HBW.out.size))) hn zb13)
   have HSU := Lib.hid (fun (W : World) => sum_calls (w := W) b.2 hbd)
   have hstep : putR cdc n i (ps.drop i) cur = putR cdc n (i + 1) (ps.drop (i + 1)) (setR ⟨b.1, cdc.name n i, b.2.length, cdc.sum b.2⟩ cur) := by
    obtain ⟨h1, h2⟩ := List.getElem?_eq_some_iff.1 hb
    rw [List.drop_eq_getElem_cons h1, h2]
    rfl
   have hset := setR_at ⟨b.1, cdc.name n i, b.2.length, cdc.sum b.2⟩ cur HRI.out
   have HST := Lib.hid hstep
   have HSE := Lib.hid hset
   have HRI2 := Lib.hid (rising_setR (r := ⟨b.1, cdc.name n i, b.2.length, cdc.sum b.2⟩) HRI.out)
   clear hb hal hstep hset
   go_wp2
   refine start_ (n := 14) (S := fun w' => Below (wr.alloc (.cells #[.string (mkB b.1), .string (mkB b.2)] 28 (0, 0))).heap.size (wr.alloc (.cells #[.string (mkB b.1), .string (mkB b.2)] 28 (0, 0))) w') (ds := []) #[false, false, false, false, false, false, false, false, false, false, false, false, false, false] zb10 rfl rfl ((Below.refl _ _).drew) (fun hHeld => ?_)
   refine pur_ 0 (some 29) rfl rfl ?_
   refine tak_ 1 (some 30) rfl rfl hHeld (fun w' hs => by (have cs : w'.cell? ⟨wr.heap.size, 0, none⟩ = some (.string (mkB b.1)) := (HBX.out _ (show Below (wr.alloc (.cells #[.string (mkB b.1), .string (mkB b.2)] 28 (0, 0))).heap.size (wr.alloc (.cells #[.string (mkB b.1), .string (mkB b.2)] 28 (0, 0))) w' from hs)).1; go_simp; first | with_reducible rfl | rfl)) ?_
   refine pur_ 2 (some 31) rfl rfl ?_
   refine pur_ 3 (some 32) rfl rfl ?_
   refine pur_ 5 (some 34) rfl rfl ?_
   refine tak_ 6 (some 35) rfl rfl hHeld (fun w' hs => by (have cs : w'.cell? ⟨wr.heap.size, 1, none⟩ = some (.string (mkB b.2)) := (HBX.out _ (show Below (wr.alloc (.cells #[.string (mkB b.1), .string (mkB b.2)] 28 (0, 0))).heap.size (wr.alloc (.cells #[.string (mkB b.1), .string (mkB b.2)] 28 (0, 0))) w' from hs)).2; go_simp; first | with_reducible rfl | rfl)) ?_
   refine pur_ 7 (some 36) rfl rfl ?_
   refine pur_ 8 (some 37) rfl rfl ?_
   refine tak_ 9 (some 38) rfl rfl hHeld (fun w' hs => by (have cs : w'.cell? ⟨wr.heap.size, 1, none⟩ = some (.string (mkB b.2)) := (HBX.out _ (show Below (wr.alloc (.cells #[.string (mkB b.1), .string (mkB b.2)] 28 (0, 0))).heap.size (wr.alloc (.cells #[.string (mkB b.1), .string (mkB b.2)] 28 (0, 0))) w' from hs)).2; go_simp; first | with_reducible rfl | rfl)) ?_
   refine join_ (σ := Nat) 1 #[true, true, true, true, true, true, true, true, true, true, true, true, true, false] (fun rb => [(33, .string (mkB (cdc.name n i))), (39, .int .i64 (cdc.sum b.2 : Nat)), (40, .agg #[.string (mkB b.1), .string (mkB (cdc.name n i)), .int .i64 (b.2.length : Nat), .int .i64 (cdc.sum b.2 : Nat)]), (12, .pointer (some ⟨rb, 0, none⟩))]) (fun rb w' => Below (wr.alloc (.cells #[.string (mkB b.1), .string (mkB b.2)] 28 (0, 0))).heap.size (wr.alloc (.cells #[.string (mkB b.1), .string (mkB b.2)] 28 (0, 0))) w' ∧ (wr.alloc (.cells #[.string (mkB b.1), .string (mkB b.2)] 28 (0, 0))).heap.size ≤ rb ∧ w'.heap[rb]? = some (.cells #[.string ⟨#[]⟩, .string ⟨#[]⟩, .int .i64 0, .int .i64 0] 120 (0, 0))) ?_ ?_
   rotate_left
   ·intro hJ
    refine two_ (i := 4) (j := 12) (Ni := some 33) (Nj := some 12) #[true, true, true, true, true, true, true, true, true, true, false, false, false, false] #[true, true, true, true, false, true, true, true, true, true, false, false, true, false] rfl rfl rfl rfl zb10 zb25 zb25 (fun K hK => ?_) (fun K hK => ?_)
    ·refine goes_ Tryz.func62 zb10 rfl #[.int .i64 (n : Nat), .int .i64 (i : Nat)] (by rfl) rfl rfl zb17 ?_
     refine (HFI.out _ hHeld).mono ?_
     rintro e w2 ⟨rfl, hb2⟩
     have hh2 := hHeld.trans (hb2.mono hHeld.size)
     try (have HRB := Lib.hid ((hb2.block _ (blk_lt HRB.out)).trans HRB.out))
     clear hb2
     refine ⟨_, rfl, ?_⟩
     refine hK.out _ _ (hh2) (fun hHeld => ?_)
     clear hK K
     refine norm_ (a' := ?_) ?_ ?_
     rotate_left
     ·show Act.put _ (some 33) _ = _
      simp only [Act.put, List.setIfInBounds_toArray, List.set_cons_zero, List.set_cons_succ, i64_w, i32_w]
      rfl
     refine two_ (i := 10) (j := 12) (Ni := some 39) (Nj := some 12) #[true, true, true, true, true, true, true, true, true, true, true, false, false, false] #[true, true, true, true, true, true, true, true, true, true, false, false, true, false] rfl rfl rfl rfl zb10 zb25 zb25 (fun K hK => ?_) (fun K hK => ?_)
     ·refine goes_ Tryz.func94 zb10 rfl #[.string (mkB b.2)] (by rfl) rfl rfl zb17 ?_
      refine (HSU.out _).mono ?_
      rintro e w2 ⟨rfl, hb2⟩
      have hh2 := hHeld.trans (hb2.mono hHeld.size)
      try (have HRB := Lib.hid ((hb2.block _ (blk_lt HRB.out)).trans HRB.out))
      clear hb2
      refine ⟨_, rfl, ?_⟩
      refine hK.out _ _ (hh2) (fun hHeld => ?_)
      clear hK K
      refine norm_ (a' := ?_) ?_ ?_
      rotate_left
      ·show Act.put _ (some 39) _ = _
       simp only [Act.put, List.setIfInBounds_toArray, List.set_cons_zero, List.set_cons_succ, i64_w, i32_w]
       rfl
      refine pur_ 11 (some 40) rfl rfl ?_
      refine on_ 12 (some 12) rfl rfl (fun K hK => ?_)
      refine box_step ?hg (N := 12) ?hd (cs := #[.string ⟨#[]⟩, .string ⟨#[]⟩, .int .i64 0, .int .i64 0]) (t := 120) ?hr ?_; (case hd => rfl); (case hg => rfl); (case hr => first | (go_simp; done) | (go_simp; rfl))
      intro rb hg_ w4 hbox_ hb_
      have hh4 := hHeld.trans (hb_.mono hHeld.size)
      have hrb : (wr.alloc (.cells #[.string (mkB b.1), .string (mkB b.2)] 28 (0, 0))).heap.size ≤ rb := by rw [hg_]; exact hHeld.size
      have HRB := Lib.hid hbox_
      clear hbox_ hb_ hg_
      refine hK.out _ _ (hh4) (fun hHeld => ?_)
      clear hK K
      refine norm_ (a' := ?_) ?_ ?_
      rotate_left
      ·show Act.put _ (some 12) _ = _
       simp only [Act.put, List.setIfInBounds_toArray, List.set_cons_zero, List.set_cons_succ, i64_w, i32_w]
       rfl
      have hj := hJ rb _ ⟨hHeld, hrb, HRB.out⟩
      simp only [putAll, Act.put, List.setIfInBounds_toArray, List.set_cons_zero, List.set_cons_succ] at hj
      exact hj
     ·refine box_step ?hg (N := 12) ?hd (cs := #[.string ⟨#[]⟩, .string ⟨#[]⟩, .int .i64 0, .int .i64 0]) (t := 120) ?hr ?_; (case hd => rfl); (case hg => rfl); (case hr => first | (go_simp; done) | (go_simp; rfl))
      intro rb hg_ w4 hbox_ hb_
      have hh4 := hHeld.trans (hb_.mono hHeld.size)
      have hrb : (wr.alloc (.cells #[.string (mkB b.1), .string (mkB b.2)] 28 (0, 0))).heap.size ≤ rb := by rw [hg_]; exact hHeld.size
      have HRB := Lib.hid hbox_
      clear hbox_ hb_ hg_
      refine hK.out _ _ (hh4) (fun hHeld => ?_)
      clear hK K
      refine norm_ (a' := ?_) ?_ ?_
      rotate_left
      ·show Act.put _ (some 12) _ = _
       simp only [Act.put, List.setIfInBounds_toArray, List.set_cons_zero, List.set_cons_succ, i64_w, i32_w]
       rfl
      refine on_ 10 (some 39) rfl rfl (fun K hK => ?_)
      refine goes_ Tryz.func94 zb10 rfl #[.string (mkB b.2)] (by rfl) rfl rfl zb17 ?_
      refine (HSU.out _).mono ?_
      rintro e w2 ⟨rfl, hb2⟩
      have hh2 := hHeld.trans (hb2.mono hHeld.size)
      try (have HRB := Lib.hid ((hb2.block _ (blk_lt HRB.out)).trans HRB.out))
      clear hb2
      refine ⟨_, rfl, ?_⟩
      refine hK.out _ _ (hh2) (fun hHeld => ?_)
      clear hK K
      refine norm_ (a' := ?_) ?_ ?_
      rotate_left
      ·show Act.put _ (some 39) _ = _
       simp only [Act.put, List.setIfInBounds_toArray, List.set_cons_zero, List.set_cons_succ, i64_w, i32_w]
       rfl
      refine pur_ 11 (some 40) rfl rfl ?_
      have hj := hJ rb _ ⟨hHeld, hrb, HRB.out⟩
      simp only [putAll, Act.put, List.setIfInBounds_toArray, List.set_cons_zero, List.set_cons_succ] at hj
      exact hj
    ·refine box_step ?hg (N := 12) ?hd (cs := #[.string ⟨#[]⟩, .string ⟨#[]⟩, .int .i64 0, .int .i64 0]) (t := 120) ?hr ?_; (case hd => rfl); (case hg => rfl); (case hr => first | (go_simp; done) | (go_simp; rfl))
     intro rb hg_ w4 hbox_ hb_
     have hh4 := hHeld.trans (hb_.mono hHeld.size)
     have hrb : (wr.alloc (.cells #[.string (mkB b.1), .string (mkB b.2)] 28 (0, 0))).heap.size ≤ rb := by rw [hg_]; exact hHeld.size
     have HRB := Lib.hid hbox_
     clear hbox_ hb_ hg_
     refine hK.out _ _ (hh4) (fun hHeld => ?_)
     clear hK K
     refine norm_ (a' := ?_) ?_ ?_
     rotate_left
     ·show Act.put _ (some 12) _ = _
      simp only [Act.put, List.setIfInBounds_toArray, List.set_cons_zero, List.set_cons_succ, i64_w, i32_w]
      rfl
     refine on_ 4 (some 33) rfl rfl (fun K hK => ?_)
     refine goes_ Tryz.func62 zb10 rfl #[.int .i64 (n : Nat), .int .i64 (i : Nat)] (by rfl) rfl rfl zb17 ?_
     refine (HFI.out _ hHeld).mono ?_
     rintro e w2 ⟨rfl, hb2⟩
     have hh2 := hHeld.trans (hb2.mono hHeld.size)
     try (have HRB := Lib.hid ((hb2.block _ (blk_lt HRB.out)).trans HRB.out))
     clear hb2
     refine ⟨_, rfl, ?_⟩
     refine hK.out _ _ (hh2) (fun hHeld => ?_)
     clear hK K
     refine norm_ (a' := ?_) ?_ ?_
     rotate_left
     ·show Act.put _ (some 33) _ = _
      simp only [Act.put, List.setIfInBounds_toArray, List.set_cons_zero, List.set_cons_succ, i64_w, i32_w]
      rfl
     refine on_ 10 (some 39) rfl rfl (fun K hK => ?_)
     refine goes_ Tryz.func94 zb10 rfl #[.string (mkB b.2)] (by rfl) rfl rfl zb17 ?_
     refine (HSU.out _).mono ?_
     rintro e w2 ⟨rfl, hb2⟩
     have hh2 := hHeld.trans (hb2.mono hHeld.size)
     try (have HRB := Lib.hid ((hb2.block _ (blk_lt HRB.out)).trans HRB.out))
     clear hb2
     refine ⟨_, rfl, ?_⟩
     refine hK.out _ _ (hh2) (fun hHeld => ?_)
     clear hK K
     refine norm_ (a' := ?_) ?_ ?_
     rotate_left
     ·show Act.put _ (some 39) _ = _
      simp only [Act.put, List.setIfInBounds_toArray, List.set_cons_zero, List.set_cons_succ, i64_w, i32_w]
      rfl
     refine pur_ 11 (some 40) rfl rfl ?_
     have hj := hJ rb _ ⟨hHeld, hrb, HRB.out⟩
     simp only [putAll, Act.put, List.setIfInBounds_toArray, List.set_cons_zero, List.set_cons_succ] at hj
     exact hj
   intro rb w4 hF_
   obtain ⟨hHeld, hrb, hrbx⟩ := hF_
   have HRB := Lib.hid hrbx
   clear hrbx
   refine norm_ (a' := ?_) ?_ ?_
   rotate_left
   ·simp only [putAll, Act.put, List.setIfInBounds_toArray, List.set_cons_zero, List.set_cons_succ]
    rfl
   refine on_ 13 none rfl rfl (fun K hK => ?_)
   have f0 := cell_at HRB.out 0
   have g0 := melt_at HRB.out 0
   have f1 := cell_at HRB.out 1
   have g1 := melt_at HRB.out 1
   have f2 := cell_at HRB.out 2
   have g2 := melt_at HRB.out 2
   have f3 := cell_at HRB.out 3
   have g3 := melt_at HRB.out 3
   refine skip_ (w1 := ?_) (by rfl) rfl ?_ ?_
   rotate_left
   ·go_simp
    rfl
   refine hK.out _ _ ((((hHeld.setCell (p := ⟨rb, 0, none⟩) hrb _).setCell (p := ⟨rb, 1, none⟩) hrb _).setCell (p := ⟨rb, 2, none⟩) hrb _).setCell (p := ⟨rb, 3, none⟩) hrb _) (fun hHeld => ?_)
   clear hK K
   refine done_ zb10 ?_
   obtain ⟨w5, hw5⟩ : ∃ w5, w5 = (((w4.setCell ⟨rb, 0, none⟩ (.string (mkB b.1))).setCell ⟨rb, 1, none⟩ (.string (mkB (cdc.name n i)))).setCell ⟨rb, 2, none⟩ (.int .i64 (b.2.length : Nat))).setCell ⟨rb, 3, none⟩ (.int .i64 (cdc.sum b.2 : Nat)) := ⟨_, rfl⟩
   have hrb5 : w5.heap[rb]? = some (.cells #[.string (mkB b.1), .string (mkB (cdc.name n i)), .int .i64 (b.2.length : Nat), .int .i64 (cdc.sum b.2 : Nat)] 120 (0, 0)) := by
    rw [hw5]
    exact set_same (set_same (set_same (set_same HRB.out 0 _) 1 _) 2 _) 3 _
   rw [← hw5] at hHeld ⊢
   have hb5 : Below wr.heap.size wr w5 := HAL.out.trans (hHeld.mono HAL.out.size)
   have hbx5 := HBX.out w5 hHeld
   have g0 := hbx5.1
   have hro5 := own_bel HOW.out hb5
   have HRO5 := Lib.hid hro5
   have HB5 := Lib.hid hb5
   have HRB5 := Lib.hid hrb5
   have HAT := Lib.hid (at_calls (w := w5) b.1 (own_weaken hro5 (Nat.zero_le _)) HRI.out zb13)
   have hbw5 := HBW.out.trans (hb5.mono HBW.out.size)
   have HBW5 := Lib.hid hbw5
   have hkl := lowB_le b.1 cur
   obtain ⟨kk, hkk⟩ : ∃ kk, lowB b.1 cur = kk := ⟨_, rfl⟩
   have HKK := Lib.hid hkk
   rw [hkk] at HAT hkl
   have hsz5 : w.heap.size ≤ w5.heap.size := hbw5.size
   clear hw5 HRB hHeld hbx5 hro5 hb5 hbw5 hkk hrb5
   cases hhit : hitB b.1 cur with
   | true =>
    have hse : setR ⟨b.1, cdc.name n i, b.2.length, cdc.sum b.2⟩ cur = cur.set kk ⟨b.1, cdc.name n i, b.2.length, cdc.sum b.2⟩ := by rw [HSE.out, if_pos hhit, HKK.out]
    have hkl2 : kk < cur.length := by
     unfold hitB at hhit
     rw [HKK.out] at hhit
     rcases Nat.lt_or_ge kk cur.length with h | h
     ·exact h
     ·rw [List.getElem?_eq_none h] at hhit
      cases hhit
    have HSE2 := Lib.hid hse
    rw [hhit] at HAT
    obtain ⟨bk, rfl, hbk, hbk2⟩ := row_blk HRO5.out hkl2
    have hgo : 0 ≤ (kk : Int) ∧ (kk : Int) < (cur.length : Int) := by omega
    obtain ⟨o, ho⟩ : ∃ o, cur[kk]? = some o := ⟨_, List.getElem?_eq_getElem hkl2⟩
    obtain ⟨o0, o1, o2, o3⟩ := rowsC_at cur kk o ho
    have HO := Lib.hid (And.intro o0 (And.intro o1 (And.intro o2 o3)))
    clear hse o0 o1 o2 o3 ho
    go_wp2_with (first
     | (go_at_call 70; refine HAT.out.mono ?_; rintro e w6 ⟨rfl, hb6⟩; have hbx := (hb6.block _ (blk_lt HRB5.out)).trans HRB5.out; have d0 := cell_at hbx 0; have d1 := cell_at hbx 1; have d2 := cell_at hbx 2; have d3 := cell_at hbx 3; have hw6 := own_bel HRO5.out hb6; obtain ⟨o0, o1, o2, o3⟩ := HO.out; have e0 := (hw6.cellAt (kk * 4) (show kk * 4 < cur.length * 4 by omega)).trans o0; have e1 := (hw6.cellAt (kk * 4 + 1) (show kk * 4 + 1 < cur.length * 4 by omega)).trans o1; have e2 := (hw6.cellAt (kk * 4 + 2) (show kk * 4 + 2 < cur.length * 4 by omega)).trans o2; have e3 := (hw6.cellAt (kk * 4 + 3) (show kk * 4 + 3 < cur.length * 4 by omega)).trans o3; have z0 := hw6.frozenAt (kk * 4); have z1 := hw6.frozenAt (kk * 4 + 1); have z2 := hw6.frozenAt (kk * 4 + 2); have z3 := hw6.frozenAt (kk * 4 + 3); have HW6 := Lib.hid hw6; have HB6 := Lib.hid hb6; clear hw6 hb6 hbx o0 o1 o2 o3)
     | go_in)
    go_roundw
    case rel =>
     refine ⟨i + 1, setR ⟨b.1, cdc.name n i, b.2.length, cdc.sum b.2⟩ cur, by push_cast; rfl, by omega, ?_, HRI2.out, ?_, ?_, ?_⟩
     ·rw [HSE2.out]
      have := own_row_set HW6.out hkl2 ⟨b.1, cdc.name n i, b.2.length, cdc.sum b.2⟩
      rw [List.length_set] at this
      exact this
     ·rw [HSE2.out, List.length_set]
      omega
     ·rw [← HST.out]
      exact HPR.out
     ·have h6 := HBW5.out.trans (HB6.out.mono hsz5)
      exact (((h6.setCell (p := ⟨bk, kk * 4, none⟩) hbk _).setCell (p := ⟨bk, kk * 4 + 1, none⟩) hbk _).setCell (p := ⟨bk, kk * 4 + 2, none⟩) hbk _).setCell (p := ⟨bk, kk * 4 + 3, none⟩) hbk _
    case measure =>
     show ps.length - ((i : Int) + 1).toNat < ps.length - (i : Int).toNat
     omega
   | false =>
    have hse : setR ⟨b.1, cdc.name n i, b.2.length, cdc.sum b.2⟩ cur = insL cur kk ⟨b.1, cdc.name n i, b.2.length, cdc.sum b.2⟩ := by rw [HSE.out, if_neg (by rw [hhit]; decide), HKK.out]
    have HSE2 := Lib.hid hse
    rw [hhit] at HAT
    clear hse
    go_wp2_with (first
     | (go_at_call 70; refine HAT.out.mono ?_; rintro e w6 ⟨rfl, hb6⟩; have hbx := (hb6.block _ (blk_lt HRB5.out)).trans HRB5.out; have d0 := cell_at hbx 0; have d1 := cell_at hbx 1; have d2 := cell_at hbx 2; have d3 := cell_at hbx 3; have hw6 := own_bel HRO5.out hb6; have HINS := Lib.hid (insertRows (w := w6.alloc (.cells #[.string (mkB b.1), .string (mkB (cdc.name n i)), .int .i64 (b.2.length : Nat), .int .i64 (cdc.sum b.2 : Nat)] 120 (0, 0))) (vb := w6.heap.size) (i := kk) (r := ⟨b.1, cdc.name n i, b.2.length, cdc.sum b.2⟩) (hw6.alloc _) (alloc_new w6 _) (fun e => by obtain ⟨_, h⟩ := row_block hw6 e; have := blk_lt h; omega) zb13 hkl (by have := hb6.size; simp; omega)); have HW6 := Lib.hid hw6; have HB6 := Lib.hid hb6; clear hw6 hb6 hbx)
     | (go_at_call 102; refine HINS.out.mono ?_; rintro e w7 ⟨v7, rfl, ho7, ht7, hl7⟩; obtain ⟨A7, c7, rfl⟩ := row_slice ho7; have HO7 := Lib.hid ho7; have HT7 := Lib.hid ht7; clear ho7 ht7 hl7)
     | go_in)
    go_roundw
    case rel =>
     refine ⟨i + 1, setR ⟨b.1, cdc.name n i, b.2.length, cdc.sum b.2⟩ cur, by push_cast; rfl, by omega, ?_, HRI2.out, ?_, ?_, ?_⟩
     ·rw [HSE2.out]
      exact HO7.out
     ·rw [HSE2.out, insL_len]
      omega
     ·rw [← HST.out]
      exact HPR.out
     ·have h6 := (HBW5.out.trans (HB6.out.mono hsz5)).alloc (Nat.le_trans hsz5 HB6.out.size) (.cells #[.string (mkB b.1), .string (mkB (cdc.name n i)), .int .i64 (b.2.length : Nat), .int .i64 (cdc.sum b.2 : Nat)] 120 (0, 0))
      exact h6.trans (HT7.out.below h6.size (fun k hk => own_base HOW.out k hk))
    case measure =>
     show ps.length - ((i : Int) + 1).toNat < ps.length - (i : Int).toNat
     omega
  ·have hdec : ¬ ((i : Int) < (ps.length : Int)) := by omega
   have hie : i = ps.length := by omega
   subst hie
   go_wp2
   go_ret
   refine ⟨_, rfl, ?_, HBW.out⟩
   have h1 := HPR.out
   rw [List.drop_length] at h1
   have h2 : cur = goal := h1
   rw [← h2]
   exact HOW.out
end
end Go.Proofs.YtfpbpakgajddnaaGreatDoor.Pl
/- VvH -/
namespace Go.Proofs.YtfpbpakgajddnaaGreatDoor.Pl
open Go Go.RowKit Go.Maps Go.Proofs.YtfpbpakgajddnaaGreatDoorW.PrintWords
set_option linter.unusedVariables false
set_option linter.unusedSimpArgs false
/-- A function value: a function, what is bound ahead, what it has captured. -/
structure Fv where
  fn : FuncId
  pre : Array Value
  lb : Array Value
def Fv.val (f : Fv) : Value := .func (.func f.fn) f.pre f.lb
section
variable {w w' : World}
set_option maxRecDepth 100000 in
set_option maxHeartbeats 4000000 in
theorem inTurn_calls (fs : List Fv) (fb c : Nat) (I : Nat → World → Prop) (Q : Int → World → Prop)
  (heg : ∀ f ∈ fs, ∀ args w, (callFunc f.fn args).run Tryz.prog w = .ok (.enter f.fn args) w)
  (hrow : ∀ j W f, I j W → fs[j]? = some f → W.cell? ⟨fb, j, none⟩ = some f.val)
  (hstep : ∀ j W f, I j W → fs[j]? = some f → Calls Tryz.prog f.fn (f.pre ++ f.lb) W fun e w' => ∃ z, e = .returned (.int .i64 z) ∧ (z = 0 → I (j + 1) w') ∧ (z ≠ 0 → Q z w'))
  (hend : ∀ W, I fs.length W → Q 0 W) (hlen : fs.length ≤ 1000000) (h0 : I 0 w) :
  Calls Tryz.prog 67 #[.slice (some ⟨fb, 0, none⟩) fs.length c] w fun e w' => ∃ z, e = .returned (.int .i64 z) ∧ Q z w' := by
 have HE := Lib.hid heg
 have HR := Lib.hid hrow
 have HS := Lib.hid hstep
 have HN := Lib.hid hend
 have H0 := Lib.hid h0
 clear heg hrow hstep hend h0
 go_enter Tryz.func67, Tryz.ntmps67
 go_wp2
 refine wp_scope_straight ?_
 go_wp2
 with_reducible apply wp_label
 go_wp2
 go_loopw [3, 5, 8] (fun v3 _ v8 wr => ∃ (j : Nat), v3 = Value.int .i64 0 ∧ v8 = Value.int .i64 (j : Int) ∧ j ≤ fs.length ∧ I j wr)
  (fun _ _ v8 _ => fs.length - (intOf v8).toNat)
 case atStart => exact ⟨0, rfl, rfl, Nat.zero_le _, H0.out⟩
 case round =>
  obtain ⟨j, rfl, rfl, hjl, hI⟩ := hrel
  have HI := Lib.hid hI
  clear hI
  by_cases hlt : j < fs.length
  ·have hdec : ((j : Int) < (fs.length : Int)) := by omega
   obtain ⟨f, hf⟩ : ∃ f, fs[j]? = some f := ⟨_, List.getElem?_eq_getElem hlt⟩
   have c0 := HR.out j wr f HI.out hf
   have hC := Lib.hid (HS.out j wr f HI.out hf)
   have heg := HE.out f (List.mem_of_getElem? hf)
   obtain ⟨fn, pre, lb⟩ := f
   simp only [Fv.val] at c0 hC heg
   clear hf
   go_wp2
   refine hC.out.mono ?_
   rintro e w2 ⟨z, rfl, h1, h2⟩
   have H1 := Lib.hid h1
   have H2 := Lib.hid h2
   clear h1 h2
   by_cases hz : z = 0
   ·subst hz
    go_wp2
    go_roundw
    case rel => exact ⟨j + 1, rfl, by push_cast; rfl, by omega, H1.out (by trivial)⟩
    case measure =>
     show fs.length - ((j : Int) + 1).toNat < fs.length - (j : Int).toNat
     omega
   ·have hz1 : (z != 0) = true := by simpa using hz
    have hq := Lib.hid (H2.out hz)
    go_wp2
    rw [Exit.noGoto_ret]
    go_ret
    exact ⟨z, rfl, hq.out⟩
  ·have hdec : ¬ ((j : Int) < (fs.length : Int)) := by omega
   have hje : j = fs.length := by omega
   subst hje
   have hq := HN.out wr HI.out
   go_wp2
   go_ret
   exact ⟨0, rfl, hq⟩
end
end Go.Proofs.YtfpbpakgajddnaaGreatDoor.Pl
/- VvI -/
namespace Go.Proofs.YtfpbpakgajddnaaGreatDoor.Pl
open Go Go.RowKit Go.Maps Go.Proofs.YtfpbpakgajddnaaGreatDoorW.PrintWords Go.Proofs.YtfpbpakgajddnaaGreatDoorW.PrintLast Go.Proofs.YtfpbpakgajddnaaGreatDoorW.PrintMore
open Go.Proofs.YtfpbpakgajddnaaGreatDoor.O (Glob)
set_option linter.unusedVariables false
set_option linter.unusedSimpArgs false
section
variable {w w' : World} {vb bp pb nb sb C K : Nat} {v : VM} {rv : Value} {F H : Nat → Prop} {m : Mach}
theorem plate_drew (h : Plate w bp m F) : Plate w.drew bp m F := h.move (fun _ _ _ => rfl)
set_option maxRecDepth 100000 in
set_option maxHeartbeats 4000000 in
theorem write1_calls {x : L} (h0 : w.cell? ⟨pb, 0, none⟩ = some (.pointer (some ⟨vb, 0, none⟩))) (h1 : w.cell? ⟨vb, 0, none⟩ = some (.pointer (some ⟨bp, 0, none⟩))) (h2 : w.cell? ⟨nb, 0, none⟩ = some (.string (mkB x))) (f0 : ¬ F pb) (f1 : ¬ F vb) (f2 : ¬ F nb) (hp : Plate w bp m F) (hg : Good C K m) (hC : C ≤ 10000000) (hx : (mkB x).size ≤ 100000000000000) :
  Calls Tryz.prog 103 #[.pointer (some ⟨pb, 0, none⟩), .pointer (some ⟨nb, 0, none⟩)] w (Done bp F w (create m x)) := by
 have kp : ∀ {a : Addr} {u : Value} {W : World}, w.cell? a = some u → ¬ F a.block → Tch F w.drew W → W.cell? a = some u := fun h hf t => (cell_block (t.block _ (block_lt_of_cell h) hf)).trans h
 have HK := Lib.hid (fun (W : World) (t : Tch F w.drew W) => (show W.cell? ⟨pb, 0, none⟩ = some (.pointer (some ⟨vb, 0, none⟩)) ∧ W.cell? ⟨vb, 0, none⟩ = some (.pointer (some ⟨bp, 0, none⟩)) ∧ W.cell? ⟨nb, 0, none⟩ = some (.string (mkB x)) from ⟨kp h0 f0 t, kp h1 f1 t, kp h2 f2 t⟩))
 have HK0 := Lib.hid (HK.out _ (Tch.refl _ _))
 have hc := Create_calls bp m F (mkB x) w.drew (plate_drew hp) hg.inv zb13 hx
 rw [mkB_data] at hc
 have HC := Lib.hid hc
 obtain ⟨z, mz, hz⟩ : ∃ z mz, create m x = (z, mz) := ⟨_, _, rfl⟩
 rw [hz] at HC ⊢
 clear hc hp hg h0 h1 h2 hz
 go_enter Tryz.func103, Tryz.ntmps103
 go_wp2
 refine start_ (n := 7) (S := fun w' => w'.cell? ⟨pb, 0, none⟩ = some (.pointer (some ⟨vb, 0, none⟩)) ∧ w'.cell? ⟨vb, 0, none⟩ = some (.pointer (some ⟨bp, 0, none⟩)) ∧ w'.cell? ⟨nb, 0, none⟩ = some (.string (mkB x))) (ds := []) #[false, false, false, false, false, false, false] zb10 rfl rfl (HK0.out) (fun hHeld => ?_)
 refine tak_ 0 (some 3) rfl rfl hHeld (fun w' hs => by (have cs : w'.cell? ⟨pb, 0, none⟩ = some (.pointer (some ⟨vb, 0, none⟩)) := hs.1; go_simp; first | with_reducible rfl | rfl)) ?_
 refine pur_ 1 (some 4) rfl rfl ?_
 refine pur_ 2 (some 5) rfl rfl ?_
 refine tak_ 3 (some 6) rfl rfl hHeld (fun w' hs => by (have cs : w'.cell? ⟨vb, 0, none⟩ = some (.pointer (some ⟨bp, 0, none⟩)) := hs.2.1; go_simp; first | with_reducible rfl | rfl)) ?_
 refine tak_ 4 (some 7) rfl rfl hHeld (fun w' hs => by (have cs : w'.cell? ⟨nb, 0, none⟩ = some (.string (mkB x)) := hs.2.2; go_simp; first | with_reducible rfl | rfl)) ?_
 refine on_ 5 (some 8) rfl rfl (fun K hK => ?_)
 refine goes_ Tryz.func10 zb10 rfl #[.pointer (some ⟨bp, 0, none⟩), .string (mkB x)] (by rfl) rfl rfl zb17 ?_
 refine (HC.out).mono ?_
 rintro e w1 ⟨rfl, hp1, ht1⟩
 have HP1 := Lib.hid hp1
 have HT1 := Lib.hid ht1
 have hk1 := HK.out _ ht1
 clear hp1 ht1
 refine ⟨_, rfl, ?_⟩
 refine hK.out _ _ (hk1) (fun hHeld => ?_)
 clear hK K
 refine norm_ (a' := ?_) ?_ ?_
 rotate_left
 ·show Act.put _ (some 8) _ = _
  simp only [Act.put, List.setIfInBounds_toArray, List.set_cons_zero, List.set_cons_succ, i64_w, i32_w]
  rfl
 refine pur_ 6 (some 2) rfl rfl ?_
 refine done_ zb10 ?_
 go_wp2
 go_ret
 exact ⟨rfl, HP1.out, (Tch.drew F w).trans HT1.out (fun k hk => .inl hk)⟩
set_option maxRecDepth 100000 in
set_option maxHeartbeats 4000000 in
theorem write2_calls {x s : L} (h0 : w.cell? ⟨pb, 0, none⟩ = some (.pointer (some ⟨vb, 0, none⟩))) (h1 : w.cell? ⟨vb, 0, none⟩ = some (.pointer (some ⟨bp, 0, none⟩))) (h2 : w.cell? ⟨nb, 0, none⟩ = some (.string (mkB x))) (h3 : w.cell? ⟨sb, 0, none⟩ = some (.string (mkB s))) (f0 : ¬ F pb) (f1 : ¬ F vb) (f2 : ¬ F nb) (f3 : ¬ F sb) (hp : Plate w bp m F) (hg : Good C K m) (hC : C ≤ 10000000) (hx : (mkB x).size ≤ 100000000000000) (hsl : (mkB s).size ≤ 1000000000) :
  Calls Tryz.prog 104 #[.pointer (some ⟨pb, 0, none⟩), .pointer (some ⟨nb, 0, none⟩), .pointer (some ⟨sb, 0, none⟩)] w (Done bp F w (write m x s)) := by
 have kp : ∀ {a : Addr} {u : Value} {W : World}, w.cell? a = some u → ¬ F a.block → Tch F w.drew W → W.cell? a = some u := fun h hf t => (cell_block (t.block _ (block_lt_of_cell h) hf)).trans h
 have HK := Lib.hid (fun (W : World) (t : Tch F w.drew W) => (show W.cell? ⟨pb, 0, none⟩ = some (.pointer (some ⟨vb, 0, none⟩)) ∧ W.cell? ⟨vb, 0, none⟩ = some (.pointer (some ⟨bp, 0, none⟩)) ∧ W.cell? ⟨nb, 0, none⟩ = some (.string (mkB x)) ∧ W.cell? ⟨sb, 0, none⟩ = some (.string (mkB s)) from ⟨kp h0 f0 t, kp h1 f1 t, kp h2 f2 t, kp h3 f3 t⟩))
 have HK0 := Lib.hid (HK.out _ (Tch.refl _ _))
 have hc := Write_calls (mkB x) (mkB s) (plate_drew hp) hg.inv zb13 hx hsl
 rw [mkB_data, mkB_data] at hc
 have HC := Lib.hid hc
 obtain ⟨z, mz, hz⟩ : ∃ z mz, write m x s = (z, mz) := ⟨_, _, rfl⟩
 rw [hz] at HC ⊢
 clear hc hp hg h0 h1 h2 h3 hz
 go_enter Tryz.func104, Tryz.ntmps104
 go_wp2
 refine start_ (n := 8) (S := fun w' => w'.cell? ⟨pb, 0, none⟩ = some (.pointer (some ⟨vb, 0, none⟩)) ∧ w'.cell? ⟨vb, 0, none⟩ = some (.pointer (some ⟨bp, 0, none⟩)) ∧ w'.cell? ⟨nb, 0, none⟩ = some (.string (mkB x)) ∧ w'.cell? ⟨sb, 0, none⟩ = some (.string (mkB s))) (ds := []) #[false, false, false, false, false, false, false, false] zb10 rfl rfl (HK0.out) (fun hHeld => ?_)
 refine tak_ 0 (some 4) rfl rfl hHeld (fun w' hs => by (have cs : w'.cell? ⟨pb, 0, none⟩ = some (.pointer (some ⟨vb, 0, none⟩)) := hs.1; go_simp; first | with_reducible rfl | rfl)) ?_
 refine pur_ 1 (some 5) rfl rfl ?_
 refine pur_ 2 (some 6) rfl rfl ?_
 refine tak_ 3 (some 7) rfl rfl hHeld (fun w' hs => by (have cs : w'.cell? ⟨vb, 0, none⟩ = some (.pointer (some ⟨bp, 0, none⟩)) := hs.2.1; go_simp; first | with_reducible rfl | rfl)) ?_
 refine tak_ 4 (some 8) rfl rfl hHeld (fun w' hs => by (have cs : w'.cell? ⟨nb, 0, none⟩ = some (.string (mkB x)) := hs.2.2.1; go_simp; first | with_reducible rfl | rfl)) ?_
 refine tak_ 5 (some 9) rfl rfl hHeld (fun w' hs => by (have cs : w'.cell? ⟨sb, 0, none⟩ = some (.string (mkB s)) := hs.2.2.2; go_simp; first | with_reducible rfl | rfl)) ?_
 refine on_ 6 (some 10) rfl rfl (fun K hK => ?_)
 refine goes_ Tryz.func11 zb10 rfl #[.pointer (some ⟨bp, 0, none⟩), .string (mkB x), .string (mkB s)] (by rfl) rfl rfl zb17 ?_
 refine (HC.out).mono ?_
 rintro e w1 ⟨rfl, hp1, ht1⟩
 have HP1 := Lib.hid hp1
 have HT1 := Lib.hid ht1
 have hk1 := HK.out _ ht1
 clear hp1 ht1
 refine ⟨_, rfl, ?_⟩
 refine hK.out _ _ (hk1) (fun hHeld => ?_)
 clear hK K
 refine norm_ (a' := ?_) ?_ ?_
 rotate_left
 ·show Act.put _ (some 10) _ = _
  simp only [Act.put, List.setIfInBounds_toArray, List.set_cons_zero, List.set_cons_succ, i64_w, i32_w]
  rfl
 refine pur_ 7 (some 3) rfl rfl ?_
 refine done_ zb10 ?_
 go_wp2
 go_ret
 exact ⟨rfl, HP1.out, (Tch.drew F w).trans HT1.out (fun k hk => .inl hk)⟩
set_option maxRecDepth 100000 in
set_option maxHeartbeats 4000000 in
theorem write3_calls {x : L} (h0 : w.cell? ⟨pb, 0, none⟩ = some (.pointer (some ⟨vb, 0, none⟩))) (h1 : w.cell? ⟨vb, 0, none⟩ = some (.pointer (some ⟨bp, 0, none⟩))) (h2 : w.cell? ⟨nb, 0, none⟩ = some (.string (mkB x))) (f0 : ¬ F pb) (f1 : ¬ F vb) (f2 : ¬ F nb) (hp : Plate w bp m F) (hg : Good C K m) (hC : C ≤ 10000000) (hx : (mkB x).size ≤ 100000000000000) :
  Calls Tryz.prog 105 #[.pointer (some ⟨pb, 0, none⟩), .pointer (some ⟨nb, 0, none⟩)] w (Done bp F w (sync m x)) := by
 have kp : ∀ {a : Addr} {u : Value} {W : World}, w.cell? a = some u → ¬ F a.block → Tch F w.drew W → W.cell? a = some u := fun h hf t => (cell_block (t.block _ (block_lt_of_cell h) hf)).trans h
 have HK := Lib.hid (fun (W : World) (t : Tch F w.drew W) => (show W.cell? ⟨pb, 0, none⟩ = some (.pointer (some ⟨vb, 0, none⟩)) ∧ W.cell? ⟨vb, 0, none⟩ = some (.pointer (some ⟨bp, 0, none⟩)) ∧ W.cell? ⟨nb, 0, none⟩ = some (.string (mkB x)) from ⟨kp h0 f0 t, kp h1 f1 t, kp h2 f2 t⟩))
 have HK0 := Lib.hid (HK.out _ (Tch.refl _ _))
 have hc := Sync_calls (mkB x) (plate_drew hp) hg.inv hx
 rw [mkB_data] at hc
 have HC := Lib.hid hc
 obtain ⟨z, mz, hz⟩ : ∃ z mz, sync m x = (z, mz) := ⟨_, _, rfl⟩
 rw [hz] at HC ⊢
 clear hc hp hg h0 h1 h2 hz
 go_enter Tryz.func105, Tryz.ntmps105
 go_wp2
 refine start_ (n := 7) (S := fun w' => w'.cell? ⟨pb, 0, none⟩ = some (.pointer (some ⟨vb, 0, none⟩)) ∧ w'.cell? ⟨vb, 0, none⟩ = some (.pointer (some ⟨bp, 0, none⟩)) ∧ w'.cell? ⟨nb, 0, none⟩ = some (.string (mkB x))) (ds := []) #[false, false, false, false, false, false, false] zb10 rfl rfl (HK0.out) (fun hHeld => ?_)
 refine tak_ 0 (some 3) rfl rfl hHeld (fun w' hs => by (have cs : w'.cell? ⟨pb, 0, none⟩ = some (.pointer (some ⟨vb, 0, none⟩)) := hs.1; go_simp; first | with_reducible rfl | rfl)) ?_
 refine pur_ 1 (some 4) rfl rfl ?_
 refine pur_ 2 (some 5) rfl rfl ?_
 refine tak_ 3 (some 6) rfl rfl hHeld (fun w' hs => by (have cs : w'.cell? ⟨vb, 0, none⟩ = some (.pointer (some ⟨bp, 0, none⟩)) := hs.2.1; go_simp; first | with_reducible rfl | rfl)) ?_
 refine tak_ 4 (some 7) rfl rfl hHeld (fun w' hs => by (have cs : w'.cell? ⟨nb, 0, none⟩ = some (.string (mkB x)) := hs.2.2; go_simp; first | with_reducible rfl | rfl)) ?_
 refine on_ 5 (some 8) rfl rfl (fun K hK => ?_)
 refine goes_ Tryz.func106 zb10 rfl #[.pointer (some ⟨bp, 0, none⟩), .string (mkB x)] (by rfl) rfl rfl zb17 ?_
 refine (HC.out).mono ?_
 rintro e w1 ⟨rfl, hp1, ht1⟩
 have HP1 := Lib.hid hp1
 have HT1 := Lib.hid ht1
 have hk1 := HK.out _ ht1
 clear hp1 ht1
 refine ⟨_, rfl, ?_⟩
 refine hK.out _ _ (hk1) (fun hHeld => ?_)
 clear hK K
 refine norm_ (a' := ?_) ?_ ?_
 rotate_left
 ·show Act.put _ (some 8) _ = _
  simp only [Act.put, List.setIfInBounds_toArray, List.set_cons_zero, List.set_cons_succ, i64_w, i32_w]
  rfl
 refine pur_ 6 (some 2) rfl rfl ?_
 refine done_ zb10 ?_
 go_wp2
 go_ret
 exact ⟨rfl, HP1.out, (Tch.drew F w).trans HT1.out (fun k hk => .inl hk)⟩
end
end Go.Proofs.YtfpbpakgajddnaaGreatDoor.Pl
/- VvJ -/
namespace Go.Proofs.YtfpbpakgajddnaaGreatDoor.Pl
open Go Go.RowKit Go.Maps Go.Proofs.YtfpbpakgajddnaaGreatDoorW.PrintWords
open Go.Proofs.YtfpbpakgajddnaaGreatDoor.O (Glob)
set_option linter.unusedVariables false
set_option linter.unusedSimpArgs false
section
variable {w w1 w' : World} {vb bp pb nb sb C K : Nat} {v : VM} {rv : Value} {F H : Nat → Prop} {m mj : Mach} {r : Int × Mach} {e : Ending}
/-- The plate reads as mj; since w1 nothing has turned but its blocks. -/
def At (bp : Nat) (F : Nat → Prop) (w1 : World) (mj : Mach) (W : World) : Prop := Plate W bp mj (grow F w1 W) ∧ Tch F w1 W
theorem At.next {W : World} (h : At bp F w1 mj W) (hd : Done bp (grow F w1 W) W r e w') : e = .returned (.int .i64 r.1) ∧ At bp F w1 r.2 w' := by
 obtain ⟨h1, h2, h3⟩ := done_chain h.2 hd
 exact ⟨h1, h2, h3⟩
theorem At.still {W : World} (h : At bp F w1 mj W) (hb : Below W.heap.size W w') : At bp F w1 mj w' := done_still h.2 h.1 hb
theorem At.cell {W : World} (h : At bp F w1 mj W) {a : Addr} {u : Value} (hc : w1.cell? a = some u) (hf : ¬ F a.block) : W.cell? a = some u := (cell_block (h.2.block _ (block_lt_of_cell hc) hf)).trans hc
theorem not_grow {W : World} {i : Nat} (hf : ¬ F i) (hl : i < w1.heap.size) : ¬ grow F w1 W i := fun h => h.elim hf (fun h => by omega)
theorem write1_eg : ∀ args w, (callFunc 103 args).run Tryz.prog w = .ok (.enter 103 args) w := enters_of Tryz.func103 zb10 rfl
theorem write2_eg : ∀ args w, (callFunc 104 args).run Tryz.prog w = .ok (.enter 104 args) w := enters_of Tryz.func104 zb10 rfl
theorem write3_eg : ∀ args w, (callFunc 105 args).run Tryz.prog w = .ok (.enter 105 args) w := enters_of Tryz.func105 zb10 rfl
/-- Three things in turn: how far they have come. -/
def Turn3 (bp : Nat) (F : Nat → Prop) (w1 : World) (m : Mach) (x s : L) (j : Nat) (W : World) : Prop :=
  (j = 0 ∧ At bp F w1 m W) ∨ (j = 1 ∧ (create m x).1 = 0 ∧ At bp F w1 (create m x).2 W) ∨ (j = 2 ∧ (create m x).1 = 0 ∧ (write (create m x).2 x s).1 = 0 ∧ At bp F w1 (write (create m x).2 x s).2 W) ∨ (j = 3 ∧ (put3 m x s).1 = 0 ∧ At bp F w1 (put3 m x s).2 W)
/-- The three closures, run in turn. -/
theorem turn3_calls {x s : L} {fb : Nat} (hr : ∀ j f, [(⟨103, #[], #[.pointer (some ⟨pb, 0, none⟩), .pointer (some ⟨nb, 0, none⟩)]⟩ : Fv), ⟨104, #[], #[.pointer (some ⟨pb, 0, none⟩), .pointer (some ⟨nb, 0, none⟩), .pointer (some ⟨sb, 0, none⟩)]⟩, ⟨105, #[], #[.pointer (some ⟨pb, 0, none⟩), .pointer (some ⟨nb, 0, none⟩)]⟩][j]? = some f → w1.cell? ⟨fb, j, none⟩ = some f.val)
  (h0 : w1.cell? ⟨pb, 0, none⟩ = some (.pointer (some ⟨vb, 0, none⟩))) (h1 : w1.cell? ⟨vb, 0, none⟩ = some (.pointer (some ⟨bp, 0, none⟩))) (h2 : w1.cell? ⟨nb, 0, none⟩ = some (.string (mkB x))) (h3 : w1.cell? ⟨sb, 0, none⟩ = some (.string (mkB s)))
  (ff : ¬ F fb) (f0 : ¬ F pb) (f1 : ¬ F vb) (f2 : ¬ F nb) (f3 : ¬ F sb) (hp : Plate w1 bp m F) (hg : Good C K m) (hC : C + 2 ≤ 10000000) (hx : (mkB x).size ≤ 100000000000000) (hsl : (mkB s).size ≤ 1000000000) :
  Calls Tryz.prog 67 #[.slice (some ⟨fb, 0, none⟩) 3 3] w1 fun e w' => e = .returned (.int .i64 (put3 m x s).1) ∧ At bp F w1 (put3 m x s).2 w' := by
 have key := inTurn_calls (w := w1) [(⟨103, #[], #[.pointer (some ⟨pb, 0, none⟩), .pointer (some ⟨nb, 0, none⟩)]⟩ : Fv), ⟨104, #[], #[.pointer (some ⟨pb, 0, none⟩), .pointer (some ⟨nb, 0, none⟩), .pointer (some ⟨sb, 0, none⟩)]⟩, ⟨105, #[], #[.pointer (some ⟨pb, 0, none⟩), .pointer (some ⟨nb, 0, none⟩)]⟩] fb 3 (Turn3 bp F w1 m x s) (fun z W => z = (put3 m x s).1 ∧ At bp F w1 (put3 m x s).2 W) ?_ ?_ ?_ ?_ zb35 (.inl ⟨rfl, hp.start, Tch.refl _ _⟩)
 ·refine key.mono ?_
  rintro e w' ⟨z, rfl, rfl, hA⟩
  exact ⟨rfl, hA⟩
 ·intro f hf
  simp only [List.mem_cons, List.not_mem_nil, or_false] at hf
  rcases hf with rfl | rfl | rfl
  ·exact write1_eg
  ·exact write2_eg
  ·exact write3_eg
 ·intro j W f hI hf
  have hc := hr j f hf
  rcases hI with ⟨_, h⟩ | ⟨_, _, h⟩ | ⟨_, _, _, h⟩ | ⟨_, _, h⟩ <;> exact h.cell hc ff
 ·intro j W f hI hf
  have l0 := block_lt_of_cell h0
  have l1 := block_lt_of_cell h1
  have l2 := block_lt_of_cell h2
  have l3 := block_lt_of_cell h3
  rcases hI with ⟨rfl, h⟩ | ⟨rfl, hz, h⟩ | ⟨rfl, hz, hz2, h⟩ | ⟨rfl, _, h⟩
  ·obtain rfl := Option.some.inj hf
   refine (write1_calls (h.cell h0 f0) (h.cell h1 f1) (h.cell h2 f2) (not_grow f0 l0) (not_grow f1 l1) (not_grow f2 l2) h.1 hg zb13 hx).mono ?_
   rintro e w' hd
   obtain ⟨rfl, hA⟩ := h.next hd
   refine ⟨_, rfl, fun hz => .inr (.inl ⟨rfl, hz, hA⟩), fun hz => ?_⟩
   have e1 : put3 m x s = create m x := by unfold put3; rw [if_neg hz]
   rw [e1]
   exact ⟨rfl, hA⟩
  ·obtain rfl := Option.some.inj hf
   refine (write2_calls (h.cell h0 f0) (h.cell h1 f1) (h.cell h2 f2) (h.cell h3 f3) (not_grow f0 l0) (not_grow f1 l1) (not_grow f2 l2) (not_grow f3 l3) h.1 (hg.create x) hC hx hsl).mono ?_
   rintro e w' hd
   obtain ⟨rfl, hA⟩ := h.next hd
   refine ⟨_, rfl, fun hz2 => .inr (.inr (.inl ⟨rfl, hz, hz2, hA⟩)), fun hz2 => ?_⟩
   have e1 : put3 m x s = write (create m x).2 x s := by unfold put3; rw [if_pos hz, if_neg hz2]
   rw [e1]
   exact ⟨rfl, hA⟩
  ·obtain rfl := Option.some.inj hf
   refine (write3_calls (h.cell h0 f0) (h.cell h1 f1) (h.cell h2 f2) (not_grow f0 l0) (not_grow f1 l1) (not_grow f2 l2) h.1 ((hg.create x).write x s) hC hx).mono ?_
   rintro e w' hd
   obtain ⟨rfl, hA⟩ := h.next hd
   have e1 : put3 m x s = sync (write (create m x).2 x s).2 x := by unfold put3; rw [if_pos hz, if_pos hz2]
   rw [← e1] at hA ⊢
   exact ⟨_, rfl, fun hz3 => .inr (.inr (.inr ⟨rfl, hz3, hA⟩)), fun hz3 => ⟨rfl, hA⟩⟩
  ·simp at hf
 ·intro W hI
  rcases hI with ⟨h, _⟩ | ⟨h, _⟩ | ⟨h, _⟩ | ⟨_, hz, hA⟩
  ·simp at h
  ·simp at h
  ·simp at h
  ·exact ⟨hz.symm, hA⟩
set_option maxRecDepth 100000 in
set_option maxHeartbeats 4000000 in
theorem write_calls {x s : L} (h1 : w.cell? ⟨vb, 0, none⟩ = some (.pointer (some ⟨bp, 0, none⟩))) (f1 : ¬ F vb) (hp0 : Plate w bp m F) (hg : Good C K m) (hC : C + 2 ≤ 10000000) (hx : (mkB x).size ≤ 100000000000000) (hsl : (mkB s).size ≤ 1000000000) :
  Calls Tryz.prog 61 #[.pointer (some ⟨vb, 0, none⟩), .string (mkB x), .string (mkB s)] w (Done bp F w (put3 m x s)) := by
 have hp := hp0.tight
 obtain ⟨F0, hF0⟩ : ∃ F0 : Nat → Prop, F0 = fun i => F i ∧ i < w.heap.size := ⟨_, rfl⟩
 rw [← hF0] at hp
 have HFF := Lib.hid (show ∀ i, F0 i → F i from fun i hi => by rw [hF0] at hi; exact hi.1)
 have HFL := Lib.hid (show ∀ i, F0 i → i < w.heap.size from fun i hi => by rw [hF0] at hi; exact hi.2)
 have hvl := block_lt_of_cell h1
 have HF1 := Lib.hid (show ¬ F0 vb from fun h => f1 (HFF.out _ h))
 have HP := Lib.hid hp
 have HG := Lib.hid hg
 have H1 := Lib.hid h1
 have hb : Below w.heap.size w ((((w.alloc (.cells #[.pointer (some ⟨vb, 0, none⟩)] 31 (0, 0))).alloc (.cells #[.string (mkB x)] 9 (0, 0))).alloc (.cells #[.string (mkB s)] 9 (0, 0))).alloc (.cells #[.func (.func 103) #[] #[.pointer (some ⟨w.heap.size, 0, none⟩), .pointer (some ⟨w.heap.size + 1, 0, none⟩)], .func (.func 104) #[] #[.pointer (some ⟨w.heap.size, 0, none⟩), .pointer (some ⟨w.heap.size + 1, 0, none⟩), .pointer (some ⟨w.heap.size + 1 + 1, 0, none⟩)], .func (.func 105) #[] #[.pointer (some ⟨w.heap.size, 0, none⟩), .pointer (some ⟨w.heap.size + 1, 0, none⟩)]] 64 (0, 0))) :=
  ((((Below.refl _ _).alloc (Nat.le_refl _) _).alloc zb35 _).alloc zb41 _).alloc zb41 _
 have HB := Lib.hid hb
 have q0 : ((((w.alloc (.cells #[.pointer (some ⟨vb, 0, none⟩)] 31 (0, 0))).alloc (.cells #[.string (mkB x)] 9 (0, 0))).alloc (.cells #[.string (mkB s)] 9 (0, 0))).alloc (.cells #[.func (.func 103) #[] #[.pointer (some ⟨w.heap.size, 0, none⟩), .pointer (some ⟨w.heap.size + 1, 0, none⟩)], .func (.func 104) #[] #[.pointer (some ⟨w.heap.size, 0, none⟩), .pointer (some ⟨w.heap.size + 1, 0, none⟩), .pointer (some ⟨w.heap.size + 1 + 1, 0, none⟩)], .func (.func 105) #[] #[.pointer (some ⟨w.heap.size, 0, none⟩), .pointer (some ⟨w.heap.size + 1, 0, none⟩)]] 64 (0, 0))).heap[w.heap.size]? = some (.cells #[.pointer (some ⟨vb, 0, none⟩)] 31 (0, 0)) := alloc_old (alloc_old (alloc_old (alloc_new w _)))
 have q1 := alloc_new (w.alloc (.cells #[.pointer (some ⟨vb, 0, none⟩)] 31 (0, 0))) (.cells #[.string (mkB x)] 9 (0, 0))
 have q2 := alloc_new ((w.alloc (.cells #[.pointer (some ⟨vb, 0, none⟩)] 31 (0, 0))).alloc (.cells #[.string (mkB x)] 9 (0, 0))) (.cells #[.string (mkB s)] 9 (0, 0))
 have q3 := alloc_new (((w.alloc (.cells #[.pointer (some ⟨vb, 0, none⟩)] 31 (0, 0))).alloc (.cells #[.string (mkB x)] 9 (0, 0))).alloc (.cells #[.string (mkB s)] 9 (0, 0))) (.cells #[.func (.func 103) #[] #[.pointer (some ⟨w.heap.size, 0, none⟩), .pointer (some ⟨w.heap.size + 1, 0, none⟩)], .func (.func 104) #[] #[.pointer (some ⟨w.heap.size, 0, none⟩), .pointer (some ⟨w.heap.size + 1, 0, none⟩), .pointer (some ⟨w.heap.size + 1 + 1, 0, none⟩)], .func (.func 105) #[] #[.pointer (some ⟨w.heap.size, 0, none⟩), .pointer (some ⟨w.heap.size + 1, 0, none⟩)]] 64 (0, 0))
 simp only [World.size_alloc] at q1 q2 q3
 have HT := Lib.hid (turn3_calls (x := x) (s := s) (fb := w.heap.size + 1 + 1 + 1) (F := F0) (fun j f hf => by
   rw [cell_at q3]
   match j with
   | 0 => obtain rfl := Option.some.inj hf; rfl
   | 1 => obtain rfl := Option.some.inj hf; rfl
   | 2 => obtain rfl := Option.some.inj hf; rfl
   | j + 3 => simp at hf)
  (cell_at q0 0) ((cell_block (hb.block _ hvl)).trans H1.out) (cell_at (alloc_old (alloc_old q1)) 0) (cell_at (alloc_old q2) 0) (fun h => by have := HFL.out _ h; omega) (fun h => by have := HFL.out _ h; omega) HF1.out (fun h => by have := HFL.out _ h; omega) (fun h => by have := HFL.out _ h; omega) (hp.still hb) hg hC hx hsl)
 clear hp hp0 hF0 hg h1 f1 q0 q1 q2 q3 hb
 suffices hs : Calls Tryz.prog 61 #[.pointer (some ⟨vb, 0, none⟩), .string (mkB x), .string (mkB s)] w (Done bp F0 w (put3 m x s)) from hs.mono (fun e w' h => done_mono h HFF.out)
 go_enter Tryz.func61, Tryz.ntmps61
 go_wp2_with (first
  | (go_at_call 67; refine HT.out.mono ?_; rintro e w5 ⟨rfl, hA⟩)
  | go_in)
 go_ret
 exact done_ahead HB.out ⟨rfl, hA.1, hA.2⟩
end
end Go.Proofs.YtfpbpakgajddnaaGreatDoor.Pl
/- VvK -/
namespace Go.Proofs.YtfpbpakgajddnaaGreatDoor.Pl
open Go Go.RowKit Go.Maps Go.Proofs.YtfpbpakgajddnaaGreatDoorW.PrintWords Go.Proofs.YtfpbpakgajddnaaGreatDoorW.PrintLast Go.Proofs.YtfpbpakgajddnaaGreatDoorW.PrintMore
open Go.Proofs.YtfpbpakgajddnaaGreatDoor.O (Glob)
set_option linter.unusedVariables false
set_option linter.unusedSimpArgs false
section
variable {w w' : World} {vb bp pb nb ib bb lb C K : Nat} {v : VM} {rv : Value} {F H : Nat → Prop} {m : Mach}
set_option maxRecDepth 100000 in
set_option maxHeartbeats 4000000 in
theorem commit1_calls {n i : Nat} {s : L} (h0 : w.cell? ⟨pb, 0, none⟩ = some (.pointer (some ⟨vb, 0, none⟩))) (h1 : w.cell? ⟨vb, 0, none⟩ = some (.pointer (some ⟨bp, 0, none⟩))) (h2 : w.cell? ⟨nb, 0, none⟩ = some (.int .i64 (n : Nat))) (h3 : w.cell? ⟨ib, 0, none⟩ = some (.int .i64 (i : Nat))) (h4 : w.cell? ⟨bb, 1, none⟩ = some (.string (mkB s))) (f0 : ¬ F pb) (f1 : ¬ F vb) (f2 : ¬ F nb) (f3 : ¬ F ib) (f4 : ¬ F bb) (hp : Plate w bp m F) (hg : Good C K m) (hC : C + 2 ≤ 10000000) (hG : Glob w) (hn : n ≤ 1099511627776) (hi : i < 1000000) (hsl : s.length ≤ 1000000000) :
  Calls Tryz.prog 60 #[.pointer (some ⟨pb, 0, none⟩), .pointer (some ⟨nb, 0, none⟩), .pointer (some ⟨ib, 0, none⟩), .pointer (some ⟨bb, 0, none⟩)] w (Done bp F w (put3 m (cdc.name n i) s)) := by
 have kp : ∀ {a : Addr} {u : Value} {W : World}, w.cell? a = some u → ¬ F a.block → Tch F w.drew W → W.cell? a = some u := fun h hf t => (cell_block (t.block _ (block_lt_of_cell h) hf)).trans h
 have HK := Lib.hid (fun (W : World) (t : Tch F w.drew W) => (show W.cell? ⟨pb, 0, none⟩ = some (.pointer (some ⟨vb, 0, none⟩)) ∧ W.cell? ⟨vb, 0, none⟩ = some (.pointer (some ⟨bp, 0, none⟩)) ∧ W.cell? ⟨nb, 0, none⟩ = some (.int .i64 (n : Nat)) ∧ W.cell? ⟨ib, 0, none⟩ = some (.int .i64 (i : Nat)) ∧ W.cell? ⟨bb, 1, none⟩ = some (.string (mkB s)) from ⟨kp h0 f0 t, kp h1 f1 t, kp h2 f2 t, kp h3 f3 t, kp h4 f4 t⟩))
 have HF := Lib.hid (file_calls (w := w.drew) n i (hG.below (Below.refl _ _).drew) zb13 zb13)
 have HW := Lib.hid (fun (W : World) (hb : Below w.drew.heap.size w.drew W) => write_calls (w := W) (vb := vb) (x := cdc.name n i) (s := s) (HK.out W (.of_below hb)).2.1 f1 ((plate_drew hp).still hb) hg hC (mkB_name (name_ok hn hi)) (by rw [mkB_size]; exact hsl))
 obtain ⟨z, mz, hz⟩ : ∃ z mz, put3 m (cdc.name n i) s = (z, mz) := ⟨_, _, rfl⟩
 rw [hz] at HW ⊢
 clear hp hg h0 h1 h2 h3 h4 hz hG
 go_enter Tryz.func60, Tryz.ntmps60
 go_wp2
 refine start_ (n := 8) (S := fun w' => Tch F w.drew w') (ds := []) #[false, false, false, false, false, false, false, false] zb10 rfl rfl (Tch.refl _ _) (fun hHeld => ?_)
 refine tak_ 0 (some 5) rfl rfl hHeld (fun w' hs => by (have cs : w'.cell? ⟨pb, 0, none⟩ = some (.pointer (some ⟨vb, 0, none⟩)) := (HK.out _ hs).1; go_simp; first | with_reducible rfl | rfl)) ?_
 refine tak_ 1 (some 6) rfl rfl hHeld (fun w' hs => by (have cs : w'.cell? ⟨nb, 0, none⟩ = some (.int .i64 (n : Nat)) := (HK.out _ hs).2.2.1; go_simp; first | with_reducible rfl | rfl)) ?_
 refine tak_ 2 (some 7) rfl rfl hHeld (fun w' hs => by (have cs : w'.cell? ⟨ib, 0, none⟩ = some (.int .i64 (i : Nat)) := (HK.out _ hs).2.2.2.1; go_simp; first | with_reducible rfl | rfl)) ?_
 refine pur_ 4 (some 9) rfl rfl ?_
 refine tak_ 5 (some 10) rfl rfl hHeld (fun w' hs => by (have cs : w'.cell? ⟨bb, 1, none⟩ = some (.string (mkB s)) := (HK.out _ hs).2.2.2.2; go_simp; first | with_reducible rfl | rfl)) ?_
 refine on_ 3 (some 8) rfl rfl (fun K hK => ?_)
 refine goes_ Tryz.func62 zb10 rfl #[.int .i64 (n : Nat), .int .i64 (i : Nat)] (by rfl) rfl rfl zb17 ?_
 refine (HF.out).mono ?_
 rintro e w1 ⟨rfl, hb1⟩
 have HB1 := Lib.hid hb1
 clear hb1
 refine ⟨_, rfl, ?_⟩
 refine hK.out _ _ (Tch.of_below HB1.out) (fun hHeld => ?_)
 clear hK K
 refine norm_ (a' := ?_) ?_ ?_
 rotate_left
 ·show Act.put _ (some 8) _ = _
  simp only [Act.put, List.setIfInBounds_toArray, List.set_cons_zero, List.set_cons_succ, i64_w, i32_w]
  rfl
 refine on_ 6 (some 11) rfl rfl (fun K hK => ?_)
 refine goes_ Tryz.func61 zb10 rfl #[.pointer (some ⟨vb, 0, none⟩), .string (mkB (cdc.name n i)), .string (mkB s)] (by rfl) rfl rfl zb17 ?_
 refine (HW.out _ HB1.out).mono ?_
 rintro e w2 ⟨rfl, hp1, ht1⟩
 have HP1 := Lib.hid hp1
 have hk1 := (Tch.of_below HB1.out).trans ht1 (fun k hk => .inl hk)
 clear hp1 ht1
 refine ⟨_, rfl, ?_⟩
 refine hK.out _ _ (hk1) (fun hHeld => ?_)
 clear hK K
 refine norm_ (a' := ?_) ?_ ?_
 rotate_left
 ·show Act.put _ (some 11) _ = _
  simp only [Act.put, List.setIfInBounds_toArray, List.set_cons_zero, List.set_cons_succ, i64_w, i32_w]
  rfl
 refine pur_ 7 (some 4) rfl rfl ?_
 refine done_ zb10 ?_
 go_wp2
 go_ret
 exact ⟨rfl, HP1.out.widen (fun i hi => hi.imp id (fun h => ⟨Nat.le_trans HB1.out.size h.1, h.2⟩)), (Tch.drew F w).trans hHeld (fun k hk => .inl hk)⟩
set_option maxRecDepth 100000 in
set_option maxHeartbeats 4000000 in
theorem commit2_calls {s : L} (h0 : w.cell? ⟨pb, 0, none⟩ = some (.pointer (some ⟨vb, 0, none⟩))) (h1 : w.cell? ⟨vb, 0, none⟩ = some (.pointer (some ⟨bp, 0, none⟩))) (h2 : w.cell? ⟨lb, 0, none⟩ = some (.string (mkB s))) (f1 : ¬ F vb) (hp : Plate w bp m F) (hg : Good C K m) (hC : C + 2 ≤ 10000000) (hsl : s.length ≤ 1000000000) :
  Calls Tryz.prog 64 #[.pointer (some ⟨pb, 0, none⟩), .pointer (some ⟨lb, 0, none⟩)] w (Done bp F w (put3 m newL s)) := by
 have HW := Lib.hid (show Calls Tryz.prog 61 #[.pointer (some ⟨vb, 0, none⟩), .string ⟨#[109, 97, 110, 105, 102, 101, 115, 116, 46, 110, 101, 119]⟩, .string (mkB s)] w (Done bp F w (put3 m newL s)) from write_calls (x := newL) h1 f1 hp hg hC (by rw [mkB_size]; decide) (by rw [mkB_size]; exact hsl))
 clear hp hg h1
 go_enter Tryz.func64, Tryz.ntmps64
 go_wp2_with (first
  | (go_at_call 61; refine HW.out.mono ?_; rintro e w2 ⟨rfl, hp2, ht2⟩)
  | go_in)
 go_ret
 exact ⟨rfl, hp2, ht2⟩
set_option maxRecDepth 100000 in
set_option maxHeartbeats 4000000 in
theorem commit3_calls (h0 : w.cell? ⟨pb, 0, none⟩ = some (.pointer (some ⟨vb, 0, none⟩))) (h1 : w.cell? ⟨vb, 0, none⟩ = some (.pointer (some ⟨bp, 0, none⟩))) (hp : Plate w bp m F) (hg : Good C K m) (hC : C ≤ 10000000) :
  Calls Tryz.prog 65 #[.pointer (some ⟨pb, 0, none⟩)] w (Done bp F w (rename m newL manL)) := by
 have hc := Rename_calls (mkB newL) (mkB manL) hp hg.inv zb13 (by rw [mkB_size]; decide) (by rw [mkB_size]; decide)
 rw [mkB_data, mkB_data] at hc
 have HW := Lib.hid (show Calls Tryz.prog 66 #[.pointer (some ⟨bp, 0, none⟩), .string ⟨#[109, 97, 110, 105, 102, 101, 115, 116, 46, 110, 101, 119]⟩, .string ⟨#[109, 97, 110, 105, 102, 101, 115, 116]⟩] w (Done bp F w (rename m newL manL)) from hc)
 clear hp hg hc
 go_enter Tryz.func65, Tryz.ntmps65
 go_wp2_with (first
  | (go_at_call 66; refine HW.out.mono ?_; rintro e w2 ⟨rfl, hp2, ht2⟩)
  | go_in)
 go_ret
 exact ⟨rfl, hp2, ht2⟩
theorem commit1_eg : ∀ args w, (callFunc 60 args).run Tryz.prog w = .ok (.enter 60 args) w := enters_of Tryz.func60 zb10 rfl
theorem commit2_eg : ∀ args w, (callFunc 64 args).run Tryz.prog w = .ok (.enter 64 args) w := enters_of Tryz.func64 zb10 rfl
theorem commit3_eg : ∀ args w, (callFunc 65 args).run Tryz.prog w = .ok (.enter 65 args) w := enters_of Tryz.func65 zb10 rfl
theorem syncDir_eg : ∀ args w, (callFunc 28 args).run Tryz.prog w = .ok (.enter 28 args) w := enters_of Tryz.func28 zb10 rfl
theorem sweep_eg : ∀ args w, (callFunc 57 args).run Tryz.prog w = .ok (.enter 57 args) w := enters_of Tryz.func57 zb10 rfl
end
end Go.Proofs.YtfpbpakgajddnaaGreatDoor.Pl
/- VvL -/
namespace Go.Proofs.YtfpbpakgajddnaaGreatDoor.Pl
open Go Go.RowKit Go.Maps Go.Proofs.YtfpbpakgajddnaaGreatDoorW.PrintWords
open Go.Proofs.YtfpbpakgajddnaaGreatDoor.O (Glob)
set_option linter.unusedVariables false
set_option linter.unusedSimpArgs false
def tail2 (M : Mach) : Int × Mach := if (syncDir M).1 = 0 then rename (syncDir M).2 newL manL else syncDir M
def tail3 (lines : L) (M : Mach) : Int × Mach := if (put3 M newL lines).1 = 0 then tail2 (put3 M newL lines).2 else put3 M newL lines
def stageI (c : Codec) (n i : Nat) (ps : List L) (lines : L) (m : Mach) : Int × Mach := if (doPuts c n i ps m).1 = 0 then tail3 lines (doPuts c n i ps m).2 else doPuts c n i ps m
theorem stageI_nil (c : Codec) (n i : Nat) (lines : L) (m : Mach) : stageI c n i [] lines m = tail3 lines m := by
 unfold stageI doPuts
 rw [if_pos rfl]
theorem stageI_cons (c : Codec) (n i : Nat) (s : L) (ps : List L) (lines : L) (m : Mach) : stageI c n i (s :: ps) lines m = if (put3 m (c.name n i) s).1 = 0 then stageI c n (i + 1) ps lines (put3 m (c.name n i) s).2 else put3 m (c.name n i) s := by
 unfold stageI
 rw [doPuts]
 by_cases h : (put3 m (c.name n i) s).1 = 0
 ·rw [if_pos h, if_pos h]
 ·rw [if_neg h, if_neg h, if_neg h]
def clo (pb nb : Nat) (q : Nat × Nat) : Fv := ⟨60, #[], #[.pointer (some ⟨pb, 0, none⟩), .pointer (some ⟨nb, 0, none⟩), .pointer (some ⟨q.1, 0, none⟩), .pointer (some ⟨q.2, 0, none⟩)]⟩
def clo2 (pb lb : Nat) : Fv := ⟨64, #[], #[.pointer (some ⟨pb, 0, none⟩), .pointer (some ⟨lb, 0, none⟩)]⟩
def cloS (bp : Nat) : Fv := ⟨28, #[.pointer (some ⟨bp, 0, none⟩)], #[]⟩
def clo3 (pb : Nat) : Fv := ⟨65, #[], #[.pointer (some ⟨pb, 0, none⟩)]⟩
def cloW (vb : Nat) : Fv := ⟨57, #[.pointer (some ⟨vb, 0, none⟩)], #[]⟩
def todoF (pb nb lb bp : Nat) (bs : List (Nat × Nat)) : List Fv := bs.map (clo pb nb) ++ [clo2 pb lb, cloS bp, clo3 pb]
section
variable {w w1 w' : World} {vb bp pb nb lb fb C K c n : Nat} {v : VM} {rv : Value} {F H : Nat → Prop} {m : Mach} {ps : List L} {lines : L} {bs : List (Nat × Nat)}
def StI (bp : Nat) (F : Nat → Prop) (w1 : World) (C K n : Nat) (ps : List L) (lines : L) (m : Mach) (j : Nat) (W : World) : Prop :=
  (∃ mj, j ≤ ps.length ∧ stageI cdc n j (ps.drop j) lines mj = stage cdc n ps lines m ∧ Good (C + 2 * j) (K + j) mj ∧ At bp F w1 mj W) ∨
  (∃ mj, j = ps.length + 1 ∧ tail2 mj = stage cdc n ps lines m ∧ Good (C + 2 * ps.length + 2) (K + ps.length + 1) mj ∧ At bp F w1 mj W) ∨
  (∃ mj, j = ps.length + 2 ∧ rename mj newL manL = stage cdc n ps lines m ∧ Good (C + 2 * ps.length + 2) (K + ps.length + 1) mj ∧ At bp F w1 mj W) ∨
  (j = ps.length + 3 ∧ (stage cdc n ps lines m).1 = 0 ∧ At bp F w1 (stage cdc n ps lines m).2 W)
theorem todo_at1 (hbs : bs.length = ps.length) {j : Nat} {f : Fv} (h : (todoF pb nb lb bp bs)[j]? = some f) (hj : j < ps.length) : ∃ q s, bs[j]? = some q ∧ ps[j]? = some s ∧ f = clo pb nb q := by
 unfold todoF at h
 rw [List.getElem?_append_left (by rw [List.length_map]; omega), List.getElem?_map] at h
 obtain ⟨q, hq, rfl⟩ := Option.map_eq_some_iff.1 h
 exact ⟨q, ps[j], hq, List.getElem?_eq_getElem hj, rfl⟩
theorem todo_at2 (hbs : bs.length = ps.length) (k : Nat) : (todoF pb nb lb bp bs)[ps.length + k]? = [clo2 pb lb, cloS bp, clo3 pb][k]? := by
 unfold todoF
 rw [List.getElem?_append_right (by rw [List.length_map]; omega), List.length_map, hbs]
 congr 1
 omega
theorem todo_len : (todoF pb nb lb bp bs).length = bs.length + 3 := by simp [todoF]
theorem stage_turn (hbs : bs.length = ps.length) (hr : ∀ j f, (todoF pb nb lb bp bs)[j]? = some f → w1.cell? ⟨fb, j, none⟩ = some f.val)
  (hq : ∀ j q s, bs[j]? = some q → ps[j]? = some s → w1.cell? ⟨q.1, 0, none⟩ = some (.int .i64 (j : Nat)) ∧ w1.cell? ⟨q.2, 1, none⟩ = some (.string (mkB s)) ∧ ¬ F q.1 ∧ ¬ F q.2)
  (h0 : w1.cell? ⟨pb, 0, none⟩ = some (.pointer (some ⟨vb, 0, none⟩))) (h1 : w1.cell? ⟨vb, 0, none⟩ = some (.pointer (some ⟨bp, 0, none⟩))) (h2 : w1.cell? ⟨nb, 0, none⟩ = some (.int .i64 (n : Nat))) (h3 : w1.cell? ⟨lb, 0, none⟩ = some (.string (mkB lines)))
  (ff : ¬ F fb) (f0 : ¬ F pb) (f1 : ¬ F vb) (f2 : ¬ F nb) (f3 : ¬ F lb) (hp : Plate w1 bp m F) (hg : Good C K m) (hC : C + 2 * ps.length + 6 ≤ 10000000) (hG : ∀ W, Tch F w1 W → Glob W) (hn : n ≤ 1099511627776) (hps : ps.length ≤ 100000) (hsl : ∀ s ∈ ps, s.length ≤ 1000000000) (hll : lines.length ≤ 1000000000) :
  Calls Tryz.prog 67 #[.slice (some ⟨fb, 0, none⟩) (ps.length + 3 : Nat) c] w1 fun e w' => e = .returned (.int .i64 (stage cdc n ps lines m).1) ∧ At bp F w1 (stage cdc n ps lines m).2 w' := by
 have hlen : (todoF pb nb lb bp bs).length = ps.length + 3 := by rw [todo_len, hbs]
 have key := inTurn_calls (w := w1) (todoF pb nb lb bp bs) fb c (StI bp F w1 C K n ps lines m) (fun z W => z = (stage cdc n ps lines m).1 ∧ At bp F w1 (stage cdc n ps lines m).2 W) ?_ ?_ ?_ ?_ (by rw [hlen]; omega) (.inl ⟨m, Nat.zero_le _, rfl, hg, hp.start, Tch.refl _ _⟩)
 ·rw [hlen] at key
  refine key.mono ?_
  rintro e w' ⟨z, rfl, rfl, hA⟩
  exact ⟨rfl, hA⟩
 ·intro f hf
  unfold todoF at hf
  rcases List.mem_append.1 hf with hf | hf
  ·obtain ⟨q, _, rfl⟩ := List.mem_map.1 hf
   exact commit1_eg
  ·simp only [List.mem_cons, List.not_mem_nil, or_false] at hf
   rcases hf with rfl | rfl | rfl
   ·exact commit2_eg
   ·exact syncDir_eg
   ·exact commit3_eg
 ·intro j W f hI hf
  have hc := hr j f hf
  rcases hI with ⟨_, _, _, _, h⟩ | ⟨_, _, _, _, h⟩ | ⟨_, _, _, _, h⟩ | ⟨_, _, h⟩ <;> exact h.cell hc ff
 ·intro j W f hI hf
  have l0 := block_lt_of_cell h0
  have l1 := block_lt_of_cell h1
  have l2 := block_lt_of_cell h2
  have l3 := block_lt_of_cell h3
  rcases hI with ⟨mj, hj, hst, hgj, h⟩ | ⟨mj, rfl, hst, hgj, h⟩ | ⟨mj, rfl, hst, hgj, h⟩ | ⟨rfl, _, h⟩
  ·rcases Nat.lt_or_ge j ps.length with hlt | hge
   ·obtain ⟨q, s, hq1, hs1, rfl⟩ := todo_at1 hbs hf hlt
    obtain ⟨q1, q2, q3, q4⟩ := hq j q s hq1 hs1
    have e1 : ps.drop j = s :: ps.drop (j + 1) := by
     obtain ⟨a1, a2⟩ := List.getElem?_eq_some_iff.1 hs1
     rw [← a2]
     exact List.drop_eq_getElem_cons a1
    rw [e1, stageI_cons] at hst
    refine (commit1_calls (n := n) (i := j) (s := s) (h.cell h0 f0) (h.cell h1 f1) (h.cell h2 f2) (h.cell q1 q3) (h.cell q2 q4) (not_grow f0 l0) (not_grow f1 l1) (not_grow f2 l2) (not_grow q3 (block_lt_of_cell q1)) (not_grow q4 (block_lt_of_cell q2)) h.1 hgj zb13 (hG W h.2) hn zb13 (hsl s (List.mem_of_getElem? hs1))).mono ?_
    rintro e w' hd
    obtain ⟨rfl, hA⟩ := h.next hd
    refine ⟨_, rfl, fun hz => .inl ⟨_, hlt, ?_, (hgj.put3 (cdc.name n j) s).mono zb13 zb13, hA⟩, fun hz => ?_⟩
    ·rw [if_pos hz] at hst
     exact hst
    ·rw [if_neg hz] at hst
     rw [← hst]
     exact ⟨rfl, hA⟩
   ·obtain rfl : j = ps.length := by omega
    rw [List.drop_length, stageI_nil] at hst
    have hf2 := todo_at2 (pb := pb) (nb := nb) (lb := lb) (bp := bp) hbs 0
    rw [Nat.add_zero, hf] at hf2
    obtain rfl := Option.some.inj hf2
    refine (commit2_calls (s := lines) (h.cell h0 f0) (h.cell h1 f1) (h.cell h3 f3) (not_grow f1 l1) h.1 hgj zb13 hll).mono ?_
    rintro e w' hd
    obtain ⟨rfl, hA⟩ := h.next hd
    unfold tail3 at hst
    refine ⟨_, rfl, fun hz => .inr (.inl ⟨_, rfl, ?_, (hgj.put3 newL lines).mono zb13 zb13, hA⟩), fun hz => ?_⟩
    ·rw [if_pos hz] at hst
     exact hst
    ·rw [if_neg hz] at hst
     rw [← hst]
     exact ⟨rfl, hA⟩
  ·rw [todo_at2 hbs 1] at hf
   obtain rfl := Option.some.inj hf
   refine (SyncDir_calls h.1 hgj.inv).mono ?_
   rintro e w' hd
   obtain ⟨rfl, hA⟩ := h.next hd
   unfold tail2 at hst
   refine ⟨_, rfl, fun hz => .inr (.inr (.inl ⟨_, rfl, ?_, hgj.syncDir, hA⟩)), fun hz => ?_⟩
   ·rw [if_pos hz] at hst
    exact hst
   ·rw [if_neg hz] at hst
    rw [← hst]
    exact ⟨rfl, hA⟩
  ·rw [todo_at2 hbs 2] at hf
   obtain rfl := Option.some.inj hf
   refine (commit3_calls (h.cell h0 f0) (h.cell h1 f1) h.1 hgj zb13).mono ?_
   rintro e w' hd
   obtain ⟨rfl, hA⟩ := h.next hd
   rw [hst] at hA ⊢
   exact ⟨_, rfl, fun hz => .inr (.inr (.inr ⟨rfl, hz, hA⟩)), fun hz => ⟨rfl, hA⟩⟩
  ·rw [todo_at2 hbs 3] at hf
   simp at hf
 ·intro W hI
  rw [hlen] at hI
  rcases hI with ⟨_, h, _⟩ | ⟨_, h, _⟩ | ⟨_, h, _⟩ | ⟨_, hz, hA⟩
  ·omega
  ·omega
  ·omega
  ·exact ⟨hz.symm, hA⟩
/-- Behind the new manifest's name: the directory synced, what nobody names swept. -/
theorem last_turn (hr : ∀ j f, [cloS bp, cloW vb][j]? = some f → w1.cell? ⟨fb, j, none⟩ = some f.val) (hv : VP w1 vb bp v rv) (ff : ¬ F fb) (hp : Plate w1 bp m F) (ha : ∀ i, vfoot vb rv i → ¬ F i) (hg : Good C K m) (hC : C + 2 * K ≤ 10000000) :
  Calls Tryz.prog 67 #[.slice (some ⟨fb, 0, none⟩) 2 c] w1 fun e w' => e = .returned (.int .i64 (if (syncDir m).1 = 0 then sweep v (syncDir m).2 else syncDir m).1) ∧ At bp F w1 (if (syncDir m).1 = 0 then sweep v (syncDir m).2 else syncDir m).2 w' := by
 have key := inTurn_calls (w := w1) [cloS bp, cloW vb] fb c (fun j W => (j = 0 ∧ At bp F w1 m W) ∨ (j = 1 ∧ (syncDir m).1 = 0 ∧ At bp F w1 (syncDir m).2 W) ∨ (j = 2 ∧ (if (syncDir m).1 = 0 then sweep v (syncDir m).2 else syncDir m).1 = 0 ∧ At bp F w1 (if (syncDir m).1 = 0 then sweep v (syncDir m).2 else syncDir m).2 W))
  (fun z W => z = (if (syncDir m).1 = 0 then sweep v (syncDir m).2 else syncDir m).1 ∧ At bp F w1 (if (syncDir m).1 = 0 then sweep v (syncDir m).2 else syncDir m).2 W) ?_ ?_ ?_ ?_ zb35 (.inl ⟨rfl, hp.start, Tch.refl _ _⟩)
 ·refine key.mono ?_
  rintro e w' ⟨z, rfl, rfl, hA⟩
  exact ⟨rfl, hA⟩
 ·intro f hf
  simp only [List.mem_cons, List.not_mem_nil, or_false] at hf
  rcases hf with rfl | rfl
  ·exact syncDir_eg
  ·exact sweep_eg
 ·intro j W f hI hf
  have hc := hr j f hf
  rcases hI with ⟨_, h⟩ | ⟨_, _, h⟩ | ⟨_, _, h⟩ <;> exact h.cell hc ff
 ·intro j W f hI hf
  rcases hI with ⟨rfl, h⟩ | ⟨rfl, hz, h⟩ | ⟨rfl, _, h⟩
  ·obtain rfl := Option.some.inj hf
   refine (SyncDir_calls h.1 hg.inv).mono ?_
   rintro e w' hd
   obtain ⟨rfl, hA⟩ := h.next hd
   refine ⟨_, rfl, fun hz => .inr (.inl ⟨rfl, hz, hA⟩), fun hz => ?_⟩
   rw [if_neg hz]
   exact ⟨rfl, hA⟩
  ·obtain rfl := Option.some.inj hf
   refine (sweep_calls (hv.tch h.2 ha) h.1 (fun i hi => not_grow (ha i hi) (hv.lt hi)) hg.syncDir hC).mono ?_
   rintro e w' hd
   obtain ⟨rfl, hA⟩ := h.next hd
   rw [if_pos hz]
   exact ⟨_, rfl, fun hz2 => .inr (.inr ⟨rfl, hz2, hA⟩), fun hz2 => ⟨rfl, hA⟩⟩
  ·simp at hf
 ·intro W hI
  rcases hI with ⟨h, _⟩ | ⟨h, _⟩ | ⟨_, hz, hA⟩
  ·simp at h
  ·simp at h
  ·exact ⟨hz.symm, hA⟩
end
end Go.Proofs.YtfpbpakgajddnaaGreatDoor.Pl
/- VvM -/
namespace Go.Proofs.YtfpbpakgajddnaaGreatDoor.Pl
open Go Go.RowKit Go.Maps Go.Proofs.YtfpbpakgajddnaaGreatDoorW.PrintWords Go.Proofs.YtfpbpakgajddnaaGreatDoorW.PrintLast Go.Proofs.YtfpbpakgajddnaaGreatDoorW.PrintMore
open Go.Proofs.YtfpbpakgajddnaaGreatDoor.O (Glob)
set_option linter.unusedVariables false
set_option linter.unusedSimpArgs false
theorem commitR_bad (c : Codec) (v : VM) (ps : List (L × L)) (gone : List L) (m : Mach) (h : checkI (v.n + 1) ps ≠ 0) : commitR c v ps gone m = (checkI (v.n + 1) ps, v, m) := by
 unfold commitR checkI at *
 by_cases h1 : 1099511627776 < v.n + 1
 ·rw [if_pos h1, if_pos h1]
 ·rw [if_neg h1] at h ⊢
  rw [if_neg h1]
  by_cases h2 : (ps.all fun b => nameOk b.1) = false
  ·rw [if_pos h2, if_pos h2]
  ·rw [if_neg h2] at h
   exact absurd rfl h
theorem commitR_good (c : Codec) (v : VM) (ps : List (L × L)) (gone : List L) (m : Mach) (h : checkI (v.n + 1) ps = 0) : v.n + 1 ≤ 1099511627776 ∧ (∀ b ∈ ps, nameOk b.1 = true) ∧ commitR c v ps gone m = commitV c v (nextR c (v.n + 1) ps gone v.rows) (ps.map (·.2)) m := by
 unfold commitR checkI at *
 by_cases h1 : 1099511627776 < v.n + 1
 ·rw [if_pos h1] at h
  cases h
 ·rw [if_neg h1] at h ⊢
  by_cases h2 : (ps.all fun b => nameOk b.1) = false
  ·rw [if_pos h2] at h
   cases h
  ·rw [if_neg h2]
   have h3 : (ps.all fun b => nameOk b.1) = true := by simpa using h2
   exact ⟨by omega, List.all_eq_true.1 h3, rfl⟩
theorem fn_info : (Tryz.prog.info? 64).map (fun i => (i.zero, i.size, i.bytes)) = some (some .nilFunc, 1, 8) := by kernel_rfl
/-- What Commit has answered. -/
def Committed (vb bp : Nat) (H : Nat → Prop) (w : World) (r : Int × VM × Mach) (e : Ending) (w' : World) : Prop :=
  e = .returned (.int .i64 r.1) ∧ Tch H w w' ∧ ∃ rv' F', VS w' vb bp r.2.1 r.2.2 rv' F' (grow H w w')
section
variable {w w' : World} {vb bp C K c1 c2 : Nat} {v : VM} {rv : Value} {F H : Nat → Prop} {m : Mach} {A1 A2 : Option Addr}
/-- Nothing done but new blocks. -/
theorem VS.idle (h : VS w vb bp v m rv F H) (hb : Below w.heap.size w w') : Tch H w w' ∧ ∃ rv' F', VS w' vb bp v m rv' F' (grow H w w') := by
 refine ⟨.of_below hb, rv, F, h.vp.tch (F := fun _ => False) (.of_below hb) (fun _ _ => id), h.plate.still hb, h.apart, fun i hi => .inl (h.inF i hi), fun i hi => .inl (h.inV i hi)⟩
set_option maxRecDepth 100000 in
set_option maxHeartbeats 8000000 in
theorem commit_bad {ps : List (L × L)} {gs : List L} (hvs : VS w vb bp v m rv F H) (hn : v.n ≤ 1099511627776) (hput : Blobs w A1 ps) (hc1 : ps.length ≤ c1) (hps : ps.length ≤ 100000) (hG : Glob w) (hz : checkI (v.n + 1) ps ≠ 0) :
  Calls Tryz.prog 21 #[.pointer (some ⟨vb, 0, none⟩), .slice A1 ps.length c1, .slice A2 gs.length c2] w (Committed vb bp H w (commitR cdc v ps gs m)) := by
 rw [commitR_bad cdc v ps gs m hz]
 have hlt := blk_lt hvs.vp.top
 have k1 : ¬ vb = w.heap.size := by omega
 have k2 : ¬ w.heap.size = vb := by omega
 have e1 : w.cell? ⟨vb, 1, none⟩ = some (.int .i64 (v.n : Nat)) := cell_at hvs.vp.top 1
 have HI := Lib.hid (fun (W : World) (hb : Below w.heap.size w W) => hvs.idle hb)
 have HC := Lib.hid (fun (W : World) (hb : Below w.heap.size w W) => check_calls (w := W) (v.n + 1) (hG.below hb) (Kd.C_below hput hb) hc1 zb13)
 obtain ⟨z, hzz⟩ : ∃ z, checkI (v.n + 1) ps = z := ⟨_, rfl⟩
 rw [hzz] at hz HC ⊢
 have hz1 : (z != 0) = true := by simpa using hz
 have hb : Below w.heap.size w ((w.alloc (.cells #[.pointer (some ⟨vb, 0, none⟩)] 31 (0, 0))).alloc (.cells #[.int .i64 (v.n + 1 : Nat)] 3 (0, 0))) := ((Below.refl _ _).alloc (Nat.le_refl _) _).alloc zb35 _
 have HB := Lib.hid hb
 clear hput hG hvs hb
 generalize v.n = n at *
 go_enter Tryz.func21, Tryz.ntmps21
 go_wp2_with (first
  | (go_at_call 58; refine (HC.out _ HB.out).mono ?_; rintro e w2 ⟨rfl, hb2⟩; have HB2 := Lib.hid (HB.out.trans (hb2.mono HB.out.size)); clear hb2)
  | go_in)
 go_ret
 exact ⟨rfl, HI.out _ HB2.out⟩
/-- A closure's boxes. -/
def Boxes (W : World) (B : Nat) (ps : List (L × L)) (rv : Value) (bs : List (Nat × Nat)) : Prop := ∀ (j : Nat) (q : Nat × Nat) (b : L × L), bs[j]? = some q → ps[j]? = some b → W.heap[q.1]? = some (.cells #[.int .i64 (j : Nat)] 3 (0, 0)) ∧ W.heap[q.2]? = some (.cells #[.string (mkB b.1), .string (mkB b.2)] 28 (0, 0)) ∧ rv.ownBlock ≠ some q.1 ∧ rv.ownBlock ≠ some q.2 ∧ B ≤ q.1 ∧ B ≤ q.2
def cloC (pb nb : Nat) (bs : List (Nat × Nat)) : List Value := bs.map fun q => (clo pb nb q).val
theorem own_emptyF (w : World) : (w.alloc (.cells #[] 64 (0, 0))).ownsRow w.heap.size 64 1 (.slice (some ⟨w.heap.size, 0, none⟩) 0 0) 0 [] :=
 own_blk_mk (cs := []) (alloc_new w _) rfl rfl (Nat.le_refl _) (Nat.le_refl _) (Nat.zero_le _)
/-- One closure more. -/
theorem Boxes.push {W W' : World} {B n c base : Nat} {A A' : Option Addr} {c' : Nat} {ps : List (L × L)} {bs : List (Nat × Nat)} {xs : List Value} {b : L × L} {O : Obj} (h : Boxes W B ps (.slice A n c) bs) (hB : B ≤ W.heap.size) (hr : W.ownsRow base 64 1 (.slice A n c) n xs) (hb : ps[bs.length]? = some b)
  (hg : (((W.alloc (.cells #[.int .i64 (bs.length : Nat)] 3 (0, 0))).alloc (.cells #[.string (mkB b.1), .string (mkB b.2)] 28 (0, 0))).alloc O).grownBy W' (Value.slice A n c).ownBlock)
  (hl : (Value.slice A' (n + 1) c').ownBlock = (Value.slice A n c).ownBlock ∨ (Value.slice A' (n + 1) c').ownBlock = some (W.heap.size + 1 + 1 + 1)) :
  Boxes W' B ps (.slice A' (n + 1) c') (bs ++ [(W.heap.size, W.heap.size + 1)]) := by
 have hlow : ∀ k, (Value.slice A n c).ownBlock = some k → k < W.heap.size := fun k hk => by
  obtain ⟨_, e⟩ := row_block hr hk
  exact blk_lt e
 have hsz : (((W.alloc (.cells #[.int .i64 (bs.length : Nat)] 3 (0, 0))).alloc (.cells #[.string (mkB b.1), .string (mkB b.2)] 28 (0, 0))).alloc O).heap.size = W.heap.size + 1 + 1 + 1 := by simp
 have keep : ∀ k x, (((W.alloc (.cells #[.int .i64 (bs.length : Nat)] 3 (0, 0))).alloc (.cells #[.string (mkB b.1), .string (mkB b.2)] 28 (0, 0))).alloc O).heap[k]? = some x → (Value.slice A n c).ownBlock ≠ some k → W'.heap[k]? = some x := fun k x hk hne => (hg.block k (blk_lt hk) (fun e => hne e.symm)).trans hk
 intro j q b' hq hb'
 rcases Nat.lt_or_ge j bs.length with hlt | hge
 ·rw [List.getElem?_append_left hlt] at hq
  obtain ⟨h1, h2, h3, h4, h5, h6⟩ := h j q b' hq hb'
  have a1 := blk_lt h1
  have a2 := blk_lt h2
  refine ⟨keep _ _ (alloc_old (alloc_old (alloc_old h1))) h3, keep _ _ (alloc_old (alloc_old (alloc_old h2))) h4, ?_, ?_, h5, h6⟩
  ·rcases hl with e | e <;> rw [e]
   ·exact h3
   ·intro e2
    have := Option.some.inj e2
    omega
  ·rcases hl with e | e <;> rw [e]
   ·exact h4
   ·intro e2
    have := Option.some.inj e2
    omega
 ·have hlt2 := (List.getElem?_eq_some_iff.1 hq).1
  rw [List.length_append, List.length_singleton] at hlt2
  obtain rfl : j = bs.length := by omega
  rw [List.getElem?_concat_length] at hq
  obtain rfl := Option.some.inj hq
  rw [hb] at hb'
  obtain rfl := Option.some.inj hb'
  have e1 := alloc_new (W.alloc (.cells #[.int .i64 (bs.length : Nat)] 3 (0, 0))) (.cells #[.string (mkB b.1), .string (mkB b.2)] 28 (0, 0))
  rw [show (W.alloc (.cells #[.int .i64 (bs.length : Nat)] 3 (0, 0))).heap.size = W.heap.size + 1 from by simp] at e1
  refine ⟨keep _ _ (alloc_old (alloc_old (alloc_new W _))) (fun e => by have := hlow _ e; omega), keep _ _ (alloc_old e1) (fun e => by have := hlow _ e; omega), ?_, ?_, hB, by show B ≤ W.heap.size + 1; omega⟩
  ·rcases hl with e | e <;> rw [e]
   ·exact fun e => by have := hlow _ e; omega
   ·intro e2
    have e3 : W.heap.size + 1 + 1 + 1 = W.heap.size := Option.some.inj e2
    omega
  ·rcases hl with e | e <;> rw [e]
   ·exact fun e => by have := hlow _ e; omega
   ·intro e2
    have e3 : W.heap.size + 1 + 1 + 1 = W.heap.size + 1 := Option.some.inj e2
    omega
theorem Boxes.keep {W W' : World} {B : Nat} {ps : List (L × L)} {rv rv' : Value} {bs : List (Nat × Nat)} (h : Boxes W B ps rv bs) (hk : ∀ k x, W.heap[k]? = some x → rv.ownBlock ≠ some k → W'.heap[k]? = some x) (hl : rv'.ownBlock = rv.ownBlock ∨ ∃ k, rv'.ownBlock = some k ∧ W.heap.size ≤ k) : Boxes W' B ps rv' bs := by
 intro j q b hq hb
 obtain ⟨h1, h2, h3, h4, h5, h6⟩ := h j q b hq hb
 have a1 := blk_lt h1
 have a2 := blk_lt h2
 refine ⟨hk _ _ h1 h3, hk _ _ h2 h4, ?_, ?_, h5, h6⟩
 ·rcases hl with e | ⟨k, e, hk⟩ <;> rw [e]
  ·exact h3
  ·intro e2
   have := Option.some.inj e2
   omega
 ·rcases hl with e | ⟨k, e, hk⟩ <;> rw [e]
  ·exact h4
  ·intro e2
   have := Option.some.inj e2
   omega
/-- All that is to be done, in turn: from a vault's world. -/
theorem stage_here {W : World} {A : Option Addr} {c base lb : Nat} {ps : List (L × L)} {lines : L} {bs : List (Nat × Nat)} (hvs : VS w vb bp v m rv F H) (hFl : ∀ i, F i → i < w.heap.size) (hb : Below w.heap.size w W) (hown : W.ownsRow base 64 1 (.slice A (ps.length + 3 : Nat) c) (ps.length + 3) ((todoF w.heap.size (w.heap.size + 1) lb bp bs).map Fv.val)) (hbase : w.heap.size ≤ base) (hbs : bs.length = ps.length) (hbx : Boxes W w.heap.size ps (.slice A (ps.length + 3 : Nat) c) bs)
  (h0 : W.heap[w.heap.size]? = some (.cells #[.pointer (some ⟨vb, 0, none⟩)] 31 (0, 0))) (h1 : W.heap[w.heap.size + 1]? = some (.cells #[.int .i64 (v.n + 1 : Nat)] 3 (0, 0))) (h2 : W.heap[lb]? = some (.cells #[.string (mkB lines)] 9 (0, 0))) (hlb : w.heap.size ≤ lb)
  (hps : ps.length ≤ 100000) (hpd : ∀ b ∈ ps, b.2.length ≤ 1000000000) (hg : Good C K m) (hC : C + 2 * ps.length + 6 ≤ 10000000) (hG : ∀ W, Tch H w W → Glob W) (hn : v.n + 1 ≤ 1099511627776) (hll : lines.length ≤ 1000000000) :
  Calls Tryz.prog 67 #[.slice A (ps.length + 3 : Nat) c] W fun e w' => e = .returned (.int .i64 (stage cdc (v.n + 1) (ps.map (·.2)) lines m).1) ∧ At bp F W (stage cdc (v.n + 1) (ps.map (·.2)) lines m).2 w' := by
 obtain ⟨fb, rfl, hfb, _⟩ := row_blk hown (show 0 < ps.length + 3 by omega)
 have hml : (ps.map (·.2)).length = ps.length := List.length_map _
 have hvl := blk_lt hvs.vp.top
 have hnF : ∀ k, w.heap.size ≤ k → ¬ F k := fun k hk hf => by have := hFl k hf; omega
 have key := stage_turn (w1 := W) (vb := vb) (bp := bp) (pb := w.heap.size) (nb := w.heap.size + 1) (lb := lb) (fb := fb) (c := c) (n := v.n + 1) (F := F) (m := m) (C := C) (K := K) (ps := ps.map (·.2)) (lines := lines) (bs := bs) (by rw [hbs, hml]) (fun j f hf => by
   have hj : j < ps.length + 3 := by
    have := (List.getElem?_eq_some_iff.1 hf).1
    rw [todo_len, hbs] at this
    exact this
   rw [cellAt1 hown j hj, List.getElem?_map, hf]
   rfl) (fun j q s hq hs => by
   rw [List.getElem?_map] at hs
   obtain ⟨b, hb1, rfl⟩ := Option.map_eq_some_iff.1 hs
   obtain ⟨x1, x2, x3, x4, x5, x6⟩ := hbx j q b hq hb1
   exact ⟨cell_at x1 0, cell_at x2 1, hnF _ x5, hnF _ x6⟩)
  (cell_at h0 0) ((cell_block (hb.block _ hvl)).trans (cell_at hvs.vp.top 0)) (cell_at h1 0) (cell_at h2 0) (hnF _ (Nat.le_trans hbase hfb)) (hnF _ (Nat.le_refl _)) (hvs.apart vb (.inl rfl)) (hnF _ (Nat.le_succ _)) (hnF _ hlb) (hvs.plate.still hb) hg (by rw [hml]; exact hC)
  (fun W2 t => hG W2 ((Tch.of_below hb).trans t (fun k hk => .inl (hvs.inF k hk)))) hn (by rw [hml]; exact hps) (fun s hs => by
   obtain ⟨b, hb1, rfl⟩ := List.mem_map.1 hs
   exact hpd b hb1) hll
 rw [hml] at key
 exact key
end
section
variable {w w' : World} {vb bp C K c1 c2 : Nat} {v : VM} {rv : Value} {F H : Nat → Prop} {m : Mach} {A1 A2 : Option Addr}
theorem one_newF (w : World) (t : TypeId) (u : Value) {k : Nat} (hk : w.heap.size = k) : ∀ j v, [u][j]? = some v → (w.alloc (.cells #[u] t (0, 0))).cell? ((⟨k, 0, none⟩ : Addr).add j) = some v := by
 intro j v hj
 subst hk
 have hj0 : j = 0 := by
  have := (List.getElem?_eq_some_iff.1 hj).1
  simp at this
  exact this
 subst hj0
 have e : v = u := (Option.some.inj hj).symm
 subst e
 rw [show ((⟨w.heap.size, 0, none⟩ : Addr).add 0) = ⟨w.heap.size, 0, none⟩ from rfl, cell_at (alloc_new w _)]
 rfl
theorem cells_newF (w : World) (t : TypeId) (cs : List Value) {k : Nat} (hk : w.heap.size = k) : ∀ j v, cs[j]? = some v → (w.alloc (.cells cs.toArray t (0, 0))).cell? ((⟨k, 0, none⟩ : Addr).add j) = some v := by
 intro j v hj
 subst hk
 rw [show ((⟨w.heap.size, 0, none⟩ : Addr).add j) = ⟨w.heap.size, j, none⟩ from by unfold Addr.add; split <;> simp_all, cell_at (alloc_new w _)]
 simpa using hj
theorem todo_vals (pb nb lb bp : Nat) (bs : List (Nat × Nat)) : (todoF pb nb lb bp bs).map Fv.val = cloC pb nb bs ++ [(clo2 pb lb).val, (cloS bp).val, (clo3 pb).val] := by simp [todoF, cloC]
theorem committed_old {F0 : Nat → Prop} {M : Mach} {w6 w8 : World} (hvs : VS w vb bp v m rv F0 H) (hb : Below w.heap.size w w6) (hA : At bp F0 w6 M w8) : Tch H w w8 ∧ ∃ rv' F', VS w8 vb bp v M rv' F' (grow H w w8) := by
 have h6 := hvs.vp.tch (F := fun _ => False) (.of_below hb) (fun _ _ => id)
 refine ⟨(Tch.of_below hb).trans hA.2 (fun k hk => .inl (hvs.inF k hk)), rv, grow F0 w6 w8, h6.tch hA.2 hvs.apart, hA.1, fun i hi => not_grow (hvs.apart i hi) (h6.lt hi), fun i hi => ?_, fun i hi => .inl (hvs.inV i hi)⟩
 exact hi.imp (hvs.inF i) (fun h => ⟨Nat.le_trans hb.size h.1, h.2⟩)
theorem committed_new {F0 : Nat → Prop} {M M' : Mach} {l : List RowM} {rv' : Value} {w6 w7 w8 w9 w10 : World} (hvs : VS w vb bp v m rv F0 H) (hb : Below w.heap.size w w6) (hA : At bp F0 w6 M w7) (h8 : Tch (fun i => i = vb) w7 w8) (hv8 : VP w8 vb bp ⟨v.n + 1, l⟩ rv') (hnew : ∀ k, rv'.ownBlock = some k → w.heap.size ≤ k ∧ k < w6.heap.size) (hF : ∀ i, F0 i → i < w.heap.size) (hb9 : Below w8.heap.size w8 w9) (hA10 : At bp (grow F0 w6 w7) w9 M' w10) :
  Tch H w w10 ∧ ∃ rv' F', VS w10 vb bp ⟨v.n + 1, l⟩ M' rv' F' (grow H w w10) := by
 have hvb : ∀ i, vfoot vb rv' i → ¬ grow F0 w6 w7 i := fun i hi h => by
  rcases hi with rfl | hi
  ·rcases h with h | h
   ·exact hvs.apart _ (.inl rfl) h
   ·have a1 := blk_lt hvs.vp.top
    have a2 := hb.size
    omega
  ·obtain ⟨a1, a2⟩ := hnew i hi
   rcases h with h | h
   ·have := hF i h
    omega
   ·omega
 have h9 := hv8.tch (F := fun _ => False) (.of_below hb9) (fun _ _ => id)
 have s6 := hb.size
 have s7 := hA.2.size
 have s8 := h8.size
 have s9 := hb9.size
 have t7 : Tch H w w7 := (Tch.of_below hb).trans hA.2 (fun k hk => .inl (hvs.inF k hk))
 have t9 : Tch H w w9 := (t7.trans h8 (fun k hk => .inl (by rw [hk]; exact hvs.inV vb (.inl rfl)))).andBelow hb9
 have t10 : Tch H w w10 := t9.trans hA10.2 (fun k hk => by
  rcases hk with hk | hk
  ·exact .inl (hvs.inF k hk)
  ·exact .inr zb13)
 refine ⟨t10, rv', grow (grow F0 w6 w7) w9 w10, h9.tch hA10.2 hvb, hA10.1, fun i hi => not_grow (hvb i hi) (h9.lt hi), fun i hi => ?_, fun i hi => ?_⟩
 ·have s10 := hA10.2.size
  rcases hi with (hi | hi) | hi
  ·exact .inl (hvs.inF i hi)
  ·exact .inr ⟨by omega, by omega⟩
  ·exact .inr ⟨by omega, hi.2⟩
 ·have s10 := hA10.2.size
  rcases hi with rfl | hi
  ·exact .inl (hvs.inV _ (.inl rfl))
  ·obtain ⟨a1, a2⟩ := hnew i hi
   exact .inr ⟨a1, by omega⟩
theorem commit_facts {n ln : Nat} {ps : List (L × L)} {bs : List (Nat × Nat)} {A9 A6 : Option Addr} {c9 c6 : Nat} {s : Value} {xs ys : List Value} {O : Obj} {w3 w5 w6 : World} (hB5 : Below w.heap.size w w5) (hW35 : Below w3.heap.size w3 w5) (h33 : w.heap.size ≤ w3.heap.size) (hO5 : w5.ownsRow w3.heap.size 64 1 (.slice A9 ln c9) ln xs) (h0 : w3.heap[w.heap.size]? = some (.cells #[.pointer (some ⟨vb, 0, none⟩)] 31 (0, 0))) (h1 : w3.heap[w.heap.size + 1]? = some (.cells #[.int .i64 (n : Nat)] 3 (0, 0))) (hX : Boxes w5 w.heap.size ps (.slice A9 ln c9) bs)
  (hown : w6.ownsRow w3.heap.size 64 1 (.slice A6 (ln + 3) c6) (ln + 3) ys) (hgr : ((w5.alloc (.cells #[s] 9 (0, 0))).alloc O).grownBy w6 (Value.slice A9 ln c9).ownBlock) (hloc : (Value.slice A6 (ln + 3) c6).ownBlock = (Value.slice A9 ln c9).ownBlock ∨ (Value.slice A6 (ln + 3) c6).ownBlock = some ((w5.alloc (.cells #[s] 9 (0, 0))).alloc O).heap.size) :
  Below w.heap.size w w6 ∧ Below w3.heap.size w3 w6 ∧ w6.heap[w.heap.size]? = some (.cells #[.pointer (some ⟨vb, 0, none⟩)] 31 (0, 0)) ∧ w6.heap[w.heap.size + 1]? = some (.cells #[.int .i64 (n : Nat)] 3 (0, 0)) ∧ w6.heap[w5.heap.size]? = some (.cells #[s] 9 (0, 0)) ∧ Boxes w6 w.heap.size ps (.slice A6 (ln + 3) c6) bs := by
 have s5 := hW35.size
 have hlow : ∀ k, (Value.slice A9 ln c9).ownBlock = some k → w3.heap.size ≤ k ∧ k < w5.heap.size := fun k hk => by
  obtain ⟨_, e⟩ := row_block hO5 hk
  exact ⟨own_base hO5 k hk, blk_lt e⟩
 have b36 : Below w3.heap.size w3 w6 := ((hW35.alloc s5 _).alloc zb41 _).grown hgr zb41 (fun k hk => (hlow k hk).1)
 have b6 : Below w.heap.size w w6 := ((hB5.alloc zb13 _).alloc zb41 _).grown hgr zb41 (fun k hk => by have := (hlow k hk).1; omega)
 have keep : ∀ k x, ((w5.alloc (.cells #[s] 9 (0, 0))).alloc O).heap[k]? = some x → (Value.slice A9 ln c9).ownBlock ≠ some k → w6.heap[k]? = some x := fun k x hk hne => (hgr.block k (blk_lt hk) (fun e => hne e.symm)).trans hk
 refine ⟨b6, b36, (b36.block _ (blk_lt h0)).trans h0, (b36.block _ (blk_lt h1)).trans h1, keep _ _ (alloc_old (alloc_new w5 _)) (fun e => by have := (hlow _ e).2; omega), hX.keep (fun k x hk hne => keep k x (alloc_old (alloc_old hk)) hne) ?_⟩
 rcases hloc with e | e
 ·exact .inl e
 ·exact .inr ⟨_, e, by simp; omega⟩
theorem VS.tight (h : VS w vb bp v m rv F H) : VS w vb bp v m rv (fun i => F i ∧ i < w.heap.size) H := ⟨h.vp, h.plate.tight, fun i hi hf => h.apart i hi hf.1, fun i hi => h.inF i hi.1, h.inV⟩
theorem commitV_bad {c : Codec} {l : List RowM} {ps : List L} {z : Int} {M : Mach} (h : stage c (v.n + 1) ps (c.print (v.n + 1) l) m = (z, M)) (hz : z ≠ 0) : commitV c v l ps m = (z, v, (sweep v M).2) := by
 unfold commitV
 rw [h, if_neg hz]
theorem commitV_good {c : Codec} {l : List RowM} {ps : List L} {M : Mach} (h : stage c (v.n + 1) ps (c.print (v.n + 1) l) m = (0, M)) : commitV c v l ps m = ((if (syncDir M).1 = 0 then sweep ⟨v.n + 1, l⟩ (syncDir M).2 else syncDir M).1, ⟨v.n + 1, l⟩, (if (syncDir M).1 = 0 then sweep ⟨v.n + 1, l⟩ (syncDir M).2 else syncDir M).2) := by
 unfold commitV
 rw [h, if_pos rfl]
 simp only
 split <;> rfl
set_option maxRecDepth 100000 in
set_option maxHeartbeats 32000000 in
theorem commit_ok {ps : List (L × L)} {gs : List L} (hvs0 : VS w vb bp v m rv F H) (hf : Fine v) (hvl : v.rows.length ≤ 100000) (hput : Blobs w A1 ps) (hgone : Strs w A2 gs) (hc1 : ps.length ≤ c1) (hps : ps.length ≤ 100000) (hpd : ∀ b ∈ ps, b.2.length ≤ 1000000000) (hg : Good C K m) (hC : C + 2 * ps.length + 6 + 2 * (K + ps.length + 2) ≤ 10000000) (hG : ∀ W, Tch H w W → Glob W)
  (hz : checkI (v.n + 1) ps = 0) (hnl : (nextR cdc (v.n + 1) ps gs v.rows).length ≤ 1000000) (hpl : (cdc.print (v.n + 1) (nextR cdc (v.n + 1) ps gs v.rows)).length ≤ 1000000000) :
  Calls Tryz.prog 21 #[.pointer (some ⟨vb, 0, none⟩), .slice A1 ps.length c1, .slice A2 gs.length c2] w (Committed vb bp H w (commitR cdc v ps gs m)) := by
 obtain ⟨hn1, hnm, hcr⟩ := commitR_good cdc v ps gs m hz
 rw [hcr]
 have hvs := hvs0.tight
 obtain ⟨F0, hF0⟩ : ∃ F0 : Nat → Prop, F0 = fun i => F i ∧ i < w.heap.size := ⟨_, rfl⟩
 rw [← hF0] at hvs
 have HFL := Lib.hid (show ∀ i, F0 i → i < w.heap.size from fun i hi => by rw [hF0] at hi; exact hi.2)
 clear hF0 hvs0
 have hlt := blk_lt hvs.vp.top
 have k1 : ¬ vb = w.heap.size := by omega
 have k2 : ¬ w.heap.size = vb := by omega
 have e1 : w.cell? ⟨vb, 1, none⟩ = some (.int .i64 (v.n : Nat)) := cell_at hvs.vp.top 1
 obtain ⟨i0, hi, hzf⟩ := Option.map_eq_some_iff.1 fn_info
 simp only [Prod.mk.injEq] at hzf
 obtain ⟨hz0, hz1, hz2⟩ := hzf
 have hG0 : Glob w := hG w (Tch.refl _ _)
 have HC := Lib.hid (fun (W : World) (hb : Below w.heap.size w W) => check_calls (w := W) (v.n + 1) (hG0.below hb) (Kd.C_below hput hb) hc1 zb13)
 rw [hz] at HC
 have HN := Lib.hid (fun (W : World) (hb : Below w.heap.size w W) => next_calls (w := W) (c1 := c1) (c2 := c2) (v.n + 1) (hvs.vp.tch (F := fun _ => False) (.of_below hb) (fun _ _ => id)) hf.rising zb13 (Kd.C_below hput hb) zb13 (fun b hb => by have := hpd b hb; omega) (Kd.C_below hgone hb) (hG0.below hb) zb13)
 have HPR := Lib.hid (fun (W : World) (A : Option Addr) (c : Nat) (hb : Below w.heap.size w W) (hr : OwnRows W 0 (.slice A (nextR cdc (v.n + 1) ps gs v.rows).length c) (nextR cdc (v.n + 1) ps gs v.rows)) => print_calls (w := W) (v.n + 1) (hG0.below hb) hr hnl)
 have HPU := Lib.hid (fun (W : World) (hb : Below w.heap.size w W) => (Kd.C_below hput hb : Blobs W A1 ps))
 obtain ⟨l, hl⟩ : ∃ l, nextR cdc (v.n + 1) ps gs v.rows = l := ⟨_, rfl⟩
 rw [hl] at HN HPR hnl hpl ⊢
 have HST := Lib.hid (fun (W : World) (A : Option Addr) (c base lb : Nat) (bs : List (Nat × Nat)) hb hown hbase hbs hbx h0 h1 h2 hlb => stage_here (w := w) (W := W) (A := A) (c := c) (base := base) (lb := lb) (ps := ps) (lines := cdc.print (v.n + 1) l) (bs := bs) hvs HFL.out hb hown hbase hbs hbx h0 h1 h2 hlb hps hpd hg zb13 hG hn1 hpl)
 have HVS := Lib.hid hvs
 have HGD := Lib.hid (Good.stage cdc (v.n + 1) (ps.map (·.2)) (cdc.print (v.n + 1) l) hg)
 rw [List.length_map] at HGD
 obtain ⟨z, M, hzM⟩ : ∃ z M, stage cdc (v.n + 1) (ps.map (·.2)) (cdc.print (v.n + 1) l) m = (z, M) := ⟨_, _, rfl⟩
 rw [hzM] at HST HGD
 have HZM := Lib.hid hzM
 have hb : Below w.heap.size w ((w.alloc (.cells #[.pointer (some ⟨vb, 0, none⟩)] 31 (0, 0))).alloc (.cells #[.int .i64 (v.n + 1 : Nat)] 3 (0, 0))) := ((Below.refl _ _).alloc (Nat.le_refl _) _).alloc zb35 _
 have HB := Lib.hid hb
 have q0 : ((w.alloc (.cells #[.pointer (some ⟨vb, 0, none⟩)] 31 (0, 0))).alloc (.cells #[.int .i64 (v.n + 1 : Nat)] 3 (0, 0))).heap[w.heap.size]? = some (.cells #[.pointer (some ⟨vb, 0, none⟩)] 31 (0, 0)) := alloc_old (alloc_new w _)
 have q1 := alloc_new (w.alloc (.cells #[.pointer (some ⟨vb, 0, none⟩)] 31 (0, 0))) (.cells #[.int .i64 (v.n + 1 : Nat)] 3 (0, 0))
 simp only [World.size_alloc] at q1
 have HQ0 := Lib.hid q0
 have HQ1 := Lib.hid q1
 clear hput hG hG0 hvs hb q0 q1 hgone hg hnm hpd hcr hf hz hvl hzM
 go_enter Tryz.func21, Tryz.ntmps21
 go_wp2_with (first
  | (go_at_call 58; refine (HC.out _ HB.out).mono ?_; rintro e w2 ⟨rfl, hb2⟩; have hq0 := (hb2.block _ (blk_lt HQ0.out)).trans HQ0.out; have hq1 := (hb2.block _ (blk_lt HQ1.out)).trans HQ1.out; have g0 := cell_at hq0 0; have g1 := cell_at hq1 0; have HP0 := Lib.hid hq0; have HP1 := Lib.hid hq1; have HB2 := Lib.hid (HB.out.trans (hb2.mono HB.out.size)); clear hb2 hq0 hq1)
  | (go_at_call 59; refine (HN.out _ HB2.out).mono ?_; rintro e w3 ⟨v3, rfl, ho3, hb3⟩; obtain ⟨A3, c3, rfl⟩ := row_slice ho3; have HO3 := Lib.hid ho3; have HB3 := Lib.hid (HB2.out.trans (hb3.mono HB2.out.size)); have hq0 := (hb3.block _ (blk_lt HP0.out)).trans HP0.out; have hq1 := (hb3.block _ (blk_lt HP1.out)).trans HP1.out; have HR0 := Lib.hid hq0; have HR1 := Lib.hid hq1; clear ho3 hb3 hq0 hq1 g0 g1)
  | go_in)
 have h23 : w.heap.size ≤ w2.heap.size := HB2.out.size
 have h33 : w.heap.size ≤ w3.heap.size := HB3.out.size
 have h34 : w.heap.size + 1 < w3.heap.size := blk_lt HR1.out
 go_loopw [10, 11, 12, 35] (fun v10 _ _ v35 wr => ∃ (i : Nat) (bs : List (Nat × Nat)), v35 = Value.int .i64 (i : Int) ∧ i ≤ ps.length ∧ bs.length = i ∧ wr.ownsRow w3.heap.size 64 1 v10 i (cloC w.heap.size (w.heap.size + 1) bs) ∧ Boxes wr w.heap.size ps v10 bs ∧ Below w3.heap.size w3 wr)
  (fun _ _ _ v35 _ => ps.length - (intOf v35).toNat)
 case atStart => exact ⟨0, [], rfl, Nat.zero_le _, rfl, own_emptyF w3, fun j q b hq => by simp at hq, (Below.refl _ _).alloc (Nat.le_refl _) _⟩
 case round =>
  obtain ⟨i, bs, rfl, hil, hbs, how, hbx, hbw⟩ := hrel
  obtain ⟨A9, c9, rfl⟩ := row_slice how
  have HOW := Lib.hid how
  have HBX := Lib.hid hbx
  have HBW := Lib.hid hbw
  have hsz : w3.heap.size ≤ wr.heap.size := hbw.size
  have HBT := Lib.hid (HB3.out.trans (hbw.mono h33))
  clear how hbx hbw
  by_cases hlt2 : i < ps.length
  ·have hdec : ((i : Int) < (ps.length : Int)) := by omega
   obtain ⟨b, hb⟩ : ∃ b, ps[i]? = some b := ⟨_, List.getElem?_eq_getElem hlt2⟩
   obtain ⟨ad, rfl, q0, q1⟩ := blob_at (HPU.out _ HBT.out) hb
   have HBI := Lib.hid (show ps[bs.length]? = some b from hbs ▸ hb)
   clear hb
   go_wp2_with (first
    | (at_builtin; refine wpList_append_own_at _ rfl _ _ 109 rfl w3.heap.size 64 i0 _ 1 8 Tryz.underlying109 hi hz0 hz1 hz2 rfl zb25 _ i _ rfl (((HOW.out.alloc _).alloc _).alloc _) ⟨wr.heap.size + 1 + 1, 0, none⟩ 1 1 [(clo w.heap.size (w.heap.size + 1) (wr.heap.size, wr.heap.size + 1)).val] rfl rfl (fun j u hj => ?cells) (fun u hu => ?onec) (by unfold maxLen; omega) zb13 zb41 ?_; (case cells => exact one_newF ((wr.alloc (.cells #[.int .i64 (i : Nat)] 3 (0, 0))).alloc (.cells #[.string (mkB b.1), .string (mkB b.2)] 28 (0, 0))) _ _ zb35 j u hj); (case onec => rw [List.mem_singleton.1 hu]; rfl); intro v2 w5 hown2 hgr2 hnil2 hloc2; obtain ⟨A5, c5, rfl⟩ := row_slice hown2; have HO5 := Lib.hid hown2; have HG5 := Lib.hid hgr2; have HL5 := Lib.hid hloc2; clear hown2 hgr2 hnil2 hloc2)
    | go_in)
   go_roundw
   case rel =>
    subst hbs
    refine ⟨bs.length + 1, bs ++ [(wr.heap.size, wr.heap.size + 1)], by push_cast; rfl, by omega, by rw [List.length_append, List.length_singleton], ?_, Boxes.push HBX.out (Nat.le_trans h33 hsz) HOW.out HBI.out HG5.out (by
     rcases HL5.out with h | h
     ·exact .inl h
     ·exact .inr (by rw [h]; simp)), ?_⟩
    ·have := HO5.out
     unfold cloC
     rw [List.map_append]
     exact this
    ·exact (((HBW.out.alloc hsz _).alloc zb41 _).alloc zb41 _).grown HG5.out zb41 (fun k hk => own_base HOW.out k hk)
   case measure =>
    show ps.length - ((i : Int) + 1).toNat < ps.length - (i : Int).toNat
    omega
  ·have hdec : ¬ ((i : Int) < (ps.length : Int)) := by omega
   have hie : i = ps.length := by omega
   subst hie
   have g1 := cell_at ((HBW.out.block _ (blk_lt HR1.out)).trans HR1.out) 0
   have HR3 := Lib.hid (own_weaken (own_bel HO3.out HBW.out) (Nat.zero_le _))
   by_cases hzz : z = 0
   ·subst hzz
    go_wp2_with (first
     | (go_at_call 63; refine (HPR.out _ _ _ HBT.out HR3.out).mono ?_; rintro e w5 ⟨rfl, hb5⟩; generalize (Mn.pr ((v.n + 1 : Nat) : Int) (l.map toR)).2 = pe; have hB5 := HBT.out.trans (hb5.mono HBT.out.size); have hW35 := HBW.out.trans (hb5.mono hsz); have hq0 := (hW35.block _ (blk_lt HR0.out)).trans HR0.out; have g0 := cell_at hq0 0; have g2 := (cell_block (a := ⟨vb, 0, none⟩) (hB5.block _ hlt)).trans (cell_at HVS.out.vp.top 0); have s5 := hW35.size; have HB5 := Lib.hid hB5; have HW35 := Lib.hid hW35; have HO5 := Lib.hid (own_bel HOW.out hb5); have HX5 := Lib.hid (HBX.out.keep (rv' := .slice A9 ps.length c9) (fun k x hk _ => (hb5.block k (blk_lt hk)).trans hk) (.inl rfl)); clear hb5 hB5 hW35 hq0; have G0 : (w5.alloc (.cells #[.string (mkB (cdc.print (v.n + 1) l))] 9 (0, 0))).cell? ⟨w.heap.size, 0, none⟩ = some (.pointer (some ⟨vb, 0, none⟩)) := (cell_block (Below.heap_alloc _ _ _ (show w.heap.size < w5.heap.size by omega))).trans g0; have G2 : (w5.alloc (.cells #[.string (mkB (cdc.print (v.n + 1) l))] 9 (0, 0))).cell? ⟨vb, 0, none⟩ = some (.pointer (some ⟨bp, 0, none⟩)) := (cell_block (Below.heap_alloc _ _ _ (show vb < w5.heap.size by omega))).trans g2; clear g0 g2)
     | (at_builtin; refine wpList_append_own_at _ rfl _ _ 109 rfl w3.heap.size 64 i0 _ 1 8 Tryz.underlying109 hi hz0 hz1 hz2 rfl zb25 _ ps.length _ rfl ((HO5.out.alloc _).alloc _) ⟨w5.heap.size + 1, 0, none⟩ 3 3 [(clo2 w.heap.size w5.heap.size).val, (cloS bp).val, (clo3 w.heap.size).val] rfl rfl (fun j u hj => ?cells) (fun u hu => ?onec) (by unfold maxLen; omega) zb13 zb41 ?_; (case cells => exact cells_newF (w5.alloc (.cells #[.string (mkB (cdc.print (v.n + 1) l))] 9 (0, 0))) _ _ zb35 j u hj); (case onec => simp only [List.mem_cons, List.not_mem_nil, or_false] at hu; rcases hu with rfl | rfl | rfl <;> rfl); intro v6 w6 hown6 hgr6 hnil6 hloc6; obtain ⟨A6, c6, rfl⟩ := row_slice hown6; have HF6 := Lib.hid (commit_facts HB5.out HW35.out h33 HO5.out HR0.out HR1.out HX5.out hown6 hgr6 hloc6); have HSC := Lib.hid (HST.out w6 A6 c6 w3.heap.size w5.heap.size bs HF6.out.1 (by rw [todo_vals]; exact hown6) h33 hbs HF6.out.2.2.2.2.2 HF6.out.2.2.1 HF6.out.2.2.2.1 HF6.out.2.2.2.2.1 (Nat.le_trans h33 s5)); clear hown6 hgr6 hnil6 hloc6 G0 G2)
     | (go_at_call 67; refine HSC.out.mono ?_; rintro e w7 ⟨rfl, hA⟩; have HA := Lib.hid hA; have g7 := hA.cell (cell_at HF6.out.2.2.1 0) (fun h => Nat.lt_irrefl _ (HFL.out _ h)); have n7 := hA.cell (cell_at HF6.out.2.2.2.1 0) (fun h => by have h2 : w.heap.size + 1 < w.heap.size := HFL.out _ h; omega); clear hA)
     | go_in)
    clear g7 n7
    have hb6 := HF6.out.1
    have hTop : w7.heap[vb]? = some (vtopC bp v.n rv) := HA.out.2.keep ((hb6.block _ hlt).trans HVS.out.vp.top) (HVS.out.apart vb (.inl rfl))
    have hP7 : w7.heap[w.heap.size]? = some (.cells #[.pointer (some ⟨vb, 0, none⟩)] 31 (0, 0)) := HA.out.2.keep HF6.out.2.2.1 (fun h => by have := HFL.out _ h; omega)
    have hN7 : w7.heap[w.heap.size + 1]? = some (.cells #[.int .i64 (v.n + 1 : Nat)] 3 (0, 0)) := HA.out.2.keep HF6.out.2.2.2.1 (fun h => by have := HFL.out _ h; omega)
    have k3 : ¬ w.heap.size + 1 = vb := by omega
    have HT7 := Lib.hid hTop
    have HK7 := Lib.hid (fun (W : World) (t : Tch (fun i => i = vb) w7 W) => (show W.cell? ⟨w.heap.size, 0, none⟩ = some (.pointer (some ⟨vb, 0, none⟩)) ∧ W.cell? ⟨w.heap.size + 1, 0, none⟩ = some (.int .i64 (v.n + 1 : Nat)) from ⟨cell_at (t.keep hP7 k2) 0, cell_at (t.keep hN7 k3) 0⟩))
    have HP7 := Lib.hid hP7
    clear hb6 hTop hP7 hN7
    refine start_ (n := 10) (S := fun w' => Tch (fun i => i = vb) w7 w') (ds := []) #[false, false, false, false, false, false, false, false, false, false] zb10 rfl rfl (Tch.drew _ _) (fun hHeld => ?_)
    refine tak_ 0 (some 68) rfl rfl hHeld (fun w' hs => by (have cs : w'.cell? ⟨w.heap.size, 0, none⟩ = some (.pointer (some ⟨vb, 0, none⟩)) := (HK7.out _ hs).1; go_simp; first | with_reducible rfl | rfl)) ?_
    refine tak_ 1 (some 69) rfl rfl hHeld (fun w' hs => by (have cs : w'.cell? ⟨w.heap.size, 0, none⟩ = some (.pointer (some ⟨vb, 0, none⟩)) := (HK7.out _ hs).1; go_simp; first | with_reducible rfl | rfl)) ?_
    refine tak_ 2 (some 70) rfl rfl hHeld (fun w' hs => by (have cs : w'.cell? ⟨w.heap.size + 1, 0, none⟩ = some (.int .i64 (v.n + 1 : Nat)) := (HK7.out _ hs).2; go_simp; first | with_reducible rfl | rfl)) ?_
    refine pur_ 3 (some 71) rfl rfl ?_
    refine pur_ 4 (some 72) rfl rfl ?_
    refine pur_ 5 (some 73) rfl rfl ?_
    refine on_ 6 none rfl rfl (fun K hK => ?_)
    have f1_ := cell_at HT7.out 1
    have f2_ := cell_at HT7.out 2
    have m1_ := melt_at HT7.out 1
    have m2_ := melt_at HT7.out 2
    refine skip_ (w1 := ?_) (by rfl) rfl ?_ ?_
    rotate_left
    ·go_simp
     rfl
    refine hK.out _ _ (hHeld.andSet _ (.inl rfl)) (fun hHeld => ?_)
    clear hK K
    refine pur_ 7 (some 74) rfl rfl ?_
    refine pur_ 8 (some 75) rfl rfl ?_
    refine on_ 9 none rfl rfl (fun K hK => ?_)
    refine skip_ (w1 := ?_) (by rfl) rfl ?_ ?_
    rotate_left
    ·go_simp
     rfl
    refine hK.out _ _ (hHeld.andSet _ (.inl rfl)) (fun hHeld => ?_)
    clear hK K
    refine done_ zb10 ?_
    go_wp2
    obtain ⟨w8, hw8⟩ : ∃ w8, w8 = ((w7.setCell ⟨vb, 1, none⟩ (.int .i64 ((v.n : Int) + 1))).setCell ⟨vb, 2, none⟩ (.slice A3 l.length c3)).drew := ⟨_, rfl⟩
    have hT8 : Tch (fun i => i = vb) w7 w8 := by rw [hw8]; exact hHeld
    have hTop8 : w8.heap[vb]? = some (vtopC bp (v.n + 1) (.slice A3 l.length c3)) := by rw [hw8]; exact set_same (set_same HT7.out 1 _) 2 _
    rw [← hw8]
    clear hw8 hHeld f1_ f2_ m1_ m2_
    have hro6 := own_bel HO3.out HF6.out.2.1
    have hnew : ∀ k, (Value.slice A3 l.length c3).ownBlock = some k → w.heap.size ≤ k ∧ k < w6.heap.size := fun k hk => by
     obtain ⟨_, e⟩ := row_block hro6 hk
     exact ⟨Nat.le_trans h23 (own_base HO3.out k hk), blk_lt e⟩
    have hv8 : VP w8 vb bp ⟨v.n + 1, l⟩ (.slice A3 l.length c3) := ⟨hTop8, own_weaken (own_tch (own_tch hro6 HA.out.2 (fun k hk h => by
     have a1 := (hnew k hk).1
     have a2 := HFL.out _ h
     omega)) hT8 (fun k hk h => by
     have a1 := (hnew k hk).1
     omega)) (Nat.zero_le _)⟩
    have s6 := HF6.out.1.size
    have s7 := HA.out.2.size
    have s8 := hT8.size
    have hfx : ∀ k, w.heap.size ≤ k → k < w6.heap.size → ¬ grow F0 w6 w7 k := fun k h1 h2 h => by
     rcases h with h | h
     ·have := HFL.out _ h
      omega
     ·omega
    have hvx : ∀ i, vfoot vb (.slice A3 l.length c3) i → ¬ grow F0 w6 w7 i := fun i hi h => by
     rcases hi with rfl | hi
     ·rcases h with h | h
      ·exact HVS.out.apart _ (.inl rfl) h
      ·omega
     ·exact hfx i (hnew i hi).1 (hnew i hi).2 h
    have hp8 : Plate w8 bp M (grow F0 w6 w7) := HA.out.1.move (fun i hi hl => hT8.block i hl (fun e => hvx vb (.inl rfl) (e ▸ hi)))
    have hpb8 := hT8.keep HP7.out k2
    have HK8 := Lib.hid (fun (W : World) (t : Tch (grow F0 w6 w7) w8 W) => (show W.cell? ⟨w.heap.size, 0, none⟩ = some (.pointer (some ⟨vb, 0, none⟩)) ∧ W.cell? ⟨vb, 0, none⟩ = some (.pointer (some ⟨bp, 0, none⟩)) from ⟨cell_at (t.keep hpb8 (hfx _ (Nat.le_refl _) (blk_lt HF6.out.2.2.1))) 0, cell_at (t.keep hTop8 (hvx vb (.inl rfl))) 0⟩))
    have HLT := Lib.hid (fun (W : World) (g : Nat) (hb : Below w8.heap.size w8 W) (hg : w8.heap.size ≤ g) (hbox : W.heap[g]? = some (.cells #[.func (.func 28) #[.pointer (some ⟨bp, 0, none⟩)] #[], .func (.func 57) #[.pointer (some ⟨vb, 0, none⟩)] #[]] 64 (0, 0))) =>
     last_turn (w1 := W) (c := 2) (F := grow F0 w6 w7) (v := ⟨v.n + 1, l⟩) (rv := .slice A3 l.length c3) (fb := g) (fun j f hf => by
      rw [cell_at hbox]
      match j with
      | 0 => obtain rfl := Option.some.inj hf; rfl
      | 1 => obtain rfl := Option.some.inj hf; rfl
      | j + 2 => simp at hf) (hv8.tch (F := fun _ => False) (.of_below hb) (fun _ _ => id)) (fun h => by
      rcases h with h | h
      ·have := HFL.out _ h
       omega
      ·omega) (hp8.still hb) hvx HGD.out zb13)
    obtain ⟨z2, M2, hzM2⟩ : ∃ z2 M2, (if (syncDir M).1 = 0 then sweep ⟨v.n + 1, l⟩ (syncDir M).2 else syncDir M) = (z2, M2) := ⟨_, _, rfl⟩
    rw [hzM2] at HLT
    have HZM2 := Lib.hid hzM2
    have HT8 := Lib.hid hT8
    have HV8 := Lib.hid hv8
    have HNEW := Lib.hid hnew
    clear hzM2 hT8 hTop8 hro6 hnew hv8 hfx hvx hp8 hpb8
    refine start_ (n := 10) (S := fun w' => Tch (grow F0 w6 w7) w8 w') (ds := []) #[false, false, false, false, false, false, false, false, false, false] zb10 rfl rfl (Tch.drew _ _) (fun hHeld => ?_)
    refine tak_ 0 (some 76) rfl rfl hHeld (fun w' hs => by (have cs : w'.cell? ⟨w.heap.size, 0, none⟩ = some (.pointer (some ⟨vb, 0, none⟩)) := (HK8.out _ hs).1; go_simp; first | with_reducible rfl | rfl)) ?_
    refine pur_ 1 (some 77) rfl rfl ?_
    refine pur_ 2 (some 78) rfl rfl ?_
    refine tak_ 3 (some 79) rfl rfl hHeld (fun w' hs => by (have cs : w'.cell? ⟨vb, 0, none⟩ = some (.pointer (some ⟨bp, 0, none⟩)) := (HK8.out _ hs).2; go_simp; first | with_reducible rfl | rfl)) ?_
    refine pur_ 4 (some 80) rfl rfl ?_
    refine tak_ 5 (some 81) rfl rfl hHeld (fun w' hs => by (have cs : w'.cell? ⟨w.heap.size, 0, none⟩ = some (.pointer (some ⟨vb, 0, none⟩)) := (HK8.out _ hs).1; go_simp; first | with_reducible rfl | rfl)) ?_
    refine pur_ 6 (some 82) rfl rfl ?_
    refine on_ 7 (some 83) rfl rfl (fun K hK => ?_)
    refine event_step (v := .slice (some ⟨w8.heap.size, 0, none⟩) 2 2) (w1 := w8.drew.alloc (.cells #[.func (.func 28) #[.pointer (some ⟨bp, 0, none⟩)] #[], .func (.func 57) #[.pointer (some ⟨vb, 0, none⟩)] #[]] 64 (0, 0))) (by rfl) (by first | (go_simp; done) | (go_simp; rfl)) ?_
    obtain ⟨w9, hw9⟩ : ∃ x, x = w8.drew.alloc (.cells #[.func (.func 28) #[.pointer (some ⟨bp, 0, none⟩)] #[], .func (.func 57) #[.pointer (some ⟨vb, 0, none⟩)] #[]] 64 (0, 0)) := ⟨_, rfl⟩
    rw [← hw9]
    have HB9 := Lib.hid (show Below w8.heap.size w8 w9 by rw [hw9]; exact (Below.refl _ _).drew.alloc (Nat.le_refl _) _)
    have HBX9 := Lib.hid (show w9.heap[w8.heap.size]? = some (.cells #[.func (.func 28) #[.pointer (some ⟨bp, 0, none⟩)] #[], .func (.func 57) #[.pointer (some ⟨vb, 0, none⟩)] #[]] 64 (0, 0)) by rw [hw9]; exact alloc_new _ _)
    clear hw9
    refine hK.out _ _ (Tch.of_below HB9.out) (fun hHeld => ?_)
    clear hK K
    refine norm_ (a' := ?_) ?_ ?_
    rotate_left
    ·show Act.put _ (some 83) _ = _
     simp only [Act.put, List.setIfInBounds_toArray, List.set_cons_zero, List.set_cons_succ, i64_w, i32_w]
     rfl
    refine on_ 8 (some 84) rfl rfl (fun K hK => ?_)
    refine goes_ Tryz.func67 zb10 rfl #[.slice (some ⟨w8.heap.size, 0, none⟩) 2 2] (by rfl) rfl rfl zb17 ?_
    refine (HLT.out _ _ HB9.out (Nat.le_refl _) HBX9.out).mono ?_
    rintro e w10 ⟨rfl, hA⟩
    have HA10 := Lib.hid hA
    clear hA
    refine ⟨_, rfl, ?_⟩
    refine hK.out _ _ ((Tch.of_below HB9.out).trans HA10.out.2 (fun k hk => .inl hk)) (fun hHeld => ?_)
    clear hK K
    refine norm_ (a' := ?_) ?_ ?_
    rotate_left
    ·show Act.put _ (some 84) _ = _
     simp only [Act.put, List.setIfInBounds_toArray, List.set_cons_zero, List.set_cons_succ, i64_w, i32_w]
     rfl
    refine pur_ 9 (some 6) rfl rfl ?_
    refine done_ zb10 ?_
    go_wp2
    go_ret
    rw [commitV_good HZM.out, HZM2.out]
    exact ⟨rfl, committed_new HVS.out HF6.out.1 HA.out HT8.out HV8.out HNEW.out HFL.out HB9.out HA10.out⟩
   ·have hzb : (z != 0) = true := by simpa using hzz
    go_wp2_with (first
     | (go_at_call 63; refine (HPR.out _ _ _ HBT.out HR3.out).mono ?_; rintro e w5 ⟨rfl, hb5⟩; generalize (Mn.pr ((v.n + 1 : Nat) : Int) (l.map toR)).2 = pe; have hB5 := HBT.out.trans (hb5.mono HBT.out.size); have hW35 := HBW.out.trans (hb5.mono hsz); have hq0 := (hW35.block _ (blk_lt HR0.out)).trans HR0.out; have g0 := cell_at hq0 0; have g2 := (cell_block (a := ⟨vb, 0, none⟩) (hB5.block _ hlt)).trans (cell_at HVS.out.vp.top 0); have s5 := hW35.size; have HB5 := Lib.hid hB5; have HW35 := Lib.hid hW35; have HO5 := Lib.hid (own_bel HOW.out hb5); have HX5 := Lib.hid (HBX.out.keep (rv' := .slice A9 ps.length c9) (fun k x hk _ => (hb5.block k (blk_lt hk)).trans hk) (.inl rfl)); clear hb5 hB5 hW35 hq0; have G0 : (w5.alloc (.cells #[.string (mkB (cdc.print (v.n + 1) l))] 9 (0, 0))).cell? ⟨w.heap.size, 0, none⟩ = some (.pointer (some ⟨vb, 0, none⟩)) := (cell_block (Below.heap_alloc _ _ _ (show w.heap.size < w5.heap.size by omega))).trans g0; have G2 : (w5.alloc (.cells #[.string (mkB (cdc.print (v.n + 1) l))] 9 (0, 0))).cell? ⟨vb, 0, none⟩ = some (.pointer (some ⟨bp, 0, none⟩)) := (cell_block (Below.heap_alloc _ _ _ (show vb < w5.heap.size by omega))).trans g2; clear g0 g2)
     | (at_builtin; refine wpList_append_own_at _ rfl _ _ 109 rfl w3.heap.size 64 i0 _ 1 8 Tryz.underlying109 hi hz0 hz1 hz2 rfl zb25 _ ps.length _ rfl ((HO5.out.alloc _).alloc _) ⟨w5.heap.size + 1, 0, none⟩ 3 3 [(clo2 w.heap.size w5.heap.size).val, (cloS bp).val, (clo3 w.heap.size).val] rfl rfl (fun j u hj => ?cells) (fun u hu => ?onec) (by unfold maxLen; omega) zb13 zb41 ?_; (case cells => exact cells_newF (w5.alloc (.cells #[.string (mkB (cdc.print (v.n + 1) l))] 9 (0, 0))) _ _ zb35 j u hj); (case onec => simp only [List.mem_cons, List.not_mem_nil, or_false] at hu; rcases hu with rfl | rfl | rfl <;> rfl); intro v6 w6 hown6 hgr6 hnil6 hloc6; obtain ⟨A6, c6, rfl⟩ := row_slice hown6; have HF6 := Lib.hid (commit_facts HB5.out HW35.out h33 HO5.out HR0.out HR1.out HX5.out hown6 hgr6 hloc6); have HSC := Lib.hid (HST.out w6 A6 c6 w3.heap.size w5.heap.size bs HF6.out.1 (by rw [todo_vals]; exact hown6) h33 hbs HF6.out.2.2.2.2.2 HF6.out.2.2.1 HF6.out.2.2.2.1 HF6.out.2.2.2.2.1 (Nat.le_trans h33 s5)); clear hown6 hgr6 hnil6 hloc6 G0 G2)
     | (go_at_call 67; refine HSC.out.mono ?_; rintro e w7 ⟨rfl, hA⟩; have HA := Lib.hid hA; have g7 := hA.cell (cell_at HF6.out.2.2.1 0) (fun h => Nat.lt_irrefl _ (HFL.out _ h)); have h6 := HVS.out.vp.tch (F := fun _ => False) (.of_below HF6.out.1) (fun _ _ => id); have HSW := Lib.hid (sweep_calls (h6.tch hA.2 HVS.out.apart) hA.1 (fun i hi => not_grow (HVS.out.apart i hi) (h6.lt hi)) HGD.out zb13); clear hA h6)
     | (go_at_call 57; refine HSW.out.mono ?_; rintro e w8 hd; obtain ⟨rfl, hA8⟩ := HA.out.next hd; clear hd)
     | go_in)
    go_ret
    rw [commitV_bad HZM.out hzz]
    exact ⟨rfl, committed_old HVS.out HF6.out.1 hA8⟩
end
theorem find_hit (x : L) : ∀ (l : List RowM), RisingR l → (l.find? fun r => r.name == x) = if hitB x l = true then l[lowB x l]? else none
 | [], _ => rfl
 | q :: t, h => by
  have h1 := List.pairwise_cons.1 h
  have e1 := lowB_cons x q t
  have e2 := hitB_cons x q t
  rw [List.find?_cons]
  by_cases hb : bytesBefore q.name x = true
  ·rw [if_pos hb] at e1 e2
   have hne : (q.name == x) = false := by simpa using before_ne hb
   rw [hne, e1, e2, find_hit x t h1.2, List.getElem?_cons_succ]
  ·rw [if_neg hb] at e1 e2
   rw [e1, e2]
   cases hq : (q.name == x) with
   | true => rfl
   | false =>
    rw [if_neg zb25]
    refine List.find?_eq_none.2 (fun r hr => ?_)
    have h2 := h1.1 r hr
    intro he
    have he2 : r.name = x := by simpa using he
    rw [he2] at h2
    exact hb h2
section
variable {w w' : World} {vb bp C K c1 c2 : Nat} {v : VM} {rv : Value} {F H : Nat → Prop} {m : Mach} {A1 A2 : Option Addr}
set_option maxRecDepth 100000 in
set_option maxHeartbeats 4000000 in
theorem gen_calls (hv : VP w vb bp v rv) : Calls Tryz.prog 30 #[.pointer (some ⟨vb, 0, none⟩)] w fun e w' => e = .returned (.int .i64 (v.n : Nat)) ∧ w' = w := by
 have c0 : w.cell? ⟨vb, 1, none⟩ = some (.int .i64 (v.n : Nat)) := cell_at hv.top 1
 clear hv
 generalize v.n = n at *
 go_enter Tryz.func30, Tryz.ntmps30
 go_wp2
 go_ret
 exact ⟨rfl, rfl⟩
set_option maxRecDepth 100000 in
set_option maxHeartbeats 4000000 in
theorem get_calls (x : L) (hv : VP w vb bp v rv) (hp : Plate w bp m F) (hf : Fine v) (hl : v.rows.length ≤ 1000000) :
  Calls Tryz.prog 29 #[.pointer (some ⟨vb, 0, none⟩), .string (mkB x)] w fun e w' => e = .returned (.tuple #[.string (mkB (getR v m x).1), .int .i64 (getR v m x).2]) ∧ Below w.heap.size w w' := by
 obtain ⟨A, c, rfl⟩ := row_slice hv.rows
 have hlt := blk_lt hv.top
 have c0 : w.cell? ⟨vb, 2, none⟩ = some (.slice A v.rows.length c) := cell_at hv.top 2
 have HAT := Lib.hid (at_calls (w := w) x hv.rows hf.rising zb13)
 have hfi := find_hit x v.rows hf.rising
 cases hh : hitB x v.rows with
 | false =>
  rw [hh, if_neg zb25] at hfi
  have hg : getR v m x = ([], 10) := by unfold getR; rw [hfi]
  rw [hg]
  rw [hh] at HAT
  clear hv hp hf hfi
  go_enter Tryz.func29, Tryz.ntmps29
  go_wp2_with (first
   | (go_at_call 70; refine HAT.out.mono ?_; rintro e w2 ⟨rfl, hb2⟩)
   | go_in)
  go_ret2
  exact ⟨rfl, hb2⟩
 | true =>
  rw [hh, if_pos rfl] at hfi
  obtain ⟨r, hr⟩ : ∃ r, v.rows[lowB x v.rows]? = some r := by
   unfold hitB at hh
   cases h : v.rows[lowB x v.rows]? with
   | none => rw [h] at hh; cases hh
   | some r => exact ⟨r, rfl⟩
  have hg : getR v m x = read m r.file := by unfold getR; rw [hfi, hr]
  rw [hg]
  rw [hh] at HAT
  have hkl := (List.getElem?_eq_some_iff.1 hr).1
  obtain ⟨b, rfl, _, hbl⟩ := row_blk hv.rows hkl
  obtain ⟨kk, hkk⟩ : ∃ kk, lowB x v.rows = kk := ⟨_, rfl⟩
  rw [hkk] at HAT hkl hr
  have hrn := (hf.each r (List.mem_of_getElem? hr)).file
  have hcell := (hv.rows.cellAt (kk * 4 + 1) zb13).trans (rowsC_at v.rows kk r hr).2.1
  have HC := Lib.hid (And.intro hcell (And.intro c0 (cell_at hv.top 0)))
  have HRD := Lib.hid (fun (W : World) (hb : Below w.heap.size w W) => Read_calls (w := W) (mkB r.file) (hp.still hb) (mkB_name hrn))
  rw [mkB_data] at HRD
  obtain ⟨s, z, hsz⟩ : ∃ s z, read m r.file = (s, z) := ⟨_, _, rfl⟩
  rw [hsz] at HRD ⊢
  clear hv hp hf hfi hcell hsz hr hkk hh
  generalize v.rows.length = n at *
  go_enter Tryz.func29, Tryz.ntmps29
  go_wp2_with (first
   | (go_at_call 70; refine HAT.out.mono ?_; rintro e w2 ⟨rfl, hb2⟩)
   | go_in)
  have HB2 := Lib.hid hb2
  have HK := Lib.hid (fun (W : World) (t : Below w.heap.size w W) => (show W.cell? ⟨vb, 0, none⟩ = some (.pointer (some ⟨bp, 0, none⟩)) ∧ W.cell? ⟨vb, 2, none⟩ = some (.slice (some ⟨b, 0, none⟩) n c) ∧ W.cell? ⟨b, kk * 4 + 1, none⟩ = some (.string (mkB r.file)) from ⟨(cell_block (t.block _ hlt)).trans HC.out.2.2, (cell_block (t.block _ hlt)).trans HC.out.2.1, (cell_block (t.block _ hbl)).trans HC.out.1⟩))
  have hin : 0 ≤ (kk : Int) ∧ (kk : Int) < (n : Int) := by omega
  clear hb2 c0
  refine start_ (n := 17) (S := fun w' => Below w.heap.size w w') (ds := []) #[false, false, false, false, false, false, false, false, false, false, false, false, false, false, false, false, false] zb10 rfl rfl (HB2.out.drew) (fun hHeld => ?_)
  refine pur_ 0 (some 19) rfl rfl ?_
  refine pur_ 1 (some 20) rfl rfl ?_
  refine pur_ 2 (some 21) rfl rfl ?_
  refine tak_ 3 (some 22) rfl rfl hHeld (fun w' hs => by (have cs : w'.cell? ⟨vb, 0, none⟩ = some (.pointer (some ⟨bp, 0, none⟩)) := (HK.out _ hs).1; go_simp; first | with_reducible rfl | rfl)) ?_
  refine pur_ 4 (some 23) rfl rfl ?_
  refine pur_ 5 (some 24) rfl rfl ?_
  refine pur_ 6 (some 25) rfl rfl ?_
  refine tak_ 7 (some 26) rfl rfl hHeld (fun w' hs => by (have cs : w'.cell? ⟨vb, 2, none⟩ = some (.slice (some ⟨b, 0, none⟩) n c) := (HK.out _ hs).2.1; go_simp; first | with_reducible rfl | rfl)) ?_
  refine pur_ 8 (some 27) rfl rfl ?_
  refine pur_ 9 (some 28) rfl rfl ?_
  refine pur_ 10 (some 29) rfl rfl ?_
  refine tak_ 11 (some 30) rfl rfl hHeld (fun w' hs => by (have cs : w'.cell? ⟨b, kk * 4 + 1, none⟩ = some (.string (mkB r.file)) := (HK.out _ hs).2.2; go_simp; first | with_reducible rfl | rfl)) ?_
  refine on_ 12 (some 31) rfl rfl (fun K hK => ?_)
  refine goes_ Tryz.func47 zb10 rfl #[.pointer (some ⟨bp, 0, none⟩), .string (mkB r.file)] (by rfl) rfl rfl zb17 ?_
  refine (HRD.out _ HB2.out.drew).mono ?_
  rintro e w3 ⟨rfl, _, ht3⟩
  have HB3 := Lib.hid (show Below w2.heap.size w2 w3 from (Below.refl _ _).drew.trans (ht3.below (Nat.le_refl _) (fun _ h => h.elim)))
  clear ht3
  refine ⟨_, rfl, ?_⟩
  refine hK.out _ _ (HB2.out.trans (HB3.out.mono HB2.out.size)) (fun hHeld => ?_)
  clear hK K
  refine norm_ (a' := ?_) ?_ ?_
  rotate_left
  ·show Act.put _ (some 31) _ = _
   simp only [Act.put, List.setIfInBounds_toArray, List.set_cons_zero, List.set_cons_succ, i64_w, i32_w]
   rfl
  refine pur_ 13 (some 32) rfl rfl ?_
  refine pur_ 14 (some 33) rfl rfl ?_
  refine pur_ 15 (some 4) rfl rfl ?_
  refine pur_ 16 (some 5) rfl rfl ?_
  refine done_ zb10 ?_
  go_wp2
  go_ret2
  exact ⟨rfl, HB2.out.trans (HB3.out.mono HB2.out.size)⟩
end
end Go.Proofs.YtfpbpakgajddnaaGreatDoor.Pl
/- VvP -/
namespace Go.Proofs.YtfpbpakgajddnaaGreatDoor.Pl
open Go Go.RowKit Go.Maps Go.Proofs.YtfpbpakgajddnaaGreatDoorW.PrintWords
open Go.Proofs.YtfpbpakgajddnaaGreatDoor.O (Glob)
set_option linter.unusedVariables false
set_option linter.unusedSimpArgs false
theorem strV_info : (Tryz.prog.info? 9).map (fun i => (i.zero, i.size, i.bytes)) = some (some (.string ByteArray.empty), 1, 16) := by kernel_rfl
theorem made_strs (n : Nat) : (madeCells (Value.string ByteArray.empty).cells (n * 1)).toList = strsC (List.replicate n []) := by
 have h0 : mkB ([] : L) = ByteArray.empty := rfl
 unfold madeCells strsC
 rw [Nat.mul_one, List.map_replicate, h0]
 refine List.ext_getElem? (fun i => ?_)
 rw [Array.toList_map, List.getElem?_map]
 rcases Nat.lt_or_ge i n with h | h
 ·rw [List.getElem?_replicate, if_pos h]
  rw [show (Array.range n).toList = List.range n from by simp, List.getElem?_range h]
  have e : i % (Value.string ByteArray.empty).cells.size = 0 := Nat.mod_one i
  show some ((Value.string ByteArray.empty).cells[i % (Value.string ByteArray.empty).cells.size]!) = some _
  rw [e]
  rfl
 ·rw [List.getElem?_replicate, if_neg zb13, List.getElem?_eq_none zb41]
  rfl
section
variable {w w' : World} {vb bp C K c1 c2 : Nat} {v : VM} {rv : Value} {F H : Nat → Prop} {m : Mach} {A1 A2 : Option Addr}
set_option maxRecDepth 100000 in
set_option maxHeartbeats 8000000 in
theorem names_calls (hv : VP w vb bp v rv) (hl : v.rows.length ≤ 1000000) :
  Calls Tryz.prog 49 #[.pointer (some ⟨vb, 0, none⟩)] w fun e w' => ∃ v', e = .returned v' ∧ OwnStrs w' w.heap.size v' (v.rows.map (·.name)) ∧ Below w.heap.size w w' := by
 obtain ⟨A, c, rfl⟩ := row_slice hv.rows
 have hlt := blk_lt hv.top
 have k1 : ¬ vb = w.heap.size := by omega
 have k2 : ¬ w.heap.size = vb := by omega
 have c0 : w.cell? ⟨vb, 2, none⟩ = some (.slice A v.rows.length c) := cell_at hv.top 2
 obtain ⟨i0, hi, hz⟩ := Option.map_eq_some_iff.1 strV_info
 simp only [Prod.mk.injEq] at hz
 obtain ⟨hz0, hz1, hz2⟩ := hz
 have HV := Lib.hid hv
 clear hv
 obtain ⟨l, hll⟩ : ∃ l, v.rows = l := ⟨_, rfl⟩
 rw [hll] at hl c0 ⊢
 have HLL := Lib.hid hll
 clear hll
 go_enter Tryz.func49, Tryz.ntmps49
 go_wp2_with (first
  | (at_make; refine wpList_make_full w rfl _ _ 41 rfl w.heap.size 9 i0 _ 1 Tryz.underlying41 hi hz0 hz1 .i64 .i64 (l.length : Int) (l.length : Int) l.length rfl rfl rfl rfl (by rw [hz2]; omega) (by unfold maxLen; omega) (Nat.le_refl _) ?_; intro w1 hown1 hgr1; rw [made_strs] at hown1; have hb1 := (Below.refl w.heap.size w).grown hgr1 (Nat.le_refl _) (fun k hk => by cases hk); have c1 := (cell_block (a := ⟨vb, 2, none⟩) (hb1.block _ hlt)).trans c0; have HO1 := Lib.hid hown1; have HB1 := Lib.hid hb1; clear hown1 hgr1 hb1 c0)
  | go_in)
 go_loopw [4, 5, 17] (fun _ _ v17 wr => ∃ (i : Nat), v17 = Value.int .i64 (i : Int) ∧ i ≤ l.length ∧ OwnStrs wr w.heap.size (.slice (some ⟨w.heap.size, 0, none⟩) l.length l.length) ((l.take i).map (·.name) ++ List.replicate (l.length - i) []) ∧ Below w.heap.size w wr)
  (fun _ _ v17 _ => l.length - (intOf v17).toNat)
 case atStart =>
  refine ⟨0, rfl, Nat.zero_le _, ?_, HB1.out⟩
  have := HO1.out
  show World.ownsRow _ _ _ _ _ _ _
  simpa using this
 case round =>
  obtain ⟨i, rfl, hil, how, hbw⟩ := hrel
  have HOW := Lib.hid how
  have HBW := Lib.hid hbw
  have hsz := hbw.size
  by_cases hlt2 : i < l.length
  ·have hdec : ((i : Int) < (l.length : Int)) := by omega
   obtain ⟨r, hr⟩ : ∃ r, l[i]? = some r := ⟨_, List.getElem?_eq_getElem hlt2⟩
   have hrow : OwnRows wr 0 (.slice A l.length c) l := by
    have h1 := (HV.out.tch (F := fun _ => False) (.of_below hbw) (fun _ _ => id)).rows
    rw [HLL.out] at h1
    exact h1
   obtain ⟨b, rfl, _, hbl⟩ := row_blk hrow hlt2
   obtain ⟨o0, o1, o2, o3⟩ := rowsC_at l i r hr
   have e0 := (hrow.cellAt (i * 4) zb13).trans o0
   have e1 := (hrow.cellAt (i * 4 + 1) zb13).trans o1
   have e2 := (hrow.cellAt (i * 4 + 2) zb13).trans o2
   have e3 := (hrow.cellAt (i * 4 + 3) zb13).trans o3
   have hlen : ((l.take i).map (·.name) ++ List.replicate (l.length - i) ([] : L)).length = l.length := by
    rw [List.length_append, List.length_map, List.length_take, List.length_replicate]
    omega
   have how2 := how
   unfold OwnStrs at how2
   rw [hlen] at how2
   have p0 : wr.cell? ⟨w.heap.size, i, none⟩ = some (.string (mkB [])) := by
    rw [cellAt1 how2 i hlt2]
    unfold strsC
    rw [List.getElem?_map, List.getElem?_append_right (by rw [List.length_map, List.length_take]; omega), List.length_map, List.length_take, List.getElem?_replicate, if_pos zb13]
    rfl
   have h6 := World.ownsRow.alloc how2 (.cells #[.string (mkB r.name), .string (mkB r.file), .int .i64 (r.size : Nat), .int .i64 (r.sum : Nat)] 120 (0, 0))
   have hwl : w.heap.size < wr.heap.size := by
    obtain ⟨_, h⟩ := row_block how2 (k := w.heap.size) rfl
    exact blk_lt h
   have P0 : (wr.alloc (.cells #[.string (mkB r.name), .string (mkB r.file), .int .i64 (r.size : Nat), .int .i64 (r.sum : Nat)] 120 (0, 0))).cell? ⟨w.heap.size, i, none⟩ = some (.string (mkB [])) := (cell_block (Below.heap_alloc _ _ _ hwl)).trans p0
   have z0 := h6.frozenAt i
   have HR := Lib.hid hr
   clear how how2 hbw hrow o0 o1 o2 o3 hr h6 p0
   go_wp2
   go_roundw
   case rel =>
    refine ⟨i + 1, by push_cast; rfl, by omega, ?_, (HBW.out.setCell (p := ⟨w.heap.size, i, none⟩) (Nat.le_refl _) _).alloc (by simp [World.setCell]; exact hsz) _⟩
    have hset : ((l.take i).map (·.name) ++ List.replicate (l.length - i) ([] : L)).set i r.name = (l.take (i + 1)).map (·.name) ++ List.replicate (l.length - (i + 1)) [] := by
     have e1 : ((l.take i).map (·.name)).length = i := by rw [List.length_map, List.length_take]; omega
     rw [List.set_append_right _ _ zb13, e1, Nat.sub_self, show l.length - i = (l.length - (i + 1)) + 1 by omega, List.replicate_succ, List.set_cons_zero, List.take_add_one, HR.out]
     simp
    have h3 : OwnStrs wr w.heap.size (.slice (some ⟨w.heap.size, 0, none⟩) ((l.take i).map (·.name) ++ List.replicate (l.length - i) ([] : L)).length l.length) ((l.take i).map (·.name) ++ List.replicate (l.length - i) []) := by
     have h0 := HOW.out
     unfold OwnStrs at h0 ⊢
     rw [hlen] at h0 ⊢
     exact h0
    have h4 := own_str_set h3 (by rw [hlen]; exact hlt2) r.name
    have h5 : (((l.take i).map (·.name) ++ List.replicate (l.length - i) ([] : L)).set i r.name).length = l.length := by rw [List.length_set, hlen]
    rw [h5, hset] at h4
    exact h4.alloc _
   case measure =>
    show l.length - ((i : Int) + 1).toNat < l.length - (i : Int).toNat
    omega
  ·have hdec : ¬ ((i : Int) < (l.length : Int)) := by omega
   have hie : i = l.length := by omega
   subst hie
   go_wp2
   go_ret
   refine ⟨_, rfl, ?_, HBW.out⟩
   have := HOW.out
   rw [Nat.sub_self, List.take_length] at this
   simpa using this
end
end Go.Proofs.YtfpbpakgajddnaaGreatDoor.Pl
/- VcD -/
namespace Go.Proofs.YtfpbpakgajddnaaGreatDoor.Pl
open Go Go.RowKit Go.Maps Go.Proofs.YtfpbpakgajddnaaGreatDoorW.PrintWords
set_option linter.unusedVariables false
set_option linter.unusedSimpArgs false
theorem putR_fine {n : Nat} (hn : n ≤ 1099511627776) : ∀ (ps : List (L × L)) (i : Nat) (l : List RowM), (∀ b ∈ ps, nameOk b.1 = true ∧ b.2.length ≤ 1099511627776) → i + ps.length ≤ 1000000 → (∀ r ∈ l, RowFine r) → RisingR l →
  (∀ r ∈ putR cdc n i ps l, RowFine r) ∧ RisingR (putR cdc n i ps l) ∧ bulk (putR cdc n i ps l) ≤ bulk l + 94 * ps.length
 | [], i, l, _, _, h1, h2 => ⟨h1, h2, Nat.le_refl _⟩
 | b :: r, i, l, hb, hi, h1, h2 => by
  rw [List.length_cons] at hi
  have hb0 := hb b List.mem_cons_self
  have hr : RowFine ⟨b.1, cdc.name n i, b.2.length, cdc.sum b.2⟩ := ⟨hb0.1, name_ok hn zb13, hb0.2, sum_le b.2⟩
  have key := putR_fine hn r (i + 1) (setR ⟨b.1, cdc.name n i, b.2.length, cdc.sum b.2⟩ l) (fun c hc => hb c (List.mem_cons_of_mem _ hc)) zb13 (fun q hq => (mem_setR hq).elim (fun e => e ▸ hr) (h1 q)) (rising_setR h2)
  have h3 := bulk_set hr l
  refine ⟨key.1, key.2.1, ?_⟩
  have h4 := key.2.2
  rw [List.length_cons]
  show bulk (putR cdc n (i + 1) r _) ≤ _
  omega
theorem next_fine {v : VM} {ps : List (L × L)} (gs : List L) (hf : Fine v) (hn : v.n + 1 ≤ 1099511627776) (hb : ∀ b ∈ ps, nameOk b.1 = true ∧ b.2.length ≤ 1099511627776) (hl : ps.length ≤ 1000000) :
  Fine ⟨v.n + 1, nextR cdc (v.n + 1) ps gs v.rows⟩ ∧ bulk (nextR cdc (v.n + 1) ps gs v.rows) ≤ bulk v.rows + 94 * ps.length := by
 obtain ⟨h1, h2, h3⟩ := putR_fine (n := v.n + 1) hn ps 0 (goneR gs v.rows) hb zb13 (fun r hr => hf.each r (List.mem_filter.1 hr).1) (List.Pairwise.filter _ hf.rising)
 have h4 : bulk (goneR gs v.rows) ≤ bulk v.rows := bulk_filter _ _
 exact ⟨(fine_iff _).2 ⟨hn, h1, h2⟩, Nat.le_trans h3 zb13⟩
theorem print_len {v : VM} (hf : Fine v) : (cdc.print v.n v.rows).length ≤ bulk v.rows + 60 := by
 rw [hf.print]
 have hn := hf.num
 have h1 := dec_len (v.n : Int) 12 (by rw [Int.toNat_natCast]; omega)
 have h0 := Mn.adl_bd (Mn.body (v.n : Int) (v.rows.map toR))
 have h2 := sum_le (Mn.body (v.n : Int) (v.rows.map toR))
 have h3 := dec_len (Mn.adl (Mn.body (v.n : Int) (v.rows.map toR))) 12 (by
  have e : (Mn.adl (Mn.body (v.n : Int) (v.rows.map toR))).toNat = cdc.sum (Mn.body (v.n : Int) (v.rows.map toR)) := rfl
  rw [e]
  omega)
 have hg : Mn.gen.length ≤ 12 := by decide
 have hs : Mn.sumW.length ≤ 12 := by decide
 have hb : (Mn.rowsL (v.rows.map toR)).length = bulk v.rows := rfl
 unfold Mn.fin
 generalize Mn.adl (Mn.body (v.n : Int) (v.rows.map toR)) = q at *
 unfold Mn.body
 simp only [List.length_append, List.length_cons, List.length_nil]
 omega
end Go.Proofs.YtfpbpakgajddnaaGreatDoor.Pl
/- Px36 -/
namespace Go.Proofs.YtfpbpakgajddnaaGreatDoor.P
open Go.Proofs.YtfpbpakgajddnaaGreatDoor.B
open Go.RowKit Go.Proofs.YtfpbpakgajddnaaGreatDoorW.PrintWords Go.Proofs.YtfpbpakgajddnaaGreatDoorW.PrintLast Go.Proofs.YtfpbpakgajddnaaGreatDoorW.PrintMore
attribute [local go_sem] run_store_float str_leq str_gtr str_geq max2_int min2_int max_two min_two max_three min_three max_four min_four
set_option linter.unusedVariables false
set_option linter.unusedSimpArgs false
def broadsheetlaw01_SameTexts.l0 : Nat → List ByteArray → List ByteArray → Int → Option (Bool)
  | 0, _, _, _ => none
  | k + 1, x0, x1, x5 => if x5 < (x0.length : Int) then (if 0 ≤ x5 then (if x5 < (x1.length : Int) then (if (rdOf ByteArray.empty x0 x5).toList = (rdOf ByteArray.empty x1 x5).toList then (broadsheetlaw01_SameTexts.l0 k x0 x1 (wrap64 (x5 + 1))) else (some false)) else (none)) else (none)) else (some true)
def broadsheetlaw01_SameTexts.f (k : Nat) (l0 : List ByteArray) (l1 : List ByteArray) : Option (Bool) := if (l0.length : Int) = (l1.length : Int) then (broadsheetlaw01_SameTexts.l0 k l0 l1 0) else (some false)
set_option maxHeartbeats 8000000 in
set_option maxRecDepth 100000 in
theorem broadsheetlaw01_SameTexts.calls (k : Nat) (A0 : Option Addr) (c0 : Nat) (l0 : List ByteArray) (A1 : Option Addr) (c1 : Nat) (l1 : List ByteArray) (r : Bool) (w : World) (hr0 : Kd.C Kd.string w A0 l0.length l0) (hc0 : l0.length ≤ c0) (hr1 : Kd.C Kd.string w A1 l1.length l1) (hc1 : l1.length ≤ c1) (h : broadsheetlaw01_SameTexts.f k l0 l1 = some r) :
  Calls Tryz.prog 25 #[.slice A0 l0.length c0, .slice A1 l1.length c1] w fun e w' => e = .returned (.bool r) ∧ Drawn0 w w' := by
 have HR0 := Aside0.mk hr0
 have HC0 := Aside0.mk hc0
 clear hr0 hc0
 have HR1 := Aside0.mk hr1
 have HC1 := Aside0.mk hc1
 clear hr1 hc1
 have H : (if (l0.length : Int) = (l1.length : Int) then (broadsheetlaw01_SameTexts.l0 k l0 l1 0) else (some false)) = some r := h
 clear h
 by_cases c3 : (l0.length : Int) = (l1.length : Int)
 ·rw [if_pos c3] at H
  have c3b0 : ((l0.length : Int) == (l1.length : Int)) = true := beq_iff_eq.mpr c3
  have c3b1 : ((l0.length : Int) != (l1.length : Int)) = false := bne_eq_false_iff_eq.mpr c3
  have c3b2 : (l0.length == l1.length) = true := by first | simpa using c3 | (simp at c3 ⊢; omega)
  clear c3
  have H' := Aside0.mk H
  clear H
  go_enter Tryz.func25, Tryz.ntmps25
  go_wp2
  repeat (go_quiet (fail); try go_wp2)
  first | go_loopg [5] k (fun kq v5 w' => ∃ (x5_1 : Int), v5 = .int .i64 x5_1 ∧ Aside0 (broadsheetlaw01_SameTexts.l0 kq l0 l1 x5_1 = some r) ∧ Aside0 (kq ≤ k) ∧ Drawn0 w w') | (go_simp; go_loopg [5] k (fun kq v5 w' => ∃ (x5_1 : Int), v5 = .int .i64 x5_1 ∧ Aside0 (broadsheetlaw01_SameTexts.l0 kq l0 l1 x5_1 = some r) ∧ Aside0 (kq ≤ k) ∧ Drawn0 w w'))
  case atStart => exact ⟨(0), zb14, H', ⟨Nat.le_refl _⟩, by repeat (first | exact Drawn0.refl _ | apply Drawn0.step)⟩
  case round =>
   clear H'
   try clear c1
   try clear c2
   try clear p2
   try clear c3
   try clear c3b0
   try clear c3b1
   try clear c3b2
   obtain ⟨x5_1, rfl, HA, HK1, ⟨m1, rfl⟩⟩ := hrel
   cases gk with
   | zero => exact absurd HA.out (by simp [broadsheetlaw01_SameTexts.l0])
   | succ k1 =>
    have H := HA.out
    clear HA
    simp only [broadsheetlaw01_SameTexts.l0] at H
    by_cases c4 : x5_1 < (l0.length : Int)
    ·rw [if_pos c4] at H
     have c4b0 : decide (x5_1 < (l0.length : Int)) = true := decide_eq_true c4
     clear c4
     by_cases c5 : 0 ≤ x5_1
     ·rw [if_pos c5] at H
      have c5b0 : decide (0 ≤ x5_1) = true := decide_eq_true c5
      clear c5
      by_cases c6 : x5_1 < (l1.length : Int)
      ·rw [if_pos c6] at H
       have c6b0 : decide (x5_1 < (l1.length : Int)) = true := decide_eq_true c6
       clear c6
       by_cases c7 : (rdOf ByteArray.empty l0 x5_1).toList = (rdOf ByteArray.empty l1 x5_1).toList
       ·rw [if_pos c7] at H
        have c7b0 : ((rdOf ByteArray.empty l0 x5_1).toList == (rdOf ByteArray.empty l1 x5_1).toList) = true := beq_iff_eq.mpr c7
        have c7b1 : ((rdOf ByteArray.empty l0 x5_1).toList != (rdOf ByteArray.empty l1 x5_1).toList) = false := bne_eq_false_iff_eq.mpr c7
        clear c7
        have H' := Aside0.mk H
        clear H
        have p234 : 0 ≤ (x5_1 : Int) := of_decide_eq_true zb5
        have q234 : x5_1 < (l0.length : Int) := of_decide_eq_true zb5
        obtain ⟨ad234, e234, hx234_0⟩ := Kd.at_string HR0.out x5_1 p234 q234
        cases e234
        replace p234 := eq_true p234
        replace q234 := eq_true q234
        have p235 : 0 ≤ (x5_1 : Int) := of_decide_eq_true zb5
        have q235 : x5_1 < (l1.length : Int) := of_decide_eq_true zb5
        obtain ⟨ad235, e235, hx235_0⟩ := Kd.at_string HR1.out x5_1 p235 q235
        cases e235
        replace p235 := eq_true p235
        replace q235 := eq_true q235
        go_wp2
        repeat (go_quiet (fail); try go_wp2)
        go_roundg k1
        case measure => have := HK1.out; omega
        case rel => exact ⟨(wrap64 (x5_1 + 1)), zb14, H', ⟨by have := HK1.out; omega⟩, by repeat (first | exact Drawn0.refl _ | apply Drawn0.step)⟩
       ·rw [if_neg c7] at H
        have c7b0 : ((rdOf ByteArray.empty l0 x5_1).toList == (rdOf ByteArray.empty l1 x5_1).toList) = false := beq_eq_false_iff_ne.mpr c7
        have c7b1 : ((rdOf ByteArray.empty l0 x5_1).toList != (rdOf ByteArray.empty l1 x5_1).toList) = true := bne_iff_ne.mpr c7
        obtain rfl := Option.some.inj H
        have p234 : 0 ≤ (x5_1 : Int) := of_decide_eq_true zb5
        have q234 : x5_1 < (l0.length : Int) := of_decide_eq_true zb5
        obtain ⟨ad234, e234, hx234_0⟩ := Kd.at_string HR0.out x5_1 p234 q234
        cases e234
        replace p234 := eq_true p234
        replace q234 := eq_true q234
        have p235 : 0 ≤ (x5_1 : Int) := of_decide_eq_true zb5
        have q235 : x5_1 < (l1.length : Int) := of_decide_eq_true zb5
        obtain ⟨ad235, e235, hx235_0⟩ := Kd.at_string HR1.out x5_1 p235 q235
        cases e235
        replace p235 := eq_true p235
        replace q235 := eq_true q235
        go_wp2
        repeat (go_quiet (fail); try go_wp2)
        go_ret
        exact ⟨by first | rfl | (simp; done) | (simp [*]; done), by repeat (first | exact Drawn0.refl _ | apply Drawn0.step)⟩
      ·rw [if_neg c6] at H
       exact absurd H zb35
     ·rw [if_neg c5] at H
      exact absurd H zb35
    ·rw [if_neg c4] at H
     have c4b0 : decide (x5_1 < (l0.length : Int)) = false := decide_eq_false c4
     clear c4
     obtain rfl := Option.some.inj H
     go_wp2
     repeat (go_quiet (fail); try go_wp2)
     go_ret
     exact ⟨by first | rfl | (simp; done) | (simp [*]; done), by repeat (first | exact Drawn0.refl _ | apply Drawn0.step)⟩
 ·rw [if_neg c3] at H
  have c3b0 : ((l0.length : Int) == (l1.length : Int)) = false := beq_eq_false_iff_ne.mpr c3
  have c3b1 : ((l0.length : Int) != (l1.length : Int)) = true := bne_iff_ne.mpr c3
  have c3b2 : (l0.length == l1.length) = false := by first | simpa using c3 | (simp at c3 ⊢; omega)
  obtain rfl := Option.some.inj H
  go_enter Tryz.func25, Tryz.ntmps25
  go_wp2
  repeat (go_quiet (fail); try go_wp2)
  go_ret
  exact ⟨by first | rfl | (simp; done) | (simp [*]; done), by repeat (first | exact Drawn0.refl _ | apply Drawn0.step)⟩
end Go.Proofs.YtfpbpakgajddnaaGreatDoor.P
/- VvQ -/
namespace Go.Proofs.YtfpbpakgajddnaaGreatDoor.Pl
open Go Go.RowKit Go.Maps Go.Proofs.YtfpbpakgajddnaaGreatDoorW.PrintWords
open Go.Proofs.YtfpbpakgajddnaaGreatDoor.O (Glob)
set_option linter.unusedVariables false
set_option linter.unusedSimpArgs false
/-- What has turned, and in which blocks it lies now. -/
structure Fr (H : Nat → Prop) (w : World) (H' : Nat → Prop) (w' : World) : Prop where
  tch : Tch H w w'
  grow : ∀ i, H' i → H i ∨ w.heap.size ≤ i
section
variable {w0 w w1 w2 w' : World} {vb bp C K c1 c2 B : Nat} {v : VM} {rv : Value} {F G H H' H1 H2 : Nat → Prop} {m : Mach} {A1 A2 : Option Addr} {e : Ending}
theorem Fr.refl (H : Nat → Prop) (w : World) : Fr H w H w := ⟨Tch.refl _ _, fun i hi => .inl hi⟩
theorem Fr.of_below (h : Below w.heap.size w w') : Fr H w H w' := ⟨.of_below h, fun i hi => .inl hi⟩
theorem Fr.trans (h : Fr H w H1 w1) (g : Fr H1 w1 H2 w2) : Fr H w H2 w2 := ⟨h.tch.trans g.tch h.grow, fun i hi => by
 rcases g.grow i hi with h1 | h1
 ·exact h.grow i h1
 ·exact .inr (Nat.le_trans h.tch.size h1)⟩
theorem Fr.keep (h : Fr H w H' w') {k : Nat} {x : Obj} (hk : w.heap[k]? = some x) (hH : ¬ H k) : w'.heap[k]? = some x := h.tch.keep hk hH
theorem Fr.out (h : Fr H w H' w') {k : Nat} (hk : k < w.heap.size) (hH : ¬ H k) : ¬ H' k := fun h1 => by
 rcases h.grow k h1 with h2 | h2
 ·exact hH h2
 ·omega
theorem Fr.low (h : Fr H w H' w') {b : Nat} (hb : b ≤ w.heap.size) (hH : ∀ i, H i → b ≤ i) : ∀ i, H' i → b ≤ i := fun i hi => by
 rcases h.grow i hi with h1 | h1
 ·exact hH i h1
 ·omega
theorem Fr.below (h : Fr H w H' w') {b : Nat} (hb : b ≤ w.heap.size) (hH : ∀ i, H i → b ≤ i) : Below b w w' := h.tch.below hb hH
/-- The plate alone; a vault and its plate. -/
def LP (w : World) (bp : Nat) (m : Mach) (H : Nat → Prop) : Prop := ∃ F, Plate w bp m F ∧ ∀ i, F i → H i
def LV (w : World) (vb bp : Nat) (v : VM) (m : Mach) (H : Nat → Prop) : Prop := ∃ rv F, VS w vb bp v m rv F H
theorem LV.plate (h : LV w vb bp v m H) : LP w bp m H := by
 obtain ⟨rv, F, hs⟩ := h
 exact ⟨F, hs.plate, hs.inF⟩
theorem LP.tch (h : LP w bp m H) (ht : Tch G w w') (hG : ∀ i, G i → ¬ H i) : LP w' bp m H := by
 obtain ⟨F, hp, hF⟩ := h
 exact ⟨F, hp.move (fun i hi hl => ht.block i hl (fun hg => hG i hg (hF i hi))), hF⟩
theorem LV.tch (h : LV w vb bp v m H) (ht : Tch G w w') (hG : ∀ i, G i → ¬ H i) : LV w' vb bp v m H := by
 obtain ⟨rv, F, hs⟩ := h
 exact ⟨rv, F, hs.vp.tch ht (fun i hi hg => hG i hg (hs.inV i hi)), hs.plate.move (fun i hi hl => ht.block i hl (fun hg => hG i hg (hs.inF i hi))), hs.apart, hs.inF, hs.inV⟩
theorem LP.still (h : LP w bp m H) (hb : Below w.heap.size w w') : LP w' bp m H := h.tch (G := fun _ => False) (.of_below hb) (fun _ h => h.elim)
theorem LV.still (h : LV w vb bp v m H) (hb : Below w.heap.size w w') : LV w' vb bp v m H := h.tch (G := fun _ => False) (.of_below hb) (fun _ h => h.elim)
/-- Behind an operation of the plate. -/
theorem LP.done {f : FuncId} {args : Array Value} {r : Int × Mach} (h : LP w bp m H) (hd : ∀ F, Plate w bp m F → Calls Tryz.prog f args w (Done bp F w r)) : Calls Tryz.prog f args w fun e w' => e = .returned (.int .i64 r.1) ∧ ∃ H', LP w' bp r.2 H' ∧ Fr H w H' w' := by
 obtain ⟨F, hp, hF⟩ := h
 refine (hd F hp).mono ?_
 rintro e w' ⟨h1, h2, h3⟩
 exact ⟨h1, Pl.grow H w w', ⟨_, h2, fun i hi => hi.imp (hF i) id⟩, h3.mono (fun k hk _ => hF k hk), fun i hi => hi.imp id (fun h => h.1)⟩
theorem Named.short (h : Named m) : Short m := fun s hs => by
 have := nameOk_len (h.steps s hs)
 omega
theorem crash_lp (a b : Int) (h : LP w bp m H) (hg : Good C K m) (hC : C ≤ 10000000) : Calls Tryz.prog 24 #[.pointer (some ⟨bp, 0, none⟩), .int .i64 a, .int .i64 b] w fun e w' => e = .returned (.tuple #[]) ∧ ∃ H', LP w' bp (crash m a b) H' ∧ Fr H w H' w' := by
 obtain ⟨F, hp, hF⟩ := h
 refine (Crash_calls a b hp hg.inv zb13 hg.named.short).mono ?_
 rintro e w' ⟨h1, h2, h3⟩
 exact ⟨h1, Pl.grow H w w', ⟨_, h2, fun i hi => hi.imp (hF i) id⟩, h3.mono (fun k hk _ => hF k hk), fun i hi => hi.imp id (fun h => h.1)⟩
theorem new_lp (room : Int) (w : World) (h0 : 0 ≤ room) (h1 : room ≤ 4194304) :
  Calls Tryz.prog 19 #[.int .i64 room] w fun e w' => ∃ bp, e = .returned (.tuple #[.pointer (some ⟨bp, 0, none⟩), .int .i64 0]) ∧ Below w.heap.size w w' ∧ LP w' bp (fresh room) (fun i => w.heap.size ≤ i) := by
 refine (newW_ok room w h0 h1).mono ?_
 rintro e w' ⟨bp, he, _, hp, ht⟩
 exact ⟨bp, he, ht.below (Nat.le_refl _) (fun _ h => h.elim), _, hp, fun i hi => hi.1⟩
theorem open_lp (h : LP w bp m H) (hg : Good C K m) (hC : C + 2 * K ≤ 10000000) (hG : Glob w) (hm : (read m manL).1.length ≤ 90000) :
  Calls Tryz.prog 20 #[.pointer (some ⟨bp, 0, none⟩)] w fun e w' => ∃ pv H', e = .returned (.tuple #[pv, .int .i64 (openV cdc m).1]) ∧ Fr H w H' w' ∧ (match (openV cdc m).2.1 with
   | none => pv = .pointer none ∧ LP w' bp (openV cdc m).2.2 H'
   | some v => ∃ vb, pv = .pointer (some ⟨vb, 0, none⟩) ∧ LV w' vb bp v (openV cdc m).2.2 H') := by
 obtain ⟨F, hp, hF⟩ := h
 refine (open_calls hp hg hC hG hm).mono ?_
 rintro e w' ⟨pv, he, ht, hc⟩
 refine ⟨pv, Pl.grow H w w', he, ⟨ht.mono (fun k hk _ => hF k hk), fun i hi => hi.imp id (fun h => h.1)⟩, ?_⟩
 cases ho : (openV cdc m).2.1 with
 | none =>
  rw [ho] at hc
  exact ⟨hc.1, _, hc.2, fun i hi => hi.imp (hF i) id⟩
 | some v =>
  rw [ho] at hc
  obtain ⟨vb, rv, F', h1, h2, h3⟩ := hc
  exact ⟨vb, h1, rv, F', h3.vp, h3.plate, h3.apart, fun i hi => (h3.inF i hi).imp (hF i) id, fun i hi => (h3.inV i hi).imp (hF i) id⟩
theorem commit_lv {ps : List (L × L)} {gs : List L} (h : LV w vb bp v m H) (hf : Fine v) (hB : bulk v.rows + 94 * ps.length ≤ 80000) (hput : Blobs w A1 ps) (hgone : Strs w A2 gs) (hc1 : ps.length ≤ c1) (hpd : ∀ b ∈ ps, b.2.length ≤ 1000000000) (hg : Good C K m) (hC : C + 2 * ps.length + 6 + 2 * (K + ps.length + 2) ≤ 10000000) (hG : ∀ W, Tch H w W → Glob W) :
  Calls Tryz.prog 21 #[.pointer (some ⟨vb, 0, none⟩), .slice A1 ps.length c1, .slice A2 gs.length c2] w fun e w' => e = .returned (.int .i64 (commitR cdc v ps gs m).1) ∧ ∃ H', Fr H w H' w' ∧ LV w' vb bp (commitR cdc v ps gs m).2.1 (commitR cdc v ps gs m).2.2 H' := by
 obtain ⟨rv, F, hs⟩ := h
 have hbl := bulk_len v.rows
 have fin : ∀ e w', Committed vb bp H w (commitR cdc v ps gs m) e w' → e = .returned (.int .i64 (commitR cdc v ps gs m).1) ∧ ∃ H', Fr H w H' w' ∧ LV w' vb bp (commitR cdc v ps gs m).2.1 (commitR cdc v ps gs m).2.2 H' := by
  rintro e w' ⟨h1, h2, rv', F', h3⟩
  exact ⟨h1, Pl.grow H w w', ⟨h2, fun i hi => hi.imp id (fun h => h.1)⟩, rv', F', h3⟩
 by_cases hz : checkI (v.n + 1) ps = 0
 ·obtain ⟨hn1, hnm, _⟩ := commitR_good cdc v ps gs m hz
  obtain ⟨f1, f2⟩ := next_fine gs hf hn1 (fun b hb => ⟨hnm b hb, by have := hpd b hb; omega⟩) zb13
  have f3 := print_len f1
  have f4 := bulk_len (nextR cdc (v.n + 1) ps gs v.rows)
  simp only at f3
  exact (commit_ok hs hf zb13 hput hgone hc1 zb13 hpd hg hC hG hz zb13 zb13).mono fin
 ·exact (commit_bad hs hf.num hput hc1 zb13 (hG w (Tch.refl _ _)) hz).mono fin
theorem get_lv (x : L) (h : LV w vb bp v m H) (hf : Fine v) (hl : v.rows.length ≤ 1000000) :
  Calls Tryz.prog 29 #[.pointer (some ⟨vb, 0, none⟩), .string (mkB x)] w fun e w' => e = .returned (.tuple #[.string (mkB (getR v m x).1), .int .i64 (getR v m x).2]) ∧ Below w.heap.size w w' := by
 obtain ⟨rv, F, hs⟩ := h
 exact get_calls x hs.vp hs.plate hf hl
theorem names_lv (h : LV w vb bp v m H) (hl : v.rows.length ≤ 1000000) :
  Calls Tryz.prog 49 #[.pointer (some ⟨vb, 0, none⟩)] w fun e w' => ∃ v', e = .returned v' ∧ OwnStrs w' w.heap.size v' (v.rows.map (·.name)) ∧ Below w.heap.size w w' := by
 obtain ⟨rv, F, hs⟩ := h
 exact names_calls hs.vp hl
theorem gen_lv (h : LV w vb bp v m H) : Calls Tryz.prog 30 #[.pointer (some ⟨vb, 0, none⟩)] w fun e w' => e = .returned (.int .i64 (v.n : Nat)) ∧ w' = w := by
 obtain ⟨rv, F, hs⟩ := h
 exact gen_calls hs.vp
end
theorem sameV_loop (xs : List ByteArray) (hx : xs.length < 1000000000) : ∀ (j i : Nat), i + j = xs.length → P.broadsheetlaw01_SameTexts.l0 (j + 1) xs xs (i : Int) = some true
 | 0, i, h => by
  unfold P.broadsheetlaw01_SameTexts.l0
  rw [if_neg zb13]
 | j + 1, i, h => by
  have hw : wrap64 ((i : Int) + 1) = ((i + 1 : Nat) : Int) := by
   rw [show (i : Int) + 1 = ((i + 1 : Nat) : Int) by omega]
   exact wrap_nat _ zb13
  unfold P.broadsheetlaw01_SameTexts.l0
  rw [if_pos zb13, if_pos zb13, if_pos zb13, if_pos rfl, hw]
  exact sameV_loop xs hx j (i + 1) zb13
theorem textsV_row {w : World} {base : Nat} {v : Value} {l : List L} (h : OwnStrs w base v l) : ∃ A c, v = .slice A l.length c ∧ l.length ≤ c ∧ Strs w A l := by
 have hr : Reps (Kd.string.K w) 1 (l.map mkB) (strsC l) := by
  unfold strsC
  refine ⟨by rw [List.length_map, List.length_map]; omega, fun j p hj => ?_⟩
  rw [List.getElem?_map] at hj
  obtain ⟨x, hx, rfl⟩ := Option.map_eq_some_iff.1 hj
  have hl := (List.getElem?_eq_some_iff.1 hx).1
  have e : ((l.map fun x => Value.string (mkB x)).drop (j * 1)).take 1 = [Value.string (mkB x)] := by
   rw [Nat.mul_one, List.drop_eq_getElem_cons (by rw [List.length_map]; exact hl), List.getElem_map, (List.getElem?_eq_some_iff.1 hx).2]
   rfl
  rw [e]
  rfl
 obtain ⟨A, c, rfl, hc⟩ := own_reads_row h hr (by rw [List.length_map])
 exact ⟨A, c, rfl, row_cap h, hc⟩
theorem sameV {w : World} {A1 A2 : Option Addr} {c1 c2 : Nat} (l : List L) (hn : l.length < 1000000000) (h1 : Strs w A1 l) (k1 : l.length ≤ c1) (h2 : Strs w A2 l) (k2 : l.length ≤ c2) :
  Calls Tryz.prog 25 #[.slice A1 l.length c1, .slice A2 l.length c2] w fun e w' => e = .returned (.bool true) ∧ Below w.heap.size w w' := by
 have hl : (l.map mkB).length = l.length := List.length_map _
 have hf : P.broadsheetlaw01_SameTexts.f ((l.map mkB).length + 1) (l.map mkB) (l.map mkB) = some true := by
  unfold P.broadsheetlaw01_SameTexts.f
  rw [if_pos rfl]
  exact sameV_loop _ (by rw [hl]; exact hn) _ 0 zb13
 have key := P.broadsheetlaw01_SameTexts.calls _ A1 c1 (l.map mkB) A2 c2 (l.map mkB) true w (by rw [hl]; exact h1) (by rw [hl]; exact k1) (by rw [hl]; exact h2) (by rw [hl]; exact k2) hf
 rw [hl] at key
 refine key.mono ?_
 rintro e w' ⟨he, hd⟩
 exact ⟨he, hd.below⟩
theorem tx_len : ∀ D : List (RowM × L), (tx D).length = 2 * D.length
 | [] => rfl
 | p :: D => by
  have := tx_len D
  show (tx D).length + 1 + 1 = 2 * (D.length + 1)
  omega
theorem tx_succ {D : List (RowM × L)} {i : Nat} {p : RowM × L} (h : D[i]? = some p) : tx (D.take (i + 1)) = tx (D.take i) ++ [p.1.name, p.2] := by
 unfold tx
 rw [List.take_add_one, h, List.flatMap_append]
 simp
theorem get_tx {C n : Nat} {D : List (RowM × L)} {m : Mach} (hi : Inv C m) (hs : Safe cdc n D m) (hR : Rising D) {p : RowM × L} (hp : p ∈ D) : getR (vm n D) m p.1.name = (p.2, 0) := by
 have key : ∀ E : List (RowM × L), Rising E → p ∈ E → ((E.map (·.1)).find? fun r => r.name == p.1.name) = some p.1 := by
  intro E
  induction E with
  | nil => intro _ h; cases h
  | cons q t ih =>
   intro hr hm
   have h1 := List.pairwise_cons.1 hr
   rw [List.map_cons, List.find?_cons]
   rcases List.mem_cons.1 hm with rfl | hm
   ·have : (p.1.name == p.1.name) = true := by simp
    rw [this]
   ·have hne := before_ne (h1.1 p hm)
    have : (q.1.name == p.1.name) = false := by simpa using hne
    rw [this]
    exact ih h1.2 hm
 have e := key D hR hp
 unfold getR
 show (match ((D.map (·.1)).find? fun r => r.name == p.1.name) with | some r => read m r.file | none => ([], 10)) = _
 rw [e]
 exact hs.read hi hp
section
variable {w w' : World} {vb bp C K n : Nat} {D : List (RowM × L)} {H : Nat → Prop} {m : Mach}
set_option maxRecDepth 100000 in
set_option maxHeartbeats 8000000 in
theorem kept_law (h : LV w vb bp (vm n D) m H) (hf : Fine (vm n D)) (hs : Safe cdc n D m) (hR : Rising D) (hi : Inv C m) (hl : D.length ≤ 1000000) :
  Calls Tryz.prog 22 #[.pointer (some ⟨vb, 0, none⟩)] w fun e w' => ∃ v', e = .returned (.tuple #[v', .int .i64 (n : Nat)]) ∧ OwnStrs w' w.heap.size v' (tx D) ∧ Below w.heap.size w w' := by
 obtain ⟨i0, hi0, hz⟩ := Option.map_eq_some_iff.1 strV_info
 simp only [Prod.mk.injEq] at hz
 obtain ⟨hz0, hz1, hz2⟩ := hz
 have hml : (vm n D).rows.length = D.length := List.length_map _
 have HN := Lib.hid (names_lv h zb13)
 have HGE := Lib.hid (fun (W : World) (hb : Below w.heap.size w W) => gen_lv (h.still hb))
 have HGT := Lib.hid (fun (W : World) (hb : Below w.heap.size w W) (p : RowM × L) (hp : p ∈ D) => by
  have := get_lv p.1.name (h.still hb) hf zb13
  rw [get_tx hi hs hR hp] at this
  exact this)
 have hnm : (vm n D).rows.map (·.name) = D.map fun p => p.1.name := by
  unfold vm
  rw [List.map_map]
  rfl
 rw [hnm] at HN
 have hnn : (vm n D).n = n := rfl
 rw [hnn] at HGE
 clear h hf hs hR hi hml hnm hnn
 go_enter Tryz.func22, Tryz.ntmps22
 go_wp2_with (first
  | (go_at_call 49; refine HN.out.mono ?_; rintro e w1 ⟨v1, rfl, ho1, hb1⟩; obtain ⟨A1, c1, rfl⟩ := row_slice ho1; rw [List.length_map] at *; have HO1 := Lib.hid ho1; have HB1 := Lib.hid hb1; clear ho1 hb1)
  | go_in)
 have h11 : w.heap.size ≤ w1.heap.size := HB1.out.size
 go_loopw [4, 6, 7, 8] (fun v4 v6 _ _ wr => ∃ (i : Nat), v6 = Value.int .i64 (i : Int) ∧ i ≤ D.length ∧ wr.ownsRow w1.heap.size 9 1 v4 (2 * i) (strsC (tx (D.take i))) ∧ Below w1.heap.size w1 wr)
  (fun _ v6 _ _ _ => D.length - (intOf v6).toNat)
 case atStart => exact ⟨0, rfl, Nat.zero_le _, World.ownsRow_nil _ _ _ _, Below.refl _ _⟩
 case round =>
  obtain ⟨i, rfl, hil, how, hbw⟩ := hrel
  obtain ⟨A4, c4, rfl⟩ := row_slice how
  have HOW := Lib.hid how
  have HBW := Lib.hid hbw
  have hsz := hbw.size
  have HBT := Lib.hid (HB1.out.trans (hbw.mono h11))
  by_cases hlt2 : i < D.length
  ·have hdec : ((i : Int) < (D.length : Int)) := by omega
   have hin : 0 ≤ (i : Int) ∧ (i : Int) < (D.length : Int) := by omega
   obtain ⟨p, hp⟩ : ∃ p, D[i]? = some p := ⟨_, List.getElem?_eq_getElem hlt2⟩
   have hnr : ∀ W, Below w1.heap.size w1 W → W.ownsRow w.heap.size 9 1 (.slice A1 D.length c1) D.length (strsC (D.map fun p => p.1.name)) := fun W hb => by
    have := own_bel HO1.out hb
    unfold OwnStrs at this
    rw [List.length_map] at this
    exact this
   obtain ⟨b, rfl, _, hbl⟩ := row_blk (hnr wr hbw) hlt2
   have hsc : (strsC (D.map fun p => p.1.name))[i]? = some (.string (mkB p.1.name)) := by
    unfold strsC
    rw [List.map_map, List.getElem?_map, hp]
    rfl
   have n0 := (cellAt1 (hnr wr hbw) i hlt2).trans hsc
   have HNR := Lib.hid (fun (W : World) (hb : Below w1.heap.size w1 W) => (cellAt1 (hnr W hb) i hlt2).trans hsc)
   have HGX := Lib.hid (HGT.out wr HBT.out p (List.mem_of_getElem? hp))
   have HP := Lib.hid hp
   clear how hbw hnr hsc hp
   go_wp2_with (first
    | (go_at_call 29; refine HGX.out.mono ?_; rintro e w2 ⟨rfl, hb2⟩; have n2 := HNR.out w2 (HBW.out.trans (hb2.mono hsz)); have HO2 := Lib.hid (own_bel HOW.out hb2); have HB2 := Lib.hid (HBW.out.trans (hb2.mono hsz)); have hs2 := HB2.out.size; clear hb2 n0)
    | (at_builtin; refine wpList_append_own_at _ rfl _ _ 41 rfl w1.heap.size 9 i0 _ 1 16 Tryz.underlying41 hi0 hz0 hz1 hz2 rfl zb25 _ (2 * i) _ rfl (HO2.out.alloc _) ⟨w2.heap.size, 0, none⟩ 2 2 [.string (mkB p.1.name), .string (mkB p.2)] rfl rfl (fun j u hj => ?cells) (fun u hu => ?onec) (by unfold maxLen; omega) zb13 zb41 ?_; (case cells => exact cells_newF w2 _ _ rfl j u hj); (case onec => simp only [List.mem_cons, List.not_mem_nil, or_false] at hu; rcases hu with rfl | rfl <;> rfl); intro v5 w5 hown5 hgr5 hnil5 hloc5; have HO5 := Lib.hid hown5; have HG5 := Lib.hid hgr5; clear hown5 hgr5 hnil5 hloc5)
    | go_in)
   go_roundw
   case rel =>
    refine ⟨i + 1, by push_cast; rfl, by omega, ?_, (HB2.out.alloc hs2 _).grown HG5.out zb41 (fun k hk => own_base HOW.out k hk)⟩
    have h5 := HO5.out
    rw [tx_succ HP.out]
    unfold strsC at h5 ⊢
    rw [List.map_append]
    exact h5
   case measure =>
    show D.length - ((i : Int) + 1).toNat < D.length - (i : Int).toNat
    omega
  ·have hdec : ¬ ((i : Int) < (D.length : Int)) := by omega
   have hie : i = D.length := by omega
   subst hie
   go_wp2_with (first
    | (go_at_call 30; refine (HGE.out wr HBT.out).mono ?_; rintro e w2 ⟨rfl, rfl⟩)
    | go_in)
   go_ret2
   refine ⟨_, rfl, ?_, HBT.out⟩
   have h5 := HOW.out
   rw [List.take_length] at h5
   unfold OwnStrs
   rw [tx_len]
   exact own_weaken h5 h11
end
end Go.Proofs.YtfpbpakgajddnaaGreatDoor.Pl
/- VaJ -/
namespace Go.Proofs.YtfpbpakgajddnaaGreatDoor.Pl
open Go
set_option linter.unusedVariables false
set_option linter.unusedSimpArgs false
def g10 : L := [103, 49, 45, 48]
def m1 : Mach := ⟨[⟨[120], []⟩], [], [(g10, some 0)], -1, 1000⟩
def m2 (s : L) : Mach := ⟨[⟨[120], []⟩, ⟨s, []⟩], [], [(g10, some 0), (newL, some 1)], -1, 1000⟩
def m3 (s : L) : Mach := ⟨[⟨[120], []⟩, ⟨s, []⟩], [(g10, 0), (newL, 1)], [], -1, 1000⟩
def m4 (s : L) : Mach := ⟨[⟨[120], []⟩, ⟨s, []⟩], [(g10, 0), (newL, 1)], [(manL, some 1), (newL, none)], -1, 1000⟩
def m5 (s : L) : Mach := ⟨[⟨[120], []⟩, ⟨s, []⟩], [(g10, 0), (manL, 1)], [], -1, 1000⟩
theorem a1 : put3 (fresh 1000) g10 [120] = (0, m1) := by rfl
theorem a2 (s : L) (h : s.length ≤ 500) : put3 m1 newL s = (0, m2 s) := by
 have e1 : create m1 newL = (0, ⟨[⟨[120], []⟩, ⟨[], []⟩], [], [(g10, some 0), (newL, some 1)], -1, 1000⟩) := by rfl
 have e2 : write ⟨[⟨[120], []⟩, ⟨[], []⟩], [], [(g10, some 0), (newL, some 1)], -1, 1000⟩ newL s = (0, ⟨[⟨[120], []⟩, ⟨[], s⟩], [], [(g10, some 0), (newL, some 1)], -1, 1000⟩) := by
  have hf : Mach.find ⟨[⟨[120], []⟩, ⟨[], []⟩], [], [(g10, some 0), (newL, some 1)], -1, 1000⟩ newL = some 1 := by rfl
  have hu : (1000 : Int) - used [⟨[120], []⟩, ⟨[], []⟩] (Mach.now ⟨[⟨[120], []⟩, ⟨[], []⟩], [], [(g10, some 0), (newL, some 1)], -1, 1000⟩) = 999 := by rfl
  unfold write
  rw [hf]
  simp only
  rw [hu, if_neg (by omega), if_neg (by decide)]
  rfl
 have e3 : sync ⟨[⟨[120], []⟩, ⟨[], s⟩], [], [(g10, some 0), (newL, some 1)], -1, 1000⟩ newL = (0, m2 s) := by
  have hf : Mach.find ⟨[⟨[120], []⟩, ⟨[], s⟩], [], [(g10, some 0), (newL, some 1)], -1, 1000⟩ newL = some 1 := by rfl
  unfold sync
  rw [hf]
  simp only
  rw [if_neg (by decide)]
  rfl
 unfold put3
 rw [e1, if_pos rfl]
 simp only
 rw [e2, if_pos rfl]
 exact e3
theorem a3 (s : L) : syncDir (m2 s) = (0, m3 s) := by rfl
theorem a4 (s : L) : rename (m3 s) newL manL = (0, m4 s) := by rfl
theorem a5 (s : L) : syncDir (m4 s) = (0, m5 s) := by rfl
theorem first_commit (c : Codec) (hn : c.name 1 0 = g10) (hl : (c.print 1 [⟨[97], g10, 1, c.sum [120]⟩]).length ≤ 500) :
  commitR c ⟨0, []⟩ [([97], [120])] [] (fresh 1000) = (0, ⟨1, [⟨[97], g10, 1, c.sum [120]⟩]⟩, m5 (c.print 1 [⟨[97], g10, 1, c.sum [120]⟩])) := by
 have hr : nextR c 1 [([97], [120])] [] [] = [⟨[97], g10, 1, c.sum [120]⟩] := by
  show [(⟨[97], c.name 1 0, 1, c.sum [120]⟩ : RowM)] = _
  rw [hn]
 generalize hs : c.print 1 [⟨[97], g10, 1, c.sum [120]⟩] = s at *
 have hst : stage c 1 [[120]] s (fresh 1000) = (0, m4 s) := by
  have hd : doPuts c 1 0 [[120]] (fresh 1000) = (0, m1) := by
   show (if (put3 (fresh 1000) (c.name 1 0) [120]).1 = 0 then _ else _) = _
   rw [hn, a1, if_pos rfl]
   rfl
  unfold stage
  rw [hd, if_pos rfl]
  simp only
  rw [a2 s hl, if_pos rfl]
  simp only
  rw [a3, if_pos rfl]
  exact a4 s
 have hsw : sweep ⟨1, [⟨[97], g10, 1, c.sum [120]⟩]⟩ (m5 s) = (0, m5 s) := by
  unfold sweep
  rw [if_pos (by rfl)]
 unfold commitR
 rw [if_neg (by decide), if_neg (by decide)]
 show commitV c ⟨0, []⟩ (nextR c 1 [([97], [120])] [] []) [[120]] (fresh 1000) = _
 rw [hr]
 unfold commitV
 show (if (stage c 1 [[120]] (c.print 1 _) (fresh 1000)).1 = 0 then _ else _) = _
 rw [hs, hst, if_pos rfl]
 simp only
 rw [a5, if_pos rfl]
 simp only
 rw [hsw]
theorem first_open (c : Codec) (k : Int) : openV c (fresh k) = (0, some ⟨0, []⟩, fresh k) := by
 have h1 : read (fresh k) manL = ([], 10) := by rfl
 have h2 : list (fresh k) = [] := by rfl
 unfold openV says
 rw [h1, if_neg (by decide)]
 simp only
 have h3 : sweep ⟨0, []⟩ (fresh k) = (0, fresh k) := by
  unfold sweep
  rw [h2]
  rfl
 rw [h3, if_pos rfl]
theorem first_get (r : Nat) (s : L) : getR ⟨1, [⟨[97], g10, 1, r⟩]⟩ (m5 s) [97] = ([120], 0) := by rfl
theorem first_list (s : L) : list (m5 s) = [g10, manL] := by rfl
end Go.Proofs.YtfpbpakgajddnaaGreatDoor.Pl
/- VvS -/
namespace Go.Proofs.YtfpbpakgajddnaaGreatDoor.Pl
open Go Go.RowKit Go.Maps Go.Proofs.YtfpbpakgajddnaaGreatDoorW.PrintWords
open Go.Proofs.YtfpbpakgajddnaaGreatDoor.O (Glob)
set_option linter.unusedVariables false
set_option linter.unusedSimpArgs false
theorem reps_toB1 (w : World) (b : L × L) : Reps (P.k28.K w) 2 [toB b] [.string (mkB b.1), .string (mkB b.2)] := by
 refine ⟨rfl, fun j p hj => ?_⟩
 match j with
 | 0 =>
  obtain rfl := Option.some.inj hj
  exact P.k28_mk w (toB b)
 | j + 1 => simp at hj
theorem blobs1 (w : World) (b : L × L) : Blobs (w.alloc (.cells #[.string (mkB b.1), .string (mkB b.2)] 28 (0, 0))) (some ⟨w.heap.size, 0, none⟩) [b] := by
 have ho : (w.alloc (.cells #[.string (mkB b.1), .string (mkB b.2)] 28 (0, 0))).ownsRow 0 28 2 (.slice (some ⟨w.heap.size, 0, none⟩) 1 1) 1 [.string (mkB b.1), .string (mkB b.2)] :=
  own_blk_mk (cs := [.string (mkB b.1), .string (mkB b.2)]) (alloc_new w _) rfl rfl (Nat.zero_le _) (Nat.le_refl _) zb25
 obtain ⟨A, c, e, h⟩ := own_reads_row ho (reps_toB1 _ b) rfl
 injection e with e1 _ _
 rw [e1]
 exact h
theorem strs_nil (w : World) : Strs w none [] := by
 obtain ⟨A, c, e, h⟩ := own_reads_row (R := Kd.string.K w) (ps := ([] : List ByteArray)) (World.ownsRow_nil w 0 9 1) (show Reps (Kd.string.K w) 1 [] [] from ⟨rfl, fun j p hj => by simp at hj⟩) rfl
 injection e with e1 _ _
 rw [e1]
 exact h
theorem name10 : cdc.name 1 0 = g10 := by
 show [103] ++ Mn.dec ((1 : Nat) : Int) ++ [45] ++ Mn.dec ((0 : Nat) : Int) = g10
 unfold Mn.dec
 show [103] ++ Lib.decDigits 1 ++ [45] ++ Lib.decDigits 0 = g10
 rw [Lib.decDigits, Lib.decDigits.eq_1 0]
 rfl
noncomputable def row1 : RowM := ⟨[97], g10, 1, cdc.sum [120]⟩
theorem next1 : nextR cdc 1 [([97], [120])] [] [] = [row1] := by
 show [(⟨[97], cdc.name 1 0, 1, cdc.sum [120]⟩ : RowM)] = _
 rw [name10]
 rfl
theorem fine1 : Fine ⟨1, [row1]⟩ ∧ bulk [row1] ≤ 94 := by
 have h := next_fine (v := ⟨0, []⟩) (ps := [([97], [120])]) [] Fine.empty zb25 (fun b hb => by
  rw [List.mem_singleton.1 hb]
  exact ⟨by decide, by decide⟩) zb25
 have e : nextR cdc ((⟨0, []⟩ : VM).n + 1) [([97], [120])] [] (⟨0, []⟩ : VM).rows = [row1] := next1
 rw [e] at h
 exact ⟨h.1, h.2⟩
theorem lines1 : (cdc.print 1 [row1]).length ≤ 500 := by
 have h1 := print_len fine1.1
 have h2 := fine1.2
 simp only at h1
 omega
section
variable {w w' : World}
theorem list_lv {vb bp C : Nat} {v : VM} {m : Mach} {H : Nat → Prop} (h : LV w vb bp v m H) (hi : Inv C m) (hC : C ≤ 100000000) :
  Calls Tryz.prog 31 #[.pointer (some ⟨bp, 0, none⟩)] w fun e w' => ∃ v', e = .returned v' ∧ OwnStrs w' w.heap.size v' (list m) ∧ Below w.heap.size w w' := by
 obtain ⟨rv, F, hs⟩ := h
 refine (List_calls hs.plate hi hC).mono ?_
 rintro e w' ⟨v', he, ho, _, hb⟩
 refine ⟨v', he, ?_, hb⟩
 have hl : (list m).length = m.now.length := by unfold list; rw [List.length_map]
 unfold OwnStrs
 rw [hl]
 exact ho
theorem strs_two (w : World) (a b : L) : Strs (w.alloc (.cells #[.string (mkB a), .string (mkB b)] 9 (0, 0))) (some ⟨w.heap.size, 0, none⟩) [a, b] := by
 have ho : OwnStrs (w.alloc (.cells #[.string (mkB a), .string (mkB b)] 9 (0, 0))) 0 (.slice (some ⟨w.heap.size, 0, none⟩) 2 2) [a, b] :=
  own_blk_mk (cs := [.string (mkB a), .string (mkB b)]) (alloc_new w _) rfl rfl (Nat.zero_le _) (Nat.le_refl _) zb25
 obtain ⟨A, c, e, _, h⟩ := textsV_row ho
 injection e with e1 _ _
 rw [e1]
 exact h
set_option maxRecDepth 100000 in
set_option maxHeartbeats 8000000 in
theorem awake_law (hG : Glob w) : Calls Tryz.prog 8 #[] w fun e w' => e = .returned (.bool true) ∧ Below w.heap.size w w' := by
 have g0 : Good 0 0 (fresh 1000) := Good.fresh 1000 zb25 zb25
 have hco := first_commit cdc name10 lines1
 have hgc := Good.commitR cdc ⟨0, []⟩ [([97], [120])] [] g0
 rw [hco] at hgc
 have HNW := Lib.hid (new_lp 1000 w zb25 zb25)
 have HG := Lib.hid hG
 have HOP := Lib.hid (fun (W : World) (bp : Nat) (H : Nat → Prop) (hb : Below w.heap.size w W) (h : LP W bp (fresh 1000) H) => by
  have := open_lp h g0 zb25 (hG.below hb) (by show (read (fresh 1000) manL).1.length ≤ 90000; decide)
  rw [first_open] at this
  exact this)
 have HCO := Lib.hid (fun (W : World) (vb bp : Nat) (H : Nat → Prop) (hb : Below w.heap.size w W) (hH : ∀ i, H i → w.heap.size ≤ i) (h : LV W vb bp ⟨0, []⟩ (fresh 1000) H) (A : Option Addr) (hp : Blobs W A [([97], [120])]) => by
  have := commit_lv (c1 := 1) (c2 := 0) h Fine.empty zb25 hp (strs_nil W) zb25 (fun b hb => by rw [List.mem_singleton.1 hb]; decide) g0 zb25 (fun W2 t => hG.below (hb.trans (t.below hb.size hH)))
  rw [hco] at this
  exact this)
 have HGT := Lib.hid (fun (W : World) (vb bp : Nat) (H : Nat → Prop) (h : LV W vb bp ⟨1, [row1]⟩ (m5 (cdc.print 1 [row1])) H) => by
  have := get_lv [97] h fine1.1 zb25
  rw [show getR ⟨1, [row1]⟩ (m5 (cdc.print 1 [row1])) [97] = ([120], 0) from first_get _ _] at this
  exact (show Calls Tryz.prog 29 #[.pointer (some ⟨vb, 0, none⟩), .string ⟨#[97]⟩] W fun e w' => e = .returned (.tuple #[.string ⟨#[120]⟩, .int .i64 0]) ∧ Below W.heap.size W w' from this))
 have HLI := Lib.hid (fun (W : World) (vb bp : Nat) (H : Nat → Prop) (h : LV W vb bp ⟨1, [row1]⟩ (m5 (cdc.print 1 [row1])) H) => by
  have := list_lv h hgc.inv zb25
  rw [first_list] at this
  exact this)
 have HGE := Lib.hid (fun (W : World) (vb bp : Nat) (H : Nat → Prop) (h : LV W vb bp ⟨1, [row1]⟩ (m5 (cdc.print 1 [row1])) H) => gen_lv h)
 clear hco hgc hG g0
 go_enter Tryz.func8, Tryz.ntmps8
 go_wp2_with (first
  | (go_at_call 19; refine HNW.out.mono ?_; rintro e w1 ⟨bp, rfl, hb1, hp1⟩; have HB1 := Lib.hid hb1; have HP1 := Lib.hid hp1; clear hb1 hp1)
  | (go_at_call 20; refine (HOP.out _ _ _ HB1.out HP1.out).mono ?_; rintro e w2 ⟨pv, H2, rfl, hf2, vb, rfl, hv2⟩; have HB2 := Lib.hid (HB1.out.trans (hf2.below (b := w.heap.size) HB1.out.size (fun i hi => hi))); have HL2 := Lib.hid (hf2.low (b := w.heap.size) HB1.out.size (fun i hi => hi)); have HV2 := Lib.hid hv2; clear hf2 hv2)
  | (go_at_call 21; have hal := (Below.refl w2.heap.size w2).alloc (Nat.le_refl _) (.cells #[.string (mkB [97]), .string (mkB [120])] 28 (0, 0)); refine (HCO.out _ vb bp H2 (HB2.out.trans (hal.mono HB2.out.size)) HL2.out (HV2.out.still hal) _ (blobs1 w2 ([97], [120]))).mono ?_; rintro e w3 ⟨rfl, H3, hf3, hv3⟩; have hb2a := HB2.out.trans (hal.mono HB2.out.size); have HB3 := Lib.hid (hb2a.trans (hf3.below (b := w.heap.size) hb2a.size HL2.out)); have HV3 := Lib.hid hv3; clear hf3 hv3 hal hb2a)
  | (go_at_call 29; refine (HGT.out _ vb bp H3 HV3.out).mono ?_; rintro e w4 ⟨rfl, hb4⟩; have HV4 := Lib.hid (HV3.out.still hb4); have HB4 := Lib.hid (HB3.out.trans (hb4.mono HB3.out.size)); clear hb4)
  | (go_at_call 30; refine (HGE.out _ vb bp H3 HV4.out).mono ?_; rintro e w5 ⟨rfl, rfl⟩)
  | (go_at_call 31; refine (HLI.out _ vb bp H3 HV4.out).mono ?_; rintro e w6 ⟨v6, rfl, ho6, hb6⟩; have HO6 := Lib.hid ho6; have HB6 := Lib.hid (HB4.out.trans (hb6.mono HB4.out.size)); obtain ⟨A6, c6, rfl⟩ := row_slice ho6; clear ho6 hb6)
  | (go_at_call 25; go_loud (have hst := textsV_row HO6.out; obtain ⟨A7, c7, e7, k7, hs7⟩ := hst; injection e7 with e71 e72 e73; subst e71; subst e73; have hal := (Below.refl w6.heap.size w6).alloc (Nat.le_refl _) (.cells #[.string (mkB g10), .string (mkB manL)] 9 (0, 0)); refine (sameV (c2 := 2) [g10, manL] zb25 (Kd.C_below hs7 hal) k7 (strs_two w6 g10 manL) zb25).mono ?_; rintro e w7 ⟨rfl, hb7⟩; have hb6a := HB6.out.trans (hal.mono HB6.out.size); have HB7 := Lib.hid (hb6a.trans (hb7.mono hb6a.size)); clear hb7 hal hb6a hs7))
  | go_in)
 go_ret
 exact ⟨rfl, HB7.out⟩
end
end Go.Proofs.YtfpbpakgajddnaaGreatDoor.Pl
