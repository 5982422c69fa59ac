/- Texts of this seat, joined: lemmas and walks that its statements' proofs use. -/
import Derived.Test.YtghfbhobpodoeaaDoorK1
import Derived.Test.YtghfbhobpodoeaaDoorK2
import Derived.Deep.Slices
import Derived.LaidLaws
import Derived.MakeChecks
import Derived.HandedShaped
import Derived.Lib.LaidU8
import Derived.Lib.LaidTab
import Derived.WalkKit
import Derived.ProofKit
import Derived.Test.YtghfbhobpodoeaaDoorRows
/- Px19 -/
namespace Go.Proofs.YtghfbhobpodoeaaDoor.P
open Go.Proofs.YtghfbhobpodoeaaDoor.B
open Go.RowKit Go.Proofs.YtghfbhobpodoeaaDoorW.PrintWords Go.Proofs.YtghfbhobpodoeaaDoorW.PrintLast Go.Proofs.YtghfbhobpodoeaaDoorW.PrintMore
attribute [local go_sem] run_store_float str_leq str_gtr str_geq max2_int min2_int max_two min_two max_three min_three max_four min_four
set_option linter.unusedVariables false
set_option linter.unusedSimpArgs false
open Go.Proofs.YtghfbhobpodoeaaDoor.O
mutual
def broadsheetlaw14_QualityWhole.l0 : Nat → ByteArray → Bool → Int → Int → Option (Bool)
  | 0, _, _, _, _ => none
  | k + 1, x0, x3, x4, x5 => if x5 < (x0.size : Int) then (if 0 ≤ x5 then (if (bt x0 x5) = 34 then (some x3) else (if (bt x0 x5) = 44 then (broadsheetlaw14_QualityWhole.l0 k x0 x3 (wrap64 (x4 + 1)) (wrap64 (x5 + 1))) else (broadsheetlaw14_QualityWhole.l0 k x0 x3 x4 (wrap64 (x5 + 1))))) else (none)) else (if (x0.size : Int) > 2000 then (some x3) else ((quality_Split.f x0).bind fun t196 => (if (t196.length : Int) > (wrap64 (x4 + 1)) then (some false) else (broadsheetlaw14_QualityWhole.l1 k x0 x3 t196 0 0))))
def broadsheetlaw14_QualityWhole.l1 : Nat → ByteArray → Bool → List ByteArray → Int → Int → Option (Bool)
  | 0, _, _, _, _, _ => none
  | k + 1, x0, x3, x6, x7, x8 => if x8 < (x6.length : Int) then (broadsheetlaw14_QualityWhole.l2 k x0 x3 x6 x7 x8) else (some x3)
def broadsheetlaw14_QualityWhole.j3 : Nat → ByteArray → Bool → List ByteArray → Int → Int → Option (Bool)
  | 0, _, _, _, _, _ => none
  | k + 1, x0, x3, x6, x7, x8 => if x7 ≥ (x0.size : Int) then (broadsheetlaw14_QualityWhole.j4 k x0 x3 x6 x7 x8 true) else (if 0 ≤ x8 then (if x8 < (x6.length : Int) then (broadsheetlaw14_QualityWhole.j4 k x0 x3 x6 x7 x8 ((rdOf ByteArray.empty x6 x8).toList == ([] : List UInt8))) else (none)) else (none))
def broadsheetlaw14_QualityWhole.j4 : Nat → ByteArray → Bool → List ByteArray → Int → Int → Bool → Option (Bool)
  | 0, _, _, _, _, _, _ => none
  | k + 1, x0, x3, x6, x7, x8, x92 => if x92 = true then (some false) else (if 0 ≤ x8 then (if x8 < (x6.length : Int) then (broadsheetlaw14_QualityWhole.l3 k x0 x3 x6 (wrap64 (x7 + ((rdOf ByteArray.empty x6 x8).size : Int))) x8 0) else (none)) else (none))
def broadsheetlaw14_QualityWhole.l3 : Nat → ByteArray → Bool → List ByteArray → Int → Int → Int → Option (Bool)
  | 0, _, _, _, _, _, _ => none
  | k + 1, x0, x3, x6, x7, x8, x9 => if 0 ≤ x8 then (if x8 < (x6.length : Int) then (if x9 < ((rdOf ByteArray.empty x6 x8).size : Int) then (if 0 ≤ x9 then (if (bt (rdOf ByteArray.empty x6 x8) x9) = 44 then (some false) else (broadsheetlaw14_QualityWhole.l3 k x0 x3 x6 x7 x8 (wrap64 (x9 + 1)))) else (none)) else (broadsheetlaw14_QualityWhole.l1 k x0 x3 x6 x7 (wrap64 (x8 + 1)))) else (none)) else (none)
def broadsheetlaw14_QualityWhole.l2 : Nat → ByteArray → Bool → List ByteArray → Int → Int → Option (Bool)
  | 0, _, _, _, _, _ => none
  | k + 1, x0, x3, x6, x7, x8 => if x7 < (x0.size : Int) then (if 0 ≤ x8 then (if x8 < (x6.length : Int) then (if (wrap64 ((x0.size : Int) - x7)) < ((rdOf ByteArray.empty x6 x8).size : Int) then (broadsheetlaw14_QualityWhole.l2 k x0 x3 x6 (wrap64 (x7 + 1)) x8) else (if 0 ≤ x7 then (if x7 ≤ (wrap64 (x7 + ((rdOf ByteArray.empty x6 x8).size : Int))) then (if (wrap64 (x7 + ((rdOf ByteArray.empty x6 x8).size : Int))) ≤ (x0.size : Int) then (if (x0.extract (x7 : Int).toNat ((wrap64 (x7 + ((rdOf ByteArray.empty x6 x8).size : Int))) : Int).toNat).toList = (rdOf ByteArray.empty x6 x8).toList then (broadsheetlaw14_QualityWhole.j3 k x0 x3 x6 x7 x8) else (broadsheetlaw14_QualityWhole.l2 k x0 x3 x6 (wrap64 (x7 + 1)) x8)) else (none)) else (none)) else (none))) else (none)) else (none)) else (broadsheetlaw14_QualityWhole.j3 k x0 x3 x6 x7 x8)
end
def broadsheetlaw14_QualityWhole.f (k : Nat) (a0 : ByteArray) : Option (Bool) := (broadsheetlaw14_awake.f k).bind fun t195 => (if t195 = true then (broadsheetlaw14_QualityWhole.l0 k a0 t195 0 0) else (some false))
set_option maxHeartbeats 8000000 in
set_option maxRecDepth 100000 in
theorem broadsheetlaw14_QualityWhole.calls (k : Nat) (a0 : ByteArray) (r : Bool) (w : World) (hG : Glob w) (h : broadsheetlaw14_QualityWhole.f k a0 = some r) :
  Calls Tryd.prog 4 #[.string a0] w fun e w' => e = .returned (.bool r) ∧ Below w.heap.size w w' := by
 have HB := Aside0.mk (Below.refl w.heap.size w)
 have hGA := Aside0.mk hG
 clear hG
 have H : ((broadsheetlaw14_awake.f k).bind fun t195 => (if t195 = true then (broadsheetlaw14_QualityWhole.l0 k a0 t195 0 0) else (some false))) = some r := h
 clear h
 replace H := Option.bind_eq_some_iff.mp H
 obtain ⟨t195, A20, H⟩ := H
 replace H : (if t195 = true then (broadsheetlaw14_QualityWhole.l0 k a0 t195 0 0) else (some false)) = some r := H
 have A2 := Aside0.mk A20
 clear A20
 by_cases c3 : t195 = true
 ·subst c3
  replace H : (broadsheetlaw14_QualityWhole.l0 k a0 true 0 0) = some r := by rw [if_pos rfl] at H; exact H
  have H' := Aside0.mk H
  clear H
  go_enter Tryd.func4, Tryd.ntmps4
  go_wp2_with (first | (go_at_call 8; (with_reducible refine (broadsheetlaw14_awake.calls k  true _ ?side1 A2.out).mono ?_); (case side1 => exact Glob.below hGA.out zb0); rintro e w4 ⟨rfl, hb⟩; have n0_ := Aside0.mk (below_step zb0 hb); clear HB; have HB := n0_; clear n0_; (try clear hb); (try clear hb2); (try clear hk); (try clear hi)))
  repeat (go_quiet (first | (go_at_call 8; (with_reducible refine (broadsheetlaw14_awake.calls k  true _ ?side1 A2.out).mono ?_); (case side1 => exact Glob.below hGA.out zb0); rintro e w4 ⟨rfl, hb⟩; have n0_ := Aside0.mk (below_step zb0 hb); clear HB; have HB := n0_; clear n0_; (try clear hb); (try clear hb2); (try clear hk); (try clear hi))); try go_wp2_with (first | (go_at_call 8; (with_reducible refine (broadsheetlaw14_awake.calls k  true _ ?side1 A2.out).mono ?_); (case side1 => exact Glob.below hGA.out zb0); rintro e w4 ⟨rfl, hb⟩; have n0_ := Aside0.mk (below_step zb0 hb); clear HB; have HB := n0_; clear n0_; (try clear hb); (try clear hb2); (try clear hk); (try clear hi))))
  first | go_loopg [4, 5] k (fun kq v4 v5 w' => ∃ (x4_1 : Int) (x5_1 : Int), v4 = .int .i64 x4_1 ∧ v5 = .int .i64 x5_1 ∧ Aside0 (broadsheetlaw14_QualityWhole.l0 kq a0 true x4_1 x5_1 = some r) ∧ Aside0 (kq ≤ k) ∧ Aside0 (Below w.heap.size w w')) | (go_simp; go_loopg [4, 5] k (fun kq v4 v5 w' => ∃ (x4_1 : Int) (x5_1 : Int), v4 = .int .i64 x4_1 ∧ v5 = .int .i64 x5_1 ∧ Aside0 (broadsheetlaw14_QualityWhole.l0 kq a0 true x4_1 x5_1 = some r) ∧ Aside0 (kq ≤ k) ∧ Aside0 (Below w.heap.size w w')))
  case atStart => exact ⟨(0), (0), zb12, zb12, H', ⟨Nat.le_refl _⟩, ⟨by repeat (first | (with_reducible first | exact HB.out | apply below_alloc | apply pw_below_drewN | apply below_drew1) | exact HB.out)⟩⟩
  case round =>
   clear H'
   try clear p2
   try clear c3
   try clear c4
   obtain ⟨x4_1, x5_1, rfl, rfl, HA, HK1, HB⟩ := hrel
   cases gk with
   | zero => exact absurd HA.out (by simp [broadsheetlaw14_QualityWhole.l0])
   | succ k1 =>
    have H := HA.out
    clear HA
    simp only [broadsheetlaw14_QualityWhole.l0] at H
    by_cases c5 : x5_1 < (a0.size : Int)
    ·rw [if_pos c5] at H
     have c5b0 : decide (x5_1 < (a0.size : Int)) = true := decide_eq_true c5
     clear c5
     by_cases c6 : 0 ≤ x5_1
     ·rw [if_pos c6] at H
      have c6b0 : decide (0 ≤ x5_1) = true := decide_eq_true c6
      clear c6
      by_cases c8 : (bt a0 x5_1) = 34
      ·rw [if_pos c8] at H
       have c8b0 : ((bt a0 x5_1) == 34) = true := beq_iff_eq.mpr c8
       have c8b1 : ((bt a0 x5_1) != 34) = false := bne_eq_false_iff_eq.mpr c8
       clear c8
       obtain rfl := Option.some.inj H
       have p7 : 0 ≤ (x5_1 : Int) := of_decide_eq_true zb6
       have q7 : x5_1 < (a0.size : Int) := of_decide_eq_true zb6
       have hx7 := bt_at a0 x5_1
       replace p7 := eq_true p7
       replace q7 := eq_true q7
       go_wp2
       repeat (go_quiet (fail); try go_wp2)
       go_ret
       exact ⟨zb10, zb0⟩
      ·rw [if_neg c8] at H
       have c8b0 : ((bt a0 x5_1) == 34) = false := beq_eq_false_iff_ne.mpr c8
       have c8b1 : ((bt a0 x5_1) != 34) = true := bne_iff_ne.mpr c8
       by_cases c10 : (bt a0 x5_1) = 44
       ·rw [if_pos c10] at H
        have c10b0 : ((bt a0 x5_1) == 44) = true := beq_iff_eq.mpr c10
        have c10b1 : ((bt a0 x5_1) != 44) = false := bne_eq_false_iff_eq.mpr c10
        clear c10
        have H' := Aside0.mk H
        clear H
        have p7 : 0 ≤ (x5_1 : Int) := of_decide_eq_true zb6
        have q7 : x5_1 < (a0.size : Int) := of_decide_eq_true zb6
        have hx7 := bt_at a0 x5_1
        replace p7 := eq_true p7
        replace q7 := eq_true q7
        have p9 : 0 ≤ (x5_1 : Int) := of_decide_eq_true zb6
        have q9 : x5_1 < (a0.size : Int) := of_decide_eq_true zb6
        have hx9 := bt_at a0 x5_1
        replace p9 := eq_true p9
        replace q9 := eq_true q9
        go_wp2
        repeat (go_quiet (fail); try go_wp2)
        go_roundg k1
        case measure => have := HK1.out; omega
        case rel => exact ⟨(wrap64 (x4_1 + 1)), (wrap64 (x5_1 + 1)), zb12, zb12, H', ⟨by have := HK1.out; omega⟩, ⟨by repeat (first | (with_reducible first | exact HB.out | apply below_alloc | apply pw_below_drewN | apply below_drew1) | exact HB.out)⟩⟩
       ·rw [if_neg c10] at H
        have c10b0 : ((bt a0 x5_1) == 44) = false := beq_eq_false_iff_ne.mpr c10
        have c10b1 : ((bt a0 x5_1) != 44) = true := bne_iff_ne.mpr c10
        have H' := Aside0.mk H
        clear H
        have p7 : 0 ≤ (x5_1 : Int) := of_decide_eq_true zb6
        have q7 : x5_1 < (a0.size : Int) := of_decide_eq_true zb6
        have hx7 := bt_at a0 x5_1
        replace p7 := eq_true p7
        replace q7 := eq_true q7
        have p9 : 0 ≤ (x5_1 : Int) := of_decide_eq_true zb6
        have q9 : x5_1 < (a0.size : Int) := of_decide_eq_true zb6
        have hx9 := bt_at a0 x5_1
        replace p9 := eq_true p9
        replace q9 := eq_true q9
        go_wp2
        repeat (go_quiet (fail); try go_wp2)
        go_roundg k1
        case measure => have := HK1.out; omega
        case rel => exact ⟨(x4_1), (wrap64 (x5_1 + 1)), zb12, zb12, H', ⟨by have := HK1.out; omega⟩, ⟨by repeat (first | (with_reducible first | exact HB.out | apply below_alloc | apply pw_below_drewN | apply below_drew1) | exact HB.out)⟩⟩
     ·rw [if_neg c6] at H
      exact absurd H (by simp)
    ·rw [if_neg c5] at H
     have c5b0 : decide (x5_1 < (a0.size : Int)) = false := decide_eq_false c5
     clear c5
     by_cases c11 : (a0.size : Int) > 2000
     ·rw [if_pos c11] at H
      have c11b0 : decide (2000 < (a0.size : Int)) = true := decide_eq_true c11
      have c11b1 : decide (2000 < a0.size) = true := decide_eq_true zb37
      clear c11
      obtain rfl := Option.some.inj H
      go_wp2
      repeat (go_quiet (fail); try go_wp2)
      go_ret
      exact ⟨zb10, zb0⟩
     ·rw [if_neg c11] at H
      have c11b0 : decide (2000 < (a0.size : Int)) = false := decide_eq_false c11
      have c11b1 : decide (2000 < a0.size) = false := decide_eq_false zb37
      clear c11
      replace H := Option.bind_eq_some_iff.mp H
      obtain ⟨t196, A120, H⟩ := H
      replace H : (if (t196.length : Int) > (wrap64 (x4_1 + 1)) then (some false) else (broadsheetlaw14_QualityWhole.l1 k1 a0 true t196 0 0)) = some r := H
      have A12 := Aside0.mk A120
      clear A120
      by_cases c13 : (t196.length : Int) > (wrap64 (x4_1 + 1))
      ·rw [if_pos c13] at H
       have c13b0 : decide ((wrap64 (x4_1 + 1)) < (t196.length : Int)) = true := decide_eq_true c13
       clear c13
       obtain rfl := Option.some.inj H
       go_wp2_with (first | (go_at_call 10; (with_reducible refine (quality_Split.calls a0 t196 _ A12.out).mono ?_); rintro e w14 ⟨v197, rfl, ho0, hb⟩; have n0_ := Aside0.mk (Kd.R_lower ho0 (below_size zb0)); have n1_ := Aside0.mk (below_step zb0 hb); clear HB; have HO198 := n0_; have HB := n1_; clear n0_ n1_; (try clear hb); (try clear hb2); (try clear hk); (try clear hi); (try clear ho0); obtain ⟨Ao15, co15, eo15⟩ := Kd.R_slice HO198.out; subst eo15))
       repeat (go_quiet (first | (go_at_call 10; (with_reducible refine (quality_Split.calls a0 t196 _ A12.out).mono ?_); rintro e w14 ⟨v197, rfl, ho0, hb⟩; have n0_ := Aside0.mk (Kd.R_lower ho0 (below_size zb0)); have n1_ := Aside0.mk (below_step zb0 hb); clear HB; have HO198 := n0_; have HB := n1_; clear n0_ n1_; (try clear hb); (try clear hb2); (try clear hk); (try clear hi); (try clear ho0); obtain ⟨Ao15, co15, eo15⟩ := Kd.R_slice HO198.out; subst eo15)); try go_wp2_with (first | (go_at_call 10; (with_reducible refine (quality_Split.calls a0 t196 _ A12.out).mono ?_); rintro e w14 ⟨v197, rfl, ho0, hb⟩; have n0_ := Aside0.mk (Kd.R_lower ho0 (below_size zb0)); have n1_ := Aside0.mk (below_step zb0 hb); clear HB; have HO198 := n0_; have HB := n1_; clear n0_ n1_; (try clear hb); (try clear hb2); (try clear hk); (try clear hi); (try clear ho0); obtain ⟨Ao15, co15, eo15⟩ := Kd.R_slice HO198.out; subst eo15)))
       go_ret
       exact ⟨zb10, zb0⟩
      ·rw [if_neg c13] at H
       have c13b0 : decide ((wrap64 (x4_1 + 1)) < (t196.length : Int)) = false := decide_eq_false c13
       clear c13
       have H' := Aside0.mk H
       clear H
       go_wp2_with (first | (go_at_call 10; (with_reducible refine (quality_Split.calls a0 t196 _ A12.out).mono ?_); rintro e w16 ⟨v197, rfl, ho0, hb⟩; have n0_ := Aside0.mk (Kd.R_lower ho0 (below_size zb0)); have n1_ := Aside0.mk (below_step zb0 hb); clear HB; have HO198 := n0_; have HB := n1_; clear n0_ n1_; (try clear hb); (try clear hb2); (try clear hk); (try clear hi); (try clear ho0); obtain ⟨Ao17, co17, eo17⟩ := Kd.R_slice HO198.out; subst eo17))
       repeat (go_quiet (first | (go_at_call 10; (with_reducible refine (quality_Split.calls a0 t196 _ A12.out).mono ?_); rintro e w16 ⟨v197, rfl, ho0, hb⟩; have n0_ := Aside0.mk (Kd.R_lower ho0 (below_size zb0)); have n1_ := Aside0.mk (below_step zb0 hb); clear HB; have HO198 := n0_; have HB := n1_; clear n0_ n1_; (try clear hb); (try clear hb2); (try clear hk); (try clear hi); (try clear ho0); obtain ⟨Ao17, co17, eo17⟩ := Kd.R_slice HO198.out; subst eo17)); try go_wp2_with (first | (go_at_call 10; (with_reducible refine (quality_Split.calls a0 t196 _ A12.out).mono ?_); rintro e w16 ⟨v197, rfl, ho0, hb⟩; have n0_ := Aside0.mk (Kd.R_lower ho0 (below_size zb0)); have n1_ := Aside0.mk (below_step zb0 hb); clear HB; have HO198 := n0_; have HB := n1_; clear n0_ n1_; (try clear hb); (try clear hb2); (try clear hk); (try clear hi); (try clear ho0); obtain ⟨Ao17, co17, eo17⟩ := Kd.R_slice HO198.out; subst eo17)))
       first | go_loopg [7, 8] k1 (fun kq v7 v8 w' => ∃ (x7_2 : Int) (x8_2 : Int), v7 = .int .i64 x7_2 ∧ v8 = .int .i64 x8_2 ∧ Aside0 (broadsheetlaw14_QualityWhole.l1 kq a0 true t196 x7_2 x8_2 = some r) ∧ Aside0 (kq ≤ k1) ∧ Aside0 (Kd.R Kd.string 9 w' w.heap.size (fun _ => True) (.slice Ao17 t196.length co17) t196) ∧ Aside0 (Below w.heap.size w w')) | (go_simp; go_loopg [7, 8] k1 (fun kq v7 v8 w' => ∃ (x7_2 : Int) (x8_2 : Int), v7 = .int .i64 x7_2 ∧ v8 = .int .i64 x8_2 ∧ Aside0 (broadsheetlaw14_QualityWhole.l1 kq a0 true t196 x7_2 x8_2 = some r) ∧ Aside0 (kq ≤ k1) ∧ Aside0 (Kd.R Kd.string 9 w' w.heap.size (fun _ => True) (.slice Ao17 t196.length co17) t196) ∧ Aside0 (Below w.heap.size w w')))
       case atStart => exact ⟨(0), (0), zb12, zb12, H', ⟨Nat.le_refl _⟩, ⟨by (with_reducible repeat (first | apply Kd.R_alloc | apply Kd.R_drewN | apply Kd.R_drew)); exact HO198.out⟩, ⟨by repeat (first | (with_reducible first | exact HB.out | apply below_alloc | apply pw_below_drewN | apply below_drew1) | exact HB.out)⟩⟩
       case round =>
        clear H'
        try clear c1
        try clear p2
        try clear c3
        try clear c4
        try clear c5
        try clear c5b0
        try clear c6
        try clear c6b0
        try clear p6
        try clear p7
        try clear q7
        try clear hx7
        try clear c8
        try clear c8b0
        try clear c8b1
        try clear p9
        try clear q9
        try clear hx9
        try clear c10
        try clear c10b0
        try clear c10b1
        try clear c11
        try clear c11b0
        try clear c11b1
        try clear c13
        try clear c13b0
        try clear p2
        try clear p7
        try clear p9
        try clear q7
        try clear q9
        obtain ⟨x7_2, x8_2, rfl, rfl, HA, HK2, HO_6, HB⟩ := hrel
        cases gk with
        | zero => exact absurd HA.out (by simp [broadsheetlaw14_QualityWhole.l1])
        | succ k2 =>
         have H := HA.out
         clear HA
         simp only [broadsheetlaw14_QualityWhole.l1] at H
         by_cases c18 : x8_2 < (t196.length : Int)
         ·rw [if_pos c18] at H
          have c18b0 : decide (x8_2 < (t196.length : Int)) = true := decide_eq_true c18
          clear c18
          have HC19 := Aside0.mk H
          clear H
          go_upto_block 4 with (fail)
          repeat (go_quiet (fail); go_upto_block 4 with (fail))
          go_cut [7] (fun v7 wc => ∃ (kq : Nat) (x7_18 : Int), v7 = .int .i64 x7_18 ∧ Aside0 (broadsheetlaw14_QualityWhole.j3 kq a0 true t196 x7_18 x8_2 = some r) ∧ Aside0 (kq ≤ k2) ∧ Aside0 (Kd.R Kd.string 9 wc w.heap.size (fun _ => True) (.slice Ao17 t196.length co17) t196) ∧ Aside0 (Below w.heap.size w wc))
          case first =>
           have H := HC19.out
           clear HC19
           have H' := Aside0.mk H
           clear H
           go_wp2
           repeat (go_quiet (fail); try go_wp2)
           first | go_loopg [7] k2 (fun kq v7 w' => ∃ (x7_3 : Int), v7 = .int .i64 x7_3 ∧ Aside0 (broadsheetlaw14_QualityWhole.l2 kq a0 true t196 x7_3 x8_2 = some r) ∧ Aside0 (kq ≤ k2) ∧ Aside0 (Kd.R Kd.string 9 w' w.heap.size (fun _ => True) (.slice Ao17 t196.length co17) t196) ∧ Aside0 (Below w.heap.size w w')) | (go_simp; go_loopg [7] k2 (fun kq v7 w' => ∃ (x7_3 : Int), v7 = .int .i64 x7_3 ∧ Aside0 (broadsheetlaw14_QualityWhole.l2 kq a0 true t196 x7_3 x8_2 = some r) ∧ Aside0 (kq ≤ k2) ∧ Aside0 (Kd.R Kd.string 9 w' w.heap.size (fun _ => True) (.slice Ao17 t196.length co17) t196) ∧ Aside0 (Below w.heap.size w w')))
           case atStart => exact ⟨(x7_2), zb12, H', ⟨Nat.le_refl _⟩, ⟨by (with_reducible repeat (first | apply Kd.R_alloc | apply Kd.R_drewN | apply Kd.R_drew)); exact HO_6.out⟩, ⟨by repeat (first | (with_reducible first | exact HB.out | apply below_alloc | apply pw_below_drewN | apply below_drew1) | exact HB.out)⟩⟩
           case round =>
            clear H'
            try clear c1
            try clear p2
            try clear c3
            try clear c4
            try clear c5
            try clear c5b0
            try clear c6
            try clear c6b0
            try clear p6
            try clear p7
            try clear q7
            try clear hx7
            try clear c8
            try clear c8b0
            try clear c8b1
            try clear p9
            try clear q9
            try clear hx9
            try clear c10
            try clear c10b0
            try clear c10b1
            try clear c11
            try clear c11b0
            try clear c11b1
            try clear c13
            try clear c13b0
            try clear c18
            try clear c18b0
            try clear p2
            try clear p6
            try clear p7
            try clear p9
            try clear q7
            try clear q9
            obtain ⟨x7_3, rfl, HA, HK3, HO_6, HB⟩ := hrel
            cases gk with
            | zero => exact absurd HA.out (by simp [broadsheetlaw14_QualityWhole.l2])
            | succ k3 =>
             have H := HA.out
             clear HA
             simp only [broadsheetlaw14_QualityWhole.l2] at H
             by_cases c20 : x7_3 < (a0.size : Int)
             ·rw [if_pos c20] at H
              have c20b0 : decide (x7_3 < (a0.size : Int)) = true := decide_eq_true c20
              clear c20
              (first | rw [c20b0] | (simp only [i64_w, i32_w]; rw [c20b0]) | skip)
              by_cases c21 : 0 ≤ x8_2
              ·rw [if_pos c21] at H
               have c21b0 : decide (0 ≤ x8_2) = true := decide_eq_true c21
               clear c21
               by_cases c22 : x8_2 < (t196.length : Int)
               ·rw [if_pos c22] at H
                have c22b0 : decide (x8_2 < (t196.length : Int)) = true := decide_eq_true c22
                clear c22
                by_cases c23 : (wrap64 ((a0.size : Int) - x7_3)) < ((rdOf ByteArray.empty t196 x8_2).size : Int)
                ·rw [if_pos c23] at H
                 have c23b0 : decide ((wrap64 ((a0.size : Int) - x7_3)) < ((rdOf ByteArray.empty t196 x8_2).size : Int)) = true := decide_eq_true c23
                 clear c23
                 have H' := Aside0.mk H
                 clear H
                 have p199 : 0 ≤ (x8_2 : Int) := of_decide_eq_true zb6
                 have q199 : x8_2 < (t196.length : Int) := of_decide_eq_true zb6
                 obtain ⟨ad199, e199, hx199_0⟩ := Kd.at_string (Kd.R_reads' HO_6.out).2.2 x8_2 p199 q199
                 cases e199
                 replace p199 := eq_true p199
                 replace q199 := eq_true q199
                 go_wp2
                 repeat (go_quiet (fail); try go_wp2)
                 go_roundg k3
                 case measure => have := HK1.out; have := HK2.out; have := HK3.out; omega
                 case rel => exact ⟨(wrap64 (x7_3 + 1)), zb12, H', ⟨by have := HK1.out; have := HK2.out; have := HK3.out; omega⟩, ⟨by (with_reducible repeat (first | apply Kd.R_alloc | apply Kd.R_drewN | apply Kd.R_drew)); exact HO_6.out⟩, ⟨by repeat (first | (with_reducible first | exact HB.out | apply below_alloc | apply pw_below_drewN | apply below_drew1) | exact HB.out)⟩⟩
                ·rw [if_neg c23] at H
                 have c23b0 : decide ((wrap64 ((a0.size : Int) - x7_3)) < ((rdOf ByteArray.empty t196 x8_2).size : Int)) = false := decide_eq_false c23
                 clear c23
                 by_cases c24 : 0 ≤ x7_3
                 ·rw [if_pos c24] at H
                  have c24b0 := eq_true c24
                  have c24b1 : decide (0 ≤ x7_3) = true := decide_eq_true c24
                  clear c24
                  by_cases c25 : x7_3 ≤ (wrap64 (x7_3 + ((rdOf ByteArray.empty t196 x8_2).size : Int)))
                  ·rw [if_pos c25] at H
                   have c25b0 := eq_true c25
                   have c25b1 : decide (x7_3 ≤ (wrap64 (x7_3 + ((rdOf ByteArray.empty t196 x8_2).size : Int)))) = true := decide_eq_true c25
                   by_cases c26 : (wrap64 (x7_3 + ((rdOf ByteArray.empty t196 x8_2).size : Int))) ≤ (a0.size : Int)
                   ·rw [if_pos c26] at H
                    have c26b0 := eq_true c26
                    have c26b1 : decide ((wrap64 (x7_3 + ((rdOf ByteArray.empty t196 x8_2).size : Int))) ≤ (a0.size : Int)) = true := decide_eq_true c26
                    by_cases c27 : (a0.extract (x7_3 : Int).toNat ((wrap64 (x7_3 + ((rdOf ByteArray.empty t196 x8_2).size : Int))) : Int).toNat).toList = (rdOf ByteArray.empty t196 x8_2).toList
                    ·rw [if_pos c27] at H
                     have c27b0 : ((a0.extract (x7_3 : Int).toNat ((wrap64 (x7_3 + ((rdOf ByteArray.empty t196 x8_2).size : Int))) : Int).toNat).toList == (rdOf ByteArray.empty t196 x8_2).toList) = true := beq_iff_eq.mpr c27
                     have c27b1 : ((a0.extract (x7_3 : Int).toNat ((wrap64 (x7_3 + ((rdOf ByteArray.empty t196 x8_2).size : Int))) : Int).toNat).toList != (rdOf ByteArray.empty t196 x8_2).toList) = false := bne_eq_false_iff_eq.mpr c27
                     clear c27
                     have H' := Aside0.mk H
                     clear H
                     have p199 : 0 ≤ (x8_2 : Int) := of_decide_eq_true zb6
                     have q199 : x8_2 < (t196.length : Int) := of_decide_eq_true zb6
                     obtain ⟨ad199, e199, hx199_0⟩ := Kd.at_string (Kd.R_reads' HO_6.out).2.2 x8_2 p199 q199
                     cases e199
                     replace p199 := eq_true p199
                     replace q199 := eq_true q199
                     have p200 : 0 ≤ (x8_2 : Int) := of_decide_eq_true zb6
                     have q200 : x8_2 < (t196.length : Int) := of_decide_eq_true zb6
                     obtain ⟨ad200, e200, hx200_0⟩ := Kd.at_string (Kd.R_reads' HO_6.out).2.2 x8_2 p200 q200
                     obtain rfl : ad199 = ad200 := (by injection e200)
                     replace p200 := eq_true p200
                     replace q200 := eq_true q200
                     have p201 : 0 ≤ (x8_2 : Int) := of_decide_eq_true zb6
                     have q201 : x8_2 < (t196.length : Int) := of_decide_eq_true zb6
                     obtain ⟨ad201, e201, hx201_0⟩ := Kd.at_string (Kd.R_reads' HO_6.out).2.2 x8_2 p201 q201
                     obtain rfl : ad199 = ad201 := (by injection e201)
                     replace p201 := eq_true p201
                     replace q201 := eq_true q201
                     go_wp2
                     repeat (go_quiet (fail); try go_wp2)
                     go_meet
                     case rel => exact ⟨_, (x7_3), zb12, H', ⟨by have := HK1.out; have := HK2.out; have := HK3.out; first | omega | exact Nat.le_refl _⟩, ⟨by (with_reducible repeat (first | apply Kd.R_alloc | apply Kd.R_drewN | apply Kd.R_drew)); exact HO_6.out⟩, ⟨by repeat (first | (with_reducible first | exact HB.out | apply below_alloc | apply pw_below_drewN | apply below_drew1) | exact HB.out)⟩⟩
                    ·rw [if_neg c27] at H
                     have c27b0 : ((a0.extract (x7_3 : Int).toNat ((wrap64 (x7_3 + ((rdOf ByteArray.empty t196 x8_2).size : Int))) : Int).toNat).toList == (rdOf ByteArray.empty t196 x8_2).toList) = false := beq_eq_false_iff_ne.mpr c27
                     have c27b1 : ((a0.extract (x7_3 : Int).toNat ((wrap64 (x7_3 + ((rdOf ByteArray.empty t196 x8_2).size : Int))) : Int).toNat).toList != (rdOf ByteArray.empty t196 x8_2).toList) = true := bne_iff_ne.mpr c27
                     have H' := Aside0.mk H
                     clear H
                     have p199 : 0 ≤ (x8_2 : Int) := of_decide_eq_true zb6
                     have q199 : x8_2 < (t196.length : Int) := of_decide_eq_true zb6
                     obtain ⟨ad199, e199, hx199_0⟩ := Kd.at_string (Kd.R_reads' HO_6.out).2.2 x8_2 p199 q199
                     cases e199
                     replace p199 := eq_true p199
                     replace q199 := eq_true q199
                     have p200 : 0 ≤ (x8_2 : Int) := of_decide_eq_true zb6
                     have q200 : x8_2 < (t196.length : Int) := of_decide_eq_true zb6
                     obtain ⟨ad200, e200, hx200_0⟩ := Kd.at_string (Kd.R_reads' HO_6.out).2.2 x8_2 p200 q200
                     obtain rfl : ad199 = ad200 := (by injection e200)
                     replace p200 := eq_true p200
                     replace q200 := eq_true q200
                     have p201 : 0 ≤ (x8_2 : Int) := of_decide_eq_true zb6
                     have q201 : x8_2 < (t196.length : Int) := of_decide_eq_true zb6
                     obtain ⟨ad201, e201, hx201_0⟩ := Kd.at_string (Kd.R_reads' HO_6.out).2.2 x8_2 p201 q201
                     obtain rfl : ad199 = ad201 := (by injection e201)
                     replace p201 := eq_true p201
                     replace q201 := eq_true q201
                     go_wp2
                     repeat (go_quiet (fail); try go_wp2)
                     go_roundg k3
                     case measure => have := HK1.out; have := HK2.out; have := HK3.out; omega
                     case rel => exact ⟨(wrap64 (x7_3 + 1)), zb12, H', ⟨by have := HK1.out; have := HK2.out; have := HK3.out; omega⟩, ⟨by (with_reducible repeat (first | apply Kd.R_alloc | apply Kd.R_drewN | apply Kd.R_drew)); exact HO_6.out⟩, ⟨by repeat (first | (with_reducible first | exact HB.out | apply below_alloc | apply pw_below_drewN | apply below_drew1) | exact HB.out)⟩⟩
                   ·rw [if_neg c26] at H
                    exact absurd H (by simp)
                  ·rw [if_neg c25] at H
                   exact absurd H (by simp)
                 ·rw [if_neg c24] at H
                  exact absurd H (by simp)
               ·rw [if_neg c22] at H
                exact absurd H (by simp)
              ·rw [if_neg c21] at H
               exact absurd H (by simp)
             ·rw [if_neg c20] at H
              have c20b0 : decide (x7_3 < (a0.size : Int)) = false := decide_eq_false c20
              clear c20
              (first | rw [c20b0] | (simp only [i64_w, i32_w]; rw [c20b0]) | skip)
              have H' := Aside0.mk H
              clear H
              go_wp2
              repeat (go_quiet (fail); try go_wp2)
              go_meet
              case rel => exact ⟨_, (x7_3), zb12, H', ⟨by have := HK1.out; have := HK2.out; have := HK3.out; first | omega | exact Nat.le_refl _⟩, ⟨by (with_reducible repeat (first | apply Kd.R_alloc | apply Kd.R_drewN | apply Kd.R_drew)); exact HO_6.out⟩, ⟨by repeat (first | (with_reducible first | exact HB.out | apply below_alloc | apply pw_below_drewN | apply below_drew1) | exact HB.out)⟩⟩
          case rest =>
           clear HC19
           try clear c1
           try clear p1
           try clear q1
           try clear hx1
           try clear c2
           try clear p2
           try clear q2
           try clear hx2
           try clear c3
           try clear c4
           try clear c5
           try clear c5b0
           try clear c6
           try clear c6b0
           try clear p6
           try clear p7
           try clear q7
           try clear hx7
           try clear c8
           try clear c8b0
           try clear c8b1
           try clear p9
           try clear q9
           try clear hx9
           try clear c10
           try clear c10b0
           try clear c10b1
           try clear c11
           try clear c11b0
           try clear c11b1
           try clear c13
           try clear c13b0
           try clear c18
           try clear c18b0
           try clear p19
           try clear q19
           try clear hx19
           try clear c20
           try clear c20b0
           try clear p20
           try clear q20
           try clear hx20
           try clear c21
           try clear c21b0
           try clear c22
           try clear c22b0
           try clear c23
           try clear c23b0
           try clear c24
           try clear c24b0
           try clear c24b1
           try clear c25
           try clear c25b0
           try clear c25b1
           try clear c26
           try clear c26b0
           try clear c26b1
           try clear c27
           try clear c27b0
           try clear c27b1
           try clear hx199_0
           try clear hx200_0
           try clear hx201_0
           try clear p199
           try clear p2
           try clear p200
           try clear p201
           try clear p6
           try clear p7
           try clear p9
           try clear q199
           try clear q200
           try clear q201
           try clear q7
           try clear q9
           obtain ⟨kq, x7_18, rfl, HA, HJ18, HO_6, HB⟩ := hcut
           cases kq with
           | zero => exact absurd HA.out (by simp [broadsheetlaw14_QualityWhole.j3])
           | succ kj18 =>
            have H := HA.out
            clear HA
            simp only [broadsheetlaw14_QualityWhole.j3] at H
            have HC28 := Aside0.mk H
            clear H
            go_upto_region 23 with (fail)
            repeat (go_quiet (fail); go_upto_region 23 with (fail))
            go_cut [92] (fun v92 wc => ∃ (kq : Nat) (x92_27 : Bool), v92 = .bool x92_27 ∧ Aside0 (broadsheetlaw14_QualityWhole.j4 kq a0 true t196 x7_18 x8_2 x92_27 = some r) ∧ Aside0 (kq ≤ kj18) ∧ Aside0 (Kd.R Kd.string 9 wc w.heap.size (fun _ => True) (.slice Ao17 t196.length co17) t196) ∧ Aside0 (Below w.heap.size w wc))
            case first =>
             have H := HC28.out
             clear HC28
             by_cases c29 : x7_18 ≥ (a0.size : Int)
             ·rw [if_pos c29] at H
              have c29b0 : decide ((a0.size : Int) ≤ x7_18) = true := decide_eq_true c29
              clear c29
              (first | rw [c29b0] | (simp only [i64_w, i32_w]; rw [c29b0]) | skip)
              have H' := Aside0.mk H
              clear H
              go_wp2
              repeat (go_quiet (fail); try go_wp2)
              go_meet
              case rel => exact ⟨_, (true), zb12, H', ⟨by have := HK1.out; have := HK2.out; have := HJ18.out; first | omega | exact Nat.le_refl _⟩, ⟨by (with_reducible repeat (first | apply Kd.R_alloc | apply Kd.R_drewN | apply Kd.R_drew)); exact HO_6.out⟩, ⟨by repeat (first | (with_reducible first | exact HB.out | apply below_alloc | apply pw_below_drewN | apply below_drew1) | exact HB.out)⟩⟩
             ·rw [if_neg c29] at H
              have c29b0 : decide ((a0.size : Int) ≤ x7_18) = false := decide_eq_false c29
              clear c29
              (first | rw [c29b0] | (simp only [i64_w, i32_w]; rw [c29b0]) | skip)
              by_cases c30 : 0 ≤ x8_2
              ·rw [if_pos c30] at H
               have c30b0 : decide (0 ≤ x8_2) = true := decide_eq_true c30
               clear c30
               by_cases c31 : x8_2 < (t196.length : Int)
               ·rw [if_pos c31] at H
                have c31b0 : decide (x8_2 < (t196.length : Int)) = true := decide_eq_true c31
                clear c31
                have H' := Aside0.mk H
                clear H
                have p202 : 0 ≤ (x8_2 : Int) := of_decide_eq_true zb6
                have q202 : x8_2 < (t196.length : Int) := of_decide_eq_true zb6
                obtain ⟨ad202, e202, hx202_0⟩ := Kd.at_string (Kd.R_reads' HO_6.out).2.2 x8_2 p202 q202
                cases e202
                replace p202 := eq_true p202
                replace q202 := eq_true q202
                go_wp2
                repeat (go_quiet (fail); try go_wp2)
                go_meet
                case rel => exact ⟨_, (((rdOf ByteArray.empty t196 x8_2).toList == ([] : List UInt8))), zb12, H', ⟨by have := HK1.out; have := HK2.out; have := HJ18.out; first | omega | exact Nat.le_refl _⟩, ⟨by (with_reducible repeat (first | apply Kd.R_alloc | apply Kd.R_drewN | apply Kd.R_drew)); exact HO_6.out⟩, ⟨by repeat (first | (with_reducible first | exact HB.out | apply below_alloc | apply pw_below_drewN | apply below_drew1) | exact HB.out)⟩⟩
               ·rw [if_neg c31] at H
                exact absurd H (by simp)
              ·rw [if_neg c30] at H
               exact absurd H (by simp)
            case rest =>
             clear HC28
             try clear c1
             try clear p1
             try clear q1
             try clear hx1
             try clear c2
             try clear p2
             try clear q2
             try clear hx2
             try clear c3
             try clear c4
             try clear c5
             try clear c5b0
             try clear c6
             try clear c6b0
             try clear p6
             try clear p7
             try clear q7
             try clear hx7
             try clear c8
             try clear c8b0
             try clear c8b1
             try clear p9
             try clear q9
             try clear hx9
             try clear c10
             try clear c10b0
             try clear c10b1
             try clear c11
             try clear c11b0
             try clear c11b1
             try clear c13
             try clear c13b0
             try clear c18
             try clear c18b0
             try clear p19
             try clear q19
             try clear hx19
             try clear c20
             try clear c20b0
             try clear p20
             try clear q20
             try clear hx20
             try clear c21
             try clear c21b0
             try clear c22
             try clear c22b0
             try clear c23
             try clear c23b0
             try clear c24
             try clear c24b0
             try clear c24b1
             try clear c25
             try clear c25b0
             try clear c25b1
             try clear c26
             try clear c26b0
             try clear c26b1
             try clear c27
             try clear c27b0
             try clear c27b1
             try clear c29
             try clear c29b0
             try clear c30
             try clear c30b0
             try clear c31
             try clear c31b0
             try clear hx199_0
             try clear hx200_0
             try clear hx201_0
             try clear hx202_0
             try clear p1
             try clear p19
             try clear p199
             try clear p2
             try clear p20
             try clear p200
             try clear p201
             try clear p202
             try clear p6
             try clear p7
             try clear p9
             try clear q1
             try clear q19
             try clear q199
             try clear q2
             try clear q20
             try clear q200
             try clear q201
             try clear q202
             try clear q7
             try clear q9
             obtain ⟨kq, x92_27, rfl, HA, HJ27, HO_6, HB⟩ := hcut
             cases kq with
             | zero => exact absurd HA.out (by simp [broadsheetlaw14_QualityWhole.j4])
             | succ kj27 =>
              have H := HA.out
              clear HA
              simp only [broadsheetlaw14_QualityWhole.j4] at H
              by_cases c32 : x92_27 = true
              ·subst c32
               replace H : (some false) = some r := by rw [if_pos rfl] at H; exact H
               obtain rfl := Option.some.inj H
               go_wp2
               repeat (go_quiet (fail); try go_wp2)
               go_ret
               exact ⟨zb10, zb0⟩
              ·replace c32 := Bool.eq_false_iff.mpr c32
               subst c32
               replace H : (if 0 ≤ x8_2 then (if x8_2 < (t196.length : Int) then (broadsheetlaw14_QualityWhole.l3 kj27 a0 true t196 (wrap64 (x7_18 + ((rdOf ByteArray.empty t196 x8_2).size : Int))) x8_2 0) else (none)) else (none)) = some r := by rw [if_neg (show ¬ (false = true) by decide)] at H; exact H
               by_cases c33 : 0 ≤ x8_2
               ·rw [if_pos c33] at H
                have c33b0 : decide (0 ≤ x8_2) = true := decide_eq_true c33
                clear c33
                by_cases c34 : x8_2 < (t196.length : Int)
                ·rw [if_pos c34] at H
                 have c34b0 : decide (x8_2 < (t196.length : Int)) = true := decide_eq_true c34
                 clear c34
                 have H' := Aside0.mk H
                 clear H
                 have p203 : 0 ≤ (x8_2 : Int) := of_decide_eq_true zb6
                 have q203 : x8_2 < (t196.length : Int) := of_decide_eq_true zb6
                 obtain ⟨ad203, e203, hx203_0⟩ := Kd.at_string (Kd.R_reads' HO_6.out).2.2 x8_2 p203 q203
                 cases e203
                 replace p203 := eq_true p203
                 replace q203 := eq_true q203
                 go_wp2
                 repeat (go_quiet (fail); try go_wp2)
                 first | go_loopg [9] kj27 (fun kq v9 w' => ∃ (x9_5 : Int), v9 = .int .i64 x9_5 ∧ Aside0 (broadsheetlaw14_QualityWhole.l3 kq a0 true t196 (wrap64 (x7_18 + ((rdOf ByteArray.empty t196 x8_2).size : Int))) x8_2 x9_5 = some r) ∧ Aside0 (kq ≤ kj27) ∧ Aside0 (Kd.R Kd.string 9 w' w.heap.size (fun _ => True) (.slice (some ad203) t196.length co17) t196) ∧ Aside0 (Below w.heap.size w w')) | (go_simp; go_loopg [9] kj27 (fun kq v9 w' => ∃ (x9_5 : Int), v9 = .int .i64 x9_5 ∧ Aside0 (broadsheetlaw14_QualityWhole.l3 kq a0 true t196 (wrap64 (x7_18 + ((rdOf ByteArray.empty t196 x8_2).size : Int))) x8_2 x9_5 = some r) ∧ Aside0 (kq ≤ kj27) ∧ Aside0 (Kd.R Kd.string 9 w' w.heap.size (fun _ => True) (.slice (some ad203) t196.length co17) t196) ∧ Aside0 (Below w.heap.size w w')))
                 case atStart => exact ⟨(0), zb12, H', ⟨Nat.le_refl _⟩, ⟨by (with_reducible repeat (first | apply Kd.R_alloc | apply Kd.R_drewN | apply Kd.R_drew)); exact HO_6.out⟩, ⟨by repeat (first | (with_reducible first | exact HB.out | apply below_alloc | apply pw_below_drewN | apply below_drew1) | exact HB.out)⟩⟩
                 case round =>
                  clear H'
                  try clear c1
                  try clear p1
                  try clear q1
                  try clear hx1
                  try clear c2
                  try clear p2
                  try clear q2
                  try clear hx2
                  try clear c3
                  try clear c4
                  try clear c5
                  try clear c5b0
                  try clear c6
                  try clear c6b0
                  try clear p6
                  try clear p7
                  try clear q7
                  try clear hx7
                  try clear c8
                  try clear c8b0
                  try clear c8b1
                  try clear p9
                  try clear q9
                  try clear hx9
                  try clear c10
                  try clear c10b0
                  try clear c10b1
                  try clear c11
                  try clear c11b0
                  try clear c11b1
                  try clear c13
                  try clear c13b0
                  try clear c18
                  try clear c18b0
                  try clear p19
                  try clear q19
                  try clear hx19
                  try clear c20
                  try clear c20b0
                  try clear p20
                  try clear q20
                  try clear hx20
                  try clear c21
                  try clear c21b0
                  try clear c22
                  try clear c22b0
                  try clear c23
                  try clear c23b0
                  try clear c24
                  try clear c24b0
                  try clear c24b1
                  try clear c25
                  try clear c25b0
                  try clear c25b1
                  try clear c26
                  try clear c26b0
                  try clear c26b1
                  try clear c27
                  try clear c27b0
                  try clear c27b1
                  try clear c29
                  try clear c29b0
                  try clear c30
                  try clear c30b0
                  try clear c31
                  try clear c31b0
                  try clear c32
                  try clear c33
                  try clear c33b0
                  try clear c34
                  try clear c34b0
                  try clear hx199_0
                  try clear hx200_0
                  try clear hx201_0
                  try clear hx202_0
                  try clear hx203_0
                  try clear p1
                  try clear p19
                  try clear p199
                  try clear p2
                  try clear p20
                  try clear p200
                  try clear p201
                  try clear p202
                  try clear p203
                  try clear p6
                  try clear p7
                  try clear p9
                  try clear q1
                  try clear q19
                  try clear q199
                  try clear q2
                  try clear q20
                  try clear q200
                  try clear q201
                  try clear q202
                  try clear q203
                  try clear q7
                  try clear q9
                  obtain ⟨x9_5, rfl, HA, HK5, HO_6, HB⟩ := hrel
                  cases gk with
                  | zero => exact absurd HA.out (by simp [broadsheetlaw14_QualityWhole.l3])
                  | succ k5 =>
                   have H := HA.out
                   clear HA
                   simp only [broadsheetlaw14_QualityWhole.l3] at H
                   by_cases c35 : 0 ≤ x8_2
                   ·rw [if_pos c35] at H
                    have c35b0 : decide (0 ≤ x8_2) = true := decide_eq_true c35
                    clear c35
                    by_cases c36 : x8_2 < (t196.length : Int)
                    ·rw [if_pos c36] at H
                     have c36b0 : decide (x8_2 < (t196.length : Int)) = true := decide_eq_true c36
                     clear c36
                     by_cases c37 : x9_5 < ((rdOf ByteArray.empty t196 x8_2).size : Int)
                     ·rw [if_pos c37] at H
                      have c37b0 : decide (x9_5 < ((rdOf ByteArray.empty t196 x8_2).size : Int)) = true := decide_eq_true c37
                      clear c37
                      by_cases c38 : 0 ≤ x9_5
                      ·rw [if_pos c38] at H
                       have c38b0 : decide (0 ≤ x9_5) = true := decide_eq_true c38
                       clear c38
                       by_cases c40 : (bt (rdOf ByteArray.empty t196 x8_2) x9_5) = 44
                       ·rw [if_pos c40] at H
                        have c40b0 : ((bt (rdOf ByteArray.empty t196 x8_2) x9_5) == 44) = true := beq_iff_eq.mpr c40
                        have c40b1 : ((bt (rdOf ByteArray.empty t196 x8_2) x9_5) != 44) = false := bne_eq_false_iff_eq.mpr c40
                        clear c40
                        obtain rfl := Option.some.inj H
                        have p204 : 0 ≤ (x8_2 : Int) := of_decide_eq_true zb6
                        have q204 : x8_2 < (t196.length : Int) := of_decide_eq_true zb6
                        obtain ⟨ad204, e204, hx204_0⟩ := Kd.at_string (Kd.R_reads' HO_6.out).2.2 x8_2 p204 q204
                        obtain rfl : ad203 = ad204 := (by injection e204)
                        replace p204 := eq_true p204
                        replace q204 := eq_true q204
                        have p205 : 0 ≤ (x8_2 : Int) := of_decide_eq_true zb6
                        have q205 : x8_2 < (t196.length : Int) := of_decide_eq_true zb6
                        obtain ⟨ad205, e205, hx205_0⟩ := Kd.at_string (Kd.R_reads' HO_6.out).2.2 x8_2 p205 q205
                        obtain rfl : ad203 = ad205 := (by injection e205)
                        replace p205 := eq_true p205
                        replace q205 := eq_true q205
                        have p39 : 0 ≤ (x9_5 : Int) := of_decide_eq_true zb6
                        have q39 : x9_5 < ((rdOf ByteArray.empty t196 x8_2).size : Int) := of_decide_eq_true zb6
                        have hx39 := bt_at (rdOf ByteArray.empty t196 x8_2) x9_5
                        replace p39 := eq_true p39
                        replace q39 := eq_true q39
                        go_wp2
                        repeat (go_quiet (fail); try go_wp2)
                        go_ret
                        exact ⟨zb10, zb0⟩
                       ·rw [if_neg c40] at H
                        have c40b0 : ((bt (rdOf ByteArray.empty t196 x8_2) x9_5) == 44) = false := beq_eq_false_iff_ne.mpr c40
                        have c40b1 : ((bt (rdOf ByteArray.empty t196 x8_2) x9_5) != 44) = true := bne_iff_ne.mpr c40
                        have H' := Aside0.mk H
                        clear H
                        have p204 : 0 ≤ (x8_2 : Int) := of_decide_eq_true zb6
                        have q204 : x8_2 < (t196.length : Int) := of_decide_eq_true zb6
                        obtain ⟨ad204, e204, hx204_0⟩ := Kd.at_string (Kd.R_reads' HO_6.out).2.2 x8_2 p204 q204
                        obtain rfl : ad203 = ad204 := (by injection e204)
                        replace p204 := eq_true p204
                        replace q204 := eq_true q204
                        have p205 : 0 ≤ (x8_2 : Int) := of_decide_eq_true zb6
                        have q205 : x8_2 < (t196.length : Int) := of_decide_eq_true zb6
                        obtain ⟨ad205, e205, hx205_0⟩ := Kd.at_string (Kd.R_reads' HO_6.out).2.2 x8_2 p205 q205
                        obtain rfl : ad203 = ad205 := (by injection e205)
                        replace p205 := eq_true p205
                        replace q205 := eq_true q205
                        have p39 : 0 ≤ (x9_5 : Int) := of_decide_eq_true zb6
                        have q39 : x9_5 < ((rdOf ByteArray.empty t196 x8_2).size : Int) := of_decide_eq_true zb6
                        have hx39 := bt_at (rdOf ByteArray.empty t196 x8_2) x9_5
                        replace p39 := eq_true p39
                        replace q39 := eq_true q39
                        go_wp2
                        repeat (go_quiet (fail); try go_wp2)
                        go_roundg k5
                        case measure => have := HK1.out; have := HK2.out; have := HJ18.out; have := HJ27.out; have := HK5.out; omega
                        case rel => exact ⟨(wrap64 (x9_5 + 1)), zb12, H', ⟨by have := HK1.out; have := HK2.out; have := HJ18.out; have := HJ27.out; have := HK5.out; omega⟩, ⟨by (with_reducible repeat (first | apply Kd.R_alloc | apply Kd.R_drewN | apply Kd.R_drew)); exact HO_6.out⟩, ⟨by repeat (first | (with_reducible first | exact HB.out | apply below_alloc | apply pw_below_drewN | apply below_drew1) | exact HB.out)⟩⟩
                      ·rw [if_neg c38] at H
                       exact absurd H (by simp)
                     ·rw [if_neg c37] at H
                      have c37b0 : decide (x9_5 < ((rdOf ByteArray.empty t196 x8_2).size : Int)) = false := decide_eq_false c37
                      clear c37
                      have H' := Aside0.mk H
                      clear H
                      have p204 : 0 ≤ (x8_2 : Int) := of_decide_eq_true zb6
                      have q204 : x8_2 < (t196.length : Int) := of_decide_eq_true zb6
                      obtain ⟨ad204, e204, hx204_0⟩ := Kd.at_string (Kd.R_reads' HO_6.out).2.2 x8_2 p204 q204
                      obtain rfl : ad203 = ad204 := (by injection e204)
                      replace p204 := eq_true p204
                      replace q204 := eq_true q204
                      go_wp2
                      repeat (go_quiet (fail); try go_wp2)
                      go_roundg k5
                      case measure => have := HK1.out; have := HK2.out; have := HJ18.out; have := HJ27.out; have := HK5.out; omega
                      case rel => exact ⟨((wrap64 (x7_18 + ((rdOf ByteArray.empty t196 x8_2).size : Int)))), (wrap64 (x8_2 + 1)), zb12, zb12, H', ⟨by have := HK1.out; have := HK2.out; have := HJ18.out; have := HJ27.out; have := HK5.out; omega⟩, ⟨by (with_reducible repeat (first | apply Kd.R_alloc | apply Kd.R_drewN | apply Kd.R_drew)); exact HO_6.out⟩, ⟨by repeat (first | (with_reducible first | exact HB.out | apply below_alloc | apply pw_below_drewN | apply below_drew1) | exact HB.out)⟩⟩
                    ·rw [if_neg c36] at H
                     exact absurd H (by simp)
                   ·rw [if_neg c35] at H
                    exact absurd H (by simp)
                ·rw [if_neg c34] at H
                 exact absurd H (by simp)
               ·rw [if_neg c33] at H
                exact absurd H (by simp)
         ·rw [if_neg c18] at H
          have c18b0 : decide (x8_2 < (t196.length : Int)) = false := decide_eq_false c18
          clear c18
          obtain rfl := Option.some.inj H
          go_wp2
          repeat (go_quiet (fail); try go_wp2)
          go_ret
          exact ⟨zb10, zb0⟩
 ·replace c3 := Bool.eq_false_iff.mpr c3
  subst c3
  replace H : (some false) = some r := by rw [if_neg (show ¬ (false = true) by decide)] at H; exact H
  obtain rfl := Option.some.inj H
  go_enter Tryd.func4, Tryd.ntmps4
  go_wp2_with (first | (go_at_call 8; (with_reducible refine (broadsheetlaw14_awake.calls k  false _ ?side1 A2.out).mono ?_); (case side1 => exact Glob.below hGA.out zb0); rintro e w41 ⟨rfl, hb⟩; have n0_ := Aside0.mk (below_step zb0 hb); clear HB; have HB := n0_; clear n0_; (try clear hb); (try clear hb2); (try clear hk); (try clear hi)))
  repeat (go_quiet (first | (go_at_call 8; (with_reducible refine (broadsheetlaw14_awake.calls k  false _ ?side1 A2.out).mono ?_); (case side1 => exact Glob.below hGA.out zb0); rintro e w41 ⟨rfl, hb⟩; have n0_ := Aside0.mk (below_step zb0 hb); clear HB; have HB := n0_; clear n0_; (try clear hb); (try clear hb2); (try clear hk); (try clear hi))); try go_wp2_with (first | (go_at_call 8; (with_reducible refine (broadsheetlaw14_awake.calls k  false _ ?side1 A2.out).mono ?_); (case side1 => exact Glob.below hGA.out zb0); rintro e w41 ⟨rfl, hb⟩; have n0_ := Aside0.mk (below_step zb0 hb); clear HB; have HB := n0_; clear n0_; (try clear hb); (try clear hb2); (try clear hk); (try clear hi))))
  go_ret
  exact ⟨zb10, zb0⟩
end Go.Proofs.YtghfbhobpodoeaaDoor.P
/- SpWhole -/
namespace Go.Proofs.YtghfbhobpodoeaaDoor.Sp
open Go Go.RowKit Go.Proofs.YtghfbhobpodoeaaDoorW.PrintWords Go.Proofs.YtghfbhobpodoeaaDoorW.PrintLast Go.Proofs.YtghfbhobpodoeaaDoor.O Go.Proofs.YtghfbhobpodoeaaDoor.P
set_option linter.unusedVariables false
set_option linter.unusedSimpArgs false
def Emb (s : L) : Nat → List L → Prop
  | _, [] => True
  | i, p :: ps => p ≠ [] ∧ 44 ∉ p ∧ ∃ j, i ≤ j ∧ j < s.length ∧ (s.drop j).take p.length = p ∧ Emb s (j + p.length) ps
theorem Emb.lower (s : L) {i i' : Nat} (hi : i ≤ i') : ∀ {ps : List L}, Emb s i' ps → Emb s i ps
  | [], _ => trivial
  | p :: ps, ⟨h1, h2, j, h3, h4, h5, h6⟩ => ⟨h1, h2, j, by omega, h4, h5, h6⟩
theorem putQ_emb (s pre cur r : L) (hs : s = pre ++ cur ++ r) (hc : 44 ∉ cur) (i : Nat) (hi : i ≤ pre.length) (ps : List L) (h : Emb s (pre.length + cur.length) ps) : Emb s i (putQ cur [] ++ ps) := by
  unfold putQ
  by_cases ht : trim cur = []
  · rw [if_pos ht]
    exact Emb.lower s (by omega) h
  · rw [if_neg ht]
    have hne : cur ≠ [] := fun e => ht (by rw [e]; decide)
    have hpos : 0 < cur.length := List.length_pos_iff.2 hne
    refine ⟨hne, hc, pre.length, hi, ?_, ?_, h⟩
    · rw [hs]; simp; omega
    · rw [hs, List.append_assoc, List.drop_left, List.take_left]
theorem spl_emb (s : L) : ∀ (r pre cur : L) (i : Nat), s = pre ++ cur ++ r → 34 ∉ r → 44 ∉ cur → i ≤ pre.length → Emb s i (splL r false cur [])
  | [], pre, cur, i, hs, h34, hc, hi => by
    have := putQ_emb s pre cur [] hs hc i hi [] trivial
    rw [List.append_nil] at this
    exact this
  | c :: r, pre, cur, i, hs, h34, hc, hi => by
    have hc34 : c ≠ 34 := fun e => h34 (by rw [e]; simp)
    have hr34 : 34 ∉ r := fun e => h34 (List.mem_cons_of_mem _ e)
    have n92 : ¬ (c = 92 ∧ false = true) := fun x => by cases x.2
    rw [spl_cons, if_neg hc34, if_neg n92]
    by_cases h44 : c = 44
    · rw [if_pos ⟨h44, rfl⟩, spl_out r.length r false [] _ (Nat.le_refl _)]
      refine putQ_emb s pre cur (c :: r) hs hc i hi _ ?_
      exact spl_emb s r (pre ++ cur ++ [c]) [] _ (by rw [hs]; simp) hr34 (by simp) (by simp)
    · rw [if_neg (fun x => h44 x.1)]
      refine spl_emb s r pre (cur ++ [c]) i (by rw [hs]; simp) hr34 ?_ hi
      intro x
      rcases List.mem_append.1 x with x | x
      · exact hc x
      · simp at x
        exact h44 x.symm
theorem spl_count : ∀ (r cur : L), 34 ∉ r → (splL r false cur []).length ≤ r.count 44 + 1
  | [], cur, _ => by
    have := putQ_len cur []
    simpa [splL] using this
  | c :: r, cur, h34 => by
    have hc34 : c ≠ 34 := fun e => h34 (by rw [e]; simp)
    have hr34 : 34 ∉ r := fun e => h34 (List.mem_cons_of_mem _ e)
    have n92 : ¬ (c = 92 ∧ false = true) := fun x => by cases x.2
    rw [spl_cons, if_neg hc34, if_neg n92]
    by_cases h44 : c = 44
    · rw [if_pos ⟨h44, rfl⟩, spl_out r.length r false [] _ (Nat.le_refl _), List.length_append, h44, List.count_cons_self]
      have h1 := putQ_len cur []
      have h2 := spl_count r [] hr34
      simp at h1
      omega
    · rw [if_neg (fun x => h44 x.1), List.count_cons_of_ne h44]
      exact spl_count r _ hr34
theorem rd_mk_ (t : List L) (j : Nat) : rdOf ByteArray.empty (t.map mk) (j : Int) = mk (t.getD j []) := by
  unfold rdOf
  rw [Int.toNat_natCast]
  simp only [List.getD_eq_getElem?_getD, List.getElem?_map]
  cases t[j]? <;> rfl
theorem whole_l3 (s : L) (ps : List L) (p : L) (n : Nat) (x7 : Int) (hn : n < ps.length) (hp : ps.getD n [] = p) (hpl : p.length ≤ 100000) (hps : ps.length ≤ 100000) (h44 : 44 ∉ p) (K : Nat) : ∀ (d i : Nat), i + d = p.length →
    broadsheetlaw14_QualityWhole.l3 (K + d + 1) (mk s) true (ps.map mk) x7 (n : Int) (i : Int) = broadsheetlaw14_QualityWhole.l1 K (mk s) true (ps.map mk) x7 ((n + 1 : Nat) : Int) := by
  intro d
  induction d with
  | zero =>
    intro i hi
    rw [show K + 0 + 1 = K + 1 from rfl, broadsheetlaw14_QualityWhole.l3, if_pos (by omega), if_pos (by rw [List.length_map]; omega), rd_mk_, hp, mk_size, if_neg (by omega), w1_ n (by omega)]
  | succ d ih =>
    intro i hi
    obtain ⟨b, hd, hb⟩ := mk_bt p i (by omega)
    have hne : b ≠ 44 := fun e => h44 (by
      have : b ∈ p.drop i := by rw [hd]; exact List.mem_cons_self
      rw [← e]
      exact List.mem_of_mem_drop this)
    rw [show K + (d + 1) + 1 = (K + d + 1) + 1 from rfl, broadsheetlaw14_QualityWhole.l3, if_pos (by omega), if_pos (by rw [List.length_map]; omega), rd_mk_, hp, mk_size, if_pos (by omega), if_pos (by omega), hb,
      if_neg (fun x : (b.toNat : Int) = 44 => hne ((u8c b 44 (by decide)).1 x)), w1_ i (by omega), ih (i + 1) (by omega)]
theorem whole_j3 (s : L) (ps : List L) (p : L) (n at_ : Nat) (hn : n < ps.length) (hp : ps.getD n [] = p) (hne : p ≠ []) (hpl : p.length ≤ 100000) (hps : ps.length ≤ 100000) (hs : s.length ≤ 100000) (h44 : 44 ∉ p) (ha : at_ < s.length) (K : Nat) :
    broadsheetlaw14_QualityWhole.j3 (K + p.length + 3) (mk s) true (ps.map mk) (at_ : Int) (n : Int) = broadsheetlaw14_QualityWhole.l1 K (mk s) true (ps.map mk) ((at_ + p.length : Nat) : Int) ((n + 1 : Nat) : Int) := by
  rw [show K + p.length + 3 = ((K + p.length + 1) + 1) + 1 from rfl, broadsheetlaw14_QualityWhole.j3, if_neg (by rw [mk_size]; omega), if_pos (by omega), if_pos (by rw [List.length_map]; omega), rd_mk_, hp, tl_mk,
    broadsheetlaw14_QualityWhole.j4, if_neg (by simpa using hne), if_pos (by omega), if_pos (by rw [List.length_map]; omega), rd_mk_, hp, mk_size,
    wrap_id (x := (at_ : Int) + (p.length : Int)) (by omega) (by omega), show ((at_ : Int) + (p.length : Int)) = ((at_ + p.length : Nat) : Int) by omega]
  exact whole_l3 s ps p n _ hn hp hpl hps h44 K p.length 0 (by omega)
theorem whole_l2 (s : L) (ps : List L) (p : L) (n : Nat) (hn : n < ps.length) (hp : ps.getD n [] = p) (hne : p ≠ []) (hpl : p.length ≤ 100000) (hps : ps.length ≤ 100000) (hs : s.length ≤ 100000) (h44 : 44 ∉ p) (j : Nat) (hj : j < s.length) (hm : (s.drop j).take p.length = p) (K : Nat)
    (hgo : ∀ (k a : Nat), K ≤ k → a ≤ j + p.length → broadsheetlaw14_QualityWhole.l1 k (mk s) true (ps.map mk) (a : Int) ((n + 1 : Nat) : Int) = some true) : ∀ (d i : Nat), i + d = j →
    broadsheetlaw14_QualityWhole.l2 (K + d + p.length + 4) (mk s) true (ps.map mk) (i : Int) (n : Int) = some true := by
  have hjp : j + p.length ≤ s.length := by
    have := congrArg List.length hm
    rw [List.length_take, List.length_drop] at this
    omega
  have hstep : ∀ (k i : Nat), K ≤ k → i < s.length → i ≤ j → (s.drop i).take p.length = p → broadsheetlaw14_QualityWhole.l2 (k + p.length + 4) (mk s) true (ps.map mk) (i : Int) (n : Int) = some true := by
    intro k i hk hi hij hmi
    rw [show k + p.length + 4 = (k + p.length + 3) + 1 from rfl, broadsheetlaw14_QualityWhole.l2, mk_size, if_pos (by omega), if_pos (by omega), if_pos (by rw [List.length_map]; omega), rd_mk_, hp, mk_size,
      wrap_id (x := (s.length : Int) - (i : Int)) (by omega) (by omega), if_neg (by omega), if_pos (by omega), wrap_id (x := (i : Int) + (p.length : Int)) (by omega) (by omega), if_pos (by omega), if_pos (by omega),
      show ((i : Int) + (p.length : Int)).toNat = i + p.length by omega, Int.toNat_natCast, ext_mk, tl_mk, tl_mk, show i + p.length - i = p.length by omega, if_pos hmi,
      whole_j3 s ps p n i hn hp hne hpl hps hs h44 hi k]
    exact hgo k (i + p.length) hk (by omega)
  intro d
  induction d with
  | zero =>
    intro i hi
    obtain rfl : i = j := by omega
    exact hstep K i (Nat.le_refl _) hj (Nat.le_refl _) hm
  | succ d ih =>
    intro i hi
    by_cases hmi : (s.drop i).take p.length = p
    · exact hstep (K + (d + 1)) i (by omega) (by omega) (by omega) hmi
    · rw [show K + (d + 1) + p.length + 4 = (K + d + p.length + 4) + 1 by omega, broadsheetlaw14_QualityWhole.l2, mk_size, if_pos (by omega), if_pos (by omega), if_pos (by rw [List.length_map]; omega), rd_mk_, hp, mk_size,
        wrap_id (x := (s.length : Int) - (i : Int)) (by omega) (by omega), if_neg (by omega), if_pos (by omega), wrap_id (x := (i : Int) + (p.length : Int)) (by omega) (by omega), if_pos (by omega), if_pos (by omega),
        show ((i : Int) + (p.length : Int)).toNat = i + p.length by omega, Int.toNat_natCast, ext_mk, tl_mk, tl_mk, show i + p.length - i = p.length by omega, if_neg hmi, w1_ i (by omega)]
      exact ih (i + 1) (by omega)
set_option maxRecDepth 100000 in
theorem whole_l1 (s : L) (ps : List L) (hs : s.length ≤ 2000) (hps : ps.length ≤ 100000) : ∀ (qs : List L) (n at_ k : Nat), ps.drop n = qs → n + qs.length = ps.length → Emb s at_ qs → at_ ≤ s.length → 10000 * qs.length + 1 ≤ k →
    broadsheetlaw14_QualityWhole.l1 k (mk s) true (ps.map mk) (at_ : Int) (n : Int) = some true := by
  intro qs
  induction qs with
  | nil =>
    intro n at_ k hq hn he ha hk
    obtain ⟨k, rfl⟩ : ∃ m, k = m + 1 := ⟨k - 1, by omega⟩
    rw [broadsheetlaw14_QualityWhole.l1, if_neg (by rw [List.length_map]; simp at hn; omega)]
  | cons p qs ih =>
    intro n at_ k hq hn he ha hk
    obtain ⟨hne, h44, j, hj1, hj2, hm, hrest⟩ := he
    rw [List.length_cons] at hn hk
    have hjp : j + p.length ≤ s.length := by
      have := congrArg List.length hm
      rw [List.length_take, List.length_drop] at this
      omega
    have hp : ps.getD n [] = p := by
      rw [List.getD_eq_getElem?_getD, ← List.head?_drop, hq]
      rfl
    have hd : ps.drop (n + 1) = qs := by rw [← List.drop_drop, hq]; rfl
    obtain ⟨K, rfl⟩ : ∃ K, k = (K + (j - at_) + p.length + 4) + 1 := ⟨k - 1 - 4 - p.length - (j - at_), by omega⟩
    rw [broadsheetlaw14_QualityWhole.l1, if_pos (by rw [List.length_map]; omega)]
    refine whole_l2 s ps p n (by omega) hp hne (by omega) hps (by omega) h44 j hj2 hm K ?_ (j - at_) at_ (by omega)
    intro k' a hk' ha'
    exact ih (n + 1) a k' hd (by omega) (Emb.lower s ha' hrest) (by omega) (by omega)
theorem split_emb (s : L) (h : 34 ∉ s) : Emb s 0 (split s) := spl_emb s s [] [] 0 rfl h (by simp) (Nat.le_refl _)
theorem whole_l0 (s : L) (k : Nat) (hs : s.length ≤ 140737488355328) (hk : 30000000 ≤ k) : ∀ (d j i : Nat), i + d = s.length → j = k + d + 1 → 34 ∉ s.take i → broadsheetlaw14_QualityWhole.l0 j (mk s) true ((s.take i).count 44 : Int) (i : Int) = some true := by
  intro d
  induction d with
  | zero =>
    intro j i hi hj hq
    subst hj
    obtain rfl : i = s.length := by omega
    rw [List.take_of_length_le (Nat.le_refl _)] at hq ⊢
    rw [show k + 0 + 1 = k + 1 from rfl, broadsheetlaw14_QualityWhole.l0, mk_size, if_neg (by omega)]
    by_cases hb : (s.length : Int) > 2000
    · rw [if_pos hb]
    · have hcl : s.count 44 ≤ s.length := List.count_le_length
      have hsc : (split s).length ≤ s.count 44 + 1 := spl_count s [] hq
      rw [if_neg hb, splitF s (by omega), Option.bind_some, List.length_map, w1b _ (by omega), if_neg (by omega)]
      exact whole_l1 s (split s) (by omega) (by omega) (split s) 0 0 k rfl (by omega) (split_emb s hq) (by omega) (by omega)
  | succ d ih =>
    intro j i hi hj hq
    subst hj
    have hlt : i < s.length := by omega
    obtain ⟨b, hd, hb⟩ := mk_bt s i hlt
    have htk : s.take (i + 1) = s.take i ++ [b] := by
      rw [List.take_add_one, ← List.head?_drop, hd]
      rfl
    have hcl : (s.take i).count 44 ≤ i := by
      have := List.count_le_length (a := (44 : UInt8)) (l := s.take i)
      rw [List.length_take] at this
      omega
    rw [show k + (d + 1) + 1 = (k + d + 1) + 1 from rfl, broadsheetlaw14_QualityWhole.l0, mk_size, if_pos (by omega), if_pos (by omega), hb]
    by_cases h : b = 34
    · rw [if_pos (by rw [h]; rfl)]
    · rw [if_neg (fun x : (b.toNat : Int) = 34 => h ((u8c b 34 (by decide)).1 x))]
      have hq2 : 34 ∉ s.take (i + 1) := by
        rw [htk]
        intro x
        rcases List.mem_append.1 x with x | x
        · exact hq x
        · simp at x
          exact h x.symm
      have hrest := ih (k + d + 1) (i + 1) (by omega) rfl hq2
      rw [htk, List.count_append] at hrest
      by_cases h44 : b = 44
      · rw [if_pos (show (b.toNat : Int) = 44 from (u8c b 44 (by decide)).2 h44), w1b i (by omega), w1b _ (by omega)]
        rw [h44, show ([44] : L).count 44 = 1 from rfl] at hrest
        exact hrest
      · rw [if_neg (fun x : (b.toNat : Int) = 44 => h44 ((u8c b 44 (by decide)).1 x)), w1b i (by omega)]
        rw [List.count_singleton, if_neg (by simpa using h44)] at hrest
        exact hrest
theorem quality_whole_all (s : ByteArray) (hs : s.size ≤ 140737488355328) : ∃ k, broadsheetlaw14_QualityWhole.f k s = some true := by
  rw [← mk_self s]
  rw [Lib.size_eq] at hs
  generalize s.data.toList = u at *
  refine ⟨30000000 + u.length + 1, ?_⟩
  unfold broadsheetlaw14_QualityWhole.f
  rw [awake14 _ (by omega)]
  simp only [Option.bind_some, if_true]
  exact whole_l0 u 30000000 hs (Nat.le_refl _) u.length _ 0 (by omega) rfl (by simp)
end Go.Proofs.YtghfbhobpodoeaaDoor.Sp
/- CardW -/
namespace Go.Proofs.YtghfbhobpodoeaaDoor.Cg
open Go.RowKit Go.Proofs.YtghfbhobpodoeaaDoor.P Go.Proofs.YtghfbhobpodoeaaDoorW.PrintWords Go.Proofs.YtghfbhobpodoeaaDoorW.PrintLast Go.Proofs.YtghfbhobpodoeaaDoor.O
open Go.ChangeShapes Go.WideShapes Go.Deep
set_option linter.unusedVariables false
/-- The plain wrap, with a condition of one's own and the world's shape. -/
theorem wrapS {H : Type} {enc : TypeId × Value → H} {a : Assume} {C : Checked} {os : Os} {f : FuncId} {fn : Func} {s : ChangeSpec} {conds : List PathCond} {apart fresh handsOn again : Bool} {X : World → Array Value → Prop}
    (hX : ∀ (w w' : World) (args : Array Value), w.heap = w'.heap → X w args → X w' args)
    (own : ownKnob C.prog.godebug = none) (started : os.Started) (noInit : C.prog.inits.idxOf? f = none) (hfn : C.prog.funcs[f]? = some fn)
    (witness : ∃ (w : World) (tape : Tape) (i : Input), w.os = os ∧ (w.forCall tape i).Shaped C.prog ∧ i.vars = [] ∧ Input.okWide C.prog (w.forCall tape i) .any w.heap.size f i ∧
      ((s.pre enc C.prog fn conds apart (w.forCall tape i).memory i.args ∧ X (w.forCall tape i).memory i.args) ∧ sizedMet enc C.prog fn (OpenSpec.ofChange s) apart (w.forCall tape i).memory i.args) ∧ a.holds C.prog (lone (Frame.enter C.prog f i.args .normal) [] (w.forCall tape i)))
    (contract : ∀ (W : World) (base : Nat) (args : Array Value) (ds gs : List (DataW H)) (before : List MemPlace),
      (∀ (j : Nat) t v, fn.params[j]? = some t → args[j]? = some v → Value.okWide C.prog W .any base t v) →
      DataW.Whole enc C.prog fn.params.toList s.vars apart W args.toList ds gs before →
      (DataW.weightsEach C.prog (fn.params.toList ++ s.plain.varTypes C.prog) (ds ++ gs)).all (· ≤ reachBytes) = true → X W args → W.ShapedOpen C.prog →
      Calls C.prog f args W fun e W' => ∃ v, e = .returned v ∧ s.post enc C.prog fn apart fresh handsOn again W args v W') :
    ReturnsInHanded a C os f .any (fun w args => (s.pre enc C.prog fn conds apart w args ∧ X w args) ∧ sizedMet enc C.prog fn (OpenSpec.ofChange s) apart w args) (s.post enc C.prog fn apart fresh handsOn again) := by
  refine returnsInHanded_of_calls own started noInit witness ?_
  intro w tape i _ hsh _ hok hpre _
  obtain ⟨_, _, _, fn', hfn', _, _, _, _, hval⟩ := hok
  obtain rfl : fn' = fn := Option.some.inj (hfn'.symm.trans hfn)
  obtain ⟨⟨⟨ds, gs, before, hw, _⟩, hx⟩, hz⟩ := hpre
  refine (contract (w.forCall tape i) w.heap.size i.args ds gs before hval (DataW.Whole.of_heap (w' := w.forCall tape i) (by rfl) hw) (hz.weights hw) (hX _ _ _ (by rfl) hx) hsh).mono fun e W' ⟨v, he, hp⟩ => ?_
  subst he
  exact ChangeSpec.post_blind hp
theorem var_iface {W : World} {n nm : String} {d : DataW Unit} {g t : Nat} {ms : Array (String × TypeId)} (h : Lib.VarReads Tryd.prog W n (.iface nm d)) (hg : Tryd.prog.globalNamed n = some g) (ht : (Tryd.prog.globals[g]?).map (·.type) = some t) (hi : Tryd.prog.underlying t = some (.interface ms)) :
    ∃ t p, W.var? Tryd.prog n = some #[.iface t p] := by
  obtain ⟨g', t', cs, fuel, p, hg', ht', hv, hd⟩ := h
  obtain rfl := Option.some.inj (hg.symm.trans hg')
  obtain rfl := Option.some.inj (ht.symm.trans ht')
  obtain ⟨_, u, v, e, _, _⟩ := iface_of_trod hi hd
  refine ⟨u, v, ?_⟩
  rw [hv]
  cases cs
  simp only at e
  rw [e]
abbrev laidL : List (String × DataW Unit) := Rows.qualitySplitsRow.laid
theorem glob_of {W : World} (h : laidMetH Tryd.prog laidL W) (hsh : W.ShapedOpen Tryd.prog) : Glob W := by
  rw [MakeChecks.laidMetH_plain _ _ _ (by kernel_rfl)] at h
  refine ⟨?_, ?_, ?_, ?_⟩
  · obtain ⟨g', t', cs, fuel, p, hg', ht', hv, hd⟩ := Lib.laidMet.reads h (n := "internal/strconv.uint64pow10") (d := Rows.laid_internal_strconv_uint64pow10) (.tail _ (.tail _ (.head _)))
    obtain rfl := Option.some.inj (gpow.symm.trans hg')
    obtain rfl := Option.some.inj ((show (Tryd.prog.globals[6]?).map (·.type) = some 134 by kernel_rfl).symm.trans ht')
    have hd' : DataW.trod (fun _ => ()) Tryd.prog W 0 (fun _ => true) false fuel 134 cs.toList = some (Lib.tabData .u64 (Lib.pow10Tab), p) := hd
    unfold Lib.TabIs
    rw [hv, ← Lib.cells_of_tab Tryd.underlying134 Tryd.underlying57 (by kernel_rfl) (by kernel_rfl) hd']
  · have hb : ((begin Tryd.prog (fun _ _ => 0) default).world.heap[1]?).bind Obj.row? = some (#[.int .i64 0], 3) := by kernel_rfl
    obtain ⟨m, hm⟩ := cell_of_shapedOpen_int hsh (of_decide_eq_true (by kernel_rfl)) hb rfl (by kernel_rfl) (by kernel_rfl) Tryd.underlying3
    obtain ⟨cs, hh, hs, _⟩ := hsh.1 _ _ _ (of_decide_eq_true (by kernel_rfl)) hb
    refine ⟨m, ?_⟩
    have h1 : 0 < cs.size := by rw [hs]; decide
    have hc : cs[0] = .int .i64 m := by
      have : W.cell? ⟨1, 0, none⟩ = some cs[0] := by simp [World.cell?, hh, h1]
      exact Option.some.inj (this.symm.trans hm)
    unfold World.var?
    rw [gmlen]
    simp only [Option.bind_some, hh]
    congr 1
    apply Array.ext
    · rw [hs]; rfl
    · intro i hi1 hi2
      have : i = 0 := by rw [hs] at hi1; simp at hi1; exact hi1
      subst this
      rw [hc]; rfl
  · exact var_iface (Lib.laidMet.reads h (n := "strconv.ErrSyntax") (d := Rows.laid_strconv_ErrSyntax) (.tail _ (.tail _ (.tail _ (.tail _ (.tail _ (.head _))))))) gsyn (by kernel_rfl) Tryd.underlying53
  · exact var_iface (Lib.laidMet.reads h (n := "strconv.ErrRange") (d := Rows.laid_strconv_ErrRange) (.tail _ (.tail _ (.tail _ (.tail _ (.head _)))))) grng (by kernel_rfl) Tryd.underlying53
end Go.Proofs.YtghfbhobpodoeaaDoor.Cg
