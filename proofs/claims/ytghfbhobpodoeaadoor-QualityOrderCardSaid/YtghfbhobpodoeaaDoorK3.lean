/- Texts of this seat, joined: lemmas and walks that its statements' proofs use. -/
import Derived.Test.YtghfbhobpodoeaaDoorK1
import Derived.Test.YtghfbhobpodoeaaDoorK2
import Derived.Deep.Slices
import Derived.LaidLaws
import Derived.MakeChecks
import Derived.HandedShaped
import Derived.Lib.LaidU8
import Derived.Lib.LaidTab
import Derived.WalkKit
import Derived.ProofKit
import Derived.Test.YtghfbhobpodoeaaDoorRows
/- Px23 -/
namespace Go.Proofs.YtghfbhobpodoeaaDoor.P
open Go.Proofs.YtghfbhobpodoeaaDoor.B
open Go.RowKit Go.Proofs.YtghfbhobpodoeaaDoorW.PrintWords Go.Proofs.YtghfbhobpodoeaaDoorW.PrintLast Go.Proofs.YtghfbhobpodoeaaDoorW.PrintMore
attribute [local go_sem] run_store_float str_leq str_gtr str_geq max2_int min2_int max_two min_two max_three min_three max_four min_four
set_option linter.unusedVariables false
set_option linter.unusedSimpArgs false
open Go.Proofs.YtghfbhobpodoeaaDoor.O
def quality_Ahead.j0 : Nat → Nat → Nat → Bool → Bool → Bool → Option (Bool)
  | 0, _, _, _, _, _ => none
  | k + 1, x0, x1, x5, x6, x11 => if x11 = true then (if x5 = true then (some false) else (some x6)) else (if (FloatKind.f64.format.order x0 x1 == some .eq) = true then (if (FloatKind.f64.format.order x0 0 == some .eq) = true then ((math_Signbit.f x0).bind fun t230 => (if t230 = true then (some false) else ((math_Signbit.f x1).bind fun t231 => (some t231)))) else (some false)) else (some (FloatKind.f64.format.order x0 x1 == some .gt)))
def quality_Ahead.f (k : Nat) (a0 : Nat) (a1 : Nat) : Option (Bool) := (math_IsNaN.f a0).bind fun t228 => ((math_IsNaN.f a1).bind fun t229 => (if t228 = true then (quality_Ahead.j0 k a0 a1 t228 t229 true) else (quality_Ahead.j0 k a0 a1 t228 t229 t229)))
set_option maxHeartbeats 8000000 in
set_option maxRecDepth 100000 in
theorem quality_Ahead.calls (k : Nat) (a0 : Nat) (a1 : Nat) (r : Bool) (w : World) (h : quality_Ahead.f k a0 a1 = some r) :
  Calls Tryd.prog 17 #[.float .f64 a0, .float .f64 a1] w fun e w' => e = .returned (.bool r) ∧ Drawn0 w w' := by
 have H : ((math_IsNaN.f a0).bind fun t228 => ((math_IsNaN.f a1).bind fun t229 => (if t228 = true then (quality_Ahead.j0 k a0 a1 t228 t229 true) else (quality_Ahead.j0 k a0 a1 t228 t229 t229)))) = some r := h
 clear h
 replace H := Option.bind_eq_some_iff.mp H
 obtain ⟨t228, A30, H⟩ := H
 replace H : ((math_IsNaN.f a1).bind fun t229 => (if t228 = true then (quality_Ahead.j0 k a0 a1 t228 t229 true) else (quality_Ahead.j0 k a0 a1 t228 t229 t229))) = some r := H
 have A3 := Aside0.mk A30
 clear A30
 replace H := Option.bind_eq_some_iff.mp H
 obtain ⟨t229, A40, H⟩ := H
 replace H : (if t228 = true then (quality_Ahead.j0 k a0 a1 t228 t229 true) else (quality_Ahead.j0 k a0 a1 t228 t229 t229)) = some r := H
 have A4 := Aside0.mk A40
 clear A40
 have HC5 := Aside0.mk H
 clear H
 go_enter Tryd.func17, Tryd.ntmps17
 go_upto_region 2 with (first | ((with_reducible refine gate_callee (f := 30) rfl ?_); refine goesL_ (some 8) rfl rfl Tryd.func30 zb12 rfl #[.float .f64 a0] rfl zb1 ?_; (with_reducible refine (math_IsNaN.calls a0 t228 _ A3.out).mono ?_); rintro e w' ⟨rfl, ⟨nd, rfl⟩⟩; refine ⟨_, rfl, ?_⟩) | ((with_reducible refine gate_callee (f := 30) rfl ?_); refine goesL_ (some 10) rfl rfl Tryd.func30 zb12 rfl #[.float .f64 a1] rfl zb1 ?_; (with_reducible refine (math_IsNaN.calls a1 t229 _ A4.out).mono ?_); rintro e w' ⟨rfl, ⟨nd, rfl⟩⟩; refine ⟨_, rfl, ?_⟩))
 (try simp only [Act.put, List.setIfInBounds_toArray, List.set_cons_zero, List.set_cons_succ])
 go_cut [11] (fun v11 wc => ∃ (kq : Nat) (x11_4 : Bool), v11 = .bool x11_4 ∧ Aside0 (quality_Ahead.j0 kq a0 a1 t228 t229 x11_4 = some r) ∧ Aside0 (kq ≤ k) ∧ Drawn0 w wc)
 case first =>
  have H := HC5.out
  clear HC5
  by_cases c6 : t228 = true
  ·subst c6
   replace H : (quality_Ahead.j0 k a0 a1 true t229 true) = some r := by rw [if_pos rfl] at H; exact H
   have H' := Aside0.mk H
   clear H
   go_wp2
   go_meet
   case rel => exact ⟨_, (true), zb16, H', ⟨by first | omega | exact Nat.le_refl _⟩, by repeat (first | exact Drawn0.refl _ | apply Drawn0.step)⟩
  ·replace c6 := Bool.eq_false_iff.mpr c6
   subst c6
   replace H : (quality_Ahead.j0 k a0 a1 false t229 t229) = some r := by rw [if_neg (show ¬ (false = true) by decide)] at H; exact H
   have H' := Aside0.mk H
   clear H
   go_wp2
   go_meet
   case rel => exact ⟨_, (t229), zb16, H', ⟨by first | omega | exact Nat.le_refl _⟩, by repeat (first | exact Drawn0.refl _ | apply Drawn0.step)⟩
 case rest =>
  clear HC5
  try clear c1
  try clear p2
  try clear c3
  try clear c6
  obtain ⟨kq, x11_4, rfl, HA, HJ4, ⟨mc4, rfl⟩⟩ := hcut
  cases kq with
  | zero => exact absurd HA.out (by simp [quality_Ahead.j0])
  | succ kj4 =>
   have H := HA.out
   clear HA
   simp only [quality_Ahead.j0] at H
   by_cases c7 : x11_4 = true
   ·subst c7
    replace H : (if t228 = true then (some false) else (some t229)) = some r := by rw [if_pos rfl] at H; exact H
    by_cases c8 : t228 = true
    ·subst c8
     replace H : (some false) = some r := by rw [if_pos rfl] at H; exact H
     obtain rfl := Option.some.inj H
     go_wp2
     go_ret
     exact ⟨by first | rfl | (simp; done) | (simp [*]; done), by repeat (first | exact Drawn0.refl _ | apply Drawn0.step)⟩
    ·replace c8 := Bool.eq_false_iff.mpr c8
     subst c8
     replace H : (some t229) = some r := by rw [if_neg (show ¬ (false = true) by decide)] at H; exact H
     obtain rfl := Option.some.inj H
     go_wp2
     go_ret
     exact ⟨by first | rfl | (simp; done) | (simp [*]; done), by repeat (first | exact Drawn0.refl _ | apply Drawn0.step)⟩
   ·replace c7 := Bool.eq_false_iff.mpr c7
    subst c7
    replace H : (if (FloatKind.f64.format.order a0 a1 == some .eq) = true then (if (FloatKind.f64.format.order a0 0 == some .eq) = true then ((math_Signbit.f a0).bind fun t230 => (if t230 = true then (some false) else ((math_Signbit.f a1).bind fun t231 => (some t231)))) else (some false)) else (some (FloatKind.f64.format.order a0 a1 == some .gt))) = some r := by rw [if_neg (show ¬ (false = true) by decide)] at H; exact H
    by_cases c9 : (FloatKind.f64.format.order a0 a1 == some .eq) = true
    ·rw [if_pos c9] at H
     have c9b0 : (FloatKind.f64.format.order a0 a1 == some .eq) = true := c9
     (try (have c9b1 : decide (FloatKind.f64.format.order a0 a1 = some .eq) = true := by simpa using c9))
     (try (have c9b2 : (FloatKind.f64.format.order a0 a1 == some .eq) = true := by simpa using c9))
     clear c9
     by_cases c10 : (FloatKind.f64.format.order a0 0 == some .eq) = true
     ·rw [if_pos c10] at H
      have c10b0 : (FloatKind.f64.format.order a0 0 == some .eq) = true := c10
      (try (have c10b1 : decide (FloatKind.f64.format.order a0 0 = some .eq) = true := by simpa using c10))
      (try (have c10b2 : (FloatKind.f64.format.order a0 0 == some .eq) = true := by simpa using c10))
      clear c10
      replace H := Option.bind_eq_some_iff.mp H
      obtain ⟨t230, A110, H⟩ := H
      replace H : (if t230 = true then (some false) else ((math_Signbit.f a1).bind fun t231 => (some t231))) = some r := H
      have A11 := Aside0.mk A110
      clear A110
      by_cases c12 : t230 = true
      ·subst c12
       replace H : (some false) = some r := by rw [if_pos rfl] at H; exact H
       obtain rfl := Option.some.inj H
       go_wp2_with (first | (go_at_call 21; (with_reducible refine (math_Signbit.calls a0 true _ A11.out).mono ?_); rintro e w' ⟨rfl, ⟨nd, rfl⟩⟩))
       go_ret
       exact ⟨by first | rfl | (simp; done) | (simp [*]; done), by repeat (first | exact Drawn0.refl _ | apply Drawn0.step)⟩
      ·replace c12 := Bool.eq_false_iff.mpr c12
       subst c12
       replace H : ((math_Signbit.f a1).bind fun t231 => (some t231)) = some r := by rw [if_neg (show ¬ (false = true) by decide)] at H; exact H
       replace H := Option.bind_eq_some_iff.mp H
       obtain ⟨t231, A130, H⟩ := H
       replace H : (some t231) = some r := H
       have A13 := Aside0.mk A130
       clear A130
       obtain rfl := Option.some.inj H
       go_wp2_with (first | (go_at_call 21; (with_reducible refine (math_Signbit.calls a0 false _ A11.out).mono ?_); rintro e w' ⟨rfl, ⟨nd, rfl⟩⟩) | (go_at_call 21; (with_reducible refine (math_Signbit.calls a1 t231 _ A13.out).mono ?_); rintro e w' ⟨rfl, ⟨nd, rfl⟩⟩))
       go_ret
       exact ⟨by first | rfl | (simp; done) | (simp [*]; done), by repeat (first | exact Drawn0.refl _ | apply Drawn0.step)⟩
     ·rw [if_neg c10] at H
      have c10b0 : (FloatKind.f64.format.order a0 0 == some .eq) = false := by simpa using c10
      (try (have c10b1 : decide (FloatKind.f64.format.order a0 0 = some .eq) = false := by simpa using c10))
      (try (have c10b2 : (FloatKind.f64.format.order a0 0 == some .eq) = false := by simpa using c10))
      (try (have c10b3 : ¬ (FloatKind.f64.format.order a0 0 = some .eq) := by simpa using c10))
      clear c10
      obtain rfl := Option.some.inj H
      go_wp2
      go_ret
      exact ⟨by first | rfl | (simp; done) | (simp [*]; done), by repeat (first | exact Drawn0.refl _ | apply Drawn0.step)⟩
    ·rw [if_neg c9] at H
     have c9b0 : (FloatKind.f64.format.order a0 a1 == some .eq) = false := by simpa using c9
     (try (have c9b1 : decide (FloatKind.f64.format.order a0 a1 = some .eq) = false := by simpa using c9))
     (try (have c9b2 : (FloatKind.f64.format.order a0 a1 == some .eq) = false := by simpa using c9))
     (try (have c9b3 : ¬ (FloatKind.f64.format.order a0 a1 = some .eq) := by simpa using c9))
     clear c9
     obtain rfl := Option.some.inj H
     go_wp2
     go_ret
     exact ⟨by first | rfl | (simp; done) | (simp [*]; done), by repeat (first | exact Drawn0.refl _ | apply Drawn0.step)⟩
def broadsheetlaw14_QualityOrder.j0 : Nat → Nat → Nat → Nat → Bool → Bool → Option (Bool)
  | 0, _, _, _, _, _ => none
  | k + 1, x0, x1, x2, x7, x35 => if x35 = true then (some false) else ((quality_Clamp.f x0).bind fun t249 => (if x7 = true then ((quality_Ahead.f k x0 x1).bind fun t250 => (if t250 = true then ((quality_Ahead.f k x1 x2).bind fun t251 => (if t251 = true then ((quality_Ahead.f k x0 x2).bind fun t252 => (if t252 = true then (if (FloatKind.f64.format.order t249 0 == some .gt || FloatKind.f64.format.order t249 0 == some .eq) = true then (if (FloatKind.f64.format.order t249 4607182418800017408 == some .lt || FloatKind.f64.format.order t249 4607182418800017408 == some .eq) = true then ((quality_Clamp.f t249).bind fun t253 => ((broadsheetlaw14_same.f t253 t249).bind fun t254 => (if t254 = true then ((math_Signbit.f t249).bind fun t255 => (if t255 = true then (some false) else (if (FloatKind.f64.format.order x0 0 == some .gt) = true then (if ((FloatKind.f64.format.order x0 4607182418800017408 == some .lt) = true) then (some (FloatKind.f64.format.order t249 x0 == some .eq)) else (some true)) else (some true)))) else (some false)))) else (some false)) else (some false)) else (some false))) else (if (FloatKind.f64.format.order t249 0 == some .gt || FloatKind.f64.format.order t249 0 == some .eq) = true then (if (FloatKind.f64.format.order t249 4607182418800017408 == some .lt || FloatKind.f64.format.order t249 4607182418800017408 == some .eq) = true then ((quality_Clamp.f t249).bind fun t256 => ((broadsheetlaw14_same.f t256 t249).bind fun t257 => (if t257 = true then ((math_Signbit.f t249).bind fun t258 => (if t258 = true then (some false) else (if (FloatKind.f64.format.order x0 0 == some .gt) = true then (if ((FloatKind.f64.format.order x0 4607182418800017408 == some .lt) = true) then (some (FloatKind.f64.format.order t249 x0 == some .eq)) else (some true)) else (some true)))) else (some false)))) else (some false)) else (some false)))) else (if (FloatKind.f64.format.order t249 0 == some .gt || FloatKind.f64.format.order t249 0 == some .eq) = true then (if (FloatKind.f64.format.order t249 4607182418800017408 == some .lt || FloatKind.f64.format.order t249 4607182418800017408 == some .eq) = true then ((quality_Clamp.f t249).bind fun t259 => ((broadsheetlaw14_same.f t259 t249).bind fun t260 => (if t260 = true then ((math_Signbit.f t249).bind fun t261 => (if t261 = true then (some false) else (if (FloatKind.f64.format.order x0 0 == some .gt) = true then (if ((FloatKind.f64.format.order x0 4607182418800017408 == some .lt) = true) then (some (FloatKind.f64.format.order t249 x0 == some .eq)) else (some true)) else (some true)))) else (some false)))) else (some false)) else (some false)))) else (some false)))
def broadsheetlaw14_QualityOrder.f (k : Nat) (a0 : Nat) (a1 : Nat) (a2 : Nat) : Option (Bool) := (broadsheetlaw14_awake.f k).bind fun t244 => (if t244 = true then ((quality_Ahead.f k a0 a1).bind fun t245 => ((quality_Ahead.f k a1 a0).bind fun t246 => (if t245 = true then (if t246 = true then (broadsheetlaw14_QualityOrder.j0 k a0 a1 a2 t244 true) else ((broadsheetlaw14_same.f a0 a1).bind fun t247 => (broadsheetlaw14_QualityOrder.j0 k a0 a1 a2 t244 (false != t247)))) else ((broadsheetlaw14_same.f a0 a1).bind fun t248 => (broadsheetlaw14_QualityOrder.j0 k a0 a1 a2 t244 ((!t246) != t248)))))) else (some false))
set_option maxHeartbeats 8000000 in
set_option maxRecDepth 100000 in
theorem broadsheetlaw14_QualityOrder.calls (k : Nat) (a0 : Nat) (a1 : Nat) (a2 : Nat) (r : Bool) (w : World) (hG : Glob w) (h : broadsheetlaw14_QualityOrder.f k a0 a1 a2 = some r) :
  Calls Tryd.prog 7 #[.float .f64 a0, .float .f64 a1, .float .f64 a2] w fun e w' => e = .returned (.bool r) ∧ Below w.heap.size w w' := by
 have HB := Aside0.mk (Below.refl w.heap.size w)
 have hGA := Aside0.mk hG
 clear hG
 have H : ((broadsheetlaw14_awake.f k).bind fun t244 => (if t244 = true then ((quality_Ahead.f k a0 a1).bind fun t245 => ((quality_Ahead.f k a1 a0).bind fun t246 => (if t245 = true then (if t246 = true then (broadsheetlaw14_QualityOrder.j0 k a0 a1 a2 t244 true) else ((broadsheetlaw14_same.f a0 a1).bind fun t247 => (broadsheetlaw14_QualityOrder.j0 k a0 a1 a2 t244 (false != t247)))) else ((broadsheetlaw14_same.f a0 a1).bind fun t248 => (broadsheetlaw14_QualityOrder.j0 k a0 a1 a2 t244 ((!t246) != t248)))))) else (some false))) = some r := h
 clear h
 replace H := Option.bind_eq_some_iff.mp H
 obtain ⟨t244, A40, H⟩ := H
 replace H : (if t244 = true then ((quality_Ahead.f k a0 a1).bind fun t245 => ((quality_Ahead.f k a1 a0).bind fun t246 => (if t245 = true then (if t246 = true then (broadsheetlaw14_QualityOrder.j0 k a0 a1 a2 t244 true) else ((broadsheetlaw14_same.f a0 a1).bind fun t247 => (broadsheetlaw14_QualityOrder.j0 k a0 a1 a2 t244 (false != t247)))) else ((broadsheetlaw14_same.f a0 a1).bind fun t248 => (broadsheetlaw14_QualityOrder.j0 k a0 a1 a2 t244 ((!t246) != t248)))))) else (some false)) = some r := H
 have A4 := Aside0.mk A40
 clear A40
 by_cases c5 : t244 = true
 ·subst c5
  replace H : ((quality_Ahead.f k a0 a1).bind fun t245 => ((quality_Ahead.f k a1 a0).bind fun t246 => (if t245 = true then (if t246 = true then (broadsheetlaw14_QualityOrder.j0 k a0 a1 a2 true true) else ((broadsheetlaw14_same.f a0 a1).bind fun t247 => (broadsheetlaw14_QualityOrder.j0 k a0 a1 a2 true (false != t247)))) else ((broadsheetlaw14_same.f a0 a1).bind fun t248 => (broadsheetlaw14_QualityOrder.j0 k a0 a1 a2 true ((!t246) != t248)))))) = some r := by rw [if_pos rfl] at H; exact H
  replace H := Option.bind_eq_some_iff.mp H
  obtain ⟨t245, A60, H⟩ := H
  replace H : ((quality_Ahead.f k a1 a0).bind fun t246 => (if t245 = true then (if t246 = true then (broadsheetlaw14_QualityOrder.j0 k a0 a1 a2 true true) else ((broadsheetlaw14_same.f a0 a1).bind fun t247 => (broadsheetlaw14_QualityOrder.j0 k a0 a1 a2 true (false != t247)))) else ((broadsheetlaw14_same.f a0 a1).bind fun t248 => (broadsheetlaw14_QualityOrder.j0 k a0 a1 a2 true ((!t246) != t248))))) = some r := H
  have A6 := Aside0.mk A60
  clear A60
  replace H := Option.bind_eq_some_iff.mp H
  obtain ⟨t246, A70, H⟩ := H
  replace H : (if t245 = true then (if t246 = true then (broadsheetlaw14_QualityOrder.j0 k a0 a1 a2 true true) else ((broadsheetlaw14_same.f a0 a1).bind fun t247 => (broadsheetlaw14_QualityOrder.j0 k a0 a1 a2 true (false != t247)))) else ((broadsheetlaw14_same.f a0 a1).bind fun t248 => (broadsheetlaw14_QualityOrder.j0 k a0 a1 a2 true ((!t246) != t248)))) = some r := H
  have A7 := Aside0.mk A70
  clear A70
  have HC8 := Aside0.mk H
  clear H
  go_enter Tryd.func7, Tryd.ntmps7
  go_upto_region 5 with (first | ((with_reducible refine gate_callee (f := 8) rfl ?_); refine goesL_ (some 11) rfl rfl Tryd.func8 zb12 rfl #[] rfl zb1 ?_; (with_reducible refine (broadsheetlaw14_awake.calls k  true _ ?side1 A4.out).mono ?_); (case side1 => exact Glob.below hGA.out zb0); rintro e w9 ⟨rfl, hb⟩; refine ⟨_, rfl, ?_⟩; have n0_ := Aside0.mk (below_step zb0 hb); clear HB; have HB := n0_; clear n0_; (try clear hb); (try clear hb2); (try clear hk); (try clear hi)) | ((with_reducible refine gate_callee (f := 17) rfl ?_); refine goesL_ (some 16) rfl rfl Tryd.func17 zb12 rfl #[.float .f64 a0, .float .f64 a1] rfl zb1 ?_; (with_reducible refine (quality_Ahead.calls k a0 a1 t245 _ A6.out).mono ?_); rintro e w' ⟨rfl, ⟨nd, rfl⟩⟩; refine ⟨_, rfl, ?_⟩) | ((with_reducible refine gate_callee (f := 17) rfl ?_); refine goesL_ (some 19) rfl rfl Tryd.func17 zb12 rfl #[.float .f64 a1, .float .f64 a0] rfl zb1 ?_; (with_reducible refine (quality_Ahead.calls k a1 a0 t246 _ A7.out).mono ?_); rintro e w' ⟨rfl, ⟨nd, rfl⟩⟩; refine ⟨_, rfl, ?_⟩))
  (try simp only [Act.put, List.setIfInBounds_toArray, List.set_cons_zero, List.set_cons_succ])
  go_cut [35] (fun v35 wc => ∃ (kq : Nat) (x35_7 : Bool), v35 = .bool x35_7 ∧ Aside0 (broadsheetlaw14_QualityOrder.j0 kq a0 a1 a2 true x35_7 = some r) ∧ Aside0 (kq ≤ k) ∧ Aside0 (Below w.heap.size w wc))
  case first =>
   have H := HC8.out
   clear HC8
   by_cases c10 : t245 = true
   ·subst c10
    replace H : (if t246 = true then (broadsheetlaw14_QualityOrder.j0 k a0 a1 a2 true true) else ((broadsheetlaw14_same.f a0 a1).bind fun t247 => (broadsheetlaw14_QualityOrder.j0 k a0 a1 a2 true (false != t247)))) = some r := by rw [if_pos rfl] at H; exact H
    by_cases c11 : t246 = true
    ·subst c11
     replace H : (broadsheetlaw14_QualityOrder.j0 k a0 a1 a2 true true) = some r := by rw [if_pos rfl] at H; exact H
     have H' := Aside0.mk H
     clear H
     go_wp2
     go_meet
     case rel => exact ⟨_, (true), zb16, H', ⟨by first | omega | exact Nat.le_refl _⟩, ⟨by repeat (first | (with_reducible first | exact HB.out | apply below_alloc | apply pw_below_drewN | apply below_drew1) | exact HB.out)⟩⟩
    ·replace c11 := Bool.eq_false_iff.mpr c11
     subst c11
     replace H : ((broadsheetlaw14_same.f a0 a1).bind fun t247 => (broadsheetlaw14_QualityOrder.j0 k a0 a1 a2 true (false != t247))) = some r := by rw [if_neg (show ¬ (false = true) by decide)] at H; exact H
     replace H := Option.bind_eq_some_iff.mp H
     obtain ⟨t247, A120, H⟩ := H
     replace H : (broadsheetlaw14_QualityOrder.j0 k a0 a1 a2 true (false != t247)) = some r := H
     have A12 := Aside0.mk A120
     clear A120
     have H' := Aside0.mk H
     clear H
     go_wp2_with (first | (go_at_call 14; (with_reducible refine (broadsheetlaw14_same.calls a0 a1 t247 _ A12.out).mono ?_); rintro e w' ⟨rfl, ⟨nd, rfl⟩⟩))
     go_meet
     case rel => exact ⟨_, ((false != t247)), zb16, H', ⟨by first | omega | exact Nat.le_refl _⟩, ⟨by repeat (first | (with_reducible first | exact HB.out | apply below_alloc | apply pw_below_drewN | apply below_drew1) | exact HB.out)⟩⟩
   ·replace c10 := Bool.eq_false_iff.mpr c10
    subst c10
    replace H : ((broadsheetlaw14_same.f a0 a1).bind fun t248 => (broadsheetlaw14_QualityOrder.j0 k a0 a1 a2 true ((!t246) != t248))) = some r := by rw [if_neg (show ¬ (false = true) by decide)] at H; exact H
    replace H := Option.bind_eq_some_iff.mp H
    obtain ⟨t248, A130, H⟩ := H
    replace H : (broadsheetlaw14_QualityOrder.j0 k a0 a1 a2 true ((!t246) != t248)) = some r := H
    have A13 := Aside0.mk A130
    clear A130
    have H' := Aside0.mk H
    clear H
    go_wp2_with (first | (go_at_call 14; (with_reducible refine (broadsheetlaw14_same.calls a0 a1 t248 _ A13.out).mono ?_); rintro e w' ⟨rfl, ⟨nd, rfl⟩⟩))
    go_meet
    case rel => exact ⟨_, (((!t246) != t248)), zb16, H', ⟨by first | omega | exact Nat.le_refl _⟩, ⟨by repeat (first | (with_reducible first | exact HB.out | apply below_alloc | apply pw_below_drewN | apply below_drew1) | exact HB.out)⟩⟩
  case rest =>
   clear HC8
   try clear c1
   try clear p2
   try clear c5
   try clear c7
   try clear c8
   try clear c10
   try clear c11
   obtain ⟨kq, x35_7, rfl, HA, HJ7, HB⟩ := hcut
   cases kq with
   | zero => exact absurd HA.out (by simp [broadsheetlaw14_QualityOrder.j0])
   | succ kj7 =>
    have H := HA.out
    clear HA
    simp only [broadsheetlaw14_QualityOrder.j0] at H
    by_cases c14 : x35_7 = true
    ·subst c14
     replace H : (some false) = some r := by rw [if_pos rfl] at H; exact H
     obtain rfl := Option.some.inj H
     go_wp2
     go_ret
     exact ⟨zb6, zb0⟩
    ·replace c14 := Bool.eq_false_iff.mpr c14
     subst c14
     replace H : ((quality_Clamp.f a0).bind fun t249 => (if true = true then ((quality_Ahead.f kj7 a0 a1).bind fun t250 => (if t250 = true then ((quality_Ahead.f kj7 a1 a2).bind fun t251 => (if t251 = true then ((quality_Ahead.f kj7 a0 a2).bind fun t252 => (if t252 = true then (if (FloatKind.f64.format.order t249 0 == some .gt || FloatKind.f64.format.order t249 0 == some .eq) = true then (if (FloatKind.f64.format.order t249 4607182418800017408 == some .lt || FloatKind.f64.format.order t249 4607182418800017408 == some .eq) = true then ((quality_Clamp.f t249).bind fun t253 => ((broadsheetlaw14_same.f t253 t249).bind fun t254 => (if t254 = true then ((math_Signbit.f t249).bind fun t255 => (if t255 = true then (some false) else (if (FloatKind.f64.format.order a0 0 == some .gt) = true then (if ((FloatKind.f64.format.order a0 4607182418800017408 == some .lt) = true) then (some (FloatKind.f64.format.order t249 a0 == some .eq)) else (some true)) else (some true)))) else (some false)))) else (some false)) else (some false)) else (some false))) else (if (FloatKind.f64.format.order t249 0 == some .gt || FloatKind.f64.format.order t249 0 == some .eq) = true then (if (FloatKind.f64.format.order t249 4607182418800017408 == some .lt || FloatKind.f64.format.order t249 4607182418800017408 == some .eq) = true then ((quality_Clamp.f t249).bind fun t256 => ((broadsheetlaw14_same.f t256 t249).bind fun t257 => (if t257 = true then ((math_Signbit.f t249).bind fun t258 => (if t258 = true then (some false) else (if (FloatKind.f64.format.order a0 0 == some .gt) = true then (if ((FloatKind.f64.format.order a0 4607182418800017408 == some .lt) = true) then (some (FloatKind.f64.format.order t249 a0 == some .eq)) else (some true)) else (some true)))) else (some false)))) else (some false)) else (some false)))) else (if (FloatKind.f64.format.order t249 0 == some .gt || FloatKind.f64.format.order t249 0 == some .eq) = true then (if (FloatKind.f64.format.order t249 4607182418800017408 == some .lt || FloatKind.f64.format.order t249 4607182418800017408 == some .eq) = true then ((quality_Clamp.f t249).bind fun t259 => ((broadsheetlaw14_same.f t259 t249).bind fun t260 => (if t260 = true then ((math_Signbit.f t249).bind fun t261 => (if t261 = true then (some false) else (if (FloatKind.f64.format.order a0 0 == some .gt) = true then (if ((FloatKind.f64.format.order a0 4607182418800017408 == some .lt) = true) then (some (FloatKind.f64.format.order t249 a0 == some .eq)) else (some true)) else (some true)))) else (some false)))) else (some false)) else (some false)))) else (some false))) = some r := by rw [if_neg (show ¬ (false = true) by decide)] at H; exact H
     replace H := Option.bind_eq_some_iff.mp H
     obtain ⟨t249, A150, H⟩ := H
     replace H : (if true = true then ((quality_Ahead.f kj7 a0 a1).bind fun t250 => (if t250 = true then ((quality_Ahead.f kj7 a1 a2).bind fun t251 => (if t251 = true then ((quality_Ahead.f kj7 a0 a2).bind fun t252 => (if t252 = true then (if (FloatKind.f64.format.order t249 0 == some .gt || FloatKind.f64.format.order t249 0 == some .eq) = true then (if (FloatKind.f64.format.order t249 4607182418800017408 == some .lt || FloatKind.f64.format.order t249 4607182418800017408 == some .eq) = true then ((quality_Clamp.f t249).bind fun t253 => ((broadsheetlaw14_same.f t253 t249).bind fun t254 => (if t254 = true then ((math_Signbit.f t249).bind fun t255 => (if t255 = true then (some false) else (if (FloatKind.f64.format.order a0 0 == some .gt) = true then (if ((FloatKind.f64.format.order a0 4607182418800017408 == some .lt) = true) then (some (FloatKind.f64.format.order t249 a0 == some .eq)) else (some true)) else (some true)))) else (some false)))) else (some false)) else (some false)) else (some false))) else (if (FloatKind.f64.format.order t249 0 == some .gt || FloatKind.f64.format.order t249 0 == some .eq) = true then (if (FloatKind.f64.format.order t249 4607182418800017408 == some .lt || FloatKind.f64.format.order t249 4607182418800017408 == some .eq) = true then ((quality_Clamp.f t249).bind fun t256 => ((broadsheetlaw14_same.f t256 t249).bind fun t257 => (if t257 = true then ((math_Signbit.f t249).bind fun t258 => (if t258 = true then (some false) else (if (FloatKind.f64.format.order a0 0 == some .gt) = true then (if ((FloatKind.f64.format.order a0 4607182418800017408 == some .lt) = true) then (some (FloatKind.f64.format.order t249 a0 == some .eq)) else (some true)) else (some true)))) else (some false)))) else (some false)) else (some false)))) else (if (FloatKind.f64.format.order t249 0 == some .gt || FloatKind.f64.format.order t249 0 == some .eq) = true then (if (FloatKind.f64.format.order t249 4607182418800017408 == some .lt || FloatKind.f64.format.order t249 4607182418800017408 == some .eq) = true then ((quality_Clamp.f t249).bind fun t259 => ((broadsheetlaw14_same.f t259 t249).bind fun t260 => (if t260 = true then ((math_Signbit.f t249).bind fun t261 => (if t261 = true then (some false) else (if (FloatKind.f64.format.order a0 0 == some .gt) = true then (if ((FloatKind.f64.format.order a0 4607182418800017408 == some .lt) = true) then (some (FloatKind.f64.format.order t249 a0 == some .eq)) else (some true)) else (some true)))) else (some false)))) else (some false)) else (some false)))) else (some false)) = some r := H
     have A15 := Aside0.mk A150
     clear A150
     replace H : ((quality_Ahead.f kj7 a0 a1).bind fun t250 => (if t250 = true then ((quality_Ahead.f kj7 a1 a2).bind fun t251 => (if t251 = true then ((quality_Ahead.f kj7 a0 a2).bind fun t252 => (if t252 = true then (if (FloatKind.f64.format.order t249 0 == some .gt || FloatKind.f64.format.order t249 0 == some .eq) = true then (if (FloatKind.f64.format.order t249 4607182418800017408 == some .lt || FloatKind.f64.format.order t249 4607182418800017408 == some .eq) = true then ((quality_Clamp.f t249).bind fun t253 => ((broadsheetlaw14_same.f t253 t249).bind fun t254 => (if t254 = true then ((math_Signbit.f t249).bind fun t255 => (if t255 = true then (some false) else (if (FloatKind.f64.format.order a0 0 == some .gt) = true then (if ((FloatKind.f64.format.order a0 4607182418800017408 == some .lt) = true) then (some (FloatKind.f64.format.order t249 a0 == some .eq)) else (some true)) else (some true)))) else (some false)))) else (some false)) else (some false)) else (some false))) else (if (FloatKind.f64.format.order t249 0 == some .gt || FloatKind.f64.format.order t249 0 == some .eq) = true then (if (FloatKind.f64.format.order t249 4607182418800017408 == some .lt || FloatKind.f64.format.order t249 4607182418800017408 == some .eq) = true then ((quality_Clamp.f t249).bind fun t256 => ((broadsheetlaw14_same.f t256 t249).bind fun t257 => (if t257 = true then ((math_Signbit.f t249).bind fun t258 => (if t258 = true then (some false) else (if (FloatKind.f64.format.order a0 0 == some .gt) = true then (if ((FloatKind.f64.format.order a0 4607182418800017408 == some .lt) = true) then (some (FloatKind.f64.format.order t249 a0 == some .eq)) else (some true)) else (some true)))) else (some false)))) else (some false)) else (some false)))) else (if (FloatKind.f64.format.order t249 0 == some .gt || FloatKind.f64.format.order t249 0 == some .eq) = true then (if (FloatKind.f64.format.order t249 4607182418800017408 == some .lt || FloatKind.f64.format.order t249 4607182418800017408 == some .eq) = true then ((quality_Clamp.f t249).bind fun t259 => ((broadsheetlaw14_same.f t259 t249).bind fun t260 => (if t260 = true then ((math_Signbit.f t249).bind fun t261 => (if t261 = true then (some false) else (if (FloatKind.f64.format.order a0 0 == some .gt) = true then (if ((FloatKind.f64.format.order a0 4607182418800017408 == some .lt) = true) then (some (FloatKind.f64.format.order t249 a0 == some .eq)) else (some true)) else (some true)))) else (some false)))) else (some false)) else (some false)))) = some r := by rw [if_pos rfl] at H; exact H
     replace H := Option.bind_eq_some_iff.mp H
     obtain ⟨t250, A160, H⟩ := H
     replace H : (if t250 = true then ((quality_Ahead.f kj7 a1 a2).bind fun t251 => (if t251 = true then ((quality_Ahead.f kj7 a0 a2).bind fun t252 => (if t252 = true then (if (FloatKind.f64.format.order t249 0 == some .gt || FloatKind.f64.format.order t249 0 == some .eq) = true then (if (FloatKind.f64.format.order t249 4607182418800017408 == some .lt || FloatKind.f64.format.order t249 4607182418800017408 == some .eq) = true then ((quality_Clamp.f t249).bind fun t253 => ((broadsheetlaw14_same.f t253 t249).bind fun t254 => (if t254 = true then ((math_Signbit.f t249).bind fun t255 => (if t255 = true then (some false) else (if (FloatKind.f64.format.order a0 0 == some .gt) = true then (if ((FloatKind.f64.format.order a0 4607182418800017408 == some .lt) = true) then (some (FloatKind.f64.format.order t249 a0 == some .eq)) else (some true)) else (some true)))) else (some false)))) else (some false)) else (some false)) else (some false))) else (if (FloatKind.f64.format.order t249 0 == some .gt || FloatKind.f64.format.order t249 0 == some .eq) = true then (if (FloatKind.f64.format.order t249 4607182418800017408 == some .lt || FloatKind.f64.format.order t249 4607182418800017408 == some .eq) = true then ((quality_Clamp.f t249).bind fun t256 => ((broadsheetlaw14_same.f t256 t249).bind fun t257 => (if t257 = true then ((math_Signbit.f t249).bind fun t258 => (if t258 = true then (some false) else (if (FloatKind.f64.format.order a0 0 == some .gt) = true then (if ((FloatKind.f64.format.order a0 4607182418800017408 == some .lt) = true) then (some (FloatKind.f64.format.order t249 a0 == some .eq)) else (some true)) else (some true)))) else (some false)))) else (some false)) else (some false)))) else (if (FloatKind.f64.format.order t249 0 == some .gt || FloatKind.f64.format.order t249 0 == some .eq) = true then (if (FloatKind.f64.format.order t249 4607182418800017408 == some .lt || FloatKind.f64.format.order t249 4607182418800017408 == some .eq) = true then ((quality_Clamp.f t249).bind fun t259 => ((broadsheetlaw14_same.f t259 t249).bind fun t260 => (if t260 = true then ((math_Signbit.f t249).bind fun t261 => (if t261 = true then (some false) else (if (FloatKind.f64.format.order a0 0 == some .gt) = true then (if ((FloatKind.f64.format.order a0 4607182418800017408 == some .lt) = true) then (some (FloatKind.f64.format.order t249 a0 == some .eq)) else (some true)) else (some true)))) else (some false)))) else (some false)) else (some false))) = some r := H
     have A16 := Aside0.mk A160
     clear A160
     by_cases c17 : t250 = true
     ·subst c17
      replace H : ((quality_Ahead.f kj7 a1 a2).bind fun t251 => (if t251 = true then ((quality_Ahead.f kj7 a0 a2).bind fun t252 => (if t252 = true then (if (FloatKind.f64.format.order t249 0 == some .gt || FloatKind.f64.format.order t249 0 == some .eq) = true then (if (FloatKind.f64.format.order t249 4607182418800017408 == some .lt || FloatKind.f64.format.order t249 4607182418800017408 == some .eq) = true then ((quality_Clamp.f t249).bind fun t253 => ((broadsheetlaw14_same.f t253 t249).bind fun t254 => (if t254 = true then ((math_Signbit.f t249).bind fun t255 => (if t255 = true then (some false) else (if (FloatKind.f64.format.order a0 0 == some .gt) = true then (if ((FloatKind.f64.format.order a0 4607182418800017408 == some .lt) = true) then (some (FloatKind.f64.format.order t249 a0 == some .eq)) else (some true)) else (some true)))) else (some false)))) else (some false)) else (some false)) else (some false))) else (if (FloatKind.f64.format.order t249 0 == some .gt || FloatKind.f64.format.order t249 0 == some .eq) = true then (if (FloatKind.f64.format.order t249 4607182418800017408 == some .lt || FloatKind.f64.format.order t249 4607182418800017408 == some .eq) = true then ((quality_Clamp.f t249).bind fun t256 => ((broadsheetlaw14_same.f t256 t249).bind fun t257 => (if t257 = true then ((math_Signbit.f t249).bind fun t258 => (if t258 = true then (some false) else (if (FloatKind.f64.format.order a0 0 == some .gt) = true then (if ((FloatKind.f64.format.order a0 4607182418800017408 == some .lt) = true) then (some (FloatKind.f64.format.order t249 a0 == some .eq)) else (some true)) else (some true)))) else (some false)))) else (some false)) else (some false)))) = some r := by rw [if_pos rfl] at H; exact H
      replace H := Option.bind_eq_some_iff.mp H
      obtain ⟨t251, A180, H⟩ := H
      replace H : (if t251 = true then ((quality_Ahead.f kj7 a0 a2).bind fun t252 => (if t252 = true then (if (FloatKind.f64.format.order t249 0 == some .gt || FloatKind.f64.format.order t249 0 == some .eq) = true then (if (FloatKind.f64.format.order t249 4607182418800017408 == some .lt || FloatKind.f64.format.order t249 4607182418800017408 == some .eq) = true then ((quality_Clamp.f t249).bind fun t253 => ((broadsheetlaw14_same.f t253 t249).bind fun t254 => (if t254 = true then ((math_Signbit.f t249).bind fun t255 => (if t255 = true then (some false) else (if (FloatKind.f64.format.order a0 0 == some .gt) = true then (if ((FloatKind.f64.format.order a0 4607182418800017408 == some .lt) = true) then (some (FloatKind.f64.format.order t249 a0 == some .eq)) else (some true)) else (some true)))) else (some false)))) else (some false)) else (some false)) else (some false))) else (if (FloatKind.f64.format.order t249 0 == some .gt || FloatKind.f64.format.order t249 0 == some .eq) = true then (if (FloatKind.f64.format.order t249 4607182418800017408 == some .lt || FloatKind.f64.format.order t249 4607182418800017408 == some .eq) = true then ((quality_Clamp.f t249).bind fun t256 => ((broadsheetlaw14_same.f t256 t249).bind fun t257 => (if t257 = true then ((math_Signbit.f t249).bind fun t258 => (if t258 = true then (some false) else (if (FloatKind.f64.format.order a0 0 == some .gt) = true then (if ((FloatKind.f64.format.order a0 4607182418800017408 == some .lt) = true) then (some (FloatKind.f64.format.order t249 a0 == some .eq)) else (some true)) else (some true)))) else (some false)))) else (some false)) else (some false))) = some r := H
      have A18 := Aside0.mk A180
      clear A180
      by_cases c19 : t251 = true
      ·subst c19
       replace H : ((quality_Ahead.f kj7 a0 a2).bind fun t252 => (if t252 = true then (if (FloatKind.f64.format.order t249 0 == some .gt || FloatKind.f64.format.order t249 0 == some .eq) = true then (if (FloatKind.f64.format.order t249 4607182418800017408 == some .lt || FloatKind.f64.format.order t249 4607182418800017408 == some .eq) = true then ((quality_Clamp.f t249).bind fun t253 => ((broadsheetlaw14_same.f t253 t249).bind fun t254 => (if t254 = true then ((math_Signbit.f t249).bind fun t255 => (if t255 = true then (some false) else (if (FloatKind.f64.format.order a0 0 == some .gt) = true then (if ((FloatKind.f64.format.order a0 4607182418800017408 == some .lt) = true) then (some (FloatKind.f64.format.order t249 a0 == some .eq)) else (some true)) else (some true)))) else (some false)))) else (some false)) else (some false)) else (some false))) = some r := by rw [if_pos rfl] at H; exact H
       replace H := Option.bind_eq_some_iff.mp H
       obtain ⟨t252, A200, H⟩ := H
       replace H : (if t252 = true then (if (FloatKind.f64.format.order t249 0 == some .gt || FloatKind.f64.format.order t249 0 == some .eq) = true then (if (FloatKind.f64.format.order t249 4607182418800017408 == some .lt || FloatKind.f64.format.order t249 4607182418800017408 == some .eq) = true then ((quality_Clamp.f t249).bind fun t253 => ((broadsheetlaw14_same.f t253 t249).bind fun t254 => (if t254 = true then ((math_Signbit.f t249).bind fun t255 => (if t255 = true then (some false) else (if (FloatKind.f64.format.order a0 0 == some .gt) = true then (if ((FloatKind.f64.format.order a0 4607182418800017408 == some .lt) = true) then (some (FloatKind.f64.format.order t249 a0 == some .eq)) else (some true)) else (some true)))) else (some false)))) else (some false)) else (some false)) else (some false)) = some r := H
       have A20 := Aside0.mk A200
       clear A200
       by_cases c21 : t252 = true
       ·subst c21
        replace H : (if (FloatKind.f64.format.order t249 0 == some .gt || FloatKind.f64.format.order t249 0 == some .eq) = true then (if (FloatKind.f64.format.order t249 4607182418800017408 == some .lt || FloatKind.f64.format.order t249 4607182418800017408 == some .eq) = true then ((quality_Clamp.f t249).bind fun t253 => ((broadsheetlaw14_same.f t253 t249).bind fun t254 => (if t254 = true then ((math_Signbit.f t249).bind fun t255 => (if t255 = true then (some false) else (if (FloatKind.f64.format.order a0 0 == some .gt) = true then (if ((FloatKind.f64.format.order a0 4607182418800017408 == some .lt) = true) then (some (FloatKind.f64.format.order t249 a0 == some .eq)) else (some true)) else (some true)))) else (some false)))) else (some false)) else (some false)) = some r := by rw [if_pos rfl] at H; exact H
        by_cases c22 : (FloatKind.f64.format.order t249 0 == some .gt || FloatKind.f64.format.order t249 0 == some .eq) = true
        ·rw [if_pos c22] at H
         have c22b0 : (FloatKind.f64.format.order t249 0 == some .gt || FloatKind.f64.format.order t249 0 == some .eq) = true := c22
         (try (have c22b1 : decide (FloatKind.f64.format.order t249 0 = some .gt || FloatKind.f64.format.order t249 0 == some .eq) = true := by simpa using c22))
         (try (have c22b2 : (FloatKind.f64.format.order t249 0 == some .gt || FloatKind.f64.format.order t249 0 == some .eq) = true := by simpa using c22))
         clear c22
         by_cases c23 : (FloatKind.f64.format.order t249 4607182418800017408 == some .lt || FloatKind.f64.format.order t249 4607182418800017408 == some .eq) = true
         ·rw [if_pos c23] at H
          have c23b0 : (FloatKind.f64.format.order t249 4607182418800017408 == some .lt || FloatKind.f64.format.order t249 4607182418800017408 == some .eq) = true := c23
          (try (have c23b1 : decide (FloatKind.f64.format.order t249 4607182418800017408 = some .lt || FloatKind.f64.format.order t249 4607182418800017408 == some .eq) = true := by simpa using c23))
          (try (have c23b2 : (FloatKind.f64.format.order t249 4607182418800017408 == some .lt || FloatKind.f64.format.order t249 4607182418800017408 == some .eq) = true := by simpa using c23))
          clear c23
          replace H := Option.bind_eq_some_iff.mp H
          obtain ⟨t253, A240, H⟩ := H
          replace H : ((broadsheetlaw14_same.f t253 t249).bind fun t254 => (if t254 = true then ((math_Signbit.f t249).bind fun t255 => (if t255 = true then (some false) else (if (FloatKind.f64.format.order a0 0 == some .gt) = true then (if ((FloatKind.f64.format.order a0 4607182418800017408 == some .lt) = true) then (some (FloatKind.f64.format.order t249 a0 == some .eq)) else (some true)) else (some true)))) else (some false))) = some r := H
          have A24 := Aside0.mk A240
          clear A240
          replace H := Option.bind_eq_some_iff.mp H
          obtain ⟨t254, A250, H⟩ := H
          replace H : (if t254 = true then ((math_Signbit.f t249).bind fun t255 => (if t255 = true then (some false) else (if (FloatKind.f64.format.order a0 0 == some .gt) = true then (if ((FloatKind.f64.format.order a0 4607182418800017408 == some .lt) = true) then (some (FloatKind.f64.format.order t249 a0 == some .eq)) else (some true)) else (some true)))) else (some false)) = some r := H
          have A25 := Aside0.mk A250
          clear A250
          by_cases c26 : t254 = true
          ·subst c26
           replace H : ((math_Signbit.f t249).bind fun t255 => (if t255 = true then (some false) else (if (FloatKind.f64.format.order a0 0 == some .gt) = true then (if ((FloatKind.f64.format.order a0 4607182418800017408 == some .lt) = true) then (some (FloatKind.f64.format.order t249 a0 == some .eq)) else (some true)) else (some true)))) = some r := by rw [if_pos rfl] at H; exact H
           replace H := Option.bind_eq_some_iff.mp H
           obtain ⟨t255, A270, H⟩ := H
           replace H : (if t255 = true then (some false) else (if (FloatKind.f64.format.order a0 0 == some .gt) = true then (if ((FloatKind.f64.format.order a0 4607182418800017408 == some .lt) = true) then (some (FloatKind.f64.format.order t249 a0 == some .eq)) else (some true)) else (some true))) = some r := H
           have A27 := Aside0.mk A270
           clear A270
           by_cases c28 : t255 = true
           ·subst c28
            replace H : (some false) = some r := by rw [if_pos rfl] at H; exact H
            obtain rfl := Option.some.inj H
            go_wp2_with (first | ((with_reducible refine gate_callee (f := 19) rfl ?_); refine goesL_ (some 37) rfl rfl Tryd.func19 zb12 rfl #[.float .f64 a0] rfl zb1 ?_; (with_reducible refine (quality_Clamp.calls a0 t249 _ A15.out).mono ?_); rintro e w' ⟨rfl, ⟨nd, rfl⟩⟩; refine ⟨_, rfl, ?_⟩) | (go_at_call 17; (with_reducible refine (quality_Ahead.calls kj7 a0 a1 true _ A16.out).mono ?_); rintro e w' ⟨rfl, ⟨nd, rfl⟩⟩) | (go_at_call 17; (with_reducible refine (quality_Ahead.calls kj7 a1 a2 true _ A18.out).mono ?_); rintro e w' ⟨rfl, ⟨nd, rfl⟩⟩) | (go_at_call 17; (with_reducible refine (quality_Ahead.calls kj7 a0 a2 true _ A20.out).mono ?_); rintro e w' ⟨rfl, ⟨nd, rfl⟩⟩) | (go_at_call 19; (with_reducible refine (quality_Clamp.calls t249 t253 _ A24.out).mono ?_); rintro e w' ⟨rfl, ⟨nd, rfl⟩⟩) | (go_at_call 14; (with_reducible refine (broadsheetlaw14_same.calls t253 t249 true _ A25.out).mono ?_); rintro e w' ⟨rfl, ⟨nd, rfl⟩⟩) | (go_at_call 21; (with_reducible refine (math_Signbit.calls t249 true _ A27.out).mono ?_); rintro e w' ⟨rfl, ⟨nd, rfl⟩⟩))
            go_ret
            exact ⟨zb6, zb0⟩
           ·replace c28 := Bool.eq_false_iff.mpr c28
            subst c28
            replace H : (if (FloatKind.f64.format.order a0 0 == some .gt) = true then (if ((FloatKind.f64.format.order a0 4607182418800017408 == some .lt) = true) then (some (FloatKind.f64.format.order t249 a0 == some .eq)) else (some true)) else (some true)) = some r := by rw [if_neg (show ¬ (false = true) by decide)] at H; exact H
            by_cases c29 : (FloatKind.f64.format.order a0 0 == some .gt) = true
            ·rw [if_pos c29] at H
             have c29b0 : (FloatKind.f64.format.order a0 0 == some .gt) = true := c29
             (try (have c29b1 : decide (FloatKind.f64.format.order a0 0 = some .gt) = true := by simpa using c29))
             (try (have c29b2 : (FloatKind.f64.format.order a0 0 == some .gt) = true := by simpa using c29))
             clear c29
             by_cases c30 : ((FloatKind.f64.format.order a0 4607182418800017408 == some .lt) = true)
             ·rw [if_pos c30] at H
              have c30b0 : (FloatKind.f64.format.order a0 4607182418800017408 == some .lt) = true := c30
              (try (have c30b1 : decide (FloatKind.f64.format.order a0 4607182418800017408 = some .lt) = true := by simpa using c30))
              (try (have c30b2 : (FloatKind.f64.format.order a0 4607182418800017408 == some .lt) = true := by simpa using c30))
              clear c30
              obtain rfl := Option.some.inj H
              go_wp2_with (first | ((with_reducible refine gate_callee (f := 19) rfl ?_); refine goesL_ (some 37) rfl rfl Tryd.func19 zb12 rfl #[.float .f64 a0] rfl zb1 ?_; (with_reducible refine (quality_Clamp.calls a0 t249 _ A15.out).mono ?_); rintro e w' ⟨rfl, ⟨nd, rfl⟩⟩; refine ⟨_, rfl, ?_⟩) | (go_at_call 17; (with_reducible refine (quality_Ahead.calls kj7 a0 a1 true _ A16.out).mono ?_); rintro e w' ⟨rfl, ⟨nd, rfl⟩⟩) | (go_at_call 17; (with_reducible refine (quality_Ahead.calls kj7 a1 a2 true _ A18.out).mono ?_); rintro e w' ⟨rfl, ⟨nd, rfl⟩⟩) | (go_at_call 17; (with_reducible refine (quality_Ahead.calls kj7 a0 a2 true _ A20.out).mono ?_); rintro e w' ⟨rfl, ⟨nd, rfl⟩⟩) | (go_at_call 19; (with_reducible refine (quality_Clamp.calls t249 t253 _ A24.out).mono ?_); rintro e w' ⟨rfl, ⟨nd, rfl⟩⟩) | (go_at_call 14; (with_reducible refine (broadsheetlaw14_same.calls t253 t249 true _ A25.out).mono ?_); rintro e w' ⟨rfl, ⟨nd, rfl⟩⟩) | (go_at_call 21; (with_reducible refine (math_Signbit.calls t249 false _ A27.out).mono ?_); rintro e w' ⟨rfl, ⟨nd, rfl⟩⟩))
              go_ret
              exact ⟨zb6, zb0⟩
             ·rw [if_neg c30] at H
              have c30b0 : (FloatKind.f64.format.order a0 4607182418800017408 == some .lt) = false := by simpa using c30
              (try (have c30b1 : decide (FloatKind.f64.format.order a0 4607182418800017408 = some .lt) = false := by simpa using c30))
              (try (have c30b2 : (FloatKind.f64.format.order a0 4607182418800017408 == some .lt) = false := by simpa using c30))
              (try (have c30b3 : ¬ (FloatKind.f64.format.order a0 4607182418800017408 = some .lt) := by simpa using c30))
              clear c30
              obtain rfl := Option.some.inj H
              go_wp2_with (first | ((with_reducible refine gate_callee (f := 19) rfl ?_); refine goesL_ (some 37) rfl rfl Tryd.func19 zb12 rfl #[.float .f64 a0] rfl zb1 ?_; (with_reducible refine (quality_Clamp.calls a0 t249 _ A15.out).mono ?_); rintro e w' ⟨rfl, ⟨nd, rfl⟩⟩; refine ⟨_, rfl, ?_⟩) | (go_at_call 17; (with_reducible refine (quality_Ahead.calls kj7 a0 a1 true _ A16.out).mono ?_); rintro e w' ⟨rfl, ⟨nd, rfl⟩⟩) | (go_at_call 17; (with_reducible refine (quality_Ahead.calls kj7 a1 a2 true _ A18.out).mono ?_); rintro e w' ⟨rfl, ⟨nd, rfl⟩⟩) | (go_at_call 17; (with_reducible refine (quality_Ahead.calls kj7 a0 a2 true _ A20.out).mono ?_); rintro e w' ⟨rfl, ⟨nd, rfl⟩⟩) | (go_at_call 19; (with_reducible refine (quality_Clamp.calls t249 t253 _ A24.out).mono ?_); rintro e w' ⟨rfl, ⟨nd, rfl⟩⟩) | (go_at_call 14; (with_reducible refine (broadsheetlaw14_same.calls t253 t249 true _ A25.out).mono ?_); rintro e w' ⟨rfl, ⟨nd, rfl⟩⟩) | (go_at_call 21; (with_reducible refine (math_Signbit.calls t249 false _ A27.out).mono ?_); rintro e w' ⟨rfl, ⟨nd, rfl⟩⟩))
              go_ret
              exact ⟨zb6, zb0⟩
            ·rw [if_neg c29] at H
             have c29b0 : (FloatKind.f64.format.order a0 0 == some .gt) = false := by simpa using c29
             (try (have c29b1 : decide (FloatKind.f64.format.order a0 0 = some .gt) = false := by simpa using c29))
             (try (have c29b2 : (FloatKind.f64.format.order a0 0 == some .gt) = false := by simpa using c29))
             (try (have c29b3 : ¬ (FloatKind.f64.format.order a0 0 = some .gt) := by simpa using c29))
             clear c29
             obtain rfl := Option.some.inj H
             go_wp2_with (first | ((with_reducible refine gate_callee (f := 19) rfl ?_); refine goesL_ (some 37) rfl rfl Tryd.func19 zb12 rfl #[.float .f64 a0] rfl zb1 ?_; (with_reducible refine (quality_Clamp.calls a0 t249 _ A15.out).mono ?_); rintro e w' ⟨rfl, ⟨nd, rfl⟩⟩; refine ⟨_, rfl, ?_⟩) | (go_at_call 17; (with_reducible refine (quality_Ahead.calls kj7 a0 a1 true _ A16.out).mono ?_); rintro e w' ⟨rfl, ⟨nd, rfl⟩⟩) | (go_at_call 17; (with_reducible refine (quality_Ahead.calls kj7 a1 a2 true _ A18.out).mono ?_); rintro e w' ⟨rfl, ⟨nd, rfl⟩⟩) | (go_at_call 17; (with_reducible refine (quality_Ahead.calls kj7 a0 a2 true _ A20.out).mono ?_); rintro e w' ⟨rfl, ⟨nd, rfl⟩⟩) | (go_at_call 19; (with_reducible refine (quality_Clamp.calls t249 t253 _ A24.out).mono ?_); rintro e w' ⟨rfl, ⟨nd, rfl⟩⟩) | (go_at_call 14; (with_reducible refine (broadsheetlaw14_same.calls t253 t249 true _ A25.out).mono ?_); rintro e w' ⟨rfl, ⟨nd, rfl⟩⟩) | (go_at_call 21; (with_reducible refine (math_Signbit.calls t249 false _ A27.out).mono ?_); rintro e w' ⟨rfl, ⟨nd, rfl⟩⟩))
             go_ret
             exact ⟨zb6, zb0⟩
          ·replace c26 := Bool.eq_false_iff.mpr c26
           subst c26
           replace H : (some false) = some r := by rw [if_neg (show ¬ (false = true) by decide)] at H; exact H
           obtain rfl := Option.some.inj H
           go_wp2_with (first | ((with_reducible refine gate_callee (f := 19) rfl ?_); refine goesL_ (some 37) rfl rfl Tryd.func19 zb12 rfl #[.float .f64 a0] rfl zb1 ?_; (with_reducible refine (quality_Clamp.calls a0 t249 _ A15.out).mono ?_); rintro e w' ⟨rfl, ⟨nd, rfl⟩⟩; refine ⟨_, rfl, ?_⟩) | (go_at_call 17; (with_reducible refine (quality_Ahead.calls kj7 a0 a1 true _ A16.out).mono ?_); rintro e w' ⟨rfl, ⟨nd, rfl⟩⟩) | (go_at_call 17; (with_reducible refine (quality_Ahead.calls kj7 a1 a2 true _ A18.out).mono ?_); rintro e w' ⟨rfl, ⟨nd, rfl⟩⟩) | (go_at_call 17; (with_reducible refine (quality_Ahead.calls kj7 a0 a2 true _ A20.out).mono ?_); rintro e w' ⟨rfl, ⟨nd, rfl⟩⟩) | (go_at_call 19; (with_reducible refine (quality_Clamp.calls t249 t253 _ A24.out).mono ?_); rintro e w' ⟨rfl, ⟨nd, rfl⟩⟩) | (go_at_call 14; (with_reducible refine (broadsheetlaw14_same.calls t253 t249 false _ A25.out).mono ?_); rintro e w' ⟨rfl, ⟨nd, rfl⟩⟩))
           go_ret
           exact ⟨zb6, zb0⟩
         ·rw [if_neg c23] at H
          have c23b0 : (FloatKind.f64.format.order t249 4607182418800017408 == some .lt || FloatKind.f64.format.order t249 4607182418800017408 == some .eq) = false := by simpa using c23
          (try (have c23b1 : decide (FloatKind.f64.format.order t249 4607182418800017408 = some .lt || FloatKind.f64.format.order t249 4607182418800017408 == some .eq) = false := by simpa using c23))
          (try (have c23b2 : (FloatKind.f64.format.order t249 4607182418800017408 == some .lt || FloatKind.f64.format.order t249 4607182418800017408 == some .eq) = false := by simpa using c23))
          (try (have c23b3 : ¬ (FloatKind.f64.format.order t249 4607182418800017408 = some .lt || FloatKind.f64.format.order t249 4607182418800017408 == some .eq) := by simpa using c23))
          clear c23
          obtain rfl := Option.some.inj H
          go_wp2_with (first | ((with_reducible refine gate_callee (f := 19) rfl ?_); refine goesL_ (some 37) rfl rfl Tryd.func19 zb12 rfl #[.float .f64 a0] rfl zb1 ?_; (with_reducible refine (quality_Clamp.calls a0 t249 _ A15.out).mono ?_); rintro e w' ⟨rfl, ⟨nd, rfl⟩⟩; refine ⟨_, rfl, ?_⟩) | (go_at_call 17; (with_reducible refine (quality_Ahead.calls kj7 a0 a1 true _ A16.out).mono ?_); rintro e w' ⟨rfl, ⟨nd, rfl⟩⟩) | (go_at_call 17; (with_reducible refine (quality_Ahead.calls kj7 a1 a2 true _ A18.out).mono ?_); rintro e w' ⟨rfl, ⟨nd, rfl⟩⟩) | (go_at_call 17; (with_reducible refine (quality_Ahead.calls kj7 a0 a2 true _ A20.out).mono ?_); rintro e w' ⟨rfl, ⟨nd, rfl⟩⟩))
          go_ret
          exact ⟨zb6, zb0⟩
        ·rw [if_neg c22] at H
         have c22b0 : (FloatKind.f64.format.order t249 0 == some .gt || FloatKind.f64.format.order t249 0 == some .eq) = false := by simpa using c22
         (try (have c22b1 : decide (FloatKind.f64.format.order t249 0 = some .gt || FloatKind.f64.format.order t249 0 == some .eq) = false := by simpa using c22))
         (try (have c22b2 : (FloatKind.f64.format.order t249 0 == some .gt || FloatKind.f64.format.order t249 0 == some .eq) = false := by simpa using c22))
         (try (have c22b3 : ¬ (FloatKind.f64.format.order t249 0 = some .gt || FloatKind.f64.format.order t249 0 == some .eq) := by simpa using c22))
         clear c22
         obtain rfl := Option.some.inj H
         go_wp2_with (first | ((with_reducible refine gate_callee (f := 19) rfl ?_); refine goesL_ (some 37) rfl rfl Tryd.func19 zb12 rfl #[.float .f64 a0] rfl zb1 ?_; (with_reducible refine (quality_Clamp.calls a0 t249 _ A15.out).mono ?_); rintro e w' ⟨rfl, ⟨nd, rfl⟩⟩; refine ⟨_, rfl, ?_⟩) | (go_at_call 17; (with_reducible refine (quality_Ahead.calls kj7 a0 a1 true _ A16.out).mono ?_); rintro e w' ⟨rfl, ⟨nd, rfl⟩⟩) | (go_at_call 17; (with_reducible refine (quality_Ahead.calls kj7 a1 a2 true _ A18.out).mono ?_); rintro e w' ⟨rfl, ⟨nd, rfl⟩⟩) | (go_at_call 17; (with_reducible refine (quality_Ahead.calls kj7 a0 a2 true _ A20.out).mono ?_); rintro e w' ⟨rfl, ⟨nd, rfl⟩⟩))
         go_ret
         exact ⟨zb6, zb0⟩
       ·replace c21 := Bool.eq_false_iff.mpr c21
        subst c21
        replace H : (some false) = some r := by rw [if_neg (show ¬ (false = true) by decide)] at H; exact H
        obtain rfl := Option.some.inj H
        go_wp2_with (first | ((with_reducible refine gate_callee (f := 19) rfl ?_); refine goesL_ (some 37) rfl rfl Tryd.func19 zb12 rfl #[.float .f64 a0] rfl zb1 ?_; (with_reducible refine (quality_Clamp.calls a0 t249 _ A15.out).mono ?_); rintro e w' ⟨rfl, ⟨nd, rfl⟩⟩; refine ⟨_, rfl, ?_⟩) | (go_at_call 17; (with_reducible refine (quality_Ahead.calls kj7 a0 a1 true _ A16.out).mono ?_); rintro e w' ⟨rfl, ⟨nd, rfl⟩⟩) | (go_at_call 17; (with_reducible refine (quality_Ahead.calls kj7 a1 a2 true _ A18.out).mono ?_); rintro e w' ⟨rfl, ⟨nd, rfl⟩⟩) | (go_at_call 17; (with_reducible refine (quality_Ahead.calls kj7 a0 a2 false _ A20.out).mono ?_); rintro e w' ⟨rfl, ⟨nd, rfl⟩⟩))
        go_ret
        exact ⟨zb6, zb0⟩
      ·replace c19 := Bool.eq_false_iff.mpr c19
       subst c19
       replace H : (if (FloatKind.f64.format.order t249 0 == some .gt || FloatKind.f64.format.order t249 0 == some .eq) = true then (if (FloatKind.f64.format.order t249 4607182418800017408 == some .lt || FloatKind.f64.format.order t249 4607182418800017408 == some .eq) = true then ((quality_Clamp.f t249).bind fun t256 => ((broadsheetlaw14_same.f t256 t249).bind fun t257 => (if t257 = true then ((math_Signbit.f t249).bind fun t258 => (if t258 = true then (some false) else (if (FloatKind.f64.format.order a0 0 == some .gt) = true then (if ((FloatKind.f64.format.order a0 4607182418800017408 == some .lt) = true) then (some (FloatKind.f64.format.order t249 a0 == some .eq)) else (some true)) else (some true)))) else (some false)))) else (some false)) else (some false)) = some r := by rw [if_neg (show ¬ (false = true) by decide)] at H; exact H
       by_cases c31 : (FloatKind.f64.format.order t249 0 == some .gt || FloatKind.f64.format.order t249 0 == some .eq) = true
       ·rw [if_pos c31] at H
        have c31b0 : (FloatKind.f64.format.order t249 0 == some .gt || FloatKind.f64.format.order t249 0 == some .eq) = true := c31
        (try (have c31b1 : decide (FloatKind.f64.format.order t249 0 = some .gt || FloatKind.f64.format.order t249 0 == some .eq) = true := by simpa using c31))
        (try (have c31b2 : (FloatKind.f64.format.order t249 0 == some .gt || FloatKind.f64.format.order t249 0 == some .eq) = true := by simpa using c31))
        clear c31
        by_cases c32 : (FloatKind.f64.format.order t249 4607182418800017408 == some .lt || FloatKind.f64.format.order t249 4607182418800017408 == some .eq) = true
        ·rw [if_pos c32] at H
         have c32b0 : (FloatKind.f64.format.order t249 4607182418800017408 == some .lt || FloatKind.f64.format.order t249 4607182418800017408 == some .eq) = true := c32
         (try (have c32b1 : decide (FloatKind.f64.format.order t249 4607182418800017408 = some .lt || FloatKind.f64.format.order t249 4607182418800017408 == some .eq) = true := by simpa using c32))
         (try (have c32b2 : (FloatKind.f64.format.order t249 4607182418800017408 == some .lt || FloatKind.f64.format.order t249 4607182418800017408 == some .eq) = true := by simpa using c32))
         clear c32
         replace H := Option.bind_eq_some_iff.mp H
         obtain ⟨t256, A330, H⟩ := H
         replace H : ((broadsheetlaw14_same.f t256 t249).bind fun t257 => (if t257 = true then ((math_Signbit.f t249).bind fun t258 => (if t258 = true then (some false) else (if (FloatKind.f64.format.order a0 0 == some .gt) = true then (if ((FloatKind.f64.format.order a0 4607182418800017408 == some .lt) = true) then (some (FloatKind.f64.format.order t249 a0 == some .eq)) else (some true)) else (some true)))) else (some false))) = some r := H
         have A33 := Aside0.mk A330
         clear A330
         replace H := Option.bind_eq_some_iff.mp H
         obtain ⟨t257, A340, H⟩ := H
         replace H : (if t257 = true then ((math_Signbit.f t249).bind fun t258 => (if t258 = true then (some false) else (if (FloatKind.f64.format.order a0 0 == some .gt) = true then (if ((FloatKind.f64.format.order a0 4607182418800017408 == some .lt) = true) then (some (FloatKind.f64.format.order t249 a0 == some .eq)) else (some true)) else (some true)))) else (some false)) = some r := H
         have A34 := Aside0.mk A340
         clear A340
         by_cases c35 : t257 = true
         ·subst c35
          replace H : ((math_Signbit.f t249).bind fun t258 => (if t258 = true then (some false) else (if (FloatKind.f64.format.order a0 0 == some .gt) = true then (if ((FloatKind.f64.format.order a0 4607182418800017408 == some .lt) = true) then (some (FloatKind.f64.format.order t249 a0 == some .eq)) else (some true)) else (some true)))) = some r := by rw [if_pos rfl] at H; exact H
          replace H := Option.bind_eq_some_iff.mp H
          obtain ⟨t258, A360, H⟩ := H
          replace H : (if t258 = true then (some false) else (if (FloatKind.f64.format.order a0 0 == some .gt) = true then (if ((FloatKind.f64.format.order a0 4607182418800017408 == some .lt) = true) then (some (FloatKind.f64.format.order t249 a0 == some .eq)) else (some true)) else (some true))) = some r := H
          have A36 := Aside0.mk A360
          clear A360
          by_cases c37 : t258 = true
          ·subst c37
           replace H : (some false) = some r := by rw [if_pos rfl] at H; exact H
           obtain rfl := Option.some.inj H
           go_wp2_with (first | ((with_reducible refine gate_callee (f := 19) rfl ?_); refine goesL_ (some 37) rfl rfl Tryd.func19 zb12 rfl #[.float .f64 a0] rfl zb1 ?_; (with_reducible refine (quality_Clamp.calls a0 t249 _ A15.out).mono ?_); rintro e w' ⟨rfl, ⟨nd, rfl⟩⟩; refine ⟨_, rfl, ?_⟩) | (go_at_call 17; (with_reducible refine (quality_Ahead.calls kj7 a0 a1 true _ A16.out).mono ?_); rintro e w' ⟨rfl, ⟨nd, rfl⟩⟩) | (go_at_call 17; (with_reducible refine (quality_Ahead.calls kj7 a1 a2 false _ A18.out).mono ?_); rintro e w' ⟨rfl, ⟨nd, rfl⟩⟩) | (go_at_call 19; (with_reducible refine (quality_Clamp.calls t249 t256 _ A33.out).mono ?_); rintro e w' ⟨rfl, ⟨nd, rfl⟩⟩) | (go_at_call 14; (with_reducible refine (broadsheetlaw14_same.calls t256 t249 true _ A34.out).mono ?_); rintro e w' ⟨rfl, ⟨nd, rfl⟩⟩) | (go_at_call 21; (with_reducible refine (math_Signbit.calls t249 true _ A36.out).mono ?_); rintro e w' ⟨rfl, ⟨nd, rfl⟩⟩))
           go_ret
           exact ⟨zb6, zb0⟩
          ·replace c37 := Bool.eq_false_iff.mpr c37
           subst c37
           replace H : (if (FloatKind.f64.format.order a0 0 == some .gt) = true then (if ((FloatKind.f64.format.order a0 4607182418800017408 == some .lt) = true) then (some (FloatKind.f64.format.order t249 a0 == some .eq)) else (some true)) else (some true)) = some r := by rw [if_neg (show ¬ (false = true) by decide)] at H; exact H
           by_cases c38 : (FloatKind.f64.format.order a0 0 == some .gt) = true
           ·rw [if_pos c38] at H
            have c38b0 : (FloatKind.f64.format.order a0 0 == some .gt) = true := c38
            (try (have c38b1 : decide (FloatKind.f64.format.order a0 0 = some .gt) = true := by simpa using c38))
            (try (have c38b2 : (FloatKind.f64.format.order a0 0 == some .gt) = true := by simpa using c38))
            clear c38
            by_cases c39 : ((FloatKind.f64.format.order a0 4607182418800017408 == some .lt) = true)
            ·rw [if_pos c39] at H
             have c39b0 : (FloatKind.f64.format.order a0 4607182418800017408 == some .lt) = true := c39
             (try (have c39b1 : decide (FloatKind.f64.format.order a0 4607182418800017408 = some .lt) = true := by simpa using c39))
             (try (have c39b2 : (FloatKind.f64.format.order a0 4607182418800017408 == some .lt) = true := by simpa using c39))
             clear c39
             obtain rfl := Option.some.inj H
             go_wp2_with (first | ((with_reducible refine gate_callee (f := 19) rfl ?_); refine goesL_ (some 37) rfl rfl Tryd.func19 zb12 rfl #[.float .f64 a0] rfl zb1 ?_; (with_reducible refine (quality_Clamp.calls a0 t249 _ A15.out).mono ?_); rintro e w' ⟨rfl, ⟨nd, rfl⟩⟩; refine ⟨_, rfl, ?_⟩) | (go_at_call 17; (with_reducible refine (quality_Ahead.calls kj7 a0 a1 true _ A16.out).mono ?_); rintro e w' ⟨rfl, ⟨nd, rfl⟩⟩) | (go_at_call 17; (with_reducible refine (quality_Ahead.calls kj7 a1 a2 false _ A18.out).mono ?_); rintro e w' ⟨rfl, ⟨nd, rfl⟩⟩) | (go_at_call 19; (with_reducible refine (quality_Clamp.calls t249 t256 _ A33.out).mono ?_); rintro e w' ⟨rfl, ⟨nd, rfl⟩⟩) | (go_at_call 14; (with_reducible refine (broadsheetlaw14_same.calls t256 t249 true _ A34.out).mono ?_); rintro e w' ⟨rfl, ⟨nd, rfl⟩⟩) | (go_at_call 21; (with_reducible refine (math_Signbit.calls t249 false _ A36.out).mono ?_); rintro e w' ⟨rfl, ⟨nd, rfl⟩⟩))
             go_ret
             exact ⟨zb6, zb0⟩
            ·rw [if_neg c39] at H
             have c39b0 : (FloatKind.f64.format.order a0 4607182418800017408 == some .lt) = false := by simpa using c39
             (try (have c39b1 : decide (FloatKind.f64.format.order a0 4607182418800017408 = some .lt) = false := by simpa using c39))
             (try (have c39b2 : (FloatKind.f64.format.order a0 4607182418800017408 == some .lt) = false := by simpa using c39))
             (try (have c39b3 : ¬ (FloatKind.f64.format.order a0 4607182418800017408 = some .lt) := by simpa using c39))
             clear c39
             obtain rfl := Option.some.inj H
             go_wp2_with (first | ((with_reducible refine gate_callee (f := 19) rfl ?_); refine goesL_ (some 37) rfl rfl Tryd.func19 zb12 rfl #[.float .f64 a0] rfl zb1 ?_; (with_reducible refine (quality_Clamp.calls a0 t249 _ A15.out).mono ?_); rintro e w' ⟨rfl, ⟨nd, rfl⟩⟩; refine ⟨_, rfl, ?_⟩) | (go_at_call 17; (with_reducible refine (quality_Ahead.calls kj7 a0 a1 true _ A16.out).mono ?_); rintro e w' ⟨rfl, ⟨nd, rfl⟩⟩) | (go_at_call 17; (with_reducible refine (quality_Ahead.calls kj7 a1 a2 false _ A18.out).mono ?_); rintro e w' ⟨rfl, ⟨nd, rfl⟩⟩) | (go_at_call 19; (with_reducible refine (quality_Clamp.calls t249 t256 _ A33.out).mono ?_); rintro e w' ⟨rfl, ⟨nd, rfl⟩⟩) | (go_at_call 14; (with_reducible refine (broadsheetlaw14_same.calls t256 t249 true _ A34.out).mono ?_); rintro e w' ⟨rfl, ⟨nd, rfl⟩⟩) | (go_at_call 21; (with_reducible refine (math_Signbit.calls t249 false _ A36.out).mono ?_); rintro e w' ⟨rfl, ⟨nd, rfl⟩⟩))
             go_ret
             exact ⟨zb6, zb0⟩
           ·rw [if_neg c38] at H
            have c38b0 : (FloatKind.f64.format.order a0 0 == some .gt) = false := by simpa using c38
            (try (have c38b1 : decide (FloatKind.f64.format.order a0 0 = some .gt) = false := by simpa using c38))
            (try (have c38b2 : (FloatKind.f64.format.order a0 0 == some .gt) = false := by simpa using c38))
            (try (have c38b3 : ¬ (FloatKind.f64.format.order a0 0 = some .gt) := by simpa using c38))
            clear c38
            obtain rfl := Option.some.inj H
            go_wp2_with (first | ((with_reducible refine gate_callee (f := 19) rfl ?_); refine goesL_ (some 37) rfl rfl Tryd.func19 zb12 rfl #[.float .f64 a0] rfl zb1 ?_; (with_reducible refine (quality_Clamp.calls a0 t249 _ A15.out).mono ?_); rintro e w' ⟨rfl, ⟨nd, rfl⟩⟩; refine ⟨_, rfl, ?_⟩) | (go_at_call 17; (with_reducible refine (quality_Ahead.calls kj7 a0 a1 true _ A16.out).mono ?_); rintro e w' ⟨rfl, ⟨nd, rfl⟩⟩) | (go_at_call 17; (with_reducible refine (quality_Ahead.calls kj7 a1 a2 false _ A18.out).mono ?_); rintro e w' ⟨rfl, ⟨nd, rfl⟩⟩) | (go_at_call 19; (with_reducible refine (quality_Clamp.calls t249 t256 _ A33.out).mono ?_); rintro e w' ⟨rfl, ⟨nd, rfl⟩⟩) | (go_at_call 14; (with_reducible refine (broadsheetlaw14_same.calls t256 t249 true _ A34.out).mono ?_); rintro e w' ⟨rfl, ⟨nd, rfl⟩⟩) | (go_at_call 21; (with_reducible refine (math_Signbit.calls t249 false _ A36.out).mono ?_); rintro e w' ⟨rfl, ⟨nd, rfl⟩⟩))
            go_ret
            exact ⟨zb6, zb0⟩
         ·replace c35 := Bool.eq_false_iff.mpr c35
          subst c35
          replace H : (some false) = some r := by rw [if_neg (show ¬ (false = true) by decide)] at H; exact H
          obtain rfl := Option.some.inj H
          go_wp2_with (first | ((with_reducible refine gate_callee (f := 19) rfl ?_); refine goesL_ (some 37) rfl rfl Tryd.func19 zb12 rfl #[.float .f64 a0] rfl zb1 ?_; (with_reducible refine (quality_Clamp.calls a0 t249 _ A15.out).mono ?_); rintro e w' ⟨rfl, ⟨nd, rfl⟩⟩; refine ⟨_, rfl, ?_⟩) | (go_at_call 17; (with_reducible refine (quality_Ahead.calls kj7 a0 a1 true _ A16.out).mono ?_); rintro e w' ⟨rfl, ⟨nd, rfl⟩⟩) | (go_at_call 17; (with_reducible refine (quality_Ahead.calls kj7 a1 a2 false _ A18.out).mono ?_); rintro e w' ⟨rfl, ⟨nd, rfl⟩⟩) | (go_at_call 19; (with_reducible refine (quality_Clamp.calls t249 t256 _ A33.out).mono ?_); rintro e w' ⟨rfl, ⟨nd, rfl⟩⟩) | (go_at_call 14; (with_reducible refine (broadsheetlaw14_same.calls t256 t249 false _ A34.out).mono ?_); rintro e w' ⟨rfl, ⟨nd, rfl⟩⟩))
          go_ret
          exact ⟨zb6, zb0⟩
        ·rw [if_neg c32] at H
         have c32b0 : (FloatKind.f64.format.order t249 4607182418800017408 == some .lt || FloatKind.f64.format.order t249 4607182418800017408 == some .eq) = false := by simpa using c32
         (try (have c32b1 : decide (FloatKind.f64.format.order t249 4607182418800017408 = some .lt || FloatKind.f64.format.order t249 4607182418800017408 == some .eq) = false := by simpa using c32))
         (try (have c32b2 : (FloatKind.f64.format.order t249 4607182418800017408 == some .lt || FloatKind.f64.format.order t249 4607182418800017408 == some .eq) = false := by simpa using c32))
         (try (have c32b3 : ¬ (FloatKind.f64.format.order t249 4607182418800017408 = some .lt || FloatKind.f64.format.order t249 4607182418800017408 == some .eq) := by simpa using c32))
         clear c32
         obtain rfl := Option.some.inj H
         go_wp2_with (first | ((with_reducible refine gate_callee (f := 19) rfl ?_); refine goesL_ (some 37) rfl rfl Tryd.func19 zb12 rfl #[.float .f64 a0] rfl zb1 ?_; (with_reducible refine (quality_Clamp.calls a0 t249 _ A15.out).mono ?_); rintro e w' ⟨rfl, ⟨nd, rfl⟩⟩; refine ⟨_, rfl, ?_⟩) | (go_at_call 17; (with_reducible refine (quality_Ahead.calls kj7 a0 a1 true _ A16.out).mono ?_); rintro e w' ⟨rfl, ⟨nd, rfl⟩⟩) | (go_at_call 17; (with_reducible refine (quality_Ahead.calls kj7 a1 a2 false _ A18.out).mono ?_); rintro e w' ⟨rfl, ⟨nd, rfl⟩⟩))
         go_ret
         exact ⟨zb6, zb0⟩
       ·rw [if_neg c31] at H
        have c31b0 : (FloatKind.f64.format.order t249 0 == some .gt || FloatKind.f64.format.order t249 0 == some .eq) = false := by simpa using c31
        (try (have c31b1 : decide (FloatKind.f64.format.order t249 0 = some .gt || FloatKind.f64.format.order t249 0 == some .eq) = false := by simpa using c31))
        (try (have c31b2 : (FloatKind.f64.format.order t249 0 == some .gt || FloatKind.f64.format.order t249 0 == some .eq) = false := by simpa using c31))
        (try (have c31b3 : ¬ (FloatKind.f64.format.order t249 0 = some .gt || FloatKind.f64.format.order t249 0 == some .eq) := by simpa using c31))
        clear c31
        obtain rfl := Option.some.inj H
        go_wp2_with (first | ((with_reducible refine gate_callee (f := 19) rfl ?_); refine goesL_ (some 37) rfl rfl Tryd.func19 zb12 rfl #[.float .f64 a0] rfl zb1 ?_; (with_reducible refine (quality_Clamp.calls a0 t249 _ A15.out).mono ?_); rintro e w' ⟨rfl, ⟨nd, rfl⟩⟩; refine ⟨_, rfl, ?_⟩) | (go_at_call 17; (with_reducible refine (quality_Ahead.calls kj7 a0 a1 true _ A16.out).mono ?_); rintro e w' ⟨rfl, ⟨nd, rfl⟩⟩) | (go_at_call 17; (with_reducible refine (quality_Ahead.calls kj7 a1 a2 false _ A18.out).mono ?_); rintro e w' ⟨rfl, ⟨nd, rfl⟩⟩))
        go_ret
        exact ⟨zb6, zb0⟩
     ·replace c17 := Bool.eq_false_iff.mpr c17
      subst c17
      replace H : (if (FloatKind.f64.format.order t249 0 == some .gt || FloatKind.f64.format.order t249 0 == some .eq) = true then (if (FloatKind.f64.format.order t249 4607182418800017408 == some .lt || FloatKind.f64.format.order t249 4607182418800017408 == some .eq) = true then ((quality_Clamp.f t249).bind fun t259 => ((broadsheetlaw14_same.f t259 t249).bind fun t260 => (if t260 = true then ((math_Signbit.f t249).bind fun t261 => (if t261 = true then (some false) else (if (FloatKind.f64.format.order a0 0 == some .gt) = true then (if ((FloatKind.f64.format.order a0 4607182418800017408 == some .lt) = true) then (some (FloatKind.f64.format.order t249 a0 == some .eq)) else (some true)) else (some true)))) else (some false)))) else (some false)) else (some false)) = some r := by rw [if_neg (show ¬ (false = true) by decide)] at H; exact H
      by_cases c40 : (FloatKind.f64.format.order t249 0 == some .gt || FloatKind.f64.format.order t249 0 == some .eq) = true
      ·rw [if_pos c40] at H
       have c40b0 : (FloatKind.f64.format.order t249 0 == some .gt || FloatKind.f64.format.order t249 0 == some .eq) = true := c40
       (try (have c40b1 : decide (FloatKind.f64.format.order t249 0 = some .gt || FloatKind.f64.format.order t249 0 == some .eq) = true := by simpa using c40))
       (try (have c40b2 : (FloatKind.f64.format.order t249 0 == some .gt || FloatKind.f64.format.order t249 0 == some .eq) = true := by simpa using c40))
       clear c40
       by_cases c41 : (FloatKind.f64.format.order t249 4607182418800017408 == some .lt || FloatKind.f64.format.order t249 4607182418800017408 == some .eq) = true
       ·rw [if_pos c41] at H
        have c41b0 : (FloatKind.f64.format.order t249 4607182418800017408 == some .lt || FloatKind.f64.format.order t249 4607182418800017408 == some .eq) = true := c41
        (try (have c41b1 : decide (FloatKind.f64.format.order t249 4607182418800017408 = some .lt || FloatKind.f64.format.order t249 4607182418800017408 == some .eq) = true := by simpa using c41))
        (try (have c41b2 : (FloatKind.f64.format.order t249 4607182418800017408 == some .lt || FloatKind.f64.format.order t249 4607182418800017408 == some .eq) = true := by simpa using c41))
        clear c41
        replace H := Option.bind_eq_some_iff.mp H
        obtain ⟨t259, A420, H⟩ := H
        replace H : ((broadsheetlaw14_same.f t259 t249).bind fun t260 => (if t260 = true then ((math_Signbit.f t249).bind fun t261 => (if t261 = true then (some false) else (if (FloatKind.f64.format.order a0 0 == some .gt) = true then (if ((FloatKind.f64.format.order a0 4607182418800017408 == some .lt) = true) then (some (FloatKind.f64.format.order t249 a0 == some .eq)) else (some true)) else (some true)))) else (some false))) = some r := H
        have A42 := Aside0.mk A420
        clear A420
        replace H := Option.bind_eq_some_iff.mp H
        obtain ⟨t260, A430, H⟩ := H
        replace H : (if t260 = true then ((math_Signbit.f t249).bind fun t261 => (if t261 = true then (some false) else (if (FloatKind.f64.format.order a0 0 == some .gt) = true then (if ((FloatKind.f64.format.order a0 4607182418800017408 == some .lt) = true) then (some (FloatKind.f64.format.order t249 a0 == some .eq)) else (some true)) else (some true)))) else (some false)) = some r := H
        have A43 := Aside0.mk A430
        clear A430
        by_cases c44 : t260 = true
        ·subst c44
         replace H : ((math_Signbit.f t249).bind fun t261 => (if t261 = true then (some false) else (if (FloatKind.f64.format.order a0 0 == some .gt) = true then (if ((FloatKind.f64.format.order a0 4607182418800017408 == some .lt) = true) then (some (FloatKind.f64.format.order t249 a0 == some .eq)) else (some true)) else (some true)))) = some r := by rw [if_pos rfl] at H; exact H
         replace H := Option.bind_eq_some_iff.mp H
         obtain ⟨t261, A450, H⟩ := H
         replace H : (if t261 = true then (some false) else (if (FloatKind.f64.format.order a0 0 == some .gt) = true then (if ((FloatKind.f64.format.order a0 4607182418800017408 == some .lt) = true) then (some (FloatKind.f64.format.order t249 a0 == some .eq)) else (some true)) else (some true))) = some r := H
         have A45 := Aside0.mk A450
         clear A450
         by_cases c46 : t261 = true
         ·subst c46
          replace H : (some false) = some r := by rw [if_pos rfl] at H; exact H
          obtain rfl := Option.some.inj H
          go_wp2_with (first | ((with_reducible refine gate_callee (f := 19) rfl ?_); refine goesL_ (some 37) rfl rfl Tryd.func19 zb12 rfl #[.float .f64 a0] rfl zb1 ?_; (with_reducible refine (quality_Clamp.calls a0 t249 _ A15.out).mono ?_); rintro e w' ⟨rfl, ⟨nd, rfl⟩⟩; refine ⟨_, rfl, ?_⟩) | (go_at_call 17; (with_reducible refine (quality_Ahead.calls kj7 a0 a1 false _ A16.out).mono ?_); rintro e w' ⟨rfl, ⟨nd, rfl⟩⟩) | (go_at_call 19; (with_reducible refine (quality_Clamp.calls t249 t259 _ A42.out).mono ?_); rintro e w' ⟨rfl, ⟨nd, rfl⟩⟩) | (go_at_call 14; (with_reducible refine (broadsheetlaw14_same.calls t259 t249 true _ A43.out).mono ?_); rintro e w' ⟨rfl, ⟨nd, rfl⟩⟩) | (go_at_call 21; (with_reducible refine (math_Signbit.calls t249 true _ A45.out).mono ?_); rintro e w' ⟨rfl, ⟨nd, rfl⟩⟩))
          go_ret
          exact ⟨zb6, zb0⟩
         ·replace c46 := Bool.eq_false_iff.mpr c46
          subst c46
          replace H : (if (FloatKind.f64.format.order a0 0 == some .gt) = true then (if ((FloatKind.f64.format.order a0 4607182418800017408 == some .lt) = true) then (some (FloatKind.f64.format.order t249 a0 == some .eq)) else (some true)) else (some true)) = some r := by rw [if_neg (show ¬ (false = true) by decide)] at H; exact H
          by_cases c47 : (FloatKind.f64.format.order a0 0 == some .gt) = true
          ·rw [if_pos c47] at H
           have c47b0 : (FloatKind.f64.format.order a0 0 == some .gt) = true := c47
           (try (have c47b1 : decide (FloatKind.f64.format.order a0 0 = some .gt) = true := by simpa using c47))
           (try (have c47b2 : (FloatKind.f64.format.order a0 0 == some .gt) = true := by simpa using c47))
           clear c47
           by_cases c48 : ((FloatKind.f64.format.order a0 4607182418800017408 == some .lt) = true)
           ·rw [if_pos c48] at H
            have c48b0 : (FloatKind.f64.format.order a0 4607182418800017408 == some .lt) = true := c48
            (try (have c48b1 : decide (FloatKind.f64.format.order a0 4607182418800017408 = some .lt) = true := by simpa using c48))
            (try (have c48b2 : (FloatKind.f64.format.order a0 4607182418800017408 == some .lt) = true := by simpa using c48))
            clear c48
            obtain rfl := Option.some.inj H
            go_wp2_with (first | ((with_reducible refine gate_callee (f := 19) rfl ?_); refine goesL_ (some 37) rfl rfl Tryd.func19 zb12 rfl #[.float .f64 a0] rfl zb1 ?_; (with_reducible refine (quality_Clamp.calls a0 t249 _ A15.out).mono ?_); rintro e w' ⟨rfl, ⟨nd, rfl⟩⟩; refine ⟨_, rfl, ?_⟩) | (go_at_call 17; (with_reducible refine (quality_Ahead.calls kj7 a0 a1 false _ A16.out).mono ?_); rintro e w' ⟨rfl, ⟨nd, rfl⟩⟩) | (go_at_call 19; (with_reducible refine (quality_Clamp.calls t249 t259 _ A42.out).mono ?_); rintro e w' ⟨rfl, ⟨nd, rfl⟩⟩) | (go_at_call 14; (with_reducible refine (broadsheetlaw14_same.calls t259 t249 true _ A43.out).mono ?_); rintro e w' ⟨rfl, ⟨nd, rfl⟩⟩) | (go_at_call 21; (with_reducible refine (math_Signbit.calls t249 false _ A45.out).mono ?_); rintro e w' ⟨rfl, ⟨nd, rfl⟩⟩))
            go_ret
            exact ⟨zb6, zb0⟩
           ·rw [if_neg c48] at H
            have c48b0 : (FloatKind.f64.format.order a0 4607182418800017408 == some .lt) = false := by simpa using c48
            (try (have c48b1 : decide (FloatKind.f64.format.order a0 4607182418800017408 = some .lt) = false := by simpa using c48))
            (try (have c48b2 : (FloatKind.f64.format.order a0 4607182418800017408 == some .lt) = false := by simpa using c48))
            (try (have c48b3 : ¬ (FloatKind.f64.format.order a0 4607182418800017408 = some .lt) := by simpa using c48))
            clear c48
            obtain rfl := Option.some.inj H
            go_wp2_with (first | ((with_reducible refine gate_callee (f := 19) rfl ?_); refine goesL_ (some 37) rfl rfl Tryd.func19 zb12 rfl #[.float .f64 a0] rfl zb1 ?_; (with_reducible refine (quality_Clamp.calls a0 t249 _ A15.out).mono ?_); rintro e w' ⟨rfl, ⟨nd, rfl⟩⟩; refine ⟨_, rfl, ?_⟩) | (go_at_call 17; (with_reducible refine (quality_Ahead.calls kj7 a0 a1 false _ A16.out).mono ?_); rintro e w' ⟨rfl, ⟨nd, rfl⟩⟩) | (go_at_call 19; (with_reducible refine (quality_Clamp.calls t249 t259 _ A42.out).mono ?_); rintro e w' ⟨rfl, ⟨nd, rfl⟩⟩) | (go_at_call 14; (with_reducible refine (broadsheetlaw14_same.calls t259 t249 true _ A43.out).mono ?_); rintro e w' ⟨rfl, ⟨nd, rfl⟩⟩) | (go_at_call 21; (with_reducible refine (math_Signbit.calls t249 false _ A45.out).mono ?_); rintro e w' ⟨rfl, ⟨nd, rfl⟩⟩))
            go_ret
            exact ⟨zb6, zb0⟩
          ·rw [if_neg c47] at H
           have c47b0 : (FloatKind.f64.format.order a0 0 == some .gt) = false := by simpa using c47
           (try (have c47b1 : decide (FloatKind.f64.format.order a0 0 = some .gt) = false := by simpa using c47))
           (try (have c47b2 : (FloatKind.f64.format.order a0 0 == some .gt) = false := by simpa using c47))
           (try (have c47b3 : ¬ (FloatKind.f64.format.order a0 0 = some .gt) := by simpa using c47))
           clear c47
           obtain rfl := Option.some.inj H
           go_wp2_with (first | ((with_reducible refine gate_callee (f := 19) rfl ?_); refine goesL_ (some 37) rfl rfl Tryd.func19 zb12 rfl #[.float .f64 a0] rfl zb1 ?_; (with_reducible refine (quality_Clamp.calls a0 t249 _ A15.out).mono ?_); rintro e w' ⟨rfl, ⟨nd, rfl⟩⟩; refine ⟨_, rfl, ?_⟩) | (go_at_call 17; (with_reducible refine (quality_Ahead.calls kj7 a0 a1 false _ A16.out).mono ?_); rintro e w' ⟨rfl, ⟨nd, rfl⟩⟩) | (go_at_call 19; (with_reducible refine (quality_Clamp.calls t249 t259 _ A42.out).mono ?_); rintro e w' ⟨rfl, ⟨nd, rfl⟩⟩) | (go_at_call 14; (with_reducible refine (broadsheetlaw14_same.calls t259 t249 true _ A43.out).mono ?_); rintro e w' ⟨rfl, ⟨nd, rfl⟩⟩) | (go_at_call 21; (with_reducible refine (math_Signbit.calls t249 false _ A45.out).mono ?_); rintro e w' ⟨rfl, ⟨nd, rfl⟩⟩))
           go_ret
           exact ⟨zb6, zb0⟩
        ·replace c44 := Bool.eq_false_iff.mpr c44
         subst c44
         replace H : (some false) = some r := by rw [if_neg (show ¬ (false = true) by decide)] at H; exact H
         obtain rfl := Option.some.inj H
         go_wp2_with (first | ((with_reducible refine gate_callee (f := 19) rfl ?_); refine goesL_ (some 37) rfl rfl Tryd.func19 zb12 rfl #[.float .f64 a0] rfl zb1 ?_; (with_reducible refine (quality_Clamp.calls a0 t249 _ A15.out).mono ?_); rintro e w' ⟨rfl, ⟨nd, rfl⟩⟩; refine ⟨_, rfl, ?_⟩) | (go_at_call 17; (with_reducible refine (quality_Ahead.calls kj7 a0 a1 false _ A16.out).mono ?_); rintro e w' ⟨rfl, ⟨nd, rfl⟩⟩) | (go_at_call 19; (with_reducible refine (quality_Clamp.calls t249 t259 _ A42.out).mono ?_); rintro e w' ⟨rfl, ⟨nd, rfl⟩⟩) | (go_at_call 14; (with_reducible refine (broadsheetlaw14_same.calls t259 t249 false _ A43.out).mono ?_); rintro e w' ⟨rfl, ⟨nd, rfl⟩⟩))
         go_ret
         exact ⟨zb6, zb0⟩
       ·rw [if_neg c41] at H
        have c41b0 : (FloatKind.f64.format.order t249 4607182418800017408 == some .lt || FloatKind.f64.format.order t249 4607182418800017408 == some .eq) = false := by simpa using c41
        (try (have c41b1 : decide (FloatKind.f64.format.order t249 4607182418800017408 = some .lt || FloatKind.f64.format.order t249 4607182418800017408 == some .eq) = false := by simpa using c41))
        (try (have c41b2 : (FloatKind.f64.format.order t249 4607182418800017408 == some .lt || FloatKind.f64.format.order t249 4607182418800017408 == some .eq) = false := by simpa using c41))
        (try (have c41b3 : ¬ (FloatKind.f64.format.order t249 4607182418800017408 = some .lt || FloatKind.f64.format.order t249 4607182418800017408 == some .eq) := by simpa using c41))
        clear c41
        obtain rfl := Option.some.inj H
        go_wp2_with (first | ((with_reducible refine gate_callee (f := 19) rfl ?_); refine goesL_ (some 37) rfl rfl Tryd.func19 zb12 rfl #[.float .f64 a0] rfl zb1 ?_; (with_reducible refine (quality_Clamp.calls a0 t249 _ A15.out).mono ?_); rintro e w' ⟨rfl, ⟨nd, rfl⟩⟩; refine ⟨_, rfl, ?_⟩) | (go_at_call 17; (with_reducible refine (quality_Ahead.calls kj7 a0 a1 false _ A16.out).mono ?_); rintro e w' ⟨rfl, ⟨nd, rfl⟩⟩))
        go_ret
        exact ⟨zb6, zb0⟩
      ·rw [if_neg c40] at H
       have c40b0 : (FloatKind.f64.format.order t249 0 == some .gt || FloatKind.f64.format.order t249 0 == some .eq) = false := by simpa using c40
       (try (have c40b1 : decide (FloatKind.f64.format.order t249 0 = some .gt || FloatKind.f64.format.order t249 0 == some .eq) = false := by simpa using c40))
       (try (have c40b2 : (FloatKind.f64.format.order t249 0 == some .gt || FloatKind.f64.format.order t249 0 == some .eq) = false := by simpa using c40))
       (try (have c40b3 : ¬ (FloatKind.f64.format.order t249 0 = some .gt || FloatKind.f64.format.order t249 0 == some .eq) := by simpa using c40))
       clear c40
       obtain rfl := Option.some.inj H
       go_wp2_with (first | ((with_reducible refine gate_callee (f := 19) rfl ?_); refine goesL_ (some 37) rfl rfl Tryd.func19 zb12 rfl #[.float .f64 a0] rfl zb1 ?_; (with_reducible refine (quality_Clamp.calls a0 t249 _ A15.out).mono ?_); rintro e w' ⟨rfl, ⟨nd, rfl⟩⟩; refine ⟨_, rfl, ?_⟩) | (go_at_call 17; (with_reducible refine (quality_Ahead.calls kj7 a0 a1 false _ A16.out).mono ?_); rintro e w' ⟨rfl, ⟨nd, rfl⟩⟩))
       go_ret
       exact ⟨zb6, zb0⟩
 ·replace c5 := Bool.eq_false_iff.mpr c5
  subst c5
  replace H : (some false) = some r := by rw [if_neg (show ¬ (false = true) by decide)] at H; exact H
  obtain rfl := Option.some.inj H
  go_enter Tryd.func7, Tryd.ntmps7
  go_wp2_with (first | ((with_reducible refine gate_callee (f := 8) rfl ?_); refine goesL_ (some 11) rfl rfl Tryd.func8 zb12 rfl #[] rfl zb1 ?_; (with_reducible refine (broadsheetlaw14_awake.calls k  false _ ?side1 A4.out).mono ?_); (case side1 => exact Glob.below hGA.out zb0); rintro e w49 ⟨rfl, hb⟩; refine ⟨_, rfl, ?_⟩; have n0_ := Aside0.mk (below_step zb0 hb); clear HB; have HB := n0_; clear n0_; (try clear hb); (try clear hb2); (try clear hk); (try clear hi)))
  go_ret
  exact ⟨zb6, zb0⟩
end Go.Proofs.YtghfbhobpodoeaaDoor.P
/- SpOrder -/
namespace Go.Proofs.YtghfbhobpodoeaaDoor.Sp
open Go Go.RowKit Go.Proofs.YtghfbhobpodoeaaDoorW.PrintWords Go.Proofs.YtghfbhobpodoeaaDoorW.PrintLast Go.Proofs.YtghfbhobpodoeaaDoor.O Go.Proofs.YtghfbhobpodoeaaDoor.P
set_option linter.unusedVariables false
set_option linter.unusedSimpArgs false
def sgn (a : Nat) : Bool := decide (wrap64 (a : Int) < 0)
theorem sgn_neg (a : Nat) (h : a < 18446744073709551616) : sgn a = negB a := by
  unfold sgn negB wrap64
  by_cases h1 : a < 9223372036854775808
  · have h2 : a / 2 ^ 63 = 0 := by omega
    rw [h2]
    simp
    omega
  · have h2 : a / 2 ^ 63 = 1 := by omega
    rw [h2]
    simp
    omega
theorem key_pos {a : Nat} (h : 0 < keyI a) : negB a = false := by
  unfold keyI at h
  cases hn : negB a
  · rfl
  · rw [hn] at h; simp at h; omega
theorem key_neg {a : Nat} (h : keyI a < 0) : negB a = true := by
  unfold keyI at h
  cases hn : negB a
  · rw [hn] at h; simp at h; omega
  · rfl
def aheadW (a b : Nat) : Bool := if nanB a = true ∨ nanB b = true then !nanB a && nanB b else if keyI a = keyI b then decide (keyI a = 0) && !sgn a && sgn b else decide (keyI b < keyI a)
theorem key_0 : keyI 0 = 0 := by decide
theorem nan_0 : nanB 0 = false := by decide
theorem nan_1 : nanB one64 = false := by decide
theorem key_1 : keyI one64 = 4607182418800017408 := by decide
theorem sgnF (a : Nat) : math_Signbit.f a = some (sgn a) := rfl
theorem nanF (a : Nat) : math_IsNaN.f a = some (nanB a) := by rw [math_IsNaN.f, nan_eq]
theorem aheadW_num {a b : Nat} (ha : nanB a = false) (hb : nanB b = false) : aheadW a b = if keyI a = keyI b then decide (keyI a = 0) && !sgn a && sgn b else decide (keyI b < keyI a) := by
  unfold aheadW
  rw [if_neg (show ¬ (nanB a = true ∨ nanB b = true) by rw [ha, hb]; decide)]
theorem sameW_ (a b : Nat) : sameW a b = ((nanB a && nanB b) || (!nanB a && !nanB b && decide (keyI a = keyI b) && (sgn a == sgn b))) := rfl
theorem j0F (a b k : Nat) (ha : nanB a = false) (hb : nanB b = false) (p q : Bool) : quality_Ahead.j0 (k + 1) a b p q false = some (aheadW a b) := by
  rw [aheadW_num ha hb, quality_Ahead.j0, if_neg Bool.false_ne_true, eq_key a b, eq_key a 0, gt_key, ha, hb, nan_0, key_0, sgnF, sgnF]
  generalize keyI a = x
  generalize keyI b = y
  generalize sgn a = s
  generalize sgn b = u
  by_cases h1 : x = y
  · rw [if_pos (show (!false && !false && decide (x = y)) = true by rw [decide_eq_true h1]; rfl), if_pos h1]
    by_cases h2 : x = 0
    · rw [if_pos (show (!false && !false && decide (x = 0)) = true by rw [decide_eq_true h2]; rfl), decide_eq_true h2]
      cases s <;> cases u <;> rfl
    · rw [if_neg (show ¬ (!false && !false && decide (x = 0)) = true by rw [decide_eq_false h2]; decide), decide_eq_false h2]
      rfl
  · rw [if_neg (show ¬ (!false && !false && decide (x = y)) = true by rw [decide_eq_false h1]; decide), if_neg h1]
    rfl
theorem aheadF (a b k : Nat) (hk : 1 ≤ k) : quality_Ahead.f k a b = some (aheadW a b) := by
  obtain ⟨k, rfl⟩ : ∃ m, k = m + 1 := ⟨k - 1, by omega⟩
  rw [quality_Ahead.f, nanF, nanF, Option.bind_some, Option.bind_some]
  cases ha : nanB a with
  | true =>
    rw [if_pos rfl, quality_Ahead.j0, if_pos rfl, if_pos rfl]
    unfold aheadW
    rw [if_pos (Or.inl ha), ha]
    rfl
  | false =>
    rw [if_neg Bool.false_ne_true]
    cases hb : nanB b with
    | true =>
      rw [quality_Ahead.j0, if_pos rfl, if_neg Bool.false_ne_true]
      unfold aheadW
      rw [if_pos (Or.inr hb), ha, hb]
      rfl
    | false => exact j0F a b k ha hb false false
theorem same_bool (m n d s u : Bool) : (if m = true then (if n = true then some true else (if (!m && !n && d) = true then ((some s).bind fun t206 => ((some u).bind fun t207 => (some (t206 == t207)))) else (some false))) else (if (!m && !n && d) = true then ((some s).bind fun t206 => ((some u).bind fun t207 => (some (t206 == t207)))) else (some false))) = some ((m && n) || (!m && !n && d && (s == u))) := by
  cases m <;> cases n <;> cases d <;> rfl
theorem sameF_ (a b : Nat) : broadsheetlaw14_same.f a b = some (sameW a b) := by
  rw [broadsheetlaw14_same.f, nan_eq, nan_eq, eq_key, sgnF, sgnF, sameW_]
  exact same_bool _ _ _ _ _
theorem aheadW_nl {a b : Nat} (ha : nanB a = true) : aheadW a b = false := by
  unfold aheadW
  rw [if_pos (Or.inl ha), ha]
  rfl
theorem aheadW_nr {a b : Nat} (ha : nanB a = false) (hb : nanB b = true) : aheadW a b = true := by
  unfold aheadW
  rw [if_pos (Or.inr hb), ha, hb]
  rfl
theorem sgn_key {a : Nat} (ha : a < 18446744073709551616) (h : keyI a ≠ 0) : sgn a = decide (keyI a < 0) := by
  rw [sgn_neg a ha]
  rcases Int.lt_or_gt_of_ne h with h1 | h1
  · rw [key_neg h1, decide_eq_true h1]
  · rw [key_pos h1, decide_eq_false (by omega)]
theorem and3 {p q r : Bool} (h : (p && !q && r) = true) : p = true ∧ q = false ∧ r = true := by
  cases p <;> cases q <;> cases r <;> first | exact ⟨rfl, rfl, rfl⟩ | exact absurd h (by decide)
theorem ahead_not (a b : Nat) (h : aheadW a b = true) : aheadW b a = false := by
  cases hna : nanB a with
  | true => rw [aheadW_nl hna] at h; cases h
  | false =>
    cases hnb : nanB b with
    | true => exact aheadW_nl hnb
    | false =>
      rw [aheadW_num hna hnb] at h
      rw [aheadW_num hnb hna]
      by_cases he : keyI a = keyI b
      · rw [if_pos he] at h
        obtain ⟨_, h2, h3⟩ := and3 h
        rw [if_pos he.symm, h2, h3]
        cases decide (keyI b = 0) <;> rfl
      · rw [if_neg he] at h
        rw [if_neg (fun x => he x.symm)]
        have := of_decide_eq_true h
        exact decide_eq_false (by omega)
theorem ahead_same (a b : Nat) (ha : a < 18446744073709551616) (hb : b < 18446744073709551616) : sameW a b = (!aheadW a b && !aheadW b a) := by
  rw [sameW_]
  cases hna : nanB a with
  | true =>
    rw [aheadW_nl hna]
    cases hnb : nanB b with
    | true => rw [aheadW_nl hnb]; rfl
    | false => rw [aheadW_nr hnb hna]; rfl
  | false =>
    cases hnb : nanB b with
    | true => rw [aheadW_nr hna hnb]; rfl
    | false =>
      rw [aheadW_num hna hnb, aheadW_num hnb hna]
      have s1 := sgn_key ha
      have s2 := sgn_key hb
      generalize sgn a = s at *
      generalize sgn b = u at *
      generalize keyI a = x at *
      generalize keyI b = y at *
      by_cases he : x = y
      · subst he
        rw [if_pos rfl, if_pos rfl, decide_eq_true (rfl : x = x)]
        by_cases h0 : x = 0
        · rw [decide_eq_true h0]
          cases s <;> cases u <;> rfl
        · rw [decide_eq_false h0, s1 h0, s2 h0]
          cases decide (x < 0) <;> rfl
      · rw [if_neg he, if_neg (fun h => he h.symm), decide_eq_false he]
        rcases Int.lt_or_gt_of_ne he with h1 | h1
        · rw [decide_eq_true h1, decide_eq_false (show ¬ y < x by omega)]; rfl
        · rw [decide_eq_true (show y < x from h1), decide_eq_false (show ¬ x < y by omega)]; rfl
theorem ahead_trans (a b c : Nat) (h1 : aheadW a b = true) (h2 : aheadW b c = true) : aheadW a c = true := by
  cases hna : nanB a with
  | true => rw [aheadW_nl hna] at h1; cases h1
  | false =>
    cases hnb : nanB b with
    | true => rw [aheadW_nl hnb] at h2; cases h2
    | false =>
      cases hnc : nanB c with
      | true => exact aheadW_nr hna hnc
      | false =>
        rw [aheadW_num hna hnb] at h1
        rw [aheadW_num hnb hnc] at h2
        rw [aheadW_num hna hnc]
        generalize sgn a = s at *
        generalize sgn b = u at *
        generalize sgn c = v at *
        generalize keyI a = x at *
        generalize keyI b = y at *
        generalize keyI c = z at *
        by_cases e1 : x = y
        · rw [if_pos e1] at h1
          obtain ⟨_, _, g1⟩ := and3 h1
          by_cases e2 : y = z
          · rw [if_pos e2] at h2
            obtain ⟨_, g2, _⟩ := and3 h2
            rw [g1] at g2; cases g2
          · rw [if_neg e2] at h2
            have := of_decide_eq_true h2
            rw [if_neg (by omega)]
            exact decide_eq_true (by omega)
        · rw [if_neg e1] at h1
          have := of_decide_eq_true h1
          by_cases e2 : y = z
          · rw [if_neg (by omega)]
            exact decide_eq_true (by omega)
          · rw [if_neg e2] at h2
            have := of_decide_eq_true h2
            rw [if_neg (by omega)]
            exact decide_eq_true (by omega)
theorem clamp_is (a : Nat) : clampW a = if nanB a = true then 0 else if keyI a ≤ 0 then 0 else if keyI a < 4607182418800017408 then a else one64 := by
  unfold clampW
  rw [gt_key, nan_0, key_0]
  cases hn : nanB a with
  | true => simp
  | false =>
    simp only [Bool.not_false, Bool.true_and, decide_eq_true_eq, Bool.false_eq_true, if_false]
    by_cases h : 0 < keyI a
    · rw [if_pos h, if_neg (show ¬ keyI a ≤ 0 by omega), order_key hn nan_1, key_1, cmp_int]
      by_cases h1 : keyI a < 4607182418800017408
      · rw [if_pos h1, if_pos h1]
      · rw [if_neg h1, if_neg h1]
        by_cases h2 : keyI a = 4607182418800017408
        · rw [if_pos h2]
          have h3 : (FloatKind.f64.decode a).neg = false := by
            have h4 := key_pos h
            have h5 : rungN a ≤ infR := by simpa [nanB] using hn
            show (Ieee.double.read a).neg = false
            rcases Nat.lt_or_eq_of_le h5 with h6 | h6
            · obtain ⟨m, i, e, _⟩ := read_num h6
              rw [e, h4]; rfl
            · rw [read_inf h6, h4]; rfl
          simp only
          rw [h3]
          rfl
        · rw [if_neg h2]
    · rw [if_neg h, if_pos (show keyI a ≤ 0 by omega)]
theorem same_self (x : Nat) : sameW x x = true := by
  rw [sameW_, decide_eq_true (rfl : keyI x = keyI x), beq_self_eq_true]
  cases nanB x <;> rfl
theorem sgn_0 : sgn 0 = false := by rw [sgn_neg 0 (by decide)]; decide
theorem sgn_1 : sgn one64 = false := by rw [sgn_neg one64 (by decide)]; decide
theorem clamp_0 : clampW 0 = 0 := by rw [clamp_is, nan_0, if_neg Bool.false_ne_true, key_0, if_pos (Int.le_refl 0)]
theorem clamp_1 : clampW one64 = one64 := by rw [clamp_is, nan_1, if_neg Bool.false_ne_true, key_1, if_neg (by decide), if_neg (by decide)]
theorem clamp_facts (a : Nat) (ha : a < 18446744073709551616) : nanB (clampW a) = false ∧ 0 ≤ keyI (clampW a) ∧ keyI (clampW a) ≤ 4607182418800017408 ∧ sgn (clampW a) = false ∧ clampW (clampW a) = clampW a ∧ (nanB a = false → 0 < keyI a → keyI a < 4607182418800017408 → clampW a = a) := by
  have hz : nanB 0 = false ∧ 0 ≤ keyI 0 ∧ keyI 0 ≤ 4607182418800017408 ∧ sgn 0 = false ∧ clampW 0 = 0 := ⟨nan_0, by rw [key_0]; omega, by rw [key_0]; omega, sgn_0, clamp_0⟩
  cases hn : nanB a with
  | true =>
    have e : clampW a = 0 := by rw [clamp_is a, hn, if_pos rfl]
    rw [e]
    exact ⟨hz.1, hz.2.1, hz.2.2.1, hz.2.2.2.1, hz.2.2.2.2, fun h => by cases h⟩
  | false =>
    by_cases h : keyI a ≤ 0
    · have e : clampW a = 0 := by rw [clamp_is a, hn, if_neg Bool.false_ne_true, if_pos h]
      rw [e]
      exact ⟨hz.1, hz.2.1, hz.2.2.1, hz.2.2.2.1, hz.2.2.2.2, fun _ h1 => by omega⟩
    · by_cases h1 : keyI a < 4607182418800017408
      · have e : clampW a = a := by rw [clamp_is a, hn, if_neg Bool.false_ne_true, if_neg h, if_pos h1]
        rw [e]
        exact ⟨hn, by omega, by omega, by rw [sgn_neg a ha]; exact key_pos (by omega), e, fun _ _ _ => rfl⟩
      · have e : clampW a = one64 := by rw [clamp_is a, hn, if_neg Bool.false_ne_true, if_neg h, if_neg h1]
        rw [e]
        exact ⟨nan_1, by rw [key_1]; omega, by rw [key_1]; omega, sgn_1, clamp_1, fun _ _ h2 => absurd h2 h1⟩
theorem order_bool (p q r i1 i2 i3 : Bool) (g3 : p = true → q = true → r = true) (g8 : i1 = true → i2 = true → i3 = true) :
    (if p = true then (if q = true then (if r = true then (if i1 = true then (if i2 = true then some i3 else some true) else some true) else some false) else (if i1 = true then (if i2 = true then some i3 else some true) else some true)) else (if i1 = true then (if i2 = true then some i3 else some true) else some true)) = some true := by
  cases i1
  · cases p
    · rfl
    · cases q
      · rfl
      · rw [g3 rfl rfl]; rfl
  · cases i2
    · cases p
      · rfl
      · cases q
        · rfl
        · rw [g3 rfl rfl]; rfl
    · rw [g8 rfl rfl]
      cases p
      · rfl
      · cases q
        · rfl
        · rw [g3 rfl rfl]; rfl
theorem order_j0 (a b c k : Nat) (hk : 2 ≤ k) (ha : a < 18446744073709551616) (hb : b < 18446744073709551616) (hc : c < 18446744073709551616) : broadsheetlaw14_QualityOrder.j0 k a b c true false = some true := by
  obtain ⟨k, rfl⟩ : ∃ m, k = m + 1 := ⟨k - 1, by omega⟩
  obtain ⟨f1, f2, f3, f4, f5, f6⟩ := clamp_facts a ha
  rw [broadsheetlaw14_QualityOrder.j0]
  unfold quality_Clamp.f
  rw [aheadF a b k (by omega), aheadF b c k (by omega), aheadF a c k (by omega)]
  simp only [Option.bind_some, Bool.false_eq_true, if_false, if_true, f5, sameF_, same_self]
  have g4 : (FloatKind.f64.format.order (clampW a) 0 == some .gt || FloatKind.f64.format.order (clampW a) 0 == some .eq) = true := by
    rw [gt_key, eq_key, f1, nan_0, key_0]
    simp
    omega
  have g5 : (FloatKind.f64.format.order (clampW a) 4607182418800017408 == some .lt || FloatKind.f64.format.order (clampW a) 4607182418800017408 == some .eq) = true := by
    have e : (4607182418800017408 : Nat) = one64 := rfl
    rw [e, lt_key, eq_key, f1, nan_1, key_1]
    simp
    omega
  have g7 : math_Signbit.f (clampW a) = some false := by rw [sgnF, f4]
  have g8 : (FloatKind.f64.format.order a 0 == some .gt) = true → (FloatKind.f64.format.order a 4607182418800017408 == some .lt) = true → (FloatKind.f64.format.order (clampW a) a == some .eq) = true := by
    have e : (4607182418800017408 : Nat) = one64 := rfl
    intro h1 h2
    rw [gt_key, nan_0, key_0] at h1
    rw [e, lt_key, nan_1, key_1] at h2
    simp at h1 h2
    rw [f6 h1.1 h1.2 h2.2, eq_key, h1.1]
    simp
  have g3 := ahead_trans a b c
  rw [g4, g5, g7]
  simp only [Option.bind_some, Bool.false_eq_true, if_false, if_true]
  generalize (FloatKind.f64.format.order a 0 == some .gt) = i1 at *
  generalize (FloatKind.f64.format.order a 4607182418800017408 == some .lt) = i2 at *
  generalize (FloatKind.f64.format.order (clampW a) a == some .eq) = i3 at *
  generalize aheadW a b = p at *
  generalize aheadW b c = q at *
  generalize aheadW a c = r at *
  exact order_bool p q r i1 i2 i3 g3 g8
theorem quality_order_all (a b c : Nat) (ha : a < 18446744073709551616) (hb : b < 18446744073709551616) (hc : c < 18446744073709551616) : ∃ k, broadsheetlaw14_QualityOrder.f k a b c = some true := by
  refine ⟨20000000, ?_⟩
  unfold broadsheetlaw14_QualityOrder.f
  rw [awake14 _ (by omega)]
  simp only [Option.bind_some, if_true]
  rw [aheadF a b _ (by omega), aheadF b a _ (by omega)]
  simp only [Option.bind_some, sameF_]
  have hs := ahead_same a b ha hb
  cases h1 : aheadW a b with
  | true =>
    have h2 := ahead_not a b h1
    rw [h1, h2] at hs
    simp only [h2, if_true, Bool.false_eq_true, if_false, hs]
    exact order_j0 a b c _ (by omega) ha hb hc
  | false =>
    rw [h1] at hs
    simp only [Bool.false_eq_true, if_false, hs]
    cases h2 : aheadW b a <;> exact order_j0 a b c _ (by omega) ha hb hc
end Go.Proofs.YtghfbhobpodoeaaDoor.Sp
/- CardW -/
namespace Go.Proofs.YtghfbhobpodoeaaDoor.Cg
open Go.RowKit Go.Proofs.YtghfbhobpodoeaaDoor.P Go.Proofs.YtghfbhobpodoeaaDoorW.PrintWords Go.Proofs.YtghfbhobpodoeaaDoorW.PrintLast Go.Proofs.YtghfbhobpodoeaaDoor.O
open Go.ChangeShapes Go.WideShapes Go.Deep
set_option linter.unusedVariables false
/-- The plain wrap, with a condition of one's own and the world's shape. -/
theorem wrapS {H : Type} {enc : TypeId × Value → H} {a : Assume} {C : Checked} {os : Os} {f : FuncId} {fn : Func} {s : ChangeSpec} {conds : List PathCond} {apart fresh handsOn again : Bool} {X : World → Array Value → Prop}
    (hX : ∀ (w w' : World) (args : Array Value), w.heap = w'.heap → X w args → X w' args)
    (own : ownKnob C.prog.godebug = none) (started : os.Started) (noInit : C.prog.inits.idxOf? f = none) (hfn : C.prog.funcs[f]? = some fn)
    (witness : ∃ (w : World) (tape : Tape) (i : Input), w.os = os ∧ (w.forCall tape i).Shaped C.prog ∧ i.vars = [] ∧ Input.okWide C.prog (w.forCall tape i) .any w.heap.size f i ∧
      ((s.pre enc C.prog fn conds apart (w.forCall tape i).memory i.args ∧ X (w.forCall tape i).memory i.args) ∧ sizedMet enc C.prog fn (OpenSpec.ofChange s) apart (w.forCall tape i).memory i.args) ∧ a.holds C.prog (lone (Frame.enter C.prog f i.args .normal) [] (w.forCall tape i)))
    (contract : ∀ (W : World) (base : Nat) (args : Array Value) (ds gs : List (DataW H)) (before : List MemPlace),
      (∀ (j : Nat) t v, fn.params[j]? = some t → args[j]? = some v → Value.okWide C.prog W .any base t v) →
      DataW.Whole enc C.prog fn.params.toList s.vars apart W args.toList ds gs before →
      (DataW.weightsEach C.prog (fn.params.toList ++ s.plain.varTypes C.prog) (ds ++ gs)).all (· ≤ reachBytes) = true → X W args → W.ShapedOpen C.prog →
      Calls C.prog f args W fun e W' => ∃ v, e = .returned v ∧ s.post enc C.prog fn apart fresh handsOn again W args v W') :
    ReturnsInHanded a C os f .any (fun w args => (s.pre enc C.prog fn conds apart w args ∧ X w args) ∧ sizedMet enc C.prog fn (OpenSpec.ofChange s) apart w args) (s.post enc C.prog fn apart fresh handsOn again) := by
  refine returnsInHanded_of_calls own started noInit witness ?_
  intro w tape i _ hsh _ hok hpre _
  obtain ⟨_, _, _, fn', hfn', _, _, _, _, hval⟩ := hok
  obtain rfl : fn' = fn := Option.some.inj (hfn'.symm.trans hfn)
  obtain ⟨⟨⟨ds, gs, before, hw, _⟩, hx⟩, hz⟩ := hpre
  refine (contract (w.forCall tape i) w.heap.size i.args ds gs before hval (DataW.Whole.of_heap (w' := w.forCall tape i) (by rfl) hw) (hz.weights hw) (hX _ _ _ (by rfl) hx) hsh).mono fun e W' ⟨v, he, hp⟩ => ?_
  subst he
  exact ChangeSpec.post_blind hp
theorem var_iface {W : World} {n nm : String} {d : DataW Unit} {g t : Nat} {ms : Array (String × TypeId)} (h : Lib.VarReads Tryd.prog W n (.iface nm d)) (hg : Tryd.prog.globalNamed n = some g) (ht : (Tryd.prog.globals[g]?).map (·.type) = some t) (hi : Tryd.prog.underlying t = some (.interface ms)) :
    ∃ t p, W.var? Tryd.prog n = some #[.iface t p] := by
  obtain ⟨g', t', cs, fuel, p, hg', ht', hv, hd⟩ := h
  obtain rfl := Option.some.inj (hg.symm.trans hg')
  obtain rfl := Option.some.inj (ht.symm.trans ht')
  obtain ⟨_, u, v, e, _, _⟩ := iface_of_trod hi hd
  refine ⟨u, v, ?_⟩
  rw [hv]
  cases cs
  simp only at e
  rw [e]
abbrev laidL : List (String × DataW Unit) := Rows.qualitySplitsRow.laid
theorem glob_of {W : World} (h : laidMetH Tryd.prog laidL W) (hsh : W.ShapedOpen Tryd.prog) : Glob W := by
  rw [MakeChecks.laidMetH_plain _ _ _ (by kernel_rfl)] at h
  refine ⟨?_, ?_, ?_, ?_⟩
  · obtain ⟨g', t', cs, fuel, p, hg', ht', hv, hd⟩ := Lib.laidMet.reads h (n := "internal/strconv.uint64pow10") (d := Rows.laid_internal_strconv_uint64pow10) (.tail _ (.tail _ (.head _)))
    obtain rfl := Option.some.inj (gpow.symm.trans hg')
    obtain rfl := Option.some.inj ((show (Tryd.prog.globals[6]?).map (·.type) = some 134 by kernel_rfl).symm.trans ht')
    have hd' : DataW.trod (fun _ => ()) Tryd.prog W 0 (fun _ => true) false fuel 134 cs.toList = some (Lib.tabData .u64 (Lib.pow10Tab), p) := hd
    unfold Lib.TabIs
    rw [hv, ← Lib.cells_of_tab Tryd.underlying134 Tryd.underlying57 (by kernel_rfl) (by kernel_rfl) hd']
  · have hb : ((begin Tryd.prog (fun _ _ => 0) default).world.heap[1]?).bind Obj.row? = some (#[.int .i64 0], 3) := by kernel_rfl
    obtain ⟨m, hm⟩ := cell_of_shapedOpen_int hsh (of_decide_eq_true (by kernel_rfl)) hb rfl (by kernel_rfl) (by kernel_rfl) Tryd.underlying3
    obtain ⟨cs, hh, hs, _⟩ := hsh.1 _ _ _ (of_decide_eq_true (by kernel_rfl)) hb
    refine ⟨m, ?_⟩
    have h1 : 0 < cs.size := by rw [hs]; decide
    have hc : cs[0] = .int .i64 m := by
      have : W.cell? ⟨1, 0, none⟩ = some cs[0] := by simp [World.cell?, hh, h1]
      exact Option.some.inj (this.symm.trans hm)
    unfold World.var?
    rw [gmlen]
    simp only [Option.bind_some, hh]
    congr 1
    apply Array.ext
    · rw [hs]; rfl
    · intro i hi1 hi2
      have : i = 0 := by rw [hs] at hi1; simp at hi1; exact hi1
      subst this
      rw [hc]; rfl
  · exact var_iface (Lib.laidMet.reads h (n := "strconv.ErrSyntax") (d := Rows.laid_strconv_ErrSyntax) (.tail _ (.tail _ (.tail _ (.tail _ (.tail _ (.head _))))))) gsyn (by kernel_rfl) Tryd.underlying53
  · exact var_iface (Lib.laidMet.reads h (n := "strconv.ErrRange") (d := Rows.laid_strconv_ErrRange) (.tail _ (.tail _ (.tail _ (.tail _ (.head _)))))) grng (by kernel_rfl) Tryd.underlying53
end Go.Proofs.YtghfbhobpodoeaaDoor.Cg
