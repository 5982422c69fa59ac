/- Texts of this seat, joined: lemmas and walks that its statements' proofs use. -/
import Derived.Test.YtghfbhobpodoeaaDoorK1
import Derived.Test.YtghfbhobpodoeaaDoorK2
import Derived.Deep.Slices
import Derived.LaidLaws
import Derived.MakeChecks
import Derived.HandedShaped
import Derived.Lib.LaidU8
import Derived.Lib.LaidTab
import Derived.WalkKit
import Derived.ProofKit
import Derived.Test.YtghfbhobpodoeaaDoorRows
/- Px20 -/
namespace Go.Proofs.YtghfbhobpodoeaaDoor.P
open Go.Proofs.YtghfbhobpodoeaaDoor.B
open Go.RowKit Go.Proofs.YtghfbhobpodoeaaDoorW.PrintWords Go.Proofs.YtghfbhobpodoeaaDoorW.PrintLast Go.Proofs.YtghfbhobpodoeaaDoorW.PrintMore
attribute [local go_sem] run_store_float str_leq str_gtr str_geq max2_int min2_int max_two min_two max_three min_three max_four min_four
set_option linter.unusedVariables false
set_option linter.unusedSimpArgs false
open Go.Proofs.YtghfbhobpodoeaaDoor.O
def broadsheetlaw14_same.f (a0 : Nat) (a1 : Nat) : Option (Bool) := if (FloatKind.f64.format.order a0 a0 != some .eq) = true then (if (FloatKind.f64.format.order a1 a1 != some .eq) = true then (some true) else (if (FloatKind.f64.format.order a0 a1 == some .eq) = true then ((math_Signbit.f a0).bind fun t206 => ((math_Signbit.f a1).bind fun t207 => (some (t206 == t207)))) else (some false))) else (if (FloatKind.f64.format.order a0 a1 == some .eq) = true then ((math_Signbit.f a0).bind fun t208 => ((math_Signbit.f a1).bind fun t209 => (some (t208 == t209)))) else (some false))
set_option maxHeartbeats 8000000 in
set_option maxRecDepth 100000 in
theorem broadsheetlaw14_same.calls (a0 : Nat) (a1 : Nat) (r : Bool) (w : World) (h : broadsheetlaw14_same.f a0 a1 = some r) :
  Calls Tryd.prog 14 #[.float .f64 a0, .float .f64 a1] w fun e w' => e = .returned (.bool r) ∧ Drawn0 w w' := by
 have H : (if (FloatKind.f64.format.order a0 a0 != some .eq) = true then (if (FloatKind.f64.format.order a1 a1 != some .eq) = true then (some true) else (if (FloatKind.f64.format.order a0 a1 == some .eq) = true then ((math_Signbit.f a0).bind fun t206 => ((math_Signbit.f a1).bind fun t207 => (some (t206 == t207)))) else (some false))) else (if (FloatKind.f64.format.order a0 a1 == some .eq) = true then ((math_Signbit.f a0).bind fun t208 => ((math_Signbit.f a1).bind fun t209 => (some (t208 == t209)))) else (some false))) = some r := h
 clear h
 by_cases c3 : (FloatKind.f64.format.order a0 a0 != some .eq) = true
 ·rw [if_pos c3] at H
  have c3b0 : (FloatKind.f64.format.order a0 a0 != some .eq) = true := c3
  (try (have c3b1 : decide (FloatKind.f64.format.order a0 a0 = some .eq) = false := by simpa using c3))
  (try (have c3b2 : (FloatKind.f64.format.order a0 a0 == some .eq) = false := by simpa using c3))
  (try (have c3b3 : ¬ (FloatKind.f64.format.order a0 a0 = some .eq) := by simpa using c3))
  clear c3
  by_cases c4 : (FloatKind.f64.format.order a1 a1 != some .eq) = true
  ·rw [if_pos c4] at H
   have c4b0 : (FloatKind.f64.format.order a1 a1 != some .eq) = true := c4
   (try (have c4b1 : decide (FloatKind.f64.format.order a1 a1 = some .eq) = false := by simpa using c4))
   (try (have c4b2 : (FloatKind.f64.format.order a1 a1 == some .eq) = false := by simpa using c4))
   (try (have c4b3 : ¬ (FloatKind.f64.format.order a1 a1 = some .eq) := by simpa using c4))
   clear c4
   obtain rfl := Option.some.inj H
   go_enter Tryd.func14, Tryd.ntmps14
   go_wp2
   go_ret
   exact ⟨by first | rfl | (simp; done) | (simp [*]; done), by repeat (first | exact Drawn0.refl _ | apply Drawn0.step)⟩
  ·rw [if_neg c4] at H
   have c4b0 : (FloatKind.f64.format.order a1 a1 != some .eq) = false := by simpa using c4
   (try (have c4b1 : decide (FloatKind.f64.format.order a1 a1 = some .eq) = true := by simpa using c4))
   (try (have c4b2 : (FloatKind.f64.format.order a1 a1 == some .eq) = true := by simpa using c4))
   clear c4
   by_cases c5 : (FloatKind.f64.format.order a0 a1 == some .eq) = true
   ·rw [if_pos c5] at H
    have c5b0 : (FloatKind.f64.format.order a0 a1 == some .eq) = true := c5
    (try (have c5b1 : decide (FloatKind.f64.format.order a0 a1 = some .eq) = true := by simpa using c5))
    (try (have c5b2 : (FloatKind.f64.format.order a0 a1 == some .eq) = true := by simpa using c5))
    clear c5
    replace H := Option.bind_eq_some_iff.mp H
    obtain ⟨t206, A60, H⟩ := H
    replace H : ((math_Signbit.f a1).bind fun t207 => (some (t206 == t207))) = some r := H
    have A6 := Aside0.mk A60
    clear A60
    replace H := Option.bind_eq_some_iff.mp H
    obtain ⟨t207, A70, H⟩ := H
    replace H : (some (t206 == t207)) = some r := H
    have A7 := Aside0.mk A70
    clear A70
    obtain rfl := Option.some.inj H
    go_enter Tryd.func14, Tryd.ntmps14
    go_wp2_with (first | (go_at_call 21; (with_reducible refine (math_Signbit.calls a0 t206 _ A6.out).mono ?_); rintro e w' ⟨rfl, ⟨nd, rfl⟩⟩) | (go_at_call 21; (with_reducible refine (math_Signbit.calls a1 t207 _ A7.out).mono ?_); rintro e w' ⟨rfl, ⟨nd, rfl⟩⟩))
    go_ret
    exact ⟨by first | rfl | (simp; done) | (simp [*]; done), by repeat (first | exact Drawn0.refl _ | apply Drawn0.step)⟩
   ·rw [if_neg c5] at H
    have c5b0 : (FloatKind.f64.format.order a0 a1 == some .eq) = false := by simpa using c5
    (try (have c5b1 : decide (FloatKind.f64.format.order a0 a1 = some .eq) = false := by simpa using c5))
    (try (have c5b2 : (FloatKind.f64.format.order a0 a1 == some .eq) = false := by simpa using c5))
    (try (have c5b3 : ¬ (FloatKind.f64.format.order a0 a1 = some .eq) := by simpa using c5))
    clear c5
    obtain rfl := Option.some.inj H
    go_enter Tryd.func14, Tryd.ntmps14
    go_wp2
    go_ret
    exact ⟨by first | rfl | (simp; done) | (simp [*]; done), by repeat (first | exact Drawn0.refl _ | apply Drawn0.step)⟩
 ·rw [if_neg c3] at H
  have c3b0 : (FloatKind.f64.format.order a0 a0 != some .eq) = false := by simpa using c3
  (try (have c3b1 : decide (FloatKind.f64.format.order a0 a0 = some .eq) = true := by simpa using c3))
  (try (have c3b2 : (FloatKind.f64.format.order a0 a0 == some .eq) = true := by simpa using c3))
  clear c3
  by_cases c8 : (FloatKind.f64.format.order a0 a1 == some .eq) = true
  ·rw [if_pos c8] at H
   have c8b0 : (FloatKind.f64.format.order a0 a1 == some .eq) = true := c8
   (try (have c8b1 : decide (FloatKind.f64.format.order a0 a1 = some .eq) = true := by simpa using c8))
   (try (have c8b2 : (FloatKind.f64.format.order a0 a1 == some .eq) = true := by simpa using c8))
   clear c8
   replace H := Option.bind_eq_some_iff.mp H
   obtain ⟨t208, A90, H⟩ := H
   replace H : ((math_Signbit.f a1).bind fun t209 => (some (t208 == t209))) = some r := H
   have A9 := Aside0.mk A90
   clear A90
   replace H := Option.bind_eq_some_iff.mp H
   obtain ⟨t209, A100, H⟩ := H
   replace H : (some (t208 == t209)) = some r := H
   have A10 := Aside0.mk A100
   clear A100
   obtain rfl := Option.some.inj H
   go_enter Tryd.func14, Tryd.ntmps14
   go_wp2_with (first | (go_at_call 21; (with_reducible refine (math_Signbit.calls a0 t208 _ A9.out).mono ?_); rintro e w' ⟨rfl, ⟨nd, rfl⟩⟩) | (go_at_call 21; (with_reducible refine (math_Signbit.calls a1 t209 _ A10.out).mono ?_); rintro e w' ⟨rfl, ⟨nd, rfl⟩⟩))
   go_ret
   exact ⟨by first | rfl | (simp; done) | (simp [*]; done), by repeat (first | exact Drawn0.refl _ | apply Drawn0.step)⟩
  ·rw [if_neg c8] at H
   have c8b0 : (FloatKind.f64.format.order a0 a1 == some .eq) = false := by simpa using c8
   (try (have c8b1 : decide (FloatKind.f64.format.order a0 a1 = some .eq) = false := by simpa using c8))
   (try (have c8b2 : (FloatKind.f64.format.order a0 a1 == some .eq) = false := by simpa using c8))
   (try (have c8b3 : ¬ (FloatKind.f64.format.order a0 a1 = some .eq) := by simpa using c8))
   clear c8
   obtain rfl := Option.some.inj H
   go_enter Tryd.func14, Tryd.ntmps14
   go_wp2
   go_ret
   exact ⟨by first | rfl | (simp; done) | (simp [*]; done), by repeat (first | exact Drawn0.refl _ | apply Drawn0.step)⟩
end Go.Proofs.YtghfbhobpodoeaaDoor.P
/- Px22 -/
namespace Go.Proofs.YtghfbhobpodoeaaDoor.P
open Go.Proofs.YtghfbhobpodoeaaDoor.B
open Go.RowKit Go.Proofs.YtghfbhobpodoeaaDoorW.PrintWords Go.Proofs.YtghfbhobpodoeaaDoorW.PrintLast Go.Proofs.YtghfbhobpodoeaaDoorW.PrintMore
attribute [local go_sem] run_store_float str_leq str_gtr str_geq max2_int min2_int max_two min_two max_three min_three max_four min_four
set_option linter.unusedVariables false
set_option linter.unusedSimpArgs false
def math_IsNaN.f (a0 : Nat) : Option (Bool) := some (FloatKind.f64.format.order a0 a0 != some .eq)
set_option maxHeartbeats 8000000 in
set_option maxRecDepth 100000 in
theorem math_IsNaN.calls (a0 : Nat) (r : Bool) (w : World) (h : math_IsNaN.f a0 = some r) :
  Calls Tryd.prog 30 #[.float .f64 a0] w fun e w' => e = .returned (.bool r) ∧ Drawn0 w w' := by
 have H : (some (FloatKind.f64.format.order a0 a0 != some .eq)) = some r := h
 clear h
 obtain rfl := Option.some.inj H
 go_enter Tryd.func30, Tryd.ntmps30
 go_wp2
 go_ret
 exact ⟨by first | rfl | (simp; done) | (simp [*]; done), by repeat (first | exact Drawn0.refl _ | apply Drawn0.step)⟩
end Go.Proofs.YtghfbhobpodoeaaDoor.P
/- Px23 -/
namespace Go.Proofs.YtghfbhobpodoeaaDoor.P
open Go.Proofs.YtghfbhobpodoeaaDoor.B
open Go.RowKit Go.Proofs.YtghfbhobpodoeaaDoorW.PrintWords Go.Proofs.YtghfbhobpodoeaaDoorW.PrintLast Go.Proofs.YtghfbhobpodoeaaDoorW.PrintMore
attribute [local go_sem] run_store_float str_leq str_gtr str_geq max2_int min2_int max_two min_two max_three min_three max_four min_four
set_option linter.unusedVariables false
set_option linter.unusedSimpArgs false
open Go.Proofs.YtghfbhobpodoeaaDoor.O
def quality_Ahead.j0 : Nat → Nat → Nat → Bool → Bool → Bool → Option (Bool)
  | 0, _, _, _, _, _ => none
  | k + 1, x0, x1, x5, x6, x11 => if x11 = true then (if x5 = true then (some false) else (some x6)) else (if (FloatKind.f64.format.order x0 x1 == some .eq) = true then (if (FloatKind.f64.format.order x0 0 == some .eq) = true then ((math_Signbit.f x0).bind fun t230 => (if t230 = true then (some false) else ((math_Signbit.f x1).bind fun t231 => (some t231)))) else (some false)) else (some (FloatKind.f64.format.order x0 x1 == some .gt)))
def quality_Ahead.f (k : Nat) (a0 : Nat) (a1 : Nat) : Option (Bool) := (math_IsNaN.f a0).bind fun t228 => ((math_IsNaN.f a1).bind fun t229 => (if t228 = true then (quality_Ahead.j0 k a0 a1 t228 t229 true) else (quality_Ahead.j0 k a0 a1 t228 t229 t229)))
set_option maxHeartbeats 8000000 in
set_option maxRecDepth 100000 in
theorem quality_Ahead.calls (k : Nat) (a0 : Nat) (a1 : Nat) (r : Bool) (w : World) (h : quality_Ahead.f k a0 a1 = some r) :
  Calls Tryd.prog 17 #[.float .f64 a0, .float .f64 a1] w fun e w' => e = .returned (.bool r) ∧ Drawn0 w w' := by
 have H : ((math_IsNaN.f a0).bind fun t228 => ((math_IsNaN.f a1).bind fun t229 => (if t228 = true then (quality_Ahead.j0 k a0 a1 t228 t229 true) else (quality_Ahead.j0 k a0 a1 t228 t229 t229)))) = some r := h
 clear h
 replace H := Option.bind_eq_some_iff.mp H
 obtain ⟨t228, A30, H⟩ := H
 replace H : ((math_IsNaN.f a1).bind fun t229 => (if t228 = true then (quality_Ahead.j0 k a0 a1 t228 t229 true) else (quality_Ahead.j0 k a0 a1 t228 t229 t229))) = some r := H
 have A3 := Aside0.mk A30
 clear A30
 replace H := Option.bind_eq_some_iff.mp H
 obtain ⟨t229, A40, H⟩ := H
 replace H : (if t228 = true then (quality_Ahead.j0 k a0 a1 t228 t229 true) else (quality_Ahead.j0 k a0 a1 t228 t229 t229)) = some r := H
 have A4 := Aside0.mk A40
 clear A40
 have HC5 := Aside0.mk H
 clear H
 go_enter Tryd.func17, Tryd.ntmps17
 go_upto_region 2 with (first | ((with_reducible refine gate_callee (f := 30) rfl ?_); refine goesL_ (some 8) rfl rfl Tryd.func30 zb15 rfl #[.float .f64 a0] rfl zb1 ?_; (with_reducible refine (math_IsNaN.calls a0 t228 _ A3.out).mono ?_); rintro e w' ⟨rfl, ⟨nd, rfl⟩⟩; refine ⟨_, rfl, ?_⟩) | ((with_reducible refine gate_callee (f := 30) rfl ?_); refine goesL_ (some 10) rfl rfl Tryd.func30 zb15 rfl #[.float .f64 a1] rfl zb1 ?_; (with_reducible refine (math_IsNaN.calls a1 t229 _ A4.out).mono ?_); rintro e w' ⟨rfl, ⟨nd, rfl⟩⟩; refine ⟨_, rfl, ?_⟩))
 (try simp only [Act.put, List.setIfInBounds_toArray, List.set_cons_zero, List.set_cons_succ])
 go_cut [11] (fun v11 wc => ∃ (kq : Nat) (x11_4 : Bool), v11 = .bool x11_4 ∧ Aside0 (quality_Ahead.j0 kq a0 a1 t228 t229 x11_4 = some r) ∧ Aside0 (kq ≤ k) ∧ Drawn0 w wc)
 case first =>
  have H := HC5.out
  clear HC5
  by_cases c6 : t228 = true
  ·subst c6
   replace H : (quality_Ahead.j0 k a0 a1 true t229 true) = some r := by rw [if_pos rfl] at H; exact H
   have H' := Aside0.mk H
   clear H
   go_wp2
   go_meet
   case rel => exact ⟨_, (true), zb18, H', ⟨by first | omega | exact Nat.le_refl _⟩, by repeat (first | exact Drawn0.refl _ | apply Drawn0.step)⟩
  ·replace c6 := Bool.eq_false_iff.mpr c6
   subst c6
   replace H : (quality_Ahead.j0 k a0 a1 false t229 t229) = some r := by rw [if_neg (show ¬ (false = true) by decide)] at H; exact H
   have H' := Aside0.mk H
   clear H
   go_wp2
   go_meet
   case rel => exact ⟨_, (t229), zb18, H', ⟨by first | omega | exact Nat.le_refl _⟩, by repeat (first | exact Drawn0.refl _ | apply Drawn0.step)⟩
 case rest =>
  clear HC5
  try clear c1
  try clear p2
  try clear c3
  try clear c6
  obtain ⟨kq, x11_4, rfl, HA, HJ4, ⟨mc4, rfl⟩⟩ := hcut
  cases kq with
  | zero => exact absurd HA.out (by simp [quality_Ahead.j0])
  | succ kj4 =>
   have H := HA.out
   clear HA
   simp only [quality_Ahead.j0] at H
   by_cases c7 : x11_4 = true
   ·subst c7
    replace H : (if t228 = true then (some false) else (some t229)) = some r := by rw [if_pos rfl] at H; exact H
    by_cases c8 : t228 = true
    ·subst c8
     replace H : (some false) = some r := by rw [if_pos rfl] at H; exact H
     obtain rfl := Option.some.inj H
     go_wp2
     go_ret
     exact ⟨by first | rfl | (simp; done) | (simp [*]; done), by repeat (first | exact Drawn0.refl _ | apply Drawn0.step)⟩
    ·replace c8 := Bool.eq_false_iff.mpr c8
     subst c8
     replace H : (some t229) = some r := by rw [if_neg (show ¬ (false = true) by decide)] at H; exact H
     obtain rfl := Option.some.inj H
     go_wp2
     go_ret
     exact ⟨by first | rfl | (simp; done) | (simp [*]; done), by repeat (first | exact Drawn0.refl _ | apply Drawn0.step)⟩
   ·replace c7 := Bool.eq_false_iff.mpr c7
    subst c7
    replace H : (if (FloatKind.f64.format.order a0 a1 == some .eq) = true then (if (FloatKind.f64.format.order a0 0 == some .eq) = true then ((math_Signbit.f a0).bind fun t230 => (if t230 = true then (some false) else ((math_Signbit.f a1).bind fun t231 => (some t231)))) else (some false)) else (some (FloatKind.f64.format.order a0 a1 == some .gt))) = some r := by rw [if_neg (show ¬ (false = true) by decide)] at H; exact H
    by_cases c9 : (FloatKind.f64.format.order a0 a1 == some .eq) = true
    ·rw [if_pos c9] at H
     have c9b0 : (FloatKind.f64.format.order a0 a1 == some .eq) = true := c9
     (try (have c9b1 : decide (FloatKind.f64.format.order a0 a1 = some .eq) = true := by simpa using c9))
     (try (have c9b2 : (FloatKind.f64.format.order a0 a1 == some .eq) = true := by simpa using c9))
     clear c9
     by_cases c10 : (FloatKind.f64.format.order a0 0 == some .eq) = true
     ·rw [if_pos c10] at H
      have c10b0 : (FloatKind.f64.format.order a0 0 == some .eq) = true := c10
      (try (have c10b1 : decide (FloatKind.f64.format.order a0 0 = some .eq) = true := by simpa using c10))
      (try (have c10b2 : (FloatKind.f64.format.order a0 0 == some .eq) = true := by simpa using c10))
      clear c10
      replace H := Option.bind_eq_some_iff.mp H
      obtain ⟨t230, A110, H⟩ := H
      replace H : (if t230 = true then (some false) else ((math_Signbit.f a1).bind fun t231 => (some t231))) = some r := H
      have A11 := Aside0.mk A110
      clear A110
      by_cases c12 : t230 = true
      ·subst c12
       replace H : (some false) = some r := by rw [if_pos rfl] at H; exact H
       obtain rfl := Option.some.inj H
       go_wp2_with (first | (go_at_call 21; (with_reducible refine (math_Signbit.calls a0 true _ A11.out).mono ?_); rintro e w' ⟨rfl, ⟨nd, rfl⟩⟩))
       go_ret
       exact ⟨by first | rfl | (simp; done) | (simp [*]; done), by repeat (first | exact Drawn0.refl _ | apply Drawn0.step)⟩
      ·replace c12 := Bool.eq_false_iff.mpr c12
       subst c12
       replace H : ((math_Signbit.f a1).bind fun t231 => (some t231)) = some r := by rw [if_neg (show ¬ (false = true) by decide)] at H; exact H
       replace H := Option.bind_eq_some_iff.mp H
       obtain ⟨t231, A130, H⟩ := H
       replace H : (some t231) = some r := H
       have A13 := Aside0.mk A130
       clear A130
       obtain rfl := Option.some.inj H
       go_wp2_with (first | (go_at_call 21; (with_reducible refine (math_Signbit.calls a0 false _ A11.out).mono ?_); rintro e w' ⟨rfl, ⟨nd, rfl⟩⟩) | (go_at_call 21; (with_reducible refine (math_Signbit.calls a1 t231 _ A13.out).mono ?_); rintro e w' ⟨rfl, ⟨nd, rfl⟩⟩))
       go_ret
       exact ⟨by first | rfl | (simp; done) | (simp [*]; done), by repeat (first | exact Drawn0.refl _ | apply Drawn0.step)⟩
     ·rw [if_neg c10] at H
      have c10b0 : (FloatKind.f64.format.order a0 0 == some .eq) = false := by simpa using c10
      (try (have c10b1 : decide (FloatKind.f64.format.order a0 0 = some .eq) = false := by simpa using c10))
      (try (have c10b2 : (FloatKind.f64.format.order a0 0 == some .eq) = false := by simpa using c10))
      (try (have c10b3 : ¬ (FloatKind.f64.format.order a0 0 = some .eq) := by simpa using c10))
      clear c10
      obtain rfl := Option.some.inj H
      go_wp2
      go_ret
      exact ⟨by first | rfl | (simp; done) | (simp [*]; done), by repeat (first | exact Drawn0.refl _ | apply Drawn0.step)⟩
    ·rw [if_neg c9] at H
     have c9b0 : (FloatKind.f64.format.order a0 a1 == some .eq) = false := by simpa using c9
     (try (have c9b1 : decide (FloatKind.f64.format.order a0 a1 = some .eq) = false := by simpa using c9))
     (try (have c9b2 : (FloatKind.f64.format.order a0 a1 == some .eq) = false := by simpa using c9))
     (try (have c9b3 : ¬ (FloatKind.f64.format.order a0 a1 = some .eq) := by simpa using c9))
     clear c9
     obtain rfl := Option.some.inj H
     go_wp2
     go_ret
     exact ⟨by first | rfl | (simp; done) | (simp [*]; done), by repeat (first | exact Drawn0.refl _ | apply Drawn0.step)⟩
end Go.Proofs.YtghfbhobpodoeaaDoor.P
/- SpOrder -/
namespace Go.Proofs.YtghfbhobpodoeaaDoor.Sp
open Go Go.RowKit Go.Proofs.YtghfbhobpodoeaaDoorW.PrintWords Go.Proofs.YtghfbhobpodoeaaDoorW.PrintLast Go.Proofs.YtghfbhobpodoeaaDoor.O Go.Proofs.YtghfbhobpodoeaaDoor.P
set_option linter.unusedVariables false
set_option linter.unusedSimpArgs false
def sgn (a : Nat) : Bool := decide (wrap64 (a : Int) < 0)
theorem sgn_neg (a : Nat) (h : a < 18446744073709551616) : sgn a = negB a := by
  unfold sgn negB wrap64
  by_cases h1 : a < 9223372036854775808
  · have h2 : a / 2 ^ 63 = 0 := by omega
    rw [h2]
    simp
    omega
  · have h2 : a / 2 ^ 63 = 1 := by omega
    rw [h2]
    simp
    omega
theorem key_pos {a : Nat} (h : 0 < keyI a) : negB a = false := by
  unfold keyI at h
  cases hn : negB a
  · rfl
  · rw [hn] at h; simp at h; omega
theorem key_neg {a : Nat} (h : keyI a < 0) : negB a = true := by
  unfold keyI at h
  cases hn : negB a
  · rw [hn] at h; simp at h; omega
  · rfl
def aheadW (a b : Nat) : Bool := if nanB a = true ∨ nanB b = true then !nanB a && nanB b else if keyI a = keyI b then decide (keyI a = 0) && !sgn a && sgn b else decide (keyI b < keyI a)
theorem key_0 : keyI 0 = 0 := by decide
theorem nan_0 : nanB 0 = false := by decide
theorem nan_1 : nanB one64 = false := by decide
theorem key_1 : keyI one64 = 4607182418800017408 := by decide
theorem sgnF (a : Nat) : math_Signbit.f a = some (sgn a) := rfl
theorem nanF (a : Nat) : math_IsNaN.f a = some (nanB a) := by rw [math_IsNaN.f, nan_eq]
theorem aheadW_num {a b : Nat} (ha : nanB a = false) (hb : nanB b = false) : aheadW a b = if keyI a = keyI b then decide (keyI a = 0) && !sgn a && sgn b else decide (keyI b < keyI a) := by
  unfold aheadW
  rw [if_neg (show ¬ (nanB a = true ∨ nanB b = true) by rw [ha, hb]; decide)]
theorem sameW_ (a b : Nat) : sameW a b = ((nanB a && nanB b) || (!nanB a && !nanB b && decide (keyI a = keyI b) && (sgn a == sgn b))) := rfl
theorem j0F (a b k : Nat) (ha : nanB a = false) (hb : nanB b = false) (p q : Bool) : quality_Ahead.j0 (k + 1) a b p q false = some (aheadW a b) := by
  rw [aheadW_num ha hb, quality_Ahead.j0, if_neg Bool.false_ne_true, eq_key a b, eq_key a 0, gt_key, ha, hb, nan_0, key_0, sgnF, sgnF]
  generalize keyI a = x
  generalize keyI b = y
  generalize sgn a = s
  generalize sgn b = u
  by_cases h1 : x = y
  · rw [if_pos (show (!false && !false && decide (x = y)) = true by rw [decide_eq_true h1]; rfl), if_pos h1]
    by_cases h2 : x = 0
    · rw [if_pos (show (!false && !false && decide (x = 0)) = true by rw [decide_eq_true h2]; rfl), decide_eq_true h2]
      cases s <;> cases u <;> rfl
    · rw [if_neg (show ¬ (!false && !false && decide (x = 0)) = true by rw [decide_eq_false h2]; decide), decide_eq_false h2]
      rfl
  · rw [if_neg (show ¬ (!false && !false && decide (x = y)) = true by rw [decide_eq_false h1]; decide), if_neg h1]
    rfl
theorem aheadF (a b k : Nat) (hk : 1 ≤ k) : quality_Ahead.f k a b = some (aheadW a b) := by
  obtain ⟨k, rfl⟩ : ∃ m, k = m + 1 := ⟨k - 1, by omega⟩
  rw [quality_Ahead.f, nanF, nanF, Option.bind_some, Option.bind_some]
  cases ha : nanB a with
  | true =>
    rw [if_pos rfl, quality_Ahead.j0, if_pos rfl, if_pos rfl]
    unfold aheadW
    rw [if_pos (Or.inl ha), ha]
    rfl
  | false =>
    rw [if_neg Bool.false_ne_true]
    cases hb : nanB b with
    | true =>
      rw [quality_Ahead.j0, if_pos rfl, if_neg Bool.false_ne_true]
      unfold aheadW
      rw [if_pos (Or.inr hb), ha, hb]
      rfl
    | false => exact j0F a b k ha hb false false
theorem same_bool (m n d s u : Bool) : (if m = true then (if n = true then some true else (if (!m && !n && d) = true then ((some s).bind fun t206 => ((some u).bind fun t207 => (some (t206 == t207)))) else (some false))) else (if (!m && !n && d) = true then ((some s).bind fun t206 => ((some u).bind fun t207 => (some (t206 == t207)))) else (some false))) = some ((m && n) || (!m && !n && d && (s == u))) := by
  cases m <;> cases n <;> cases d <;> rfl
theorem sameF_ (a b : Nat) : broadsheetlaw14_same.f a b = some (sameW a b) := by
  rw [broadsheetlaw14_same.f, nan_eq, nan_eq, eq_key, sgnF, sgnF, sameW_]
  exact same_bool _ _ _ _ _
theorem aheadW_nl {a b : Nat} (ha : nanB a = true) : aheadW a b = false := by
  unfold aheadW
  rw [if_pos (Or.inl ha), ha]
  rfl
theorem aheadW_nr {a b : Nat} (ha : nanB a = false) (hb : nanB b = true) : aheadW a b = true := by
  unfold aheadW
  rw [if_pos (Or.inr hb), ha, hb]
  rfl
theorem clamp_is (a : Nat) : clampW a = if nanB a = true then 0 else if keyI a ≤ 0 then 0 else if keyI a < 4607182418800017408 then a else one64 := by
  unfold clampW
  rw [gt_key, nan_0, key_0]
  cases hn : nanB a with
  | true => simp
  | false =>
    simp only [Bool.not_false, Bool.true_and, decide_eq_true_eq, Bool.false_eq_true, if_false]
    by_cases h : 0 < keyI a
    · rw [if_pos h, if_neg (show ¬ keyI a ≤ 0 by omega), order_key hn nan_1, key_1, cmp_int]
      by_cases h1 : keyI a < 4607182418800017408
      · rw [if_pos h1, if_pos h1]
      · rw [if_neg h1, if_neg h1]
        by_cases h2 : keyI a = 4607182418800017408
        · rw [if_pos h2]
          have h3 : (FloatKind.f64.decode a).neg = false := by
            have h4 := key_pos h
            have h5 : rungN a ≤ infR := by simpa [nanB] using hn
            show (Ieee.double.read a).neg = false
            rcases Nat.lt_or_eq_of_le h5 with h6 | h6
            · obtain ⟨m, i, e, _⟩ := read_num h6
              rw [e, h4]; rfl
            · rw [read_inf h6, h4]; rfl
          simp only
          rw [h3]
          rfl
        · rw [if_neg h2]
    · rw [if_neg h, if_pos (show keyI a ≤ 0 by omega)]
theorem same_self (x : Nat) : sameW x x = true := by
  rw [sameW_, decide_eq_true (rfl : keyI x = keyI x), beq_self_eq_true]
  cases nanB x <;> rfl
end Go.Proofs.YtghfbhobpodoeaaDoor.Sp
/- Orwe -/
namespace Go.Proofs.YtghfbhobpodoeaaDoor.O
open Go.RowKit Go.Proofs.YtghfbhobpodoeaaDoorW.PrintWords Go.Proofs.YtghfbhobpodoeaaDoorW.PrintLast Go.Proofs.YtghfbhobpodoeaaDoorW.PrintMore
set_option linter.unusedVariables false
set_option linter.unusedSimpArgs false
def nanV (w : World) : Nat := Question.cut (.nanBits .f64 0 0) (w.tape w.drawn (.nanBits .f64 0 0))
theorem nan_run {P : Program} (t : TypeId) (w : World) : (binOp .quo t (.float .f64 0) (.float .f64 0)).run P w = .ok (.float .f64 (nanV w)) w.drew := by
  have h : FloatKind.f64.format.div 0 0 = none := by decide +kernel
  simp [binOp, Op.floatArith, h, nanV, Question.forced]
theorem nanV_nan (w : World) : Sp.nanB (nanV w) = true := by
  unfold nanV Sp.nanB Sp.rungN Question.cut Sp.infR
  simp only [decide_eq_true_eq]
  generalize w.tape w.drawn (Question.nanBits FloatKind.f64 0 0) = t
  have h1 : t % 2 < 2 := Nat.mod_lt _ (by decide)
  have h2 : t / 2 % 2251799813685247 < 2251799813685247 := Nat.mod_lt _ (by decide)
  have e : (t % 2 * 2 ^ 63 + 9218868437227405312 + 1 + t / 2 % (2 ^ 52 - 1)) % 2 ^ 63 = 9218868437227405312 + 1 + t / 2 % (2 ^ 52 - 1) := by
    rw [Nat.add_assoc, Nat.add_assoc, Nat.mul_comm, Nat.mul_add_mod, Nat.mod_eq_of_lt zb37, Nat.add_assoc]
  show 9218868437227405312 < (t % 2 * 2 ^ 63 + 9218868437227405312 + 1 + t / 2 % (2 ^ 52 - 1)) % 2 ^ 63
  rw [e]
  omega
def WordIs (r b : Nat) : Prop := b = r ∨ (Sp.nanB b = true ∧ Sp.nanB r = true)
def rwl (s : ByteArray) : Nat → Nat → Int → Int → Option Int
  | 0, _, _, _ => none
  | f + 1, i, n, pl => if i < s.size then (if bt s i < 48 then none else if bt s i > 57 then none else rwl s f (i + 1) (wrap64 (n + (bt s i - 48) * pl)) (pl / 10)) else some n
def rwBad (s : ByteArray) : Prop := s.size = 0 ∨ (bt s 0 ≠ 48 ∧ bt s 0 ≠ 49) ∨ 5 < s.size ∨ (1 < s.size ∧ bt s 1 ≠ 46)
instance (s : ByteArray) : Decidable (rwBad s) := by unfold rwBad; infer_instance
def rwN (s : ByteArray) : Option Int := if rwBad s then none else rwl s 20 2 ((bt s 0 - 48) * 1000) 100
def rwR (o : Option Int) : Option Nat := match o with
  | none => some nanW
  | some n => if n > 1000 then some nanW else if 0 ≤ n then some (fdiv n.toNat) else none
def ref14_Weight.f (a0 : ByteArray) : Option Nat := rwR (rwN a0)
theorem nanW_nan : Sp.nanB nanW = true := by decide
theorem rw_nan {r : Nat} (h : rwR none = some r) : r = nanW := (Option.some.inj h).symm
set_option maxHeartbeats 4000000 in
set_option maxRecDepth 100000 in
theorem ref14_Weight.calls (a0 : ByteArray) (r : Nat) (w : World) (h : ref14_Weight.f a0 = some r) :
    Calls Tryd.prog 16 #[.string a0] w fun e w' => ∃ b, e = .returned (.float .f64 b) ∧ WordIs r b ∧ Drawn0 w w' := by
  have hq0 := nan_run (P := Tryd.prog)
  have hnn := Lib.hid nanV_nan
  generalize nanV = nV at hq0 hnn
  have hbad : Hid (rwBad a0 → r = nanW) := Lib.hid (fun hb => by unfold ref14_Weight.f rwN at h; rw [if_pos hb] at h; exact rw_nan h)
  by_cases hsz : a0.size = 0
  · have hr2 : Hid (r = nanW) := Lib.hid (hbad.out (.inl hsz))
    have he : a0 = ⟨#[]⟩ := by
      have : a0.data.size = 0 := hsz
      cases a0 with
      | mk d => simp at this; rw [this]
    clear h hbad
    subst he
    go_enter Tryd.func16, Tryd.ntmps16
    go_wp2
    go_ret
    exact ⟨_, rfl, .inr ⟨hnn.out _, by rw [hr2.out]; exact nanW_nan⟩, ⟨1, rfl⟩⟩
  have hne : (a0.toList == []) = false := by
    have : a0.toList.length ≠ 0 := by rw [Lib.toList_data, ← Lib.size_eq]; exact hsz
    cases hl : a0.toList with
    | nil => rw [hl] at this; exact absurd rfl this
    | cons x y => rfl
  have hp0 : 0 < a0.size := by omega
  have hidx0 : ∀ h : 0 < a0.size, ((a0[0]'h).toNat : Int) = bt a0 0 := fun h => by unfold bt; rw [dif_pos (show (Int.toNat 0) < a0.size from h)]; rfl
  obtain ⟨q1, q2⟩ := bt_range a0 0
  by_cases hA : bt a0 0 ≠ 48 ∧ bt a0 0 ≠ 49
  · have hr2 : Hid (r = nanW) := Lib.hid (hbad.out (.inr (.inl hA)))
    obtain ⟨hA1, hA2⟩ := hA
    clear h hbad
    generalize hd : bt a0 0 = d at *
    clear hd
    go_enter Tryd.func16, Tryd.ntmps16
    go_wp2
    go_ret
    exact ⟨_, rfl, .inr ⟨hnn.out _, by rw [hr2.out]; exact nanW_nan⟩, ⟨1, rfl⟩⟩
  have hA2 : bt a0 0 = 48 ∨ bt a0 0 = 49 := by
    by_cases h1 : bt a0 0 = 48
    · exact .inl h1
    · exact .inr (Classical.byContradiction fun h2 => hA ⟨h1, h2⟩)
  clear hA
  by_cases hB : 5 < a0.size
  · have hr2 : Hid (r = nanW) := Lib.hid (hbad.out (.inr (.inr (.inl hB))))
    have hB' : (5 : Int) < (a0.size : Int) := by omega
    clear h hbad
    rcases hA2 with hc | hc
    all_goals
      rw [hc] at hidx0
      clear hc q1 q2
      go_enter Tryd.func16, Tryd.ntmps16
      go_wp2
      go_ret
      exact ⟨_, rfl, .inr ⟨hnn.out _, by rw [hr2.out]; exact nanW_nan⟩, ⟨1, rfl⟩⟩
  have hB' : ¬ (5 : Int) < (a0.size : Int) := by omega
  have hidx1 : ∀ h : 1 < a0.size, ((a0[1]'h).toNat : Int) = bt a0 1 := fun h => by unfold bt; rw [dif_pos (show (Int.toNat 1) < a0.size from h)]; rfl
  obtain ⟨p1, p2⟩ := bt_range a0 1
  by_cases hC : 1 < a0.size ∧ bt a0 1 ≠ 46
  · have hr2 : Hid (r = nanW) := Lib.hid (hbad.out (.inr (.inr (.inr hC))))
    obtain ⟨hC1, hC2⟩ := hC
    have hC' : (1 : Int) < (a0.size : Int) := by omega
    clear h hbad
    generalize hd : bt a0 1 = d at *
    clear hd
    rcases hA2 with hc | hc
    all_goals
      rw [hc] at hidx0
      clear hc q1 q2
      go_enter Tryd.func16, Tryd.ntmps16
      go_wp2
      go_ret
      exact ⟨_, rfl, .inr ⟨hnn.out _, by rw [hr2.out]; exact nanW_nan⟩, ⟨1, rfl⟩⟩
  have hok : ¬ rwBad a0 := by
    rintro (h1 | h1 | h1 | h1)
    · exact hsz h1
    · rcases hA2 with h2 | h2
      · exact h1.1 h2
      · exact h1.2 h2
    · exact hB h1
    · exact hC h1
  have hrun : Hid (rwR (rwl a0 20 2 ((bt a0 0 - 48) * 1000) 100) = some r) := Lib.hid (by unfold ref14_Weight.f rwN at h; rw [if_neg hok] at h; exact h)
  clear h hbad hok
  by_cases hD : 1 < a0.size
  · have hD' : (1 : Int) < (a0.size : Int) := by omega
    have hE : bt a0 1 = 46 := Classical.byContradiction fun x => hC ⟨hD, x⟩
    clear hC
    rw [hE] at hidx1
    clear hE p1 p2
    rcases hA2 with hc | hc
    · rw [hc] at hidx0 hrun
      clear hc q1 q2
      have hrun : Hid (∃ f, 20 ≤ f + 2 ∧ rwR (rwl a0 f 2 0 100) = some r) := Lib.hid ⟨20, by decide, by simpa using hrun.out⟩
      go_enter Tryd.func16, Tryd.ntmps16
      go_wp2
      go_loopw [4, 5, 6] (fun vn vp vi wr => ∃ (i : Nat) (n pl : Int), vn = .int .i64 n ∧ vp = .int .i64 pl ∧ vi = .int .i64 i ∧ Hid (wr = w) ∧ Hid ((i = 2 ∧ pl = 100) ∨ (i = 3 ∧ pl = 10) ∨ (i = 4 ∧ pl = 1) ∨ (i = 5 ∧ pl = 0)) ∧ Hid (∃ f, 20 ≤ f + i ∧ rwR (rwl a0 f i n pl) = some r)) (fun _ _ i _ => a0.size - (intOf i).toNat)
      case atStart => exact ⟨2, _, 100, rfl, rfl, rfl, Lib.hid rfl, Lib.hid (.inl ⟨rfl, rfl⟩), hrun⟩
      case round =>
        obtain ⟨i, n, pl, rfl, rfl, rfl, hw, hpl, hf⟩ := hrel
        obtain ⟨f, hf1, hf2⟩ := hf.out
        have hi5 : i ≤ 5 := by rcases hpl.out with h | h | h | h <;> omega
        obtain ⟨f, rfl⟩ : ∃ f', f = f' + 1 := ⟨f - 1, by omega⟩
        clear hf
        by_cases hlt : i < a0.size
        · rw [rwl, if_pos hlt] at hf2
          have hltI : (i : Int) < (a0.size : Int) := by omega
          have hidx : ∀ h : i < a0.size, ((a0[i]'h).toNat : Int) = bt a0 i := fun h => by unfold bt; rw [dif_pos (show (Int.toNat (i : Int)) < a0.size from h)]; rfl
          obtain ⟨q1, q2⟩ := bt_range a0 i
          generalize bt a0 i = d at *
          by_cases c1 : d < 48
          · rw [if_pos c1] at hf2
            have hr2 := Lib.hid (rw_nan hf2)
            clear hf2 hf1
            go_wp2
            go_ret
            exact ⟨_, rfl, .inr ⟨hnn.out _, by rw [hr2.out]; exact nanW_nan⟩, ⟨1, by rw [hw.out]; rfl⟩⟩
          · rw [if_neg c1] at hf2
            by_cases c2 : d > 57
            · rw [if_pos c2] at hf2
              have c2' : 57 < d := c2
              have hr2 := Lib.hid (rw_nan hf2)
              clear hf2 hf1
              go_wp2
              go_ret
              exact ⟨_, rfl, .inr ⟨hnn.out _, by rw [hr2.out]; exact nanW_nan⟩, ⟨1, by rw [hw.out]; rfl⟩⟩
            · rw [if_neg c2] at hf2
              have c2' : ¬ 57 < d := c2
              have hf2 := Lib.hid hf2
              have hf1 := Lib.hid hf1
              rcases hpl.out with ⟨rfl, rfl⟩ | ⟨rfl, rfl⟩ | ⟨rfl, rfl⟩ | ⟨rfl, rfl⟩
              · go_wp2
                go_roundw
                case rel =>
                  exact ⟨3, _, 10, rfl, by go_num, by go_num, hw, Lib.hid (.inr (.inl ⟨rfl, rfl⟩)), Lib.hid ⟨f, by have := hf1.out; omega, by simpa using hf2.out⟩⟩
                case measure => simp [intOf]; omega
              · go_wp2
                go_roundw
                case rel =>
                  exact ⟨4, _, 1, rfl, by go_num, by go_num, hw, Lib.hid (.inr (.inr (.inl ⟨rfl, rfl⟩))), Lib.hid ⟨f, by have := hf1.out; omega, by simpa using hf2.out⟩⟩
                case measure => simp [intOf]; omega
              · go_wp2
                go_roundw
                case rel =>
                  exact ⟨5, _, 0, rfl, by go_num, by go_num, hw, Lib.hid (.inr (.inr (.inr ⟨rfl, rfl⟩))), Lib.hid ⟨f, by have := hf1.out; omega, by simpa using hf2.out⟩⟩
                case measure => simp [intOf]; omega
              · omega
        · rw [rwl, if_neg hlt] at hf2
          have hltI : ¬ (i : Int) < (a0.size : Int) := by omega
          have hf3 : (if n > 1000 then some nanW else if 0 ≤ n then some (fdiv n.toNat) else none) = some r := hf2
          clear hf2 hf1
          by_cases hbig : n > 1000
          · have hr2 : Hid (r = nanW) := Lib.hid (by rw [if_pos hbig] at hf3; exact (Option.some.inj hf3).symm)
            have hbig' : (1000 : Int) < n := hbig
            clear hf3
            go_wp2
            go_ret
            exact ⟨_, rfl, .inr ⟨hnn.out _, by rw [hr2.out]; exact nanW_nan⟩, ⟨1, by rw [hw.out]; rfl⟩⟩
          · by_cases h0 : 0 ≤ n
            · have hr2 : Hid (fdiv n.toNat = r) := Lib.hid (by rw [if_neg hbig, if_pos h0] at hf3; exact Option.some.inj hf3)
              have hbig' : decide ((1000 : Int) < n) = false := decide_eq_false hbig
              have hbig2 : ¬ (1000 : Int) < n := hbig
              have hq := fun (t : TypeId) (w : World) => run_float_arith (P := Tryd.prog) (w := w) .quo t .f64 (floatOfInt .f64 n) 4652007308841189376 _ (fdiv_run n h0 zb37)
              have hconv := fun (w : World) => run_convert_int_float (P := Tryd.prog) w 3 27 .i64 .f64 n (by rw [Tryd.underlying3]; rfl) Tryd.underlying27
              generalize floatOfInt .f64 n = fn at hq hconv
              rw [hr2.out] at hq
              clear hf3
              go_wp2
              go_ret
              exact ⟨_, rfl, .inl rfl, ⟨0, by rw [hw.out]; rfl⟩⟩
            · exact absurd hf3 (by rw [if_neg hbig, if_neg h0]; simp)
    · rw [hc] at hidx0 hrun
      clear hc q1 q2
      have hrun : Hid (∃ f, 20 ≤ f + 2 ∧ rwR (rwl a0 f 2 1000 100) = some r) := Lib.hid ⟨20, by decide, by simpa using hrun.out⟩
      go_enter Tryd.func16, Tryd.ntmps16
      go_wp2
      go_loopw [4, 5, 6] (fun vn vp vi wr => ∃ (i : Nat) (n pl : Int), vn = .int .i64 n ∧ vp = .int .i64 pl ∧ vi = .int .i64 i ∧ Hid (wr = w) ∧ Hid ((i = 2 ∧ pl = 100) ∨ (i = 3 ∧ pl = 10) ∨ (i = 4 ∧ pl = 1) ∨ (i = 5 ∧ pl = 0)) ∧ Hid (∃ f, 20 ≤ f + i ∧ rwR (rwl a0 f i n pl) = some r)) (fun _ _ i _ => a0.size - (intOf i).toNat)
      case atStart => exact ⟨2, _, 100, rfl, rfl, rfl, Lib.hid rfl, Lib.hid (.inl ⟨rfl, rfl⟩), hrun⟩
      case round =>
        obtain ⟨i, n, pl, rfl, rfl, rfl, hw, hpl, hf⟩ := hrel
        obtain ⟨f, hf1, hf2⟩ := hf.out
        have hi5 : i ≤ 5 := by rcases hpl.out with h | h | h | h <;> omega
        obtain ⟨f, rfl⟩ : ∃ f', f = f' + 1 := ⟨f - 1, by omega⟩
        clear hf
        by_cases hlt : i < a0.size
        · rw [rwl, if_pos hlt] at hf2
          have hltI : (i : Int) < (a0.size : Int) := by omega
          have hidx : ∀ h : i < a0.size, ((a0[i]'h).toNat : Int) = bt a0 i := fun h => by unfold bt; rw [dif_pos (show (Int.toNat (i : Int)) < a0.size from h)]; rfl
          obtain ⟨q1, q2⟩ := bt_range a0 i
          generalize bt a0 i = d at *
          by_cases c1 : d < 48
          · rw [if_pos c1] at hf2
            have hr2 := Lib.hid (rw_nan hf2)
            clear hf2 hf1
            go_wp2
            go_ret
            exact ⟨_, rfl, .inr ⟨hnn.out _, by rw [hr2.out]; exact nanW_nan⟩, ⟨1, by rw [hw.out]; rfl⟩⟩
          · rw [if_neg c1] at hf2
            by_cases c2 : d > 57
            · rw [if_pos c2] at hf2
              have c2' : 57 < d := c2
              have hr2 := Lib.hid (rw_nan hf2)
              clear hf2 hf1
              go_wp2
              go_ret
              exact ⟨_, rfl, .inr ⟨hnn.out _, by rw [hr2.out]; exact nanW_nan⟩, ⟨1, by rw [hw.out]; rfl⟩⟩
            · rw [if_neg c2] at hf2
              have c2' : ¬ 57 < d := c2
              have hf2 := Lib.hid hf2
              have hf1 := Lib.hid hf1
              rcases hpl.out with ⟨rfl, rfl⟩ | ⟨rfl, rfl⟩ | ⟨rfl, rfl⟩ | ⟨rfl, rfl⟩
              · go_wp2
                go_roundw
                case rel =>
                  exact ⟨3, _, 10, rfl, by go_num, by go_num, hw, Lib.hid (.inr (.inl ⟨rfl, rfl⟩)), Lib.hid ⟨f, by have := hf1.out; omega, by simpa using hf2.out⟩⟩
                case measure => simp [intOf]; omega
              · go_wp2
                go_roundw
                case rel =>
                  exact ⟨4, _, 1, rfl, by go_num, by go_num, hw, Lib.hid (.inr (.inr (.inl ⟨rfl, rfl⟩))), Lib.hid ⟨f, by have := hf1.out; omega, by simpa using hf2.out⟩⟩
                case measure => simp [intOf]; omega
              · go_wp2
                go_roundw
                case rel =>
                  exact ⟨5, _, 0, rfl, by go_num, by go_num, hw, Lib.hid (.inr (.inr (.inr ⟨rfl, rfl⟩))), Lib.hid ⟨f, by have := hf1.out; omega, by simpa using hf2.out⟩⟩
                case measure => simp [intOf]; omega
              · omega
        · rw [rwl, if_neg hlt] at hf2
          have hltI : ¬ (i : Int) < (a0.size : Int) := by omega
          have hf3 : (if n > 1000 then some nanW else if 0 ≤ n then some (fdiv n.toNat) else none) = some r := hf2
          clear hf2 hf1
          by_cases hbig : n > 1000
          · have hr2 : Hid (r = nanW) := Lib.hid (by rw [if_pos hbig] at hf3; exact (Option.some.inj hf3).symm)
            have hbig' : (1000 : Int) < n := hbig
            clear hf3
            go_wp2
            go_ret
            exact ⟨_, rfl, .inr ⟨hnn.out _, by rw [hr2.out]; exact nanW_nan⟩, ⟨1, by rw [hw.out]; rfl⟩⟩
          · by_cases h0 : 0 ≤ n
            · have hr2 : Hid (fdiv n.toNat = r) := Lib.hid (by rw [if_neg hbig, if_pos h0] at hf3; exact Option.some.inj hf3)
              have hbig' : decide ((1000 : Int) < n) = false := decide_eq_false hbig
              have hbig2 : ¬ (1000 : Int) < n := hbig
              have hq := fun (t : TypeId) (w : World) => run_float_arith (P := Tryd.prog) (w := w) .quo t .f64 (floatOfInt .f64 n) 4652007308841189376 _ (fdiv_run n h0 zb37)
              have hconv := fun (w : World) => run_convert_int_float (P := Tryd.prog) w 3 27 .i64 .f64 n (by rw [Tryd.underlying3]; rfl) Tryd.underlying27
              generalize floatOfInt .f64 n = fn at hq hconv
              rw [hr2.out] at hq
              clear hf3
              go_wp2
              go_ret
              exact ⟨_, rfl, .inl rfl, ⟨0, by rw [hw.out]; rfl⟩⟩
            · exact absurd hf3 (by rw [if_neg hbig, if_neg h0]; simp)
  · have hD' : ¬ (1 : Int) < (a0.size : Int) := by omega
    clear hC hidx1 p1 p2
    rcases hA2 with hc | hc
    · rw [hc] at hidx0 hrun
      clear hc q1 q2
      have hrun : Hid (∃ f, 20 ≤ f + 2 ∧ rwR (rwl a0 f 2 0 100) = some r) := Lib.hid ⟨20, by decide, by simpa using hrun.out⟩
      go_enter Tryd.func16, Tryd.ntmps16
      go_wp2
      go_loopw [4, 5, 6] (fun vn vp vi wr => ∃ (i : Nat) (n pl : Int), vn = .int .i64 n ∧ vp = .int .i64 pl ∧ vi = .int .i64 i ∧ Hid (wr = w) ∧ Hid ((i = 2 ∧ pl = 100) ∨ (i = 3 ∧ pl = 10) ∨ (i = 4 ∧ pl = 1) ∨ (i = 5 ∧ pl = 0)) ∧ Hid (∃ f, 20 ≤ f + i ∧ rwR (rwl a0 f i n pl) = some r)) (fun _ _ i _ => a0.size - (intOf i).toNat)
      case atStart => exact ⟨2, _, 100, rfl, rfl, rfl, Lib.hid rfl, Lib.hid (.inl ⟨rfl, rfl⟩), hrun⟩
      case round =>
        obtain ⟨i, n, pl, rfl, rfl, rfl, hw, hpl, hf⟩ := hrel
        obtain ⟨f, hf1, hf2⟩ := hf.out
        have hi5 : i ≤ 5 := by rcases hpl.out with h | h | h | h <;> omega
        obtain ⟨f, rfl⟩ : ∃ f', f = f' + 1 := ⟨f - 1, by omega⟩
        clear hf
        by_cases hlt : i < a0.size
        · exact absurd hlt (by rcases hpl.out with h | h | h | h <;> omega)
        · rw [rwl, if_neg hlt] at hf2
          have hltI : ¬ (i : Int) < (a0.size : Int) := by omega
          have hf3 : (if n > 1000 then some nanW else if 0 ≤ n then some (fdiv n.toNat) else none) = some r := hf2
          clear hf2 hf1
          by_cases hbig : n > 1000
          · have hr2 : Hid (r = nanW) := Lib.hid (by rw [if_pos hbig] at hf3; exact (Option.some.inj hf3).symm)
            have hbig' : (1000 : Int) < n := hbig
            clear hf3
            go_wp2
            go_ret
            exact ⟨_, rfl, .inr ⟨hnn.out _, by rw [hr2.out]; exact nanW_nan⟩, ⟨1, by rw [hw.out]; rfl⟩⟩
          · by_cases h0 : 0 ≤ n
            · have hr2 : Hid (fdiv n.toNat = r) := Lib.hid (by rw [if_neg hbig, if_pos h0] at hf3; exact Option.some.inj hf3)
              have hbig' : decide ((1000 : Int) < n) = false := decide_eq_false hbig
              have hbig2 : ¬ (1000 : Int) < n := hbig
              have hq := fun (t : TypeId) (w : World) => run_float_arith (P := Tryd.prog) (w := w) .quo t .f64 (floatOfInt .f64 n) 4652007308841189376 _ (fdiv_run n h0 zb37)
              have hconv := fun (w : World) => run_convert_int_float (P := Tryd.prog) w 3 27 .i64 .f64 n (by rw [Tryd.underlying3]; rfl) Tryd.underlying27
              generalize floatOfInt .f64 n = fn at hq hconv
              rw [hr2.out] at hq
              clear hf3
              go_wp2
              go_ret
              exact ⟨_, rfl, .inl rfl, ⟨0, by rw [hw.out]; rfl⟩⟩
            · exact absurd hf3 (by rw [if_neg hbig, if_neg h0]; simp)
    · rw [hc] at hidx0 hrun
      clear hc q1 q2
      have hrun : Hid (∃ f, 20 ≤ f + 2 ∧ rwR (rwl a0 f 2 1000 100) = some r) := Lib.hid ⟨20, by decide, by simpa using hrun.out⟩
      go_enter Tryd.func16, Tryd.ntmps16
      go_wp2
      go_loopw [4, 5, 6] (fun vn vp vi wr => ∃ (i : Nat) (n pl : Int), vn = .int .i64 n ∧ vp = .int .i64 pl ∧ vi = .int .i64 i ∧ Hid (wr = w) ∧ Hid ((i = 2 ∧ pl = 100) ∨ (i = 3 ∧ pl = 10) ∨ (i = 4 ∧ pl = 1) ∨ (i = 5 ∧ pl = 0)) ∧ Hid (∃ f, 20 ≤ f + i ∧ rwR (rwl a0 f i n pl) = some r)) (fun _ _ i _ => a0.size - (intOf i).toNat)
      case atStart => exact ⟨2, _, 100, rfl, rfl, rfl, Lib.hid rfl, Lib.hid (.inl ⟨rfl, rfl⟩), hrun⟩
      case round =>
        obtain ⟨i, n, pl, rfl, rfl, rfl, hw, hpl, hf⟩ := hrel
        obtain ⟨f, hf1, hf2⟩ := hf.out
        have hi5 : i ≤ 5 := by rcases hpl.out with h | h | h | h <;> omega
        obtain ⟨f, rfl⟩ : ∃ f', f = f' + 1 := ⟨f - 1, by omega⟩
        clear hf
        by_cases hlt : i < a0.size
        · exact absurd hlt (by rcases hpl.out with h | h | h | h <;> omega)
        · rw [rwl, if_neg hlt] at hf2
          have hltI : ¬ (i : Int) < (a0.size : Int) := by omega
          have hf3 : (if n > 1000 then some nanW else if 0 ≤ n then some (fdiv n.toNat) else none) = some r := hf2
          clear hf2 hf1
          by_cases hbig : n > 1000
          · have hr2 : Hid (r = nanW) := Lib.hid (by rw [if_pos hbig] at hf3; exact (Option.some.inj hf3).symm)
            have hbig' : (1000 : Int) < n := hbig
            clear hf3
            go_wp2
            go_ret
            exact ⟨_, rfl, .inr ⟨hnn.out _, by rw [hr2.out]; exact nanW_nan⟩, ⟨1, by rw [hw.out]; rfl⟩⟩
          · by_cases h0 : 0 ≤ n
            · have hr2 : Hid (fdiv n.toNat = r) := Lib.hid (by rw [if_neg hbig, if_pos h0] at hf3; exact Option.some.inj hf3)
              have hbig' : decide ((1000 : Int) < n) = false := decide_eq_false hbig
              have hbig2 : ¬ (1000 : Int) < n := hbig
              have hq := fun (t : TypeId) (w : World) => run_float_arith (P := Tryd.prog) (w := w) .quo t .f64 (floatOfInt .f64 n) 4652007308841189376 _ (fdiv_run n h0 zb37)
              have hconv := fun (w : World) => run_convert_int_float (P := Tryd.prog) w 3 27 .i64 .f64 n (by rw [Tryd.underlying3]; rfl) Tryd.underlying27
              generalize floatOfInt .f64 n = fn at hq hconv
              rw [hr2.out] at hq
              clear hf3
              go_wp2
              go_ret
              exact ⟨_, rfl, .inl rfl, ⟨0, by rw [hw.out]; rfl⟩⟩
            · exact absurd hf3 (by rw [if_neg hbig, if_neg h0]; simp)
end Go.Proofs.YtghfbhobpodoeaaDoor.O
/- Px24 -/
namespace Go.Proofs.YtghfbhobpodoeaaDoor.P
open Go.Proofs.YtghfbhobpodoeaaDoor.B
open Go.RowKit Go.Proofs.YtghfbhobpodoeaaDoorW.PrintWords Go.Proofs.YtghfbhobpodoeaaDoorW.PrintLast Go.Proofs.YtghfbhobpodoeaaDoorW.PrintMore
attribute [local go_sem] run_store_float str_leq str_gtr str_geq max2_int min2_int max_two min_two max_three min_three max_four min_four
set_option linter.unusedVariables false
set_option linter.unusedSimpArgs false
open Go.Proofs.YtghfbhobpodoeaaDoor.O
def broadsheetref14_Ahead.f (a0 : Nat) (a1 : Nat) : Option (Bool) := (ref14_rank.f a0).bind fun t232 => ((ref14_rank.f a1).bind fun t233 => (if t232 = t233 then (if t232 = 3 then (some false) else (some (FloatKind.f64.format.order a0 a1 == some .gt))) else (some (decide (t232 < t233)))))
set_option maxHeartbeats 8000000 in
set_option maxRecDepth 100000 in
theorem broadsheetref14_Ahead.calls (a0 : Nat) (a1 : Nat) (r : Bool) (w : World) (h : broadsheetref14_Ahead.f a0 a1 = some r) :
  Calls Tryd.prog 18 #[.float .f64 a0, .float .f64 a1] w fun e w' => e = .returned (.bool r) ∧ Drawn0 w w' := by
 have H : ((ref14_rank.f a0).bind fun t232 => ((ref14_rank.f a1).bind fun t233 => (if t232 = t233 then (if t232 = 3 then (some false) else (some (FloatKind.f64.format.order a0 a1 == some .gt))) else (some (decide (t232 < t233)))))) = some r := h
 clear h
 replace H := Option.bind_eq_some_iff.mp H
 obtain ⟨t232, A30, H⟩ := H
 replace H : ((ref14_rank.f a1).bind fun t233 => (if t232 = t233 then (if t232 = 3 then (some false) else (some (FloatKind.f64.format.order a0 a1 == some .gt))) else (some (decide (t232 < t233))))) = some r := H
 have A3 := Aside0.mk A30
 clear A30
 replace H := Option.bind_eq_some_iff.mp H
 obtain ⟨t233, A40, H⟩ := H
 replace H : (if t232 = t233 then (if t232 = 3 then (some false) else (some (FloatKind.f64.format.order a0 a1 == some .gt))) else (some (decide (t232 < t233)))) = some r := H
 have A4 := Aside0.mk A40
 clear A40
 by_cases c5 : t232 = t233
 ·rw [if_pos c5] at H
  have c5b0 : (t232 == t233) = true := beq_iff_eq.mpr c5
  have c5b1 : (t232 != t233) = false := bne_eq_false_iff_eq.mpr c5
  clear c5
  by_cases c6 : t232 = 3
  ·rw [if_pos c6] at H
   have c6b0 : (t232 == 3) = true := beq_iff_eq.mpr c6
   have c6b1 : (t232 != 3) = false := bne_eq_false_iff_eq.mpr c6
   clear c6
   obtain rfl := Option.some.inj H
   go_enter Tryd.func18, Tryd.ntmps18
   go_wp2_with (first | ((with_reducible refine gate_callee (f := 31) rfl ?_); refine goesL_ (some 8) rfl rfl Tryd.func31 zb15 rfl #[.float .f64 a0] rfl zb1 ?_; (with_reducible refine (ref14_rank.calls a0 t232 _ A3.out).mono ?_); rintro e w' ⟨rfl, ⟨nd, rfl⟩⟩; refine ⟨_, rfl, ?_⟩) | ((with_reducible refine gate_callee (f := 31) rfl ?_); refine goesL_ (some 10) rfl rfl Tryd.func31 zb15 rfl #[.float .f64 a1] rfl zb1 ?_; (with_reducible refine (ref14_rank.calls a1 t233 _ A4.out).mono ?_); rintro e w' ⟨rfl, ⟨nd, rfl⟩⟩; refine ⟨_, rfl, ?_⟩))
   go_ret
   exact ⟨by first | rfl | (simp; done) | (simp [*]; done), by repeat (first | exact Drawn0.refl _ | apply Drawn0.step)⟩
  ·rw [if_neg c6] at H
   have c6b0 : (t232 == 3) = false := beq_eq_false_iff_ne.mpr c6
   have c6b1 : (t232 != 3) = true := bne_iff_ne.mpr c6
   obtain rfl := Option.some.inj H
   go_enter Tryd.func18, Tryd.ntmps18
   go_wp2_with (first | ((with_reducible refine gate_callee (f := 31) rfl ?_); refine goesL_ (some 8) rfl rfl Tryd.func31 zb15 rfl #[.float .f64 a0] rfl zb1 ?_; (with_reducible refine (ref14_rank.calls a0 t232 _ A3.out).mono ?_); rintro e w' ⟨rfl, ⟨nd, rfl⟩⟩; refine ⟨_, rfl, ?_⟩) | ((with_reducible refine gate_callee (f := 31) rfl ?_); refine goesL_ (some 10) rfl rfl Tryd.func31 zb15 rfl #[.float .f64 a1] rfl zb1 ?_; (with_reducible refine (ref14_rank.calls a1 t233 _ A4.out).mono ?_); rintro e w' ⟨rfl, ⟨nd, rfl⟩⟩; refine ⟨_, rfl, ?_⟩))
   go_ret
   exact ⟨by first | rfl | (simp; done) | (simp [*]; done), by repeat (first | exact Drawn0.refl _ | apply Drawn0.step)⟩
 ·rw [if_neg c5] at H
  have c5b0 : (t232 == t233) = false := beq_eq_false_iff_ne.mpr c5
  have c5b1 : (t232 != t233) = true := bne_iff_ne.mpr c5
  obtain rfl := Option.some.inj H
  go_enter Tryd.func18, Tryd.ntmps18
  go_wp2_with (first | ((with_reducible refine gate_callee (f := 31) rfl ?_); refine goesL_ (some 8) rfl rfl Tryd.func31 zb15 rfl #[.float .f64 a0] rfl zb1 ?_; (with_reducible refine (ref14_rank.calls a0 t232 _ A3.out).mono ?_); rintro e w' ⟨rfl, ⟨nd, rfl⟩⟩; refine ⟨_, rfl, ?_⟩) | ((with_reducible refine gate_callee (f := 31) rfl ?_); refine goesL_ (some 10) rfl rfl Tryd.func31 zb15 rfl #[.float .f64 a1] rfl zb1 ?_; (with_reducible refine (ref14_rank.calls a1 t233 _ A4.out).mono ?_); rintro e w' ⟨rfl, ⟨nd, rfl⟩⟩; refine ⟨_, rfl, ?_⟩))
  go_ret
  exact ⟨by first | rfl | (simp; done) | (simp [*]; done), by repeat (first | exact Drawn0.refl _ | apply Drawn0.step)⟩
end Go.Proofs.YtghfbhobpodoeaaDoor.P
/- Px25 -/
namespace Go.Proofs.YtghfbhobpodoeaaDoor.P
open Go.Proofs.YtghfbhobpodoeaaDoor.B
open Go.RowKit Go.Proofs.YtghfbhobpodoeaaDoorW.PrintWords Go.Proofs.YtghfbhobpodoeaaDoorW.PrintLast Go.Proofs.YtghfbhobpodoeaaDoorW.PrintMore
attribute [local go_sem] run_store_float str_leq str_gtr str_geq max2_int min2_int max_two min_two max_three min_three max_four min_four
set_option linter.unusedVariables false
set_option linter.unusedSimpArgs false
def broadsheetref14_Clamp.f (a0 : Nat) : Option (Nat) := if (FloatKind.f64.format.order a0 4607182418800017408 == some .gt || FloatKind.f64.format.order a0 4607182418800017408 == some .eq) = true then (some 4607182418800017408) else (if (FloatKind.f64.format.order a0 0 == some .gt) = true then (some a0) else (some 0))
set_option maxHeartbeats 8000000 in
set_option maxRecDepth 100000 in
theorem broadsheetref14_Clamp.calls (a0 : Nat) (r : Nat) (w : World) (h : broadsheetref14_Clamp.f a0 = some r) :
  Calls Tryd.prog 20 #[.float .f64 a0] w fun e w' => e = .returned (.float .f64 r) ∧ Drawn0 w w' := by
 have H : (if (FloatKind.f64.format.order a0 4607182418800017408 == some .gt || FloatKind.f64.format.order a0 4607182418800017408 == some .eq) = true then (some 4607182418800017408) else (if (FloatKind.f64.format.order a0 0 == some .gt) = true then (some a0) else (some 0))) = some r := h
 clear h
 by_cases c2 : (FloatKind.f64.format.order a0 4607182418800017408 == some .gt || FloatKind.f64.format.order a0 4607182418800017408 == some .eq) = true
 ·rw [if_pos c2] at H
  have c2b0 : (FloatKind.f64.format.order a0 4607182418800017408 == some .gt || FloatKind.f64.format.order a0 4607182418800017408 == some .eq) = true := c2
  (try (have c2b1 : decide (FloatKind.f64.format.order a0 4607182418800017408 = some .gt || FloatKind.f64.format.order a0 4607182418800017408 == some .eq) = true := by simpa using c2))
  (try (have c2b2 : (FloatKind.f64.format.order a0 4607182418800017408 == some .gt || FloatKind.f64.format.order a0 4607182418800017408 == some .eq) = true := by simpa using c2))
  clear c2
  obtain rfl := Option.some.inj H
  go_enter Tryd.func20, Tryd.ntmps20
  go_wp2
  go_ret
  exact ⟨by first | rfl | (simp; done) | (simp [*]; done), by repeat (first | exact Drawn0.refl _ | apply Drawn0.step)⟩
 ·rw [if_neg c2] at H
  have c2b0 : (FloatKind.f64.format.order a0 4607182418800017408 == some .gt || FloatKind.f64.format.order a0 4607182418800017408 == some .eq) = false := by simpa using c2
  (try (have c2b1 : decide (FloatKind.f64.format.order a0 4607182418800017408 = some .gt || FloatKind.f64.format.order a0 4607182418800017408 == some .eq) = false := by simpa using c2))
  (try (have c2b2 : (FloatKind.f64.format.order a0 4607182418800017408 == some .gt || FloatKind.f64.format.order a0 4607182418800017408 == some .eq) = false := by simpa using c2))
  (try (have c2b3 : ¬ (FloatKind.f64.format.order a0 4607182418800017408 = some .gt || FloatKind.f64.format.order a0 4607182418800017408 == some .eq) := by simpa using c2))
  clear c2
  by_cases c3 : (FloatKind.f64.format.order a0 0 == some .gt) = true
  ·rw [if_pos c3] at H
   have c3b0 : (FloatKind.f64.format.order a0 0 == some .gt) = true := c3
   (try (have c3b1 : decide (FloatKind.f64.format.order a0 0 = some .gt) = true := by simpa using c3))
   (try (have c3b2 : (FloatKind.f64.format.order a0 0 == some .gt) = true := by simpa using c3))
   clear c3
   obtain rfl := Option.some.inj H
   go_enter Tryd.func20, Tryd.ntmps20
   go_wp2
   go_ret
   exact ⟨by first | rfl | (simp; done) | (simp [*]; done), by repeat (first | exact Drawn0.refl _ | apply Drawn0.step)⟩
  ·rw [if_neg c3] at H
   have c3b0 : (FloatKind.f64.format.order a0 0 == some .gt) = false := by simpa using c3
   (try (have c3b1 : decide (FloatKind.f64.format.order a0 0 = some .gt) = false := by simpa using c3))
   (try (have c3b2 : (FloatKind.f64.format.order a0 0 == some .gt) = false := by simpa using c3))
   (try (have c3b3 : ¬ (FloatKind.f64.format.order a0 0 = some .gt) := by simpa using c3))
   clear c3
   obtain rfl := Option.some.inj H
   go_enter Tryd.func20, Tryd.ntmps20
   go_wp2
   go_ret
   exact ⟨by first | rfl | (simp; done) | (simp [*]; done), by repeat (first | exact Drawn0.refl _ | apply Drawn0.step)⟩
end Go.Proofs.YtghfbhobpodoeaaDoor.P
/- Same -/
namespace Go.Proofs.YtghfbhobpodoeaaDoor.O
open Go Go.RowKit Go.Proofs.YtghfbhobpodoeaaDoorW.PrintWords Go.Proofs.YtghfbhobpodoeaaDoorW.PrintLast Go.Proofs.YtghfbhobpodoeaaDoor.P
set_option linter.unusedVariables false
theorem same_word (t : Nat) {r b : Nat} (h : WordIs r b) : broadsheetlaw14_same.f t b = broadsheetlaw14_same.f t r := by
  rcases h with rfl | ⟨h1, h2⟩
  · rfl
  · unfold broadsheetlaw14_same.f
    rw [Sp.order_nanL (y := b) h1, Sp.order_nanL (y := r) h2, Sp.order_nanR (x := t) h1, Sp.order_nanR (x := t) h2]
    have e1 : ((none : Option Ordering) != some .eq) = true := rfl
    have e2 : ((none : Option Ordering) == some .eq) = false := rfl
    simp only [e1, e2, if_true, Bool.false_eq_true, if_false]
end Go.Proofs.YtghfbhobpodoeaaDoor.O
/- Px26 -/
namespace Go.Proofs.YtghfbhobpodoeaaDoor.P
open Go.Proofs.YtghfbhobpodoeaaDoor.B
open Go.RowKit Go.Proofs.YtghfbhobpodoeaaDoorW.PrintWords Go.Proofs.YtghfbhobpodoeaaDoorW.PrintLast Go.Proofs.YtghfbhobpodoeaaDoorW.PrintMore
attribute [local go_sem] run_store_float str_leq str_gtr str_geq max2_int min2_int max_two min_two max_three min_three max_four min_four
set_option linter.unusedVariables false
set_option linter.unusedSimpArgs false
open Go.Proofs.YtghfbhobpodoeaaDoor.O
def broadsheetlaw14_QualityWeights.f (k : Nat) (a0 : ByteArray) (a1 : Nat) (a2 : Nat) : Option (Bool) := if (a0.size : Int) > 300 then ((broadsheetlaw14_awake.f k).bind fun t234 => (some t234)) else ((broadsheetlaw14_awake.f k).bind fun t235 => (if t235 = true then ((quality_Weight.f a0).bind fun t236 => ((ref14_Weight.f a0).bind fun t237 => ((broadsheetlaw14_same.f t236 t237).bind fun t238 => (if t238 = true then ((quality_Ahead.f k a1 a2).bind fun t239 => ((broadsheetref14_Ahead.f a1 a2).bind fun t240 => (if (t239 == t240) = true then ((quality_Clamp.f a1).bind fun t241 => ((broadsheetref14_Clamp.f a1).bind fun t242 => ((broadsheetlaw14_same.f t241 t242).bind fun t243 => (some t243)))) else (some false)))) else (some false))))) else (some false)))
set_option maxHeartbeats 8000000 in
set_option maxRecDepth 100000 in
theorem broadsheetlaw14_QualityWeights.calls (k : Nat) (a0 : ByteArray) (a1 : Nat) (a2 : Nat) (r : Bool) (w : World) (hG : Glob w) (h : broadsheetlaw14_QualityWeights.f k a0 a1 a2 = some r) :
  Calls Tryd.prog 6 #[.string a0, .float .f64 a1, .float .f64 a2] w fun e w' => e = .returned (.bool r) ∧ Below w.heap.size w w' := by
 have HB := Aside0.mk (Below.refl w.heap.size w)
 have hGA := Aside0.mk hG
 clear hG
 have H : (if (a0.size : Int) > 300 then ((broadsheetlaw14_awake.f k).bind fun t234 => (some t234)) else ((broadsheetlaw14_awake.f k).bind fun t235 => (if t235 = true then ((quality_Weight.f a0).bind fun t236 => ((ref14_Weight.f a0).bind fun t237 => ((broadsheetlaw14_same.f t236 t237).bind fun t238 => (if t238 = true then ((quality_Ahead.f k a1 a2).bind fun t239 => ((broadsheetref14_Ahead.f a1 a2).bind fun t240 => (if (t239 == t240) = true then ((quality_Clamp.f a1).bind fun t241 => ((broadsheetref14_Clamp.f a1).bind fun t242 => ((broadsheetlaw14_same.f t241 t242).bind fun t243 => (some t243)))) else (some false)))) else (some false))))) else (some false)))) = some r := h
 clear h
 by_cases c4 : (a0.size : Int) > 300
 ·rw [if_pos c4] at H
  have c4b0 : decide (300 < (a0.size : Int)) = true := decide_eq_true c4
  have c4b1 : decide (300 < a0.size) = true := decide_eq_true zb37
  clear c4
  replace H := Option.bind_eq_some_iff.mp H
  obtain ⟨t234, A50, H⟩ := H
  replace H : (some t234) = some r := H
  have A5 := Aside0.mk A50
  clear A50
  obtain rfl := Option.some.inj H
  go_enter Tryd.func6, Tryd.ntmps6
  go_wp2_with (first | ((with_reducible refine gate_callee (f := 8) rfl ?_); refine goesL_ (some 10) rfl rfl Tryd.func8 zb15 rfl #[] rfl zb1 ?_; (with_reducible refine (broadsheetlaw14_awake.calls k  t234 _ ?side1 A5.out).mono ?_); (case side1 => exact Glob.below hGA.out zb0); rintro e w6 ⟨rfl, hb⟩; refine ⟨_, rfl, ?_⟩; have n0_ := Aside0.mk (below_step zb0 hb); clear HB; have HB := n0_; clear n0_; (try clear hb); (try clear hb2); (try clear hk); (try clear hi)))
  go_ret
  exact ⟨zb10, zb0⟩
 ·rw [if_neg c4] at H
  have c4b0 : decide (300 < (a0.size : Int)) = false := decide_eq_false c4
  have c4b1 : decide (300 < a0.size) = false := decide_eq_false zb37
  clear c4
  replace H := Option.bind_eq_some_iff.mp H
  obtain ⟨t235, A70, H⟩ := H
  replace H : (if t235 = true then ((quality_Weight.f a0).bind fun t236 => ((ref14_Weight.f a0).bind fun t237 => ((broadsheetlaw14_same.f t236 t237).bind fun t238 => (if t238 = true then ((quality_Ahead.f k a1 a2).bind fun t239 => ((broadsheetref14_Ahead.f a1 a2).bind fun t240 => (if (t239 == t240) = true then ((quality_Clamp.f a1).bind fun t241 => ((broadsheetref14_Clamp.f a1).bind fun t242 => ((broadsheetlaw14_same.f t241 t242).bind fun t243 => (some t243)))) else (some false)))) else (some false))))) else (some false)) = some r := H
  have A7 := Aside0.mk A70
  clear A70
  by_cases c8 : t235 = true
  ·subst c8
   replace H : ((quality_Weight.f a0).bind fun t236 => ((ref14_Weight.f a0).bind fun t237 => ((broadsheetlaw14_same.f t236 t237).bind fun t238 => (if t238 = true then ((quality_Ahead.f k a1 a2).bind fun t239 => ((broadsheetref14_Ahead.f a1 a2).bind fun t240 => (if (t239 == t240) = true then ((quality_Clamp.f a1).bind fun t241 => ((broadsheetref14_Clamp.f a1).bind fun t242 => ((broadsheetlaw14_same.f t241 t242).bind fun t243 => (some t243)))) else (some false)))) else (some false))))) = some r := by rw [if_pos rfl] at H; exact H
   replace H := Option.bind_eq_some_iff.mp H
   obtain ⟨t236, A90, H⟩ := H
   replace H : ((ref14_Weight.f a0).bind fun t237 => ((broadsheetlaw14_same.f t236 t237).bind fun t238 => (if t238 = true then ((quality_Ahead.f k a1 a2).bind fun t239 => ((broadsheetref14_Ahead.f a1 a2).bind fun t240 => (if (t239 == t240) = true then ((quality_Clamp.f a1).bind fun t241 => ((broadsheetref14_Clamp.f a1).bind fun t242 => ((broadsheetlaw14_same.f t241 t242).bind fun t243 => (some t243)))) else (some false)))) else (some false)))) = some r := H
   have A9 := Aside0.mk A90
   clear A90
   replace H := Option.bind_eq_some_iff.mp H
   obtain ⟨t237, A100, H⟩ := H
   replace H : ((broadsheetlaw14_same.f t236 t237).bind fun t238 => (if t238 = true then ((quality_Ahead.f k a1 a2).bind fun t239 => ((broadsheetref14_Ahead.f a1 a2).bind fun t240 => (if (t239 == t240) = true then ((quality_Clamp.f a1).bind fun t241 => ((broadsheetref14_Clamp.f a1).bind fun t242 => ((broadsheetlaw14_same.f t241 t242).bind fun t243 => (some t243)))) else (some false)))) else (some false))) = some r := H
   have A10 := Aside0.mk A100
   clear A100
   replace H := Option.bind_eq_some_iff.mp H
   obtain ⟨t238, A110, H⟩ := H
   replace H : (if t238 = true then ((quality_Ahead.f k a1 a2).bind fun t239 => ((broadsheetref14_Ahead.f a1 a2).bind fun t240 => (if (t239 == t240) = true then ((quality_Clamp.f a1).bind fun t241 => ((broadsheetref14_Clamp.f a1).bind fun t242 => ((broadsheetlaw14_same.f t241 t242).bind fun t243 => (some t243)))) else (some false)))) else (some false)) = some r := H
   have A11 := Aside0.mk A110
   clear A110
   by_cases c12 : t238 = true
   ·subst c12
    replace H : ((quality_Ahead.f k a1 a2).bind fun t239 => ((broadsheetref14_Ahead.f a1 a2).bind fun t240 => (if (t239 == t240) = true then ((quality_Clamp.f a1).bind fun t241 => ((broadsheetref14_Clamp.f a1).bind fun t242 => ((broadsheetlaw14_same.f t241 t242).bind fun t243 => (some t243)))) else (some false)))) = some r := by rw [if_pos rfl] at H; exact H
    replace H := Option.bind_eq_some_iff.mp H
    obtain ⟨t239, A130, H⟩ := H
    replace H : ((broadsheetref14_Ahead.f a1 a2).bind fun t240 => (if (t239 == t240) = true then ((quality_Clamp.f a1).bind fun t241 => ((broadsheetref14_Clamp.f a1).bind fun t242 => ((broadsheetlaw14_same.f t241 t242).bind fun t243 => (some t243)))) else (some false))) = some r := H
    have A13 := Aside0.mk A130
    clear A130
    replace H := Option.bind_eq_some_iff.mp H
    obtain ⟨t240, A140, H⟩ := H
    replace H : (if (t239 == t240) = true then ((quality_Clamp.f a1).bind fun t241 => ((broadsheetref14_Clamp.f a1).bind fun t242 => ((broadsheetlaw14_same.f t241 t242).bind fun t243 => (some t243)))) else (some false)) = some r := H
    have A14 := Aside0.mk A140
    clear A140
    by_cases c15 : (t239 == t240) = true
    ·rw [if_pos c15] at H
     have c15b0 : (t239 == t240) = true := c15
     (try (have c15b1 : decide (t239 = t240) = true := by simpa using c15))
     (try (have c15b2 : (t239 == t240) = true := by simpa using c15))
     clear c15
     replace H := Option.bind_eq_some_iff.mp H
     obtain ⟨t241, A160, H⟩ := H
     replace H : ((broadsheetref14_Clamp.f a1).bind fun t242 => ((broadsheetlaw14_same.f t241 t242).bind fun t243 => (some t243))) = some r := H
     have A16 := Aside0.mk A160
     clear A160
     replace H := Option.bind_eq_some_iff.mp H
     obtain ⟨t242, A170, H⟩ := H
     replace H : ((broadsheetlaw14_same.f t241 t242).bind fun t243 => (some t243)) = some r := H
     have A17 := Aside0.mk A170
     clear A170
     replace H := Option.bind_eq_some_iff.mp H
     obtain ⟨t243, A180, H⟩ := H
     replace H : (some t243) = some r := H
     have A18 := Aside0.mk A180
     clear A180
     obtain rfl := Option.some.inj H
     go_enter Tryd.func6, Tryd.ntmps6
     go_wp2_with (first | ((with_reducible refine gate_callee (f := 8) rfl ?_); refine goesL_ (some 11) rfl rfl Tryd.func8 zb15 rfl #[] rfl zb1 ?_; (with_reducible refine (broadsheetlaw14_awake.calls k  true _ ?side1 A7.out).mono ?_); (case side1 => exact Glob.below hGA.out zb0); rintro e w19 ⟨rfl, hb⟩; refine ⟨_, rfl, ?_⟩; have n0_ := Aside0.mk (below_step zb0 hb); clear HB; have HB := n0_; clear n0_; (try clear hb); (try clear hb2); (try clear hk); (try clear hi)) | (go_at_call 15; (with_reducible refine (quality_Weight.calls a0 t236 _ ?side1 A9.out).mono ?_); (case side1 => exact Glob.below hGA.out zb0); rintro e w20 ⟨rfl, hb⟩; have n0_ := Aside0.mk (below_step zb0 hb); clear HB; have HB := n0_; clear n0_; (try clear hb); (try clear hb2); (try clear hk); (try clear hi)) | (go_at_call 16; (with_reducible refine (ref14_Weight.calls a0 t237 _ A10.out).mono ?_); rintro e w' ⟨bw, rfl, hwi, ⟨nd, rfl⟩⟩; replace A11 := Aside0.mk ((same_word t236 hwi).trans A11.out)) | (go_at_call 14; (with_reducible refine (broadsheetlaw14_same.calls t236 bw true _ A11.out).mono ?_); rintro e w' ⟨rfl, ⟨nd, rfl⟩⟩) | (go_at_call 17; (with_reducible refine (quality_Ahead.calls k a1 a2 t239 _ A13.out).mono ?_); rintro e w' ⟨rfl, ⟨nd, rfl⟩⟩) | (go_at_call 18; (with_reducible refine (broadsheetref14_Ahead.calls a1 a2 t240 _ A14.out).mono ?_); rintro e w' ⟨rfl, ⟨nd, rfl⟩⟩) | (go_at_call 19; (with_reducible refine (quality_Clamp.calls a1 t241 _ A16.out).mono ?_); rintro e w' ⟨rfl, ⟨nd, rfl⟩⟩) | (go_at_call 20; (with_reducible refine (broadsheetref14_Clamp.calls a1 t242 _ A17.out).mono ?_); rintro e w' ⟨rfl, ⟨nd, rfl⟩⟩) | (go_at_call 14; (with_reducible refine (broadsheetlaw14_same.calls t241 t242 t243 _ A18.out).mono ?_); rintro e w' ⟨rfl, ⟨nd, rfl⟩⟩))
     go_ret
     exact ⟨zb10, zb0⟩
    ·rw [if_neg c15] at H
     have c15b0 : (t239 == t240) = false := by simpa using c15
     (try (have c15b1 : decide (t239 = t240) = false := by simpa using c15))
     (try (have c15b2 : (t239 == t240) = false := by simpa using c15))
     (try (have c15b3 : ¬ (t239 = t240) := by simpa using c15))
     clear c15
     obtain rfl := Option.some.inj H
     go_enter Tryd.func6, Tryd.ntmps6
     go_wp2_with (first | ((with_reducible refine gate_callee (f := 8) rfl ?_); refine goesL_ (some 11) rfl rfl Tryd.func8 zb15 rfl #[] rfl zb1 ?_; (with_reducible refine (broadsheetlaw14_awake.calls k  true _ ?side1 A7.out).mono ?_); (case side1 => exact Glob.below hGA.out zb0); rintro e w21 ⟨rfl, hb⟩; refine ⟨_, rfl, ?_⟩; have n0_ := Aside0.mk (below_step zb0 hb); clear HB; have HB := n0_; clear n0_; (try clear hb); (try clear hb2); (try clear hk); (try clear hi)) | (go_at_call 15; (with_reducible refine (quality_Weight.calls a0 t236 _ ?side1 A9.out).mono ?_); (case side1 => exact Glob.below hGA.out zb0); rintro e w22 ⟨rfl, hb⟩; have n0_ := Aside0.mk (below_step zb0 hb); clear HB; have HB := n0_; clear n0_; (try clear hb); (try clear hb2); (try clear hk); (try clear hi)) | (go_at_call 16; (with_reducible refine (ref14_Weight.calls a0 t237 _ A10.out).mono ?_); rintro e w' ⟨bw, rfl, hwi, ⟨nd, rfl⟩⟩; replace A11 := Aside0.mk ((same_word t236 hwi).trans A11.out)) | (go_at_call 14; (with_reducible refine (broadsheetlaw14_same.calls t236 bw true _ A11.out).mono ?_); rintro e w' ⟨rfl, ⟨nd, rfl⟩⟩) | (go_at_call 17; (with_reducible refine (quality_Ahead.calls k a1 a2 t239 _ A13.out).mono ?_); rintro e w' ⟨rfl, ⟨nd, rfl⟩⟩) | (go_at_call 18; (with_reducible refine (broadsheetref14_Ahead.calls a1 a2 t240 _ A14.out).mono ?_); rintro e w' ⟨rfl, ⟨nd, rfl⟩⟩))
     go_ret
     exact ⟨zb10, zb0⟩
   ·replace c12 := Bool.eq_false_iff.mpr c12
    subst c12
    replace H : (some false) = some r := by rw [if_neg (show ¬ (false = true) by decide)] at H; exact H
    obtain rfl := Option.some.inj H
    go_enter Tryd.func6, Tryd.ntmps6
    go_wp2_with (first | ((with_reducible refine gate_callee (f := 8) rfl ?_); refine goesL_ (some 11) rfl rfl Tryd.func8 zb15 rfl #[] rfl zb1 ?_; (with_reducible refine (broadsheetlaw14_awake.calls k  true _ ?side1 A7.out).mono ?_); (case side1 => exact Glob.below hGA.out zb0); rintro e w23 ⟨rfl, hb⟩; refine ⟨_, rfl, ?_⟩; have n0_ := Aside0.mk (below_step zb0 hb); clear HB; have HB := n0_; clear n0_; (try clear hb); (try clear hb2); (try clear hk); (try clear hi)) | (go_at_call 15; (with_reducible refine (quality_Weight.calls a0 t236 _ ?side1 A9.out).mono ?_); (case side1 => exact Glob.below hGA.out zb0); rintro e w24 ⟨rfl, hb⟩; have n0_ := Aside0.mk (below_step zb0 hb); clear HB; have HB := n0_; clear n0_; (try clear hb); (try clear hb2); (try clear hk); (try clear hi)) | (go_at_call 16; (with_reducible refine (ref14_Weight.calls a0 t237 _ A10.out).mono ?_); rintro e w' ⟨bw, rfl, hwi, ⟨nd, rfl⟩⟩; replace A11 := Aside0.mk ((same_word t236 hwi).trans A11.out)) | (go_at_call 14; (with_reducible refine (broadsheetlaw14_same.calls t236 bw false _ A11.out).mono ?_); rintro e w' ⟨rfl, ⟨nd, rfl⟩⟩))
    go_ret
    exact ⟨zb10, zb0⟩
  ·replace c8 := Bool.eq_false_iff.mpr c8
   subst c8
   replace H : (some false) = some r := by rw [if_neg (show ¬ (false = true) by decide)] at H; exact H
   obtain rfl := Option.some.inj H
   go_enter Tryd.func6, Tryd.ntmps6
   go_wp2_with (first | ((with_reducible refine gate_callee (f := 8) rfl ?_); refine goesL_ (some 11) rfl rfl Tryd.func8 zb15 rfl #[] rfl zb1 ?_; (with_reducible refine (broadsheetlaw14_awake.calls k  false _ ?side1 A7.out).mono ?_); (case side1 => exact Glob.below hGA.out zb0); rintro e w25 ⟨rfl, hb⟩; refine ⟨_, rfl, ?_⟩; have n0_ := Aside0.mk (below_step zb0 hb); clear HB; have HB := n0_; clear n0_; (try clear hb); (try clear hb2); (try clear hk); (try clear hi)))
   go_ret
   exact ⟨zb10, zb0⟩
end Go.Proofs.YtghfbhobpodoeaaDoor.P
/- SpRw -/
namespace Go.Proofs.YtghfbhobpodoeaaDoor.Sp
open Go Go.RowKit Go.Proofs.YtghfbhobpodoeaaDoorW.PrintWords Go.Proofs.YtghfbhobpodoeaaDoorW.PrintLast Go.Proofs.YtghfbhobpodoeaaDoor.O Go.Proofs.YtghfbhobpodoeaaDoor.P
set_option linter.unusedVariables false
set_option linter.unusedSimpArgs false
theorem rwl_end (s : L) (f i : Nat) (n pl : Int) (h : s.length ≤ i) : rwl (mk s) (f + 1) i n pl = some n := by
  rw [rwl, mk_size, if_neg (by omega)]
theorem rwl_dig (s : L) (f i : Nat) (n pl : Int) (d : UInt8) (h : i < s.length) (hd : s.drop i = d :: s.drop (i + 1)) (hg : digB d = true) : rwl (mk s) (f + 1) i n pl = rwl (mk s) f (i + 1) (wrap64 (n + ((d.toNat : Int) - 48) * pl)) (pl / 10) := by
  obtain ⟨b, hb1, hb2⟩ := mk_bt s i h
  obtain rfl : b = d := by rw [hd] at hb1; exact (List.cons.inj hb1).1.symm
  unfold digB at hg
  simp only [Bool.and_eq_true, decide_eq_true_eq] at hg
  rw [rwl, mk_size, if_pos h, hb2, if_neg (by omega), if_neg (by omega)]
theorem rwl_bad (s : L) (f i : Nat) (n pl : Int) (d : UInt8) (h : i < s.length) (hd : s.drop i = d :: s.drop (i + 1)) (hg : digB d = false) : rwl (mk s) (f + 1) i n pl = none := by
  obtain ⟨b, hb1, hb2⟩ := mk_bt s i h
  obtain rfl : b = d := by rw [hd] at hb1; exact (List.cons.inj hb1).1.symm
  unfold digB at hg
  rw [rwl, mk_size, if_pos h, hb2]
  by_cases h1 : (b.toNat : Int) < 48
  · rw [if_pos h1]
  · rw [if_neg h1, if_pos ?_]
    by_cases h2 : (b.toNat : Int) > 57
    · exact h2
    · have : (decide (48 ≤ b.toNat) && decide (b.toNat ≤ 57)) = true := by
        rw [decide_eq_true (by omega), decide_eq_true (by omega)]; rfl
      rw [this] at hg
      cases hg
theorem rwR_nat (n : Nat) : rwR (some (n : Int)) = some (if n > 1000 then nanW else fdiv n) := by
  unfold rwR
  by_cases h : n > 1000
  · rw [if_pos h]
    simp only
    rw [if_pos (by omega)]
  · rw [if_neg h]
    simp only
    rw [if_neg (by omega), if_pos (by omega), Int.toNat_natCast]
theorem digs_of {c : UInt8} (h : digB c = true) : 48 ≤ c.toNat ∧ c.toNat ≤ 57 := by
  unfold digB at h
  simpa using h
set_option maxHeartbeats 4000000 in
theorem main_rw (c : UInt8) (b : L) (hc : c = 48 ∨ c = 49) (hb : b.length ≤ 3) : rwR (rwl (mk (c :: 46 :: b)) 20 2 (((c.toNat : Int) - 48) * 1000) 100) = some (if b.all digB = false then nanW else if numN 0 ([c] ++ padD b) > 1000 then nanW else fdiv (numN 0 ([c] ++ padD b))) := by
  have hcd : 48 ≤ c.toNat ∧ c.toNat ≤ 49 := by rcases hc with rfl | rfl <;> decide
  have e10 : (100 : Int) / 10 = 10 := rfl
  have e1 : (10 : Int) / 10 = 1 := rfl
  match b, hb with
  | [], _ =>
    have hv : ((c.toNat : Int) - 48) * 1000 = ((numN 0 ([c] ++ padD []) : Nat) : Int) := by
      have : numN 0 ([c] ++ padD []) = (c.toNat - 48) * 1000 := by
        show ((((0 * 10 + (c.toNat - 48)) * 10 + (48 - 48)) * 10 + (48 - 48)) * 10 + (48 - 48)) = _
        omega
      rw [this]
      omega
    rw [rwl_end [c, 46] 19 2 _ _ (Nat.le_refl _), if_neg (show ¬ (([] : L).all digB = false) by simp), hv]
    exact rwR_nat _
  | [d], _ =>
    cases hd : digB d with
    | false => rw [rwl_bad _ 19 2 _ _ d (by simp) rfl hd, if_pos (by simp [hd])]; rfl
    | true =>
      have h1 := digs_of hd
      have hv : ((c.toNat : Int) - 48) * 1000 + ((d.toNat : Int) - 48) * 100 = ((numN 0 ([c] ++ padD [d]) : Nat) : Int) := by
        have : numN 0 ([c] ++ padD [d]) = (c.toNat - 48) * 1000 + (d.toNat - 48) * 100 := by
          show (((0 * 10 + (c.toNat - 48)) * 10 + (d.toNat - 48)) * 10 + (48 - 48)) * 10 + (48 - 48) = _
          omega
        rw [this]
        omega
      rw [rwl_dig _ 19 2 _ _ d (by simp) rfl hd, rwl_end [c, 46, d] 18 3 _ _ (Nat.le_refl _), wrap_id (by omega) (by omega), if_neg (by simp [hd]), hv]
      exact rwR_nat _
  | [d, e], _ =>
    cases hd : digB d with
    | false => rw [rwl_bad _ 19 2 _ _ d (by simp) rfl hd, if_pos (by simp [hd])]; rfl
    | true =>
      have h1 := digs_of hd
      rw [rwl_dig _ 19 2 _ _ d (by simp) rfl hd, wrap_id (by omega) (by omega), e10]
      cases he : digB e with
      | false => rw [rwl_bad _ 18 3 _ _ e (by simp) rfl he, if_pos (by simp [hd, he])]; rfl
      | true =>
        have h2 := digs_of he
        have hv : ((c.toNat : Int) - 48) * 1000 + ((d.toNat : Int) - 48) * 100 + ((e.toNat : Int) - 48) * 10 = ((numN 0 ([c] ++ padD [d, e]) : Nat) : Int) := by
          have : numN 0 ([c] ++ padD [d, e]) = (c.toNat - 48) * 1000 + (d.toNat - 48) * 100 + (e.toNat - 48) * 10 := by
            show (((0 * 10 + (c.toNat - 48)) * 10 + (d.toNat - 48)) * 10 + (e.toNat - 48)) * 10 + (48 - 48) = _
            omega
          rw [this]
          omega
        rw [rwl_dig _ 18 3 _ _ e (by simp) rfl he, rwl_end [c, 46, d, e] 17 4 _ _ (Nat.le_refl _), wrap_id (by omega) (by omega), if_neg (by simp [hd, he]), hv]
        exact rwR_nat _
  | [d, e, g], _ =>
    cases hd : digB d with
    | false => rw [rwl_bad _ 19 2 _ _ d (by simp) rfl hd, if_pos (by simp [hd])]; rfl
    | true =>
      have h1 := digs_of hd
      rw [rwl_dig _ 19 2 _ _ d (by simp) rfl hd, wrap_id (by omega) (by omega), e10]
      cases he : digB e with
      | false => rw [rwl_bad _ 18 3 _ _ e (by simp) rfl he, if_pos (by simp [hd, he])]; rfl
      | true =>
        have h2 := digs_of he
        rw [rwl_dig _ 18 3 _ _ e (by simp) rfl he, wrap_id (by omega) (by omega), e1]
        cases hg : digB g with
        | false => rw [rwl_bad _ 17 4 _ _ g (by simp) rfl hg, if_pos (by simp [hd, he, hg])]; rfl
        | true =>
          have h3 := digs_of hg
          have hv : ((c.toNat : Int) - 48) * 1000 + ((d.toNat : Int) - 48) * 100 + ((e.toNat : Int) - 48) * 10 + ((g.toNat : Int) - 48) * 1 = ((numN 0 ([c] ++ padD [d, e, g]) : Nat) : Int) := by
            have : numN 0 ([c] ++ padD [d, e, g]) = (c.toNat - 48) * 1000 + (d.toNat - 48) * 100 + (e.toNat - 48) * 10 + (g.toNat - 48) := by
              show (((0 * 10 + (c.toNat - 48)) * 10 + (d.toNat - 48)) * 10 + (e.toNat - 48)) * 10 + (g.toNat - 48) = _
              omega
            rw [this]
            omega
          rw [rwl_dig _ 17 4 _ _ g (by simp) rfl hg, rwl_end [c, 46, d, e, g] 16 5 _ _ (Nat.le_refl _), wrap_id (by omega) (by omega), if_neg (by simp [hd, he, hg]), hv]
          exact rwR_nat _
  | _ :: _ :: _ :: _ :: _, h => simp at h
theorem bt_one (c d : UInt8) (r : L) : bt (mk (c :: d :: r)) 1 = (d.toNat : Int) := by
  obtain ⟨b, h1, h2⟩ := mk_bt (c :: d :: r) 1 (by simp)
  obtain rfl : d = b := (List.cons.inj h1).1
  exact h2
theorem bad_none {s : L} (h : rwBad (mk s)) : ref14_Weight.f (mk s) = some nanW := by
  unfold ref14_Weight.f rwN
  rw [if_pos h]
  rfl
theorem c489 (c : UInt8) (h : ¬ (c = 48 ∨ c = 49)) (r : L) : rwBad (mk (c :: r)) := by
  refine .inr (.inl ?_)
  rw [bt_head]
  exact ⟨fun x => h (.inl ((u8c c 48 (by decide)).1 x)), fun x => h (.inr ((u8c c 49 (by decide)).1 x))⟩
theorem c46 (c d : UInt8) (h : d ≠ 46) (r : L) : rwBad (mk (c :: d :: r)) := by
  refine .inr (.inr (.inr ⟨by rw [mk_size]; simp, ?_⟩))
  rw [bt_one]
  exact fun x => h ((u8c d 46 (by decide)).1 x)
theorem rweiF (s : L) : ref14_Weight.f (mk s) = some (weiL s) := by
  rcases index1 46 s with ⟨h, _⟩ | ⟨a, b, rfl, ha, _⟩
  · have hcut : Lib.cut s [46] = (s, [], false) := cut1_none h
    by_cases hw : s = [48] ∨ s = [49]
    · rcases hw with rfl | rfl <;> decide +kernel
    · have hwei : weiL s = nanW := by
        unfold weiL
        rw [hcut, if_pos (.inl ⟨fun x => hw (.inl x), fun x => hw (.inr x)⟩)]
      rw [hwei]
      refine bad_none ?_
      match s, h, hw with
      | [], _, _ => exact .inl rfl
      | [c], _, hw => exact c489 c (fun x => hw (by rcases x with rfl | rfl <;> simp)) []
      | c :: d :: r, h, _ => exact c46 c d (fun e => h (by rw [e]; simp)) r
  · have hcut : Lib.cut (a ++ 46 :: b) [46] = (a, b, true) := cut1_some a b ha
    by_cases hw : a = [48] ∨ a = [49]
    · obtain ⟨c, rfl, hc⟩ : ∃ c, a = [c] ∧ (c = 48 ∨ c = 49) := by
        rcases hw with rfl | rfl
        · exact ⟨48, rfl, .inl rfl⟩
        · exact ⟨49, rfl, .inr rfl⟩
      have hne : ¬ (([c] : L) ≠ [48] ∧ ([c] : L) ≠ [49]) := by
        rcases hc with rfl | rfl <;> simp
      by_cases hl : 3 < b.length
      · have hwei : weiL ([c] ++ 46 :: b) = nanW := by
          unfold weiL
          rw [hcut, if_pos (.inr (.inl hl))]
        rw [hwei]
        exact bad_none (.inr (.inr (.inl (by rw [mk_size]; simp; omega))))
      · have hwei : weiL ([c] ++ 46 :: b) = if b.all digB = false then nanW else if numN 0 ([c] ++ padD b) > 1000 then nanW else fdiv (numN 0 ([c] ++ padD b)) := by
          unfold weiL
          rw [hcut]
          by_cases hb : b.all digB = false
          · rw [if_pos (.inr (.inr hb)), if_pos hb]
          · rw [if_neg (fun x => by rcases x with x | x | x; exact hne x; exact hl x; exact hb x), if_neg hb]
        rw [hwei]
        have hnb : ¬ rwBad (mk ([c] ++ 46 :: b)) := by
          show ¬ rwBad (mk (c :: 46 :: b))
          rintro (x | x | x | x)
          · rw [mk_size] at x; simp at x
          · rw [bt_head] at x
            rcases hc with rfl | rfl
            · exact x.1 rfl
            · exact x.2 rfl
          · rw [mk_size] at x; simp at x; omega
          · rw [bt_one] at x
            exact x.2 rfl
        unfold ref14_Weight.f rwN
        rw [if_neg hnb]
        show rwR (rwl (mk (c :: 46 :: b)) 20 2 ((bt (mk (c :: 46 :: b)) 0 - 48) * 1000) 100) = _
        rw [bt_head]
        exact main_rw c b hc (by omega)
    · have hwei : weiL (a ++ 46 :: b) = nanW := by
        unfold weiL
        rw [hcut, if_pos (.inl ⟨fun x => hw (.inl x), fun x => hw (.inr x)⟩)]
      rw [hwei]
      refine bad_none ?_
      match a, ha, hw with
      | [], _, _ => exact c489 46 (by decide) b
      | [c], _, hw => exact c489 c (fun x => hw (by rcases x with rfl | rfl <;> simp)) (46 :: b)
      | c :: d :: r, h, _ => exact c46 c d (fun e => h (by rw [e]; simp)) (r ++ 46 :: b)
def rk (n : Bool) (x : Int) (s : Bool) : Int := if n = true then 3 else if x < 0 then 2 else if x = 0 then (if s = true then 1 else 0) else 0
theorem rank_key (a : Nat) : rankW a = rk (nanB a) (keyI a) (negB a) := by
  unfold rankW rk
  rw [nan_eq, lt_key, eq_key, nan_0, key_0]
  cases nanB a with
  | true => rfl
  | false =>
    rw [if_neg Bool.false_ne_true, if_neg Bool.false_ne_true]
    by_cases h1 : keyI a < 0
    · rw [if_pos h1, decide_eq_true h1]; rfl
    · rw [if_neg h1, decide_eq_false h1]
      by_cases h2 : keyI a = 0
      · rw [if_pos h2, decide_eq_true h2]; rfl
      · rw [if_neg h2, decide_eq_false h2]; rfl
theorem ahead_rk (x y : Int) (s u : Bool) (h1 : x < 0 → s = true) (h2 : 0 < x → s = false) (h3 : y < 0 → u = true) (h4 : 0 < y → u = false) :
    (if rk false x s = rk false y u then (if rk false x s = 3 then some false else some (decide (y < x))) else some (decide (rk false x s < rk false y u))) = some (if x = y then decide (x = 0) && !s && u else decide (y < x)) := by
  unfold rk
  rw [if_neg Bool.false_ne_true, if_neg Bool.false_ne_true]
  rcases Int.lt_trichotomy x 0 with hx | hx | hx
  · rw [if_pos hx]
    rcases Int.lt_trichotomy y 0 with hy | hy | hy
    · rw [if_pos hy, if_pos rfl, if_neg (by decide)]
      by_cases e : x = y
      · rw [if_pos e, decide_eq_false (show ¬ y < x by omega), decide_eq_false (show ¬ x = 0 by omega)]; rfl
      · rw [if_neg e]
    · rw [if_neg (show ¬ y < 0 by omega), if_pos hy, if_neg (show ¬ x = y by omega), decide_eq_false (show ¬ y < x by omega)]
      cases u <;> rfl
    · rw [if_neg (show ¬ y < 0 by omega), if_neg (show ¬ y = 0 by omega), if_neg (show ¬ x = y by omega), decide_eq_false (show ¬ y < x by omega)]
      rfl
  · rw [if_neg (show ¬ x < 0 by omega), if_pos hx]
    rcases Int.lt_trichotomy y 0 with hy | hy | hy
    · rw [if_pos hy, if_neg (show ¬ x = y by omega), decide_eq_true (show y < x by omega)]
      cases s <;> rfl
    · rw [if_neg (show ¬ y < 0 by omega), if_pos hy, if_pos (show x = y by omega), decide_eq_true hx, decide_eq_false (show ¬ y < x by omega)]
      cases s <;> cases u <;> rfl
    · rw [if_neg (show ¬ y < 0 by omega), if_neg (show ¬ y = 0 by omega), if_neg (show ¬ x = y by omega), decide_eq_false (show ¬ y < x by omega)]
      cases s <;> rfl
  · rw [if_neg (show ¬ x < 0 by omega), if_neg (show ¬ x = 0 by omega)]
    rcases Int.lt_trichotomy y 0 with hy | hy | hy
    · rw [if_pos hy, if_neg (show ¬ x = y by omega), decide_eq_true (show y < x by omega)]
      rfl
    · rw [if_neg (show ¬ y < 0 by omega), if_pos hy, if_neg (show ¬ x = y by omega), decide_eq_true (show y < x by omega)]
      cases u <;> rfl
    · rw [if_neg (show ¬ y < 0 by omega), if_neg (show ¬ y = 0 by omega), if_pos rfl, if_neg (by decide)]
      by_cases e : x = y
      · rw [if_pos e, decide_eq_false (show ¬ y < x by omega), decide_eq_false (show ¬ x = 0 by omega)]; rfl
      · rw [if_neg e]
theorem rk_nan (x : Int) (s : Bool) : rk true x s = 3 := if_pos rfl
theorem rk_num (x : Int) (s : Bool) : rk false x s < 3 := by
  unfold rk
  rw [if_neg Bool.false_ne_true]
  split
  · decide
  · split
    · cases s <;> decide
    · decide
theorem rank_f (a : Nat) : ref14_rank.f a = some (rk (nanB a) (keyI a) (negB a)) := by rw [← rank_key]; rfl
theorem raheadF (a b : Nat) (ha : a < 18446744073709551616) (hb : b < 18446744073709551616) : broadsheetref14_Ahead.f a b = some (aheadW a b) := by
  rw [broadsheetref14_Ahead.f, rank_f, rank_f, gt_key]
  simp only [Option.bind_some]
  cases hna : nanB a with
  | true =>
    rw [aheadW_nl hna, rk_nan]
    cases hnb : nanB b with
    | true => rw [rk_nan]; rfl
    | false =>
      have := rk_num (keyI b) (negB b)
      rw [if_neg (show ¬ 3 = rk false (keyI b) (negB b) by omega), decide_eq_false (show ¬ 3 < rk false (keyI b) (negB b) by omega)]
  | false =>
    cases hnb : nanB b with
    | true =>
      have := rk_num (keyI a) (negB a)
      rw [aheadW_nr hna hnb, rk_nan, if_neg (show ¬ rk false (keyI a) (negB a) = 3 by omega), decide_eq_true this]
    | false =>
      rw [aheadW_num hna hnb, sgn_neg a ha, sgn_neg b hb]
      exact ahead_rk _ _ _ _ key_neg key_pos key_neg key_pos
theorem rclampF (a : Nat) : broadsheetref14_Clamp.f a = some (clampW a) := by
  have e : (4607182418800017408 : Nat) = one64 := rfl
  rw [broadsheetref14_Clamp.f, e, clamp_is, gt_key, gt_key, eq_key, nan_0, nan_1, key_0, key_1]
  cases nanB a with
  | true => rfl
  | false =>
    rw [if_neg Bool.false_ne_true]
    by_cases h1 : keyI a ≤ 0
    · rw [if_pos h1, decide_eq_false (show ¬ 4607182418800017408 < keyI a by omega), decide_eq_false (show ¬ keyI a = 4607182418800017408 by omega), decide_eq_false (show ¬ 0 < keyI a by omega)]
      rfl
    · rw [if_neg h1, decide_eq_true (show 0 < keyI a by omega)]
      by_cases h2 : keyI a < 4607182418800017408
      · rw [if_pos h2, decide_eq_false (show ¬ 4607182418800017408 < keyI a by omega), decide_eq_false (show ¬ keyI a = 4607182418800017408 by omega)]
        rfl
      · rw [if_neg h2]
        by_cases h3 : keyI a = 4607182418800017408
        · rw [decide_eq_true h3, decide_eq_false (show ¬ 4607182418800017408 < keyI a by omega)]; rfl
        · rw [decide_eq_true (show 4607182418800017408 < keyI a by omega)]; rfl
theorem quality_weights_all (s : ByteArray) (a b : Nat) (ha : a < 18446744073709551616) (hb : b < 18446744073709551616) : ∃ k, broadsheetlaw14_QualityWeights.f k s a b = some true := by
  rw [← mk_self s]
  generalize s.data.toList = u
  refine ⟨20000000, ?_⟩
  rw [broadsheetlaw14_QualityWeights.f, awake14 _ (by omega), mk_size]
  by_cases h : (u.length : Int) > 300
  · rw [if_pos h]; rfl
  · rw [if_neg h, weiF u (by omega), rweiF u, aheadF a b _ (by omega), raheadF a b ha hb, rclampF, show quality_Clamp.f a = some (clampW a) from rfl]
    simp only [Option.bind_some, if_true, sameF_, same_self, beq_self_eq_true]
end Go.Proofs.YtghfbhobpodoeaaDoor.Sp
/- CardW -/
namespace Go.Proofs.YtghfbhobpodoeaaDoor.Cg
open Go.RowKit Go.Proofs.YtghfbhobpodoeaaDoor.P Go.Proofs.YtghfbhobpodoeaaDoorW.PrintWords Go.Proofs.YtghfbhobpodoeaaDoorW.PrintLast Go.Proofs.YtghfbhobpodoeaaDoor.O
open Go.ChangeShapes Go.WideShapes Go.Deep
set_option linter.unusedVariables false
/-- The plain wrap, with a condition of one's own and the world's shape. -/
theorem wrapS {H : Type} {enc : TypeId × Value → H} {a : Assume} {C : Checked} {os : Os} {f : FuncId} {fn : Func} {s : ChangeSpec} {conds : List PathCond} {apart fresh handsOn again : Bool} {X : World → Array Value → Prop}
    (hX : ∀ (w w' : World) (args : Array Value), w.heap = w'.heap → X w args → X w' args)
    (own : ownKnob C.prog.godebug = none) (started : os.Started) (noInit : C.prog.inits.idxOf? f = none) (hfn : C.prog.funcs[f]? = some fn)
    (witness : ∃ (w : World) (tape : Tape) (i : Input), w.os = os ∧ (w.forCall tape i).Shaped C.prog ∧ i.vars = [] ∧ Input.okWide C.prog (w.forCall tape i) .any w.heap.size f i ∧
      ((s.pre enc C.prog fn conds apart (w.forCall tape i).memory i.args ∧ X (w.forCall tape i).memory i.args) ∧ sizedMet enc C.prog fn (OpenSpec.ofChange s) apart (w.forCall tape i).memory i.args) ∧ a.holds C.prog (lone (Frame.enter C.prog f i.args .normal) [] (w.forCall tape i)))
    (contract : ∀ (W : World) (base : Nat) (args : Array Value) (ds gs : List (DataW H)) (before : List MemPlace),
      (∀ (j : Nat) t v, fn.params[j]? = some t → args[j]? = some v → Value.okWide C.prog W .any base t v) →
      DataW.Whole enc C.prog fn.params.toList s.vars apart W args.toList ds gs before →
      (DataW.weightsEach C.prog (fn.params.toList ++ s.plain.varTypes C.prog) (ds ++ gs)).all (· ≤ reachBytes) = true → X W args → W.ShapedOpen C.prog →
      Calls C.prog f args W fun e W' => ∃ v, e = .returned v ∧ s.post enc C.prog fn apart fresh handsOn again W args v W') :
    ReturnsInHanded a C os f .any (fun w args => (s.pre enc C.prog fn conds apart w args ∧ X w args) ∧ sizedMet enc C.prog fn (OpenSpec.ofChange s) apart w args) (s.post enc C.prog fn apart fresh handsOn again) := by
  refine returnsInHanded_of_calls own started noInit witness ?_
  intro w tape i _ hsh _ hok hpre _
  obtain ⟨_, _, _, fn', hfn', _, _, _, _, hval⟩ := hok
  obtain rfl : fn' = fn := Option.some.inj (hfn'.symm.trans hfn)
  obtain ⟨⟨⟨ds, gs, before, hw, _⟩, hx⟩, hz⟩ := hpre
  refine (contract (w.forCall tape i) w.heap.size i.args ds gs before hval (DataW.Whole.of_heap (w' := w.forCall tape i) (by rfl) hw) (hz.weights hw) (hX _ _ _ (by rfl) hx) hsh).mono fun e W' ⟨v, he, hp⟩ => ?_
  subst he
  exact ChangeSpec.post_blind hp
theorem var_iface {W : World} {n nm : String} {d : DataW Unit} {g t : Nat} {ms : Array (String × TypeId)} (h : Lib.VarReads Tryd.prog W n (.iface nm d)) (hg : Tryd.prog.globalNamed n = some g) (ht : (Tryd.prog.globals[g]?).map (·.type) = some t) (hi : Tryd.prog.underlying t = some (.interface ms)) :
    ∃ t p, W.var? Tryd.prog n = some #[.iface t p] := by
  obtain ⟨g', t', cs, fuel, p, hg', ht', hv, hd⟩ := h
  obtain rfl := Option.some.inj (hg.symm.trans hg')
  obtain rfl := Option.some.inj (ht.symm.trans ht')
  obtain ⟨_, u, v, e, _, _⟩ := iface_of_trod hi hd
  refine ⟨u, v, ?_⟩
  rw [hv]
  cases cs
  simp only at e
  rw [e]
abbrev laidL : List (String × DataW Unit) := Rows.qualitySplitsRow.laid
theorem glob_of {W : World} (h : laidMetH Tryd.prog laidL W) (hsh : W.ShapedOpen Tryd.prog) : Glob W := by
  rw [MakeChecks.laidMetH_plain _ _ _ (by kernel_rfl)] at h
  refine ⟨?_, ?_, ?_, ?_⟩
  · obtain ⟨g', t', cs, fuel, p, hg', ht', hv, hd⟩ := Lib.laidMet.reads h (n := "internal/strconv.uint64pow10") (d := Rows.laid_internal_strconv_uint64pow10) (.tail _ (.tail _ (.head _)))
    obtain rfl := Option.some.inj (gpow.symm.trans hg')
    obtain rfl := Option.some.inj ((show (Tryd.prog.globals[6]?).map (·.type) = some 134 by kernel_rfl).symm.trans ht')
    have hd' : DataW.trod (fun _ => ()) Tryd.prog W 0 (fun _ => true) false fuel 134 cs.toList = some (Lib.tabData .u64 (Lib.pow10Tab), p) := hd
    unfold Lib.TabIs
    rw [hv, ← Lib.cells_of_tab Tryd.underlying134 Tryd.underlying57 (by kernel_rfl) (by kernel_rfl) hd']
  · have hb : ((begin Tryd.prog (fun _ _ => 0) default).world.heap[1]?).bind Obj.row? = some (#[.int .i64 0], 3) := by kernel_rfl
    obtain ⟨m, hm⟩ := cell_of_shapedOpen_int hsh (of_decide_eq_true (by kernel_rfl)) hb rfl (by kernel_rfl) (by kernel_rfl) Tryd.underlying3
    obtain ⟨cs, hh, hs, _⟩ := hsh.1 _ _ _ (of_decide_eq_true (by kernel_rfl)) hb
    refine ⟨m, ?_⟩
    have h1 : 0 < cs.size := by rw [hs]; decide
    have hc : cs[0] = .int .i64 m := by
      have : W.cell? ⟨1, 0, none⟩ = some cs[0] := by simp [World.cell?, hh, h1]
      exact Option.some.inj (this.symm.trans hm)
    unfold World.var?
    rw [gmlen]
    simp only [Option.bind_some, hh]
    congr 1
    apply Array.ext
    · rw [hs]; rfl
    · intro i hi1 hi2
      have : i = 0 := by rw [hs] at hi1; simp at hi1; exact hi1
      subst this
      rw [hc]; rfl
  · exact var_iface (Lib.laidMet.reads h (n := "strconv.ErrSyntax") (d := Rows.laid_strconv_ErrSyntax) (.tail _ (.tail _ (.tail _ (.tail _ (.tail _ (.head _))))))) gsyn (by kernel_rfl) Tryd.underlying53
  · exact var_iface (Lib.laidMet.reads h (n := "strconv.ErrRange") (d := Rows.laid_strconv_ErrRange) (.tail _ (.tail _ (.tail _ (.tail _ (.head _)))))) grng (by kernel_rfl) Tryd.underlying53
end Go.Proofs.YtghfbhobpodoeaaDoor.Cg
