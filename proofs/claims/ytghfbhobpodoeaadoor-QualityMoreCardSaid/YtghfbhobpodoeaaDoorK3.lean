/- Texts of this seat, joined: lemmas and walks that its statements' proofs use. -/
import Derived.Test.YtghfbhobpodoeaaDoorK1
import Derived.Test.YtghfbhobpodoeaaDoorK2
/- Px20 -/
namespace Go.Proofs.YtghfbhobpodoeaaDoor.P
open Go.Proofs.YtghfbhobpodoeaaDoor.B
open Go.RowKit Go.Proofs.YtghfbhobpodoeaaDoorW.PrintWords Go.Proofs.YtghfbhobpodoeaaDoorW.PrintLast Go.Proofs.YtghfbhobpodoeaaDoorW.PrintMore
attribute [local go_sem] run_store_float str_leq str_gtr str_geq max2_int min2_int max_two min_two max_three min_three max_four min_four
set_option linter.unusedVariables false
set_option linter.unusedSimpArgs false
open Go.Proofs.YtghfbhobpodoeaaDoor.O
def broadsheetlaw14_same.f (a0 : Nat) (a1 : Nat) : Option (Bool) := if (FloatKind.f64.format.order a0 a0 != some .eq) = true then (if (FloatKind.f64.format.order a1 a1 != some .eq) = true then (some true) else (if (FloatKind.f64.format.order a0 a1 == some .eq) = true then ((math_Signbit.f a0).bind fun t206 => ((math_Signbit.f a1).bind fun t207 => (some (t206 == t207)))) else (some false))) else (if (FloatKind.f64.format.order a0 a1 == some .eq) = true then ((math_Signbit.f a0).bind fun t208 => ((math_Signbit.f a1).bind fun t209 => (some (t208 == t209)))) else (some false))
set_option maxHeartbeats 8000000 in
set_option maxRecDepth 100000 in
theorem broadsheetlaw14_same.calls (a0 : Nat) (a1 : Nat) (r : Bool) (w : World) (h : broadsheetlaw14_same.f a0 a1 = some r) :
  Calls Tryd.prog 14 #[.float .f64 a0, .float .f64 a1] w fun e w' => e = .returned (.bool r) ∧ Drawn0 w w' := by
 have H : (if (FloatKind.f64.format.order a0 a0 != some .eq) = true then (if (FloatKind.f64.format.order a1 a1 != some .eq) = true then (some true) else (if (FloatKind.f64.format.order a0 a1 == some .eq) = true then ((math_Signbit.f a0).bind fun t206 => ((math_Signbit.f a1).bind fun t207 => (some (t206 == t207)))) else (some false))) else (if (FloatKind.f64.format.order a0 a1 == some .eq) = true then ((math_Signbit.f a0).bind fun t208 => ((math_Signbit.f a1).bind fun t209 => (some (t208 == t209)))) else (some false))) = some r := h
 clear h
 by_cases c3 : (FloatKind.f64.format.order a0 a0 != some .eq) = true
 ·rw [if_pos c3] at H
  have c3b0 : (FloatKind.f64.format.order a0 a0 != some .eq) = true := c3
  (try (have c3b1 : decide (FloatKind.f64.format.order a0 a0 = some .eq) = false := by simpa using c3))
  (try (have c3b2 : (FloatKind.f64.format.order a0 a0 == some .eq) = false := by simpa using c3))
  (try (have c3b3 : ¬ (FloatKind.f64.format.order a0 a0 = some .eq) := by simpa using c3))
  clear c3
  by_cases c4 : (FloatKind.f64.format.order a1 a1 != some .eq) = true
  ·rw [if_pos c4] at H
   have c4b0 : (FloatKind.f64.format.order a1 a1 != some .eq) = true := c4
   (try (have c4b1 : decide (FloatKind.f64.format.order a1 a1 = some .eq) = false := by simpa using c4))
   (try (have c4b2 : (FloatKind.f64.format.order a1 a1 == some .eq) = false := by simpa using c4))
   (try (have c4b3 : ¬ (FloatKind.f64.format.order a1 a1 = some .eq) := by simpa using c4))
   clear c4
   obtain rfl := Option.some.inj H
   go_enter Tryd.func14, Tryd.ntmps14
   go_wp2
   go_ret
   exact ⟨by first | rfl | (simp; done) | (simp [*]; done), by repeat (first | exact Drawn0.refl _ | apply Drawn0.step)⟩
  ·rw [if_neg c4] at H
   have c4b0 : (FloatKind.f64.format.order a1 a1 != some .eq) = false := by simpa using c4
   (try (have c4b1 : decide (FloatKind.f64.format.order a1 a1 = some .eq) = true := by simpa using c4))
   (try (have c4b2 : (FloatKind.f64.format.order a1 a1 == some .eq) = true := by simpa using c4))
   clear c4
   by_cases c5 : (FloatKind.f64.format.order a0 a1 == some .eq) = true
   ·rw [if_pos c5] at H
    have c5b0 : (FloatKind.f64.format.order a0 a1 == some .eq) = true := c5
    (try (have c5b1 : decide (FloatKind.f64.format.order a0 a1 = some .eq) = true := by simpa using c5))
    (try (have c5b2 : (FloatKind.f64.format.order a0 a1 == some .eq) = true := by simpa using c5))
    clear c5
    replace H := Option.bind_eq_some_iff.mp H
    obtain ⟨t206, A60, H⟩ := H
    replace H : ((math_Signbit.f a1).bind fun t207 => (some (t206 == t207))) = some r := H
    have A6 := Aside0.mk A60
    clear A60
    replace H := Option.bind_eq_some_iff.mp H
    obtain ⟨t207, A70, H⟩ := H
    replace H : (some (t206 == t207)) = some r := H
    have A7 := Aside0.mk A70
    clear A70
    obtain rfl := Option.some.inj H
    go_enter Tryd.func14, Tryd.ntmps14
    go_wp2_with (first | (go_at_call 21; (with_reducible refine (math_Signbit.calls a0 t206 _ A6.out).mono ?_); rintro e w' ⟨rfl, ⟨nd, rfl⟩⟩) | (go_at_call 21; (with_reducible refine (math_Signbit.calls a1 t207 _ A7.out).mono ?_); rintro e w' ⟨rfl, ⟨nd, rfl⟩⟩))
    go_ret
    exact ⟨by first | rfl | (simp; done) | (simp [*]; done), by repeat (first | exact Drawn0.refl _ | apply Drawn0.step)⟩
   ·rw [if_neg c5] at H
    have c5b0 : (FloatKind.f64.format.order a0 a1 == some .eq) = false := by simpa using c5
    (try (have c5b1 : decide (FloatKind.f64.format.order a0 a1 = some .eq) = false := by simpa using c5))
    (try (have c5b2 : (FloatKind.f64.format.order a0 a1 == some .eq) = false := by simpa using c5))
    (try (have c5b3 : ¬ (FloatKind.f64.format.order a0 a1 = some .eq) := by simpa using c5))
    clear c5
    obtain rfl := Option.some.inj H
    go_enter Tryd.func14, Tryd.ntmps14
    go_wp2
    go_ret
    exact ⟨by first | rfl | (simp; done) | (simp [*]; done), by repeat (first | exact Drawn0.refl _ | apply Drawn0.step)⟩
 ·rw [if_neg c3] at H
  have c3b0 : (FloatKind.f64.format.order a0 a0 != some .eq) = false := by simpa using c3
  (try (have c3b1 : decide (FloatKind.f64.format.order a0 a0 = some .eq) = true := by simpa using c3))
  (try (have c3b2 : (FloatKind.f64.format.order a0 a0 == some .eq) = true := by simpa using c3))
  clear c3
  by_cases c8 : (FloatKind.f64.format.order a0 a1 == some .eq) = true
  ·rw [if_pos c8] at H
   have c8b0 : (FloatKind.f64.format.order a0 a1 == some .eq) = true := c8
   (try (have c8b1 : decide (FloatKind.f64.format.order a0 a1 = some .eq) = true := by simpa using c8))
   (try (have c8b2 : (FloatKind.f64.format.order a0 a1 == some .eq) = true := by simpa using c8))
   clear c8
   replace H := Option.bind_eq_some_iff.mp H
   obtain ⟨t208, A90, H⟩ := H
   replace H : ((math_Signbit.f a1).bind fun t209 => (some (t208 == t209))) = some r := H
   have A9 := Aside0.mk A90
   clear A90
   replace H := Option.bind_eq_some_iff.mp H
   obtain ⟨t209, A100, H⟩ := H
   replace H : (some (t208 == t209)) = some r := H
   have A10 := Aside0.mk A100
   clear A100
   obtain rfl := Option.some.inj H
   go_enter Tryd.func14, Tryd.ntmps14
   go_wp2_with (first | (go_at_call 21; (with_reducible refine (math_Signbit.calls a0 t208 _ A9.out).mono ?_); rintro e w' ⟨rfl, ⟨nd, rfl⟩⟩) | (go_at_call 21; (with_reducible refine (math_Signbit.calls a1 t209 _ A10.out).mono ?_); rintro e w' ⟨rfl, ⟨nd, rfl⟩⟩))
   go_ret
   exact ⟨by first | rfl | (simp; done) | (simp [*]; done), by repeat (first | exact Drawn0.refl _ | apply Drawn0.step)⟩
  ·rw [if_neg c8] at H
   have c8b0 : (FloatKind.f64.format.order a0 a1 == some .eq) = false := by simpa using c8
   (try (have c8b1 : decide (FloatKind.f64.format.order a0 a1 = some .eq) = false := by simpa using c8))
   (try (have c8b2 : (FloatKind.f64.format.order a0 a1 == some .eq) = false := by simpa using c8))
   (try (have c8b3 : ¬ (FloatKind.f64.format.order a0 a1 = some .eq) := by simpa using c8))
   clear c8
   obtain rfl := Option.some.inj H
   go_enter Tryd.func14, Tryd.ntmps14
   go_wp2
   go_ret
   exact ⟨by first | rfl | (simp; done) | (simp [*]; done), by repeat (first | exact Drawn0.refl _ | apply Drawn0.step)⟩
def broadsheetlaw14_QualityMore.l0 : Nat → ByteArray → Bool → Int → Option (Bool)
  | 0, _, _, _ => none
  | k + 1, x0, x3, x4 => if x4 < (x0.size : Int) then (if 0 ≤ x4 then (if (bt x0 x4) = 34 then (some x3) else (broadsheetlaw14_QualityMore.l0 k x0 x3 (wrap64 (x4 + 1)))) else (none)) else (if (x0.size : Int) > 1000 then (some x3) else ((broadsheetlaw14_have.f).bind fun t211 => ((quality_Best.f k x0 t211).bind fun bt214 => (if x0.size + 12 ≤ 9223372036854775807 then ((broadsheetlaw14_have.f).bind fun t216 => ((quality_Best.f k (x0 ++ (⟨#[44, 32, 97, 117, 100, 105, 111, 47, 42, 44, 32, 120]⟩ : ByteArray)) t216).bind fun bt219 => (if 19 + x0.size ≤ 9223372036854775807 then ((broadsheetlaw14_have.f).bind fun t221 => ((quality_Best.f k ((⟨#[97, 117, 100, 105, 111, 47, 111, 103, 103, 59, 113, 61, 48, 46, 55, 44, 44, 47, 44]⟩ : ByteArray) ++ x0) t221).bind fun bt224 => (if x3 = true then (if bt214.1 = bt219.1 then ((broadsheetlaw14_same.f bt214.2 bt219.2).bind fun t226 => (if t226 = true then (if bt214.1 = bt224.1 then ((broadsheetlaw14_same.f bt214.2 bt224.2).bind fun t227 => (some t227)) else (some false)) else (some false))) else (some false)) else (some false)))) else (none)))) else (none)))))
def broadsheetlaw14_QualityMore.f (k : Nat) (a0 : ByteArray) : Option (Bool) := (broadsheetlaw14_awake.f k).bind fun t210 => (if t210 = true then (broadsheetlaw14_QualityMore.l0 k a0 t210 0) else (some false))
set_option maxHeartbeats 8000000 in
set_option maxRecDepth 100000 in
theorem broadsheetlaw14_QualityMore.calls (k : Nat) (a0 : ByteArray) (r : Bool) (w : World) (hG : Glob w) (h : broadsheetlaw14_QualityMore.f k a0 = some r) :
  Calls Tryd.prog 5 #[.string a0] w fun e w' => e = .returned (.bool r) ∧ Below w.heap.size w w' := by
 have HB := Aside0.mk (Below.refl w.heap.size w)
 have hGA := Aside0.mk hG
 clear hG
 have H : ((broadsheetlaw14_awake.f k).bind fun t210 => (if t210 = true then (broadsheetlaw14_QualityMore.l0 k a0 t210 0) else (some false))) = some r := h
 clear h
 replace H := Option.bind_eq_some_iff.mp H
 obtain ⟨t210, A20, H⟩ := H
 replace H : (if t210 = true then (broadsheetlaw14_QualityMore.l0 k a0 t210 0) else (some false)) = some r := H
 have A2 := Aside0.mk A20
 clear A20
 by_cases c3 : t210 = true
 ·subst c3
  replace H : (broadsheetlaw14_QualityMore.l0 k a0 true 0) = some r := by rw [if_pos rfl] at H; exact H
  have H' := Aside0.mk H
  clear H
  go_enter Tryd.func5, Tryd.ntmps5
  go_wp2_with (first | ((with_reducible refine gate_callee (f := 8) rfl ?_); refine goesL_ (some 11) rfl rfl Tryd.func8 zb14 rfl #[] rfl zb1 ?_; (with_reducible refine (broadsheetlaw14_awake.calls k  true _ ?side1 A2.out).mono ?_); (case side1 => exact Glob.below hGA.out zb0); rintro e w4 ⟨rfl, hb⟩; refine ⟨_, rfl, ?_⟩; have n0_ := Aside0.mk (below_step zb0 hb); clear HB; have HB := n0_; clear n0_; (try clear hb); (try clear hb2); (try clear hk); (try clear hi)))
  first | go_loopg [4] k (fun kq v4 w' => ∃ (x4_1 : Int), v4 = .int .i64 x4_1 ∧ Aside0 (broadsheetlaw14_QualityMore.l0 kq a0 true x4_1 = some r) ∧ Aside0 (kq ≤ k) ∧ Aside0 (Below w.heap.size w w')) | (go_simp; go_loopg [4] k (fun kq v4 w' => ∃ (x4_1 : Int), v4 = .int .i64 x4_1 ∧ Aside0 (broadsheetlaw14_QualityMore.l0 kq a0 true x4_1 = some r) ∧ Aside0 (kq ≤ k) ∧ Aside0 (Below w.heap.size w w')))
  case atStart => exact ⟨(0), zb12, H', ⟨Nat.le_refl _⟩, ⟨by repeat (first | (with_reducible first | exact HB.out | apply below_alloc | apply pw_below_drewN | apply below_drew1) | exact HB.out)⟩⟩
  case round =>
   clear H'
   try clear p2
   try clear c3
   obtain ⟨x4_1, rfl, HA, HK1, HB⟩ := hrel
   cases gk with
   | zero => exact absurd HA.out (by simp [broadsheetlaw14_QualityMore.l0])
   | succ k1 =>
    have H := HA.out
    clear HA
    simp only [broadsheetlaw14_QualityMore.l0] at H
    by_cases c5 : x4_1 < (a0.size : Int)
    ·rw [if_pos c5] at H
     have c5b0 : decide (x4_1 < (a0.size : Int)) = true := decide_eq_true c5
     clear c5
     by_cases c6 : 0 ≤ x4_1
     ·rw [if_pos c6] at H
      have c6b0 : decide (0 ≤ x4_1) = true := decide_eq_true c6
      clear c6
      by_cases c8 : (bt a0 x4_1) = 34
      ·rw [if_pos c8] at H
       have c8b0 : ((bt a0 x4_1) == 34) = true := beq_iff_eq.mpr c8
       have c8b1 : ((bt a0 x4_1) != 34) = false := bne_eq_false_iff_eq.mpr c8
       clear c8
       obtain rfl := Option.some.inj H
       have p7 : 0 ≤ (x4_1 : Int) := of_decide_eq_true zb6
       have q7 : x4_1 < (a0.size : Int) := of_decide_eq_true zb6
       have hx7 := bt_at a0 x4_1
       replace p7 := eq_true p7
       replace q7 := eq_true q7
       go_wp2
       go_ret
       exact ⟨zb9, zb0⟩
      ·rw [if_neg c8] at H
       have c8b0 : ((bt a0 x4_1) == 34) = false := beq_eq_false_iff_ne.mpr c8
       have c8b1 : ((bt a0 x4_1) != 34) = true := bne_iff_ne.mpr c8
       have H' := Aside0.mk H
       clear H
       have p7 : 0 ≤ (x4_1 : Int) := of_decide_eq_true zb6
       have q7 : x4_1 < (a0.size : Int) := of_decide_eq_true zb6
       have hx7 := bt_at a0 x4_1
       replace p7 := eq_true p7
       replace q7 := eq_true q7
       go_wp2
       go_roundg k1
       case measure => have := HK1.out; omega
       case rel => exact ⟨(wrap64 (x4_1 + 1)), zb12, H', ⟨by have := HK1.out; omega⟩, ⟨by repeat (first | (with_reducible first | exact HB.out | apply below_alloc | apply pw_below_drewN | apply below_drew1) | exact HB.out)⟩⟩
     ·rw [if_neg c6] at H
      exact absurd H (by simp)
    ·rw [if_neg c5] at H
     have c5b0 : decide (x4_1 < (a0.size : Int)) = false := decide_eq_false c5
     clear c5
     by_cases c9 : (a0.size : Int) > 1000
     ·rw [if_pos c9] at H
      have c9b0 : decide (1000 < (a0.size : Int)) = true := decide_eq_true c9
      have c9b1 : decide (1000 < a0.size) = true := decide_eq_true zb38
      clear c9
      obtain rfl := Option.some.inj H
      go_wp2
      go_ret
      exact ⟨zb9, zb0⟩
     ·rw [if_neg c9] at H
      have c9b0 : decide (1000 < (a0.size : Int)) = false := decide_eq_false c9
      have c9b1 : decide (1000 < a0.size) = false := decide_eq_false zb38
      clear c9
      replace H := Option.bind_eq_some_iff.mp H
      obtain ⟨t211, A100, H⟩ := H
      replace H : ((quality_Best.f k1 a0 t211).bind fun bt214 => (if a0.size + 12 ≤ 9223372036854775807 then ((broadsheetlaw14_have.f).bind fun t216 => ((quality_Best.f k1 (a0 ++ (⟨#[44, 32, 97, 117, 100, 105, 111, 47, 42, 44, 32, 120]⟩ : ByteArray)) t216).bind fun bt219 => (if 19 + a0.size ≤ 9223372036854775807 then ((broadsheetlaw14_have.f).bind fun t221 => ((quality_Best.f k1 ((⟨#[97, 117, 100, 105, 111, 47, 111, 103, 103, 59, 113, 61, 48, 46, 55, 44, 44, 47, 44]⟩ : ByteArray) ++ a0) t221).bind fun bt224 => (if true = true then (if bt214.1 = bt219.1 then ((broadsheetlaw14_same.f bt214.2 bt219.2).bind fun t226 => (if t226 = true then (if bt214.1 = bt224.1 then ((broadsheetlaw14_same.f bt214.2 bt224.2).bind fun t227 => (some t227)) else (some false)) else (some false))) else (some false)) else (some false)))) else (none)))) else (none))) = some r := H
      have A10 := Aside0.mk A100
      clear A100
      replace H := Option.bind_eq_some_iff.mp H
      obtain ⟨⟨t214, t215⟩, A110, H⟩ := H
      replace H : (if a0.size + 12 ≤ 9223372036854775807 then ((broadsheetlaw14_have.f).bind fun t216 => ((quality_Best.f k1 (a0 ++ (⟨#[44, 32, 97, 117, 100, 105, 111, 47, 42, 44, 32, 120]⟩ : ByteArray)) t216).bind fun bt219 => (if 19 + a0.size ≤ 9223372036854775807 then ((broadsheetlaw14_have.f).bind fun t221 => ((quality_Best.f k1 ((⟨#[97, 117, 100, 105, 111, 47, 111, 103, 103, 59, 113, 61, 48, 46, 55, 44, 44, 47, 44]⟩ : ByteArray) ++ a0) t221).bind fun bt224 => (if true = true then (if t214 = bt219.1 then ((broadsheetlaw14_same.f t215 bt219.2).bind fun t226 => (if t226 = true then (if t214 = bt224.1 then ((broadsheetlaw14_same.f t215 bt224.2).bind fun t227 => (some t227)) else (some false)) else (some false))) else (some false)) else (some false)))) else (none)))) else (none)) = some r := H
      have A11 := Aside0.mk A110
      clear A110
      by_cases c12 : a0.size + 12 ≤ 9223372036854775807
      ·rw [if_pos c12] at H
       have c12b0 := eq_true c12
       have c12b1 : decide (a0.size + 12 ≤ 9223372036854775807) = true := decide_eq_true c12
       try have c12b2 : (9223372036854775807 < a0.size + 12) = False := eq_false (Nat.not_lt.2 c12)
       replace H := Option.bind_eq_some_iff.mp H
       obtain ⟨t216, A130, H⟩ := H
       replace H : ((quality_Best.f k1 (a0 ++ (⟨#[44, 32, 97, 117, 100, 105, 111, 47, 42, 44, 32, 120]⟩ : ByteArray)) t216).bind fun bt219 => (if 19 + a0.size ≤ 9223372036854775807 then ((broadsheetlaw14_have.f).bind fun t221 => ((quality_Best.f k1 ((⟨#[97, 117, 100, 105, 111, 47, 111, 103, 103, 59, 113, 61, 48, 46, 55, 44, 44, 47, 44]⟩ : ByteArray) ++ a0) t221).bind fun bt224 => (if true = true then (if t214 = bt219.1 then ((broadsheetlaw14_same.f t215 bt219.2).bind fun t226 => (if t226 = true then (if t214 = bt224.1 then ((broadsheetlaw14_same.f t215 bt224.2).bind fun t227 => (some t227)) else (some false)) else (some false))) else (some false)) else (some false)))) else (none))) = some r := H
       have A13 := Aside0.mk A130
       clear A130
       replace H := Option.bind_eq_some_iff.mp H
       obtain ⟨⟨t219, t220⟩, A140, H⟩ := H
       replace H : (if 19 + a0.size ≤ 9223372036854775807 then ((broadsheetlaw14_have.f).bind fun t221 => ((quality_Best.f k1 ((⟨#[97, 117, 100, 105, 111, 47, 111, 103, 103, 59, 113, 61, 48, 46, 55, 44, 44, 47, 44]⟩ : ByteArray) ++ a0) t221).bind fun bt224 => (if true = true then (if t214 = t219 then ((broadsheetlaw14_same.f t215 t220).bind fun t226 => (if t226 = true then (if t214 = bt224.1 then ((broadsheetlaw14_same.f t215 bt224.2).bind fun t227 => (some t227)) else (some false)) else (some false))) else (some false)) else (some false)))) else (none)) = some r := H
       have A14 := Aside0.mk A140
       clear A140
       by_cases c15 : 19 + a0.size ≤ 9223372036854775807
       ·rw [if_pos c15] at H
        have c15b0 := eq_true c15
        have c15b1 : decide (19 + a0.size ≤ 9223372036854775807) = true := decide_eq_true c15
        try have c15b2 : (9223372036854775807 < 19 + a0.size) = False := eq_false (Nat.not_lt.2 c15)
        replace H := Option.bind_eq_some_iff.mp H
        obtain ⟨t221, A160, H⟩ := H
        replace H : ((quality_Best.f k1 ((⟨#[97, 117, 100, 105, 111, 47, 111, 103, 103, 59, 113, 61, 48, 46, 55, 44, 44, 47, 44]⟩ : ByteArray) ++ a0) t221).bind fun bt224 => (if true = true then (if t214 = t219 then ((broadsheetlaw14_same.f t215 t220).bind fun t226 => (if t226 = true then (if t214 = bt224.1 then ((broadsheetlaw14_same.f t215 bt224.2).bind fun t227 => (some t227)) else (some false)) else (some false))) else (some false)) else (some false))) = some r := H
        have A16 := Aside0.mk A160
        clear A160
        replace H := Option.bind_eq_some_iff.mp H
        obtain ⟨⟨t224, t225⟩, A170, H⟩ := H
        replace H : (if true = true then (if t214 = t219 then ((broadsheetlaw14_same.f t215 t220).bind fun t226 => (if t226 = true then (if t214 = t224 then ((broadsheetlaw14_same.f t215 t225).bind fun t227 => (some t227)) else (some false)) else (some false))) else (some false)) else (some false)) = some r := H
        have A17 := Aside0.mk A170
        clear A170
        replace H : (if t214 = t219 then ((broadsheetlaw14_same.f t215 t220).bind fun t226 => (if t226 = true then (if t214 = t224 then ((broadsheetlaw14_same.f t215 t225).bind fun t227 => (some t227)) else (some false)) else (some false))) else (some false)) = some r := by rw [if_pos rfl] at H; exact H
        by_cases c18 : t214 = t219
        ·rw [if_pos c18] at H
         have c18b0 : (t214 == t219) = true := beq_iff_eq.mpr c18
         have c18b1 : (t214 != t219) = false := bne_eq_false_iff_eq.mpr c18
         clear c18
         replace H := Option.bind_eq_some_iff.mp H
         obtain ⟨t226, A190, H⟩ := H
         replace H : (if t226 = true then (if t214 = t224 then ((broadsheetlaw14_same.f t215 t225).bind fun t227 => (some t227)) else (some false)) else (some false)) = some r := H
         have A19 := Aside0.mk A190
         clear A190
         by_cases c20 : t226 = true
         ·subst c20
          replace H : (if t214 = t224 then ((broadsheetlaw14_same.f t215 t225).bind fun t227 => (some t227)) else (some false)) = some r := by rw [if_pos rfl] at H; exact H
          by_cases c21 : t214 = t224
          ·rw [if_pos c21] at H
           have c21b0 : (t214 == t224) = true := beq_iff_eq.mpr c21
           have c21b1 : (t214 != t224) = false := bne_eq_false_iff_eq.mpr c21
           clear c21
           replace H := Option.bind_eq_some_iff.mp H
           obtain ⟨t227, A220, H⟩ := H
           replace H : (some t227) = some r := H
           have A22 := Aside0.mk A220
           clear A220
           obtain rfl := Option.some.inj H
           go_wp2_with (first | ((with_reducible refine gate_callee (f := 13) rfl ?_); refine goesL_ (some 31) rfl rfl Tryd.func13 zb14 rfl #[] rfl zb1 ?_; (with_reducible refine (broadsheetlaw14_have.calls  t211 _ A10.out).mono ?_); rintro e w23 ⟨v212, rfl, ho0, hb⟩; refine ⟨_, rfl, ?_⟩; have n0_ := Aside0.mk (Kd.N_lower (Kd.N_mono (ok' := fun k_ => True) ho0 (fun k_ hk_ => trivial)) (below_size zb0)); have n1_ := Aside0.mk (below_step zb0 hb); clear HB; have HO213 := n0_; have HB := n1_; clear n0_ n1_; (try clear hb); (try clear hb2); (try clear hk); (try clear hi); (try clear ho0); obtain ⟨Ao24, co24, eo24⟩ := Kd.N_slice HO213.out; subst eo24) | ((with_reducible refine gate_callee (f := 12) rfl ?_); refine goesL_ (some 32) rfl rfl Tryd.func12 zb14 rfl #[.string a0, .slice Ao24 t211.length co24] rfl zb1 ?_; (with_reducible refine (quality_Best.calls k1 a0 _ _ t211 t214 t215 _ ?side1 ?side2 ?side3 A11.out).mono ?_); (case side1 => repeat (first | exact (Kd.N_reads' HO213.out).2.2 | (with_reducible refine Kd.C_alloc ?_ _) | (with_reducible refine Kd.C_drewN ?_ _) | (with_reducible refine Kd.C_drew ?_))); (case side2 => exact (Kd.N_reads' HO213.out).2.1); (case side3 => exact Glob.below hGA.out zb0); rintro e w25 ⟨rfl, hb⟩; refine ⟨_, rfl, ?_⟩; have n0_ := Aside0.mk (Kd.N_below zb11 hb); have n1_ := Aside0.mk (below_step zb0 hb); clear HO213; clear HB; have HO213 := n0_; have HB := n1_; clear n0_ n1_; (try clear hb); (try clear hb2); (try clear hk); (try clear hi)) | ((with_reducible refine gate_callee (f := 13) rfl ?_); refine goesL_ (some 38) rfl rfl Tryd.func13 zb14 rfl #[] rfl zb1 ?_; (with_reducible refine (broadsheetlaw14_have.calls  t216 _ A13.out).mono ?_); rintro e w26 ⟨v217, rfl, ho0, hb⟩; refine ⟨_, rfl, ?_⟩; have n0_ := Aside0.mk (Kd.N_elder' zb11 (Kd.N_base ho0) hb); have n1_ := Aside0.mk (Kd.N_lower (Kd.N_mono (ok' := fun k_ => some k_ ≠ (.slice Ao24 t211.length co24 : Value).ownBlock) ho0 (fun k_ hk_ => (Kd.fresh' (Kd.N_lt zb11) k_ hk_))) (below_size zb0)); have n2_ := Aside0.mk (below_step zb0 hb); clear HO213; clear HB; have HO213 := n0_; have HO218 := n1_; have HB := n2_; clear n0_ n1_ n2_; (try clear hb); (try clear hb2); (try clear hk); (try clear hi); (try clear ho0); obtain ⟨Ao27, co27, eo27⟩ := Kd.N_slice HO218.out; subst eo27) | ((with_reducible refine gate_callee (f := 12) rfl ?_); refine goesL_ (some 39) rfl rfl Tryd.func12 zb14 rfl #[.string (a0 ++ (⟨#[44, 32, 97, 117, 100, 105, 111, 47, 42, 44, 32, 120]⟩ : ByteArray)), .slice Ao27 t216.length co27] rfl zb1 ?_; (with_reducible refine (quality_Best.calls k1 (a0 ++ (⟨#[44, 32, 97, 117, 100, 105, 111, 47, 42, 44, 32, 120]⟩ : ByteArray)) _ _ t216 t219 t220 _ ?side1 ?side2 ?side3 A14.out).mono ?_); (case side1 => repeat (first | exact (Kd.N_reads' HO218.out).2.2 | (with_reducible refine Kd.C_alloc ?_ _) | (with_reducible refine Kd.C_drewN ?_ _) | (with_reducible refine Kd.C_drew ?_))); (case side2 => exact (Kd.N_reads' HO218.out).2.1); (case side3 => exact Glob.below hGA.out zb0); rintro e w28 ⟨rfl, hb⟩; refine ⟨_, rfl, ?_⟩; have n0_ := Aside0.mk (Kd.N_below zb11 hb); have n1_ := Aside0.mk (Kd.N_below zb18 hb); have n2_ := Aside0.mk (below_step zb0 hb); clear HO213; clear HO218; clear HB; have HO213 := n0_; have HO218 := n1_; have HB := n2_; clear n0_ n1_ n2_; (try clear hb); (try clear hb2); (try clear hk); (try clear hi)) | ((with_reducible refine gate_callee (f := 13) rfl ?_); refine goesL_ (some 45) rfl rfl Tryd.func13 zb14 rfl #[] rfl zb1 ?_; (with_reducible refine (broadsheetlaw14_have.calls  t221 _ A16.out).mono ?_); rintro e w29 ⟨v222, rfl, ho0, hb⟩; refine ⟨_, rfl, ?_⟩; have n0_ := Aside0.mk (Kd.N_elder' zb11 (Kd.N_base ho0) hb); have n1_ := Aside0.mk (Kd.N_elder' zb18 (Kd.N_base ho0) hb); have n2_ := Aside0.mk (Kd.N_lower (Kd.N_mono (ok' := fun k_ => some k_ ≠ (.slice Ao24 t211.length co24 : Value).ownBlock ∧ some k_ ≠ (.slice Ao27 t216.length co27 : Value).ownBlock) ho0 (fun k_ hk_ => ⟨(Kd.fresh' (Kd.N_lt zb11) k_ hk_), (Kd.fresh' (Kd.N_lt zb18) k_ hk_)⟩)) (below_size zb0)); have n3_ := Aside0.mk (below_step zb0 hb); clear HO213; clear HO218; clear HB; have HO213 := n0_; have HO218 := n1_; have HO223 := n2_; have HB := n3_; clear n0_ n1_ n2_ n3_; (try clear hb); (try clear hb2); (try clear hk); (try clear hi); (try clear ho0); obtain ⟨Ao30, co30, eo30⟩ := Kd.N_slice HO223.out; subst eo30) | ((with_reducible refine gate_callee (f := 12) rfl ?_); refine goesL_ (some 46) rfl rfl Tryd.func12 zb14 rfl #[.string ((⟨#[97, 117, 100, 105, 111, 47, 111, 103, 103, 59, 113, 61, 48, 46, 55, 44, 44, 47, 44]⟩ : ByteArray) ++ a0), .slice Ao30 t221.length co30] rfl zb1 ?_; (with_reducible refine (quality_Best.calls k1 ((⟨#[97, 117, 100, 105, 111, 47, 111, 103, 103, 59, 113, 61, 48, 46, 55, 44, 44, 47, 44]⟩ : ByteArray) ++ a0) _ _ t221 t224 t225 _ ?side1 ?side2 ?side3 A17.out).mono ?_); (case side1 => repeat (first | exact (Kd.N_reads' HO223.out).2.2 | (with_reducible refine Kd.C_alloc ?_ _) | (with_reducible refine Kd.C_drewN ?_ _) | (with_reducible refine Kd.C_drew ?_))); (case side2 => exact (Kd.N_reads' HO223.out).2.1); (case side3 => exact Glob.below hGA.out zb0); rintro e w31 ⟨rfl, hb⟩; refine ⟨_, rfl, ?_⟩; have n0_ := Aside0.mk (Kd.N_below zb11 hb); have n1_ := Aside0.mk (Kd.N_below zb18 hb); have n2_ := Aside0.mk (Kd.N_below zb39 hb); have n3_ := Aside0.mk (below_step zb0 hb); clear HO213; clear HO218; clear HO223; clear HB; have HO213 := n0_; have HO218 := n1_; have HO223 := n2_; have HB := n3_; clear n0_ n1_ n2_ n3_; (try clear hb); (try clear hb2); (try clear hk); (try clear hi)) | (go_at_call 14; (with_reducible refine (broadsheetlaw14_same.calls t215 t220 true _ A19.out).mono ?_); rintro e w' ⟨rfl, ⟨nd, rfl⟩⟩) | (go_at_call 14; (with_reducible refine (broadsheetlaw14_same.calls t215 t225 t227 _ A22.out).mono ?_); rintro e w' ⟨rfl, ⟨nd, rfl⟩⟩))
           go_ret
           exact ⟨zb9, zb0⟩
          ·rw [if_neg c21] at H
           have c21b0 : (t214 == t224) = false := beq_eq_false_iff_ne.mpr c21
           have c21b1 : (t214 != t224) = true := bne_iff_ne.mpr c21
           obtain rfl := Option.some.inj H
           go_wp2_with (first | ((with_reducible refine gate_callee (f := 13) rfl ?_); refine goesL_ (some 31) rfl rfl Tryd.func13 zb14 rfl #[] rfl zb1 ?_; (with_reducible refine (broadsheetlaw14_have.calls  t211 _ A10.out).mono ?_); rintro e w32 ⟨v212, rfl, ho0, hb⟩; refine ⟨_, rfl, ?_⟩; have n0_ := Aside0.mk (Kd.N_lower (Kd.N_mono (ok' := fun k_ => True) ho0 (fun k_ hk_ => trivial)) (below_size zb0)); have n1_ := Aside0.mk (below_step zb0 hb); clear HB; have HO213 := n0_; have HB := n1_; clear n0_ n1_; (try clear hb); (try clear hb2); (try clear hk); (try clear hi); (try clear ho0); obtain ⟨Ao33, co33, eo33⟩ := Kd.N_slice HO213.out; subst eo33) | ((with_reducible refine gate_callee (f := 12) rfl ?_); refine goesL_ (some 32) rfl rfl Tryd.func12 zb14 rfl #[.string a0, .slice Ao33 t211.length co33] rfl zb1 ?_; (with_reducible refine (quality_Best.calls k1 a0 _ _ t211 t214 t215 _ ?side1 ?side2 ?side3 A11.out).mono ?_); (case side1 => repeat (first | exact (Kd.N_reads' HO213.out).2.2 | (with_reducible refine Kd.C_alloc ?_ _) | (with_reducible refine Kd.C_drewN ?_ _) | (with_reducible refine Kd.C_drew ?_))); (case side2 => exact (Kd.N_reads' HO213.out).2.1); (case side3 => exact Glob.below hGA.out zb0); rintro e w34 ⟨rfl, hb⟩; refine ⟨_, rfl, ?_⟩; have n0_ := Aside0.mk (Kd.N_below zb11 hb); have n1_ := Aside0.mk (below_step zb0 hb); clear HO213; clear HB; have HO213 := n0_; have HB := n1_; clear n0_ n1_; (try clear hb); (try clear hb2); (try clear hk); (try clear hi)) | ((with_reducible refine gate_callee (f := 13) rfl ?_); refine goesL_ (some 38) rfl rfl Tryd.func13 zb14 rfl #[] rfl zb1 ?_; (with_reducible refine (broadsheetlaw14_have.calls  t216 _ A13.out).mono ?_); rintro e w35 ⟨v217, rfl, ho0, hb⟩; refine ⟨_, rfl, ?_⟩; have n0_ := Aside0.mk (Kd.N_elder' zb11 (Kd.N_base ho0) hb); have n1_ := Aside0.mk (Kd.N_lower (Kd.N_mono (ok' := fun k_ => some k_ ≠ (.slice Ao33 t211.length co33 : Value).ownBlock) ho0 (fun k_ hk_ => (Kd.fresh' (Kd.N_lt zb11) k_ hk_))) (below_size zb0)); have n2_ := Aside0.mk (below_step zb0 hb); clear HO213; clear HB; have HO213 := n0_; have HO218 := n1_; have HB := n2_; clear n0_ n1_ n2_; (try clear hb); (try clear hb2); (try clear hk); (try clear hi); (try clear ho0); obtain ⟨Ao36, co36, eo36⟩ := Kd.N_slice HO218.out; subst eo36) | ((with_reducible refine gate_callee (f := 12) rfl ?_); refine goesL_ (some 39) rfl rfl Tryd.func12 zb14 rfl #[.string (a0 ++ (⟨#[44, 32, 97, 117, 100, 105, 111, 47, 42, 44, 32, 120]⟩ : ByteArray)), .slice Ao36 t216.length co36] rfl zb1 ?_; (with_reducible refine (quality_Best.calls k1 (a0 ++ (⟨#[44, 32, 97, 117, 100, 105, 111, 47, 42, 44, 32, 120]⟩ : ByteArray)) _ _ t216 t219 t220 _ ?side1 ?side2 ?side3 A14.out).mono ?_); (case side1 => repeat (first | exact (Kd.N_reads' HO218.out).2.2 | (with_reducible refine Kd.C_alloc ?_ _) | (with_reducible refine Kd.C_drewN ?_ _) | (with_reducible refine Kd.C_drew ?_))); (case side2 => exact (Kd.N_reads' HO218.out).2.1); (case side3 => exact Glob.below hGA.out zb0); rintro e w37 ⟨rfl, hb⟩; refine ⟨_, rfl, ?_⟩; have n0_ := Aside0.mk (Kd.N_below zb11 hb); have n1_ := Aside0.mk (Kd.N_below zb18 hb); have n2_ := Aside0.mk (below_step zb0 hb); clear HO213; clear HO218; clear HB; have HO213 := n0_; have HO218 := n1_; have HB := n2_; clear n0_ n1_ n2_; (try clear hb); (try clear hb2); (try clear hk); (try clear hi)) | ((with_reducible refine gate_callee (f := 13) rfl ?_); refine goesL_ (some 45) rfl rfl Tryd.func13 zb14 rfl #[] rfl zb1 ?_; (with_reducible refine (broadsheetlaw14_have.calls  t221 _ A16.out).mono ?_); rintro e w38 ⟨v222, rfl, ho0, hb⟩; refine ⟨_, rfl, ?_⟩; have n0_ := Aside0.mk (Kd.N_elder' zb11 (Kd.N_base ho0) hb); have n1_ := Aside0.mk (Kd.N_elder' zb18 (Kd.N_base ho0) hb); have n2_ := Aside0.mk (Kd.N_lower (Kd.N_mono (ok' := fun k_ => some k_ ≠ (.slice Ao33 t211.length co33 : Value).ownBlock ∧ some k_ ≠ (.slice Ao36 t216.length co36 : Value).ownBlock) ho0 (fun k_ hk_ => ⟨(Kd.fresh' (Kd.N_lt zb11) k_ hk_), (Kd.fresh' (Kd.N_lt zb18) k_ hk_)⟩)) (below_size zb0)); have n3_ := Aside0.mk (below_step zb0 hb); clear HO213; clear HO218; clear HB; have HO213 := n0_; have HO218 := n1_; have HO223 := n2_; have HB := n3_; clear n0_ n1_ n2_ n3_; (try clear hb); (try clear hb2); (try clear hk); (try clear hi); (try clear ho0); obtain ⟨Ao39, co39, eo39⟩ := Kd.N_slice HO223.out; subst eo39) | ((with_reducible refine gate_callee (f := 12) rfl ?_); refine goesL_ (some 46) rfl rfl Tryd.func12 zb14 rfl #[.string ((⟨#[97, 117, 100, 105, 111, 47, 111, 103, 103, 59, 113, 61, 48, 46, 55, 44, 44, 47, 44]⟩ : ByteArray) ++ a0), .slice Ao39 t221.length co39] rfl zb1 ?_; (with_reducible refine (quality_Best.calls k1 ((⟨#[97, 117, 100, 105, 111, 47, 111, 103, 103, 59, 113, 61, 48, 46, 55, 44, 44, 47, 44]⟩ : ByteArray) ++ a0) _ _ t221 t224 t225 _ ?side1 ?side2 ?side3 A17.out).mono ?_); (case side1 => repeat (first | exact (Kd.N_reads' HO223.out).2.2 | (with_reducible refine Kd.C_alloc ?_ _) | (with_reducible refine Kd.C_drewN ?_ _) | (with_reducible refine Kd.C_drew ?_))); (case side2 => exact (Kd.N_reads' HO223.out).2.1); (case side3 => exact Glob.below hGA.out zb0); rintro e w40 ⟨rfl, hb⟩; refine ⟨_, rfl, ?_⟩; have n0_ := Aside0.mk (Kd.N_below zb11 hb); have n1_ := Aside0.mk (Kd.N_below zb18 hb); have n2_ := Aside0.mk (Kd.N_below zb39 hb); have n3_ := Aside0.mk (below_step zb0 hb); clear HO213; clear HO218; clear HO223; clear HB; have HO213 := n0_; have HO218 := n1_; have HO223 := n2_; have HB := n3_; clear n0_ n1_ n2_ n3_; (try clear hb); (try clear hb2); (try clear hk); (try clear hi)) | (go_at_call 14; (with_reducible refine (broadsheetlaw14_same.calls t215 t220 true _ A19.out).mono ?_); rintro e w' ⟨rfl, ⟨nd, rfl⟩⟩))
           go_ret
           exact ⟨zb9, zb0⟩
         ·replace c20 := Bool.eq_false_iff.mpr c20
          subst c20
          replace H : (some false) = some r := by rw [if_neg (show ¬ (false = true) by decide)] at H; exact H
          obtain rfl := Option.some.inj H
          go_wp2_with (first | ((with_reducible refine gate_callee (f := 13) rfl ?_); refine goesL_ (some 31) rfl rfl Tryd.func13 zb14 rfl #[] rfl zb1 ?_; (with_reducible refine (broadsheetlaw14_have.calls  t211 _ A10.out).mono ?_); rintro e w41 ⟨v212, rfl, ho0, hb⟩; refine ⟨_, rfl, ?_⟩; have n0_ := Aside0.mk (Kd.N_lower (Kd.N_mono (ok' := fun k_ => True) ho0 (fun k_ hk_ => trivial)) (below_size zb0)); have n1_ := Aside0.mk (below_step zb0 hb); clear HB; have HO213 := n0_; have HB := n1_; clear n0_ n1_; (try clear hb); (try clear hb2); (try clear hk); (try clear hi); (try clear ho0); obtain ⟨Ao42, co42, eo42⟩ := Kd.N_slice HO213.out; subst eo42) | ((with_reducible refine gate_callee (f := 12) rfl ?_); refine goesL_ (some 32) rfl rfl Tryd.func12 zb14 rfl #[.string a0, .slice Ao42 t211.length co42] rfl zb1 ?_; (with_reducible refine (quality_Best.calls k1 a0 _ _ t211 t214 t215 _ ?side1 ?side2 ?side3 A11.out).mono ?_); (case side1 => repeat (first | exact (Kd.N_reads' HO213.out).2.2 | (with_reducible refine Kd.C_alloc ?_ _) | (with_reducible refine Kd.C_drewN ?_ _) | (with_reducible refine Kd.C_drew ?_))); (case side2 => exact (Kd.N_reads' HO213.out).2.1); (case side3 => exact Glob.below hGA.out zb0); rintro e w43 ⟨rfl, hb⟩; refine ⟨_, rfl, ?_⟩; have n0_ := Aside0.mk (Kd.N_below zb11 hb); have n1_ := Aside0.mk (below_step zb0 hb); clear HO213; clear HB; have HO213 := n0_; have HB := n1_; clear n0_ n1_; (try clear hb); (try clear hb2); (try clear hk); (try clear hi)) | ((with_reducible refine gate_callee (f := 13) rfl ?_); refine goesL_ (some 38) rfl rfl Tryd.func13 zb14 rfl #[] rfl zb1 ?_; (with_reducible refine (broadsheetlaw14_have.calls  t216 _ A13.out).mono ?_); rintro e w44 ⟨v217, rfl, ho0, hb⟩; refine ⟨_, rfl, ?_⟩; have n0_ := Aside0.mk (Kd.N_elder' zb11 (Kd.N_base ho0) hb); have n1_ := Aside0.mk (Kd.N_lower (Kd.N_mono (ok' := fun k_ => some k_ ≠ (.slice Ao42 t211.length co42 : Value).ownBlock) ho0 (fun k_ hk_ => (Kd.fresh' (Kd.N_lt zb11) k_ hk_))) (below_size zb0)); have n2_ := Aside0.mk (below_step zb0 hb); clear HO213; clear HB; have HO213 := n0_; have HO218 := n1_; have HB := n2_; clear n0_ n1_ n2_; (try clear hb); (try clear hb2); (try clear hk); (try clear hi); (try clear ho0); obtain ⟨Ao45, co45, eo45⟩ := Kd.N_slice HO218.out; subst eo45) | ((with_reducible refine gate_callee (f := 12) rfl ?_); refine goesL_ (some 39) rfl rfl Tryd.func12 zb14 rfl #[.string (a0 ++ (⟨#[44, 32, 97, 117, 100, 105, 111, 47, 42, 44, 32, 120]⟩ : ByteArray)), .slice Ao45 t216.length co45] rfl zb1 ?_; (with_reducible refine (quality_Best.calls k1 (a0 ++ (⟨#[44, 32, 97, 117, 100, 105, 111, 47, 42, 44, 32, 120]⟩ : ByteArray)) _ _ t216 t219 t220 _ ?side1 ?side2 ?side3 A14.out).mono ?_); (case side1 => repeat (first | exact (Kd.N_reads' HO218.out).2.2 | (with_reducible refine Kd.C_alloc ?_ _) | (with_reducible refine Kd.C_drewN ?_ _) | (with_reducible refine Kd.C_drew ?_))); (case side2 => exact (Kd.N_reads' HO218.out).2.1); (case side3 => exact Glob.below hGA.out zb0); rintro e w46 ⟨rfl, hb⟩; refine ⟨_, rfl, ?_⟩; have n0_ := Aside0.mk (Kd.N_below zb11 hb); have n1_ := Aside0.mk (Kd.N_below zb18 hb); have n2_ := Aside0.mk (below_step zb0 hb); clear HO213; clear HO218; clear HB; have HO213 := n0_; have HO218 := n1_; have HB := n2_; clear n0_ n1_ n2_; (try clear hb); (try clear hb2); (try clear hk); (try clear hi)) | ((with_reducible refine gate_callee (f := 13) rfl ?_); refine goesL_ (some 45) rfl rfl Tryd.func13 zb14 rfl #[] rfl zb1 ?_; (with_reducible refine (broadsheetlaw14_have.calls  t221 _ A16.out).mono ?_); rintro e w47 ⟨v222, rfl, ho0, hb⟩; refine ⟨_, rfl, ?_⟩; have n0_ := Aside0.mk (Kd.N_elder' zb11 (Kd.N_base ho0) hb); have n1_ := Aside0.mk (Kd.N_elder' zb18 (Kd.N_base ho0) hb); have n2_ := Aside0.mk (Kd.N_lower (Kd.N_mono (ok' := fun k_ => some k_ ≠ (.slice Ao42 t211.length co42 : Value).ownBlock ∧ some k_ ≠ (.slice Ao45 t216.length co45 : Value).ownBlock) ho0 (fun k_ hk_ => ⟨(Kd.fresh' (Kd.N_lt zb11) k_ hk_), (Kd.fresh' (Kd.N_lt zb18) k_ hk_)⟩)) (below_size zb0)); have n3_ := Aside0.mk (below_step zb0 hb); clear HO213; clear HO218; clear HB; have HO213 := n0_; have HO218 := n1_; have HO223 := n2_; have HB := n3_; clear n0_ n1_ n2_ n3_; (try clear hb); (try clear hb2); (try clear hk); (try clear hi); (try clear ho0); obtain ⟨Ao48, co48, eo48⟩ := Kd.N_slice HO223.out; subst eo48) | ((with_reducible refine gate_callee (f := 12) rfl ?_); refine goesL_ (some 46) rfl rfl Tryd.func12 zb14 rfl #[.string ((⟨#[97, 117, 100, 105, 111, 47, 111, 103, 103, 59, 113, 61, 48, 46, 55, 44, 44, 47, 44]⟩ : ByteArray) ++ a0), .slice Ao48 t221.length co48] rfl zb1 ?_; (with_reducible refine (quality_Best.calls k1 ((⟨#[97, 117, 100, 105, 111, 47, 111, 103, 103, 59, 113, 61, 48, 46, 55, 44, 44, 47, 44]⟩ : ByteArray) ++ a0) _ _ t221 t224 t225 _ ?side1 ?side2 ?side3 A17.out).mono ?_); (case side1 => repeat (first | exact (Kd.N_reads' HO223.out).2.2 | (with_reducible refine Kd.C_alloc ?_ _) | (with_reducible refine Kd.C_drewN ?_ _) | (with_reducible refine Kd.C_drew ?_))); (case side2 => exact (Kd.N_reads' HO223.out).2.1); (case side3 => exact Glob.below hGA.out zb0); rintro e w49 ⟨rfl, hb⟩; refine ⟨_, rfl, ?_⟩; have n0_ := Aside0.mk (Kd.N_below zb11 hb); have n1_ := Aside0.mk (Kd.N_below zb18 hb); have n2_ := Aside0.mk (Kd.N_below zb39 hb); have n3_ := Aside0.mk (below_step zb0 hb); clear HO213; clear HO218; clear HO223; clear HB; have HO213 := n0_; have HO218 := n1_; have HO223 := n2_; have HB := n3_; clear n0_ n1_ n2_ n3_; (try clear hb); (try clear hb2); (try clear hk); (try clear hi)) | (go_at_call 14; (with_reducible refine (broadsheetlaw14_same.calls t215 t220 false _ A19.out).mono ?_); rintro e w' ⟨rfl, ⟨nd, rfl⟩⟩))
          go_ret
          exact ⟨zb9, zb0⟩
        ·rw [if_neg c18] at H
         have c18b0 : (t214 == t219) = false := beq_eq_false_iff_ne.mpr c18
         have c18b1 : (t214 != t219) = true := bne_iff_ne.mpr c18
         obtain rfl := Option.some.inj H
         go_wp2_with (first | ((with_reducible refine gate_callee (f := 13) rfl ?_); refine goesL_ (some 31) rfl rfl Tryd.func13 zb14 rfl #[] rfl zb1 ?_; (with_reducible refine (broadsheetlaw14_have.calls  t211 _ A10.out).mono ?_); rintro e w50 ⟨v212, rfl, ho0, hb⟩; refine ⟨_, rfl, ?_⟩; have n0_ := Aside0.mk (Kd.N_lower (Kd.N_mono (ok' := fun k_ => True) ho0 (fun k_ hk_ => trivial)) (below_size zb0)); have n1_ := Aside0.mk (below_step zb0 hb); clear HB; have HO213 := n0_; have HB := n1_; clear n0_ n1_; (try clear hb); (try clear hb2); (try clear hk); (try clear hi); (try clear ho0); obtain ⟨Ao51, co51, eo51⟩ := Kd.N_slice HO213.out; subst eo51) | ((with_reducible refine gate_callee (f := 12) rfl ?_); refine goesL_ (some 32) rfl rfl Tryd.func12 zb14 rfl #[.string a0, .slice Ao51 t211.length co51] rfl zb1 ?_; (with_reducible refine (quality_Best.calls k1 a0 _ _ t211 t214 t215 _ ?side1 ?side2 ?side3 A11.out).mono ?_); (case side1 => repeat (first | exact (Kd.N_reads' HO213.out).2.2 | (with_reducible refine Kd.C_alloc ?_ _) | (with_reducible refine Kd.C_drewN ?_ _) | (with_reducible refine Kd.C_drew ?_))); (case side2 => exact (Kd.N_reads' HO213.out).2.1); (case side3 => exact Glob.below hGA.out zb0); rintro e w52 ⟨rfl, hb⟩; refine ⟨_, rfl, ?_⟩; have n0_ := Aside0.mk (Kd.N_below zb11 hb); have n1_ := Aside0.mk (below_step zb0 hb); clear HO213; clear HB; have HO213 := n0_; have HB := n1_; clear n0_ n1_; (try clear hb); (try clear hb2); (try clear hk); (try clear hi)) | ((with_reducible refine gate_callee (f := 13) rfl ?_); refine goesL_ (some 38) rfl rfl Tryd.func13 zb14 rfl #[] rfl zb1 ?_; (with_reducible refine (broadsheetlaw14_have.calls  t216 _ A13.out).mono ?_); rintro e w53 ⟨v217, rfl, ho0, hb⟩; refine ⟨_, rfl, ?_⟩; have n0_ := Aside0.mk (Kd.N_elder' zb11 (Kd.N_base ho0) hb); have n1_ := Aside0.mk (Kd.N_lower (Kd.N_mono (ok' := fun k_ => some k_ ≠ (.slice Ao51 t211.length co51 : Value).ownBlock) ho0 (fun k_ hk_ => (Kd.fresh' (Kd.N_lt zb11) k_ hk_))) (below_size zb0)); have n2_ := Aside0.mk (below_step zb0 hb); clear HO213; clear HB; have HO213 := n0_; have HO218 := n1_; have HB := n2_; clear n0_ n1_ n2_; (try clear hb); (try clear hb2); (try clear hk); (try clear hi); (try clear ho0); obtain ⟨Ao54, co54, eo54⟩ := Kd.N_slice HO218.out; subst eo54) | ((with_reducible refine gate_callee (f := 12) rfl ?_); refine goesL_ (some 39) rfl rfl Tryd.func12 zb14 rfl #[.string (a0 ++ (⟨#[44, 32, 97, 117, 100, 105, 111, 47, 42, 44, 32, 120]⟩ : ByteArray)), .slice Ao54 t216.length co54] rfl zb1 ?_; (with_reducible refine (quality_Best.calls k1 (a0 ++ (⟨#[44, 32, 97, 117, 100, 105, 111, 47, 42, 44, 32, 120]⟩ : ByteArray)) _ _ t216 t219 t220 _ ?side1 ?side2 ?side3 A14.out).mono ?_); (case side1 => repeat (first | exact (Kd.N_reads' HO218.out).2.2 | (with_reducible refine Kd.C_alloc ?_ _) | (with_reducible refine Kd.C_drewN ?_ _) | (with_reducible refine Kd.C_drew ?_))); (case side2 => exact (Kd.N_reads' HO218.out).2.1); (case side3 => exact Glob.below hGA.out zb0); rintro e w55 ⟨rfl, hb⟩; refine ⟨_, rfl, ?_⟩; have n0_ := Aside0.mk (Kd.N_below zb11 hb); have n1_ := Aside0.mk (Kd.N_below zb18 hb); have n2_ := Aside0.mk (below_step zb0 hb); clear HO213; clear HO218; clear HB; have HO213 := n0_; have HO218 := n1_; have HB := n2_; clear n0_ n1_ n2_; (try clear hb); (try clear hb2); (try clear hk); (try clear hi)) | ((with_reducible refine gate_callee (f := 13) rfl ?_); refine goesL_ (some 45) rfl rfl Tryd.func13 zb14 rfl #[] rfl zb1 ?_; (with_reducible refine (broadsheetlaw14_have.calls  t221 _ A16.out).mono ?_); rintro e w56 ⟨v222, rfl, ho0, hb⟩; refine ⟨_, rfl, ?_⟩; have n0_ := Aside0.mk (Kd.N_elder' zb11 (Kd.N_base ho0) hb); have n1_ := Aside0.mk (Kd.N_elder' zb18 (Kd.N_base ho0) hb); have n2_ := Aside0.mk (Kd.N_lower (Kd.N_mono (ok' := fun k_ => some k_ ≠ (.slice Ao51 t211.length co51 : Value).ownBlock ∧ some k_ ≠ (.slice Ao54 t216.length co54 : Value).ownBlock) ho0 (fun k_ hk_ => ⟨(Kd.fresh' (Kd.N_lt zb11) k_ hk_), (Kd.fresh' (Kd.N_lt zb18) k_ hk_)⟩)) (below_size zb0)); have n3_ := Aside0.mk (below_step zb0 hb); clear HO213; clear HO218; clear HB; have HO213 := n0_; have HO218 := n1_; have HO223 := n2_; have HB := n3_; clear n0_ n1_ n2_ n3_; (try clear hb); (try clear hb2); (try clear hk); (try clear hi); (try clear ho0); obtain ⟨Ao57, co57, eo57⟩ := Kd.N_slice HO223.out; subst eo57) | ((with_reducible refine gate_callee (f := 12) rfl ?_); refine goesL_ (some 46) rfl rfl Tryd.func12 zb14 rfl #[.string ((⟨#[97, 117, 100, 105, 111, 47, 111, 103, 103, 59, 113, 61, 48, 46, 55, 44, 44, 47, 44]⟩ : ByteArray) ++ a0), .slice Ao57 t221.length co57] rfl zb1 ?_; (with_reducible refine (quality_Best.calls k1 ((⟨#[97, 117, 100, 105, 111, 47, 111, 103, 103, 59, 113, 61, 48, 46, 55, 44, 44, 47, 44]⟩ : ByteArray) ++ a0) _ _ t221 t224 t225 _ ?side1 ?side2 ?side3 A17.out).mono ?_); (case side1 => repeat (first | exact (Kd.N_reads' HO223.out).2.2 | (with_reducible refine Kd.C_alloc ?_ _) | (with_reducible refine Kd.C_drewN ?_ _) | (with_reducible refine Kd.C_drew ?_))); (case side2 => exact (Kd.N_reads' HO223.out).2.1); (case side3 => exact Glob.below hGA.out zb0); rintro e w58 ⟨rfl, hb⟩; refine ⟨_, rfl, ?_⟩; have n0_ := Aside0.mk (Kd.N_below zb11 hb); have n1_ := Aside0.mk (Kd.N_below zb18 hb); have n2_ := Aside0.mk (Kd.N_below zb39 hb); have n3_ := Aside0.mk (below_step zb0 hb); clear HO213; clear HO218; clear HO223; clear HB; have HO213 := n0_; have HO218 := n1_; have HO223 := n2_; have HB := n3_; clear n0_ n1_ n2_ n3_; (try clear hb); (try clear hb2); (try clear hk); (try clear hi)))
         go_ret
         exact ⟨zb9, zb0⟩
       ·rw [if_neg c15] at H
        exact absurd H (by simp)
      ·rw [if_neg c12] at H
       exact absurd H (by simp)
 ·replace c3 := Bool.eq_false_iff.mpr c3
  subst c3
  replace H : (some false) = some r := by rw [if_neg (show ¬ (false = true) by decide)] at H; exact H
  obtain rfl := Option.some.inj H
  go_enter Tryd.func5, Tryd.ntmps5
  go_wp2_with (first | ((with_reducible refine gate_callee (f := 8) rfl ?_); refine goesL_ (some 11) rfl rfl Tryd.func8 zb14 rfl #[] rfl zb1 ?_; (with_reducible refine (broadsheetlaw14_awake.calls k  false _ ?side1 A2.out).mono ?_); (case side1 => exact Glob.below hGA.out zb0); rintro e w59 ⟨rfl, hb⟩; refine ⟨_, rfl, ?_⟩; have n0_ := Aside0.mk (below_step zb0 hb); clear HB; have HB := n0_; clear n0_; (try clear hb); (try clear hb2); (try clear hk); (try clear hi)))
  go_ret
  exact ⟨zb9, zb0⟩
end Go.Proofs.YtghfbhobpodoeaaDoor.P
/- SpQe -/
namespace Go.Proofs.YtghfbhobpodoeaaDoor.Sp
open Go Go.RowKit Go.Proofs.YtghfbhobpodoeaaDoorW.PrintWords Go.Proofs.YtghfbhobpodoeaaDoorW.PrintLast Go.Proofs.YtghfbhobpodoeaaDoor.O Go.Proofs.YtghfbhobpodoeaaDoor.P
set_option linter.unusedVariables false
set_option linter.unusedSimpArgs false
theorem putQ_out (cur : L) (out : List L) : putQ cur out = out ++ putQ cur [] := by unfold putQ; split <;> simp
theorem spl_out : ∀ (n : Nat) (s : L) (q : Bool) (cur : L) (out : List L), s.length ≤ n → splL s q cur out = out ++ splL s q cur [] := by
  intro n
  induction n with
  | zero =>
    intro s q cur out h
    obtain rfl : s = [] := List.eq_nil_of_length_eq_zero (by omega)
    simpa [splL] using putQ_out cur out
  | succ n ih =>
    intro s q cur out h
    cases s with
    | nil => simpa [splL] using putQ_out cur out
    | cons c r =>
      rw [List.length_cons] at h
      unfold splL
      split
      · exact ih r _ _ out (by omega)
      · split
        · cases r with
          | nil => exact putQ_out _ out
          | cons d r' =>
            rw [List.length_cons] at h
            exact ih r' _ _ out (by omega)
        · split
          · rw [ih r q [] (putQ cur out) (by omega), ih r q [] (putQ cur []) (by omega), putQ_out cur out, List.append_assoc]
          · exact ih r _ _ out (by omega)
theorem spl_cons (c : UInt8) (r : L) (q : Bool) (cur : L) (out : List L) : splL (c :: r) q cur out = if c = 34 then splL r (!q) (cur ++ [c]) out
    else if c = 92 ∧ q = true then (match r with
      | [] => putQ (cur ++ [c]) out
      | d :: r' => splL r' q (cur ++ [c, d]) out)
    else if c = 44 ∧ q = false then splL r q [] (putQ cur out)
    else splL r q (cur ++ [c]) out := by
  conv => lhs; unfold splL
  cases r <;> rfl
theorem w1b (i : Nat) (h : i ≤ 140737488355328) : wrap64 ((i : Int) + 1) = ((i + 1 : Nat) : Int) := by rw [wrap_id (by omega) (by omega)]; omega
theorem spl_app : ∀ (s t cur : L) (out : List L), 34 ∉ s → splL (s ++ 44 :: t) false cur out = splL t false [] (splL s false cur out)
  | [], t, cur, out, _ => by
    show splL (44 :: t) false cur out = _
    rw [spl_cons, if_neg (by decide), if_neg (fun x => by cases x.2), if_pos ⟨rfl, rfl⟩]
    rfl
  | c :: r, t, cur, out, h => by
    have hc : c ≠ 34 := fun e => h (by rw [e]; simp)
    have hr : 34 ∉ r := fun e => h (List.mem_cons_of_mem _ e)
    show splL (c :: (r ++ 44 :: t)) false cur out = _
    have n92 : ¬ (c = 92 ∧ false = true) := fun x => by cases x.2
    rw [spl_cons, spl_cons, if_neg hc, if_neg hc, if_neg n92, if_neg n92]
    by_cases h44 : c = 44
    · rw [if_pos ⟨h44, rfl⟩, if_pos ⟨h44, rfl⟩]
      exact spl_app r t [] _ hr
    · rw [if_neg (fun x => h44 x.1), if_neg (fun x => h44 x.1)]
      exact spl_app r t _ out hr
theorem split_app (s t : L) (h : 34 ∉ s) : split (s ++ 44 :: t) = split s ++ split t := by
  unfold split
  rw [spl_app s t [] [] h, spl_out t.length t false [] _ (Nat.le_refl _)]
theorem ranges_app (s t : L) (h : 34 ∉ s) : rangesL (s ++ 44 :: t) = rangesL s ++ rangesL t := by
  unfold rangesL
  rw [split_app s t h, List.filterMap_append]
def tailT : L := [32, 97, 117, 100, 105, 111, 47, 42, 44, 32, 120]
def headT : L := [97, 117, 100, 105, 111, 47, 111, 103, 103, 59, 113, 61, 48, 46, 55, 44, 44, 47]
theorem tail_no : ∀ m ∈ haveL, ∀ r ∈ rangesL tailT, fitsL r.m m = false := by
  have : (haveL.all fun m => (rangesL tailT).all fun r => !fitsL r.m m) = true := by decide +kernel
  intro m hm r hr
  have h1 := List.all_eq_true.1 (List.all_eq_true.1 this m hm) r hr
  simpa using h1
theorem head_no : ∀ m ∈ haveL, ∀ r ∈ rangesL headT, fitsL r.m m = false := by
  have : (haveL.all fun m => (rangesL headT).all fun r => !fitsL r.m m) = true := by decide +kernel
  intro m hm r hr
  have h1 := List.all_eq_true.1 (List.all_eq_true.1 this m hm) r hr
  simpa using h1
theorem pick_no (m : Med) : ∀ (a b : List Rng) (w : Nat) (n : Int), (∀ r ∈ b, fitsL r.m m = false) → pickL m (a ++ b) w n = pickL m a w n
  | [], b, w, n, h => by
    induction b with
    | nil => rfl
    | cons r b ih =>
      show pickL m (r :: b) w n = w
      have := h r List.mem_cons_self
      rw [pickL, if_neg (fun x => by rw [this] at x; cases x.1)]
      exact ih (fun x hx => h x (List.mem_cons_of_mem _ hx))
  | r :: a, b, w, n, h => by
    show pickL m (r :: (a ++ b)) w n = _
    rw [pickL, pickL, pick_no m a b _ _ h, pick_no m a b _ _ h]
theorem pick_no2 (m : Med) : ∀ (b a : List Rng) (w : Nat) (n : Int), (∀ r ∈ b, fitsL r.m m = false) → pickL m (b ++ a) w n = pickL m a w n
  | [], a, w, n, h => rfl
  | r :: b, a, w, n, h => by
    have := h r List.mem_cons_self
    show pickL m (r :: (b ++ a)) w n = _
    rw [pickL, if_neg (fun x => by rw [this] at x; cases x.1)]
    exact pick_no2 m b a w n (fun x hx => h x (List.mem_cons_of_mem _ hx))
theorem best_congr (l l' : List Rng) : ∀ (h : List Med) (i : Nat) (a : Int) (w : Nat), (∀ m ∈ h, weightL l m = weightL l' m) → bestL l h i a w = bestL l' h i a w
  | [], _, _, _, _ => rfl
  | m :: h, i, a, w, hh => by
    rw [bestL, bestL, hh m List.mem_cons_self, best_congr l l' h _ _ _ (fun x hx => hh x (List.mem_cons_of_mem _ hx)), best_congr l l' h _ _ _ (fun x hx => hh x (List.mem_cons_of_mem _ hx))]
theorem best_tail (s : L) (h : 34 ∉ s) : best (s ++ 44 :: tailT) haveL = best s haveL := by
  unfold best
  rw [ranges_app s tailT h]
  exact best_congr _ _ _ _ _ _ (fun m hm => by unfold weightL; rw [pick_no m _ _ _ _ (tail_no m hm)])
theorem best_head (s : L) : best (headT ++ 44 :: s) haveL = best s haveL := by
  unfold best
  rw [ranges_app headT s (by decide)]
  exact best_congr _ _ _ _ _ _ (fun m hm => by unfold weightL; rw [pick_no2 m _ _ _ _ (head_no m hm)])
theorem sameF (a b : Nat) : broadsheetlaw14_same.f a b = some (sameW a b) := by
  unfold broadsheetlaw14_same.f math_Signbit.f sameW
  rw [nan_eq, nan_eq, eq_key]
  cases nanB a <;> cases nanB b <;> cases hk : decide (keyI a = keyI b) <;> simp [hk]
theorem sameW_self (a : Nat) : sameW a a = true := by
  unfold sameW
  cases nanB a <;> simp
theorem more_l0 (s : L) (k : Nat) (hs : s.length ≤ 140737488355328) (hk : 20000000 ≤ k) : ∀ (d j i : Nat), i + d = s.length → j = k + d + 1 → 34 ∉ s.take i → broadsheetlaw14_QualityMore.l0 j (mk s) true (i : Int) = some true := by
  intro d
  induction d with
  | zero =>
    intro j i hi hj hq
    subst hj
    obtain rfl : i = s.length := by omega
    rw [List.take_of_length_le (Nat.le_refl _)] at hq
    rw [show k + 0 + 1 = k + 1 from rfl, broadsheetlaw14_QualityMore.l0, if_neg (by rw [mk_size]; omega)]
    by_cases hb : ((mk s).size : Int) > 1000
    · rw [if_pos hb]
    · have hb2 := hb
      rw [mk_size] at hb2
      rw [if_neg hb, haveF]
      simp only [Option.bind_some]
      rw [bestF s haveL k (by omega) have_sm (by decide) (by omega), Option.bind_some, if_pos (by rw [mk_size]; omega),
        show mk s ++ (⟨#[44, 32, 97, 117, 100, 105, 111, 47, 42, 44, 32, 120]⟩ : ByteArray) = mk (s ++ 44 :: tailT) from mk_append s (44 :: tailT)]
      rw [mk_size] at hb
      rw [bestF (s ++ 44 :: tailT) haveL k (by simp [tailT]; omega) have_sm (by decide) (by omega), Option.bind_some, if_pos (by rw [mk_size]; omega),
        show (⟨#[97, 117, 100, 105, 111, 47, 111, 103, 103, 59, 113, 61, 48, 46, 55, 44, 44, 47, 44]⟩ : ByteArray) ++ mk s = mk (headT ++ 44 :: s) from by
          rw [show (⟨#[97, 117, 100, 105, 111, 47, 111, 103, 103, 59, 113, 61, 48, 46, 55, 44, 44, 47, 44]⟩ : ByteArray) = mk (headT ++ [44]) from rfl, mk_append, List.append_assoc]; rfl,
        bestF (headT ++ 44 :: s) haveL k (by simp [headT]; omega) have_sm (by decide) (by omega), Option.bind_some, best_tail s hq, best_head s, sameF, sameW_self]
      simp
  | succ d ih =>
    intro j i hi hj hq
    subst hj
    have hlt : i < s.length := by omega
    obtain ⟨b, hd, hb⟩ := mk_bt s i hlt
    rw [show k + (d + 1) + 1 = (k + d + 1) + 1 from rfl, broadsheetlaw14_QualityMore.l0, if_pos (by rw [mk_size]; omega), if_pos (by omega), hb]
    by_cases h : b = 34
    · rw [if_pos (by rw [h]; rfl)]
    · have h34 : ((b.toNat : Int) = 34) ↔ b = 34 := u8c b 34 (by decide)
      rw [if_neg (fun x => h (h34.1 x)), w1b i (by omega)]
      refine ih (k + d + 1) (i + 1) (by omega) rfl ?_
      have : s.take (i + 1) = s.take i ++ [b] := by
        rw [List.take_add_one, ← List.head?_drop, hd]
        rfl
      rw [this]
      intro x
      rcases List.mem_append.1 x with x | x
      · exact hq x
      · simp at x
        exact h x.symm
theorem quality_more_all (s : ByteArray) (hs : s.size ≤ 140737488355328) : ∃ k, broadsheetlaw14_QualityMore.f k s = some true := by
  rw [← mk_self s]
  rw [Lib.size_eq] at hs
  generalize s.data.toList = u at *
  refine ⟨20000000 + u.length + 1, ?_⟩
  unfold broadsheetlaw14_QualityMore.f
  rw [awake14 _ (by omega)]
  simp only [Option.bind_some, if_true]
  exact more_l0 u 20000000 hs (Nat.le_refl _) u.length _ 0 (by omega) rfl (by simp)
end Go.Proofs.YtghfbhobpodoeaaDoor.Sp
