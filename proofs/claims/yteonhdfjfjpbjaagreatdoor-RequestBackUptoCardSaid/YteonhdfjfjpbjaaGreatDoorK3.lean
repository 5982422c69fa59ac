/- Texts of this seat, joined: lemmas and walks that its statements' proofs use. -/
import Derived.Test.YteonhdfjfjpbjaaGreatDoorK1
import Derived.Test.YteonhdfjfjpbjaaGreatDoorK2
/- Px23 -/
namespace Go.Proofs.YteonhdfjfjpbjaaGreatDoor.P
open Go.Proofs.YteonhdfjfjpbjaaGreatDoor.B
open Go.RowKit Go.Proofs.YteonhdfjfjpbjaaGreatDoorW.PrintWords Go.Proofs.YteonhdfjfjpbjaaGreatDoorW.PrintLast Go.Proofs.YteonhdfjfjpbjaaGreatDoorW.PrintMore
attribute [local go_sem] str_leq str_gtr str_geq max2_int min2_int max_two min_two max_three min_three max_four min_four
set_option linter.unusedVariables false
set_option linter.unusedSimpArgs false
def broadsheetref13_TokenByte.j0 : Nat → Int → Bool → Option (Bool)
  | 0, _, _ => none
  | k + 1, x0, x24 => if x24 = true then (some true) else (if x0 = 33 then (some true) else (if x0 = 35 then (some true) else (if x0 = 36 then (some true) else (if x0 = 37 then (some true) else (if x0 = 38 then (some true) else (if x0 = 39 then (some true) else (if x0 = 42 then (some true) else (if x0 = 43 then (some true) else (if x0 = 45 then (some true) else (if x0 = 46 then (some true) else (if x0 = 94 then (some true) else (if x0 = 95 then (some true) else (if x0 = 96 then (some true) else (if x0 = 124 then (some true) else (if x0 = 126 then (some true) else (some false))))))))))))))))
def broadsheetref13_TokenByte.f (k : Nat) (a0 : Int) : Option (Bool) := if a0 ≥ 48 then (if a0 ≤ 57 then (broadsheetref13_TokenByte.j0 k a0 true) else (if a0 ≥ 65 then (if a0 ≤ 90 then (broadsheetref13_TokenByte.j0 k a0 true) else (if a0 ≥ 97 then (broadsheetref13_TokenByte.j0 k a0 (decide (a0 ≤ 122))) else (broadsheetref13_TokenByte.j0 k a0 false))) else (if a0 ≥ 97 then (broadsheetref13_TokenByte.j0 k a0 (decide (a0 ≤ 122))) else (broadsheetref13_TokenByte.j0 k a0 false)))) else (if a0 ≥ 65 then (if a0 ≤ 90 then (broadsheetref13_TokenByte.j0 k a0 true) else (if a0 ≥ 97 then (broadsheetref13_TokenByte.j0 k a0 (decide (a0 ≤ 122))) else (broadsheetref13_TokenByte.j0 k a0 false))) else (if a0 ≥ 97 then (broadsheetref13_TokenByte.j0 k a0 (decide (a0 ≤ 122))) else (broadsheetref13_TokenByte.j0 k a0 false)))
set_option maxHeartbeats 8000000 in
set_option maxRecDepth 100000 in
theorem broadsheetref13_TokenByte.calls (k : Nat) (a0 : Int) (r : Bool) (w : World) (h : broadsheetref13_TokenByte.f k a0 = some r) :
  Calls Tryz.prog 86 #[.int .u8 a0] w fun e w' => e = .returned (.bool r) ∧ Drawn0 w w' := by
 have H : (if a0 ≥ 48 then (if a0 ≤ 57 then (broadsheetref13_TokenByte.j0 k a0 true) else (if a0 ≥ 65 then (if a0 ≤ 90 then (broadsheetref13_TokenByte.j0 k a0 true) else (if a0 ≥ 97 then (broadsheetref13_TokenByte.j0 k a0 (decide (a0 ≤ 122))) else (broadsheetref13_TokenByte.j0 k a0 false))) else (if a0 ≥ 97 then (broadsheetref13_TokenByte.j0 k a0 (decide (a0 ≤ 122))) else (broadsheetref13_TokenByte.j0 k a0 false)))) else (if a0 ≥ 65 then (if a0 ≤ 90 then (broadsheetref13_TokenByte.j0 k a0 true) else (if a0 ≥ 97 then (broadsheetref13_TokenByte.j0 k a0 (decide (a0 ≤ 122))) else (broadsheetref13_TokenByte.j0 k a0 false))) else (if a0 ≥ 97 then (broadsheetref13_TokenByte.j0 k a0 (decide (a0 ≤ 122))) else (broadsheetref13_TokenByte.j0 k a0 false)))) = some r := h
 clear h
 have HC2 := Aside0.mk H
 clear H
 go_enter Tryz.func86, Tryz.ntmps86
 go_upto_region 1 with (fail)
 go_cut [24] (fun v24 wc => ∃ (kq : Nat) (x24_1 : Bool), v24 = .bool x24_1 ∧ Aside0 (broadsheetref13_TokenByte.j0 kq a0 x24_1 = some r) ∧ Aside0 (kq ≤ k) ∧ Drawn0 w wc)
 case first =>
  have H := HC2.out
  clear HC2
  by_cases c3 : a0 ≥ 48
  ·rw [if_pos c3] at H
   have c3b0 : decide (48 ≤ a0) = true := decide_eq_true c3
   clear c3
   (first | rw [c3b0] | (simp only [i64_w, i32_w]; rw [c3b0]) | skip)
   by_cases c4 : a0 ≤ 57
   ·rw [if_pos c4] at H
    have c4b0 : decide (a0 ≤ 57) = true := decide_eq_true c4
    clear c4
    have H' := Aside0.mk H
    clear H
    go_wp2
    go_meet
    case rel => exact ⟨_, (true), zb6, H', ⟨by first | omega | exact Nat.le_refl _⟩, by repeat (first | exact Drawn0.refl _ | apply Drawn0.step)⟩
   ·rw [if_neg c4] at H
    have c4b0 : decide (a0 ≤ 57) = false := decide_eq_false c4
    clear c4
    by_cases c5 : a0 ≥ 65
    ·rw [if_pos c5] at H
     have c5b0 : decide (65 ≤ a0) = true := decide_eq_true c5
     clear c5
     by_cases c6 : a0 ≤ 90
     ·rw [if_pos c6] at H
      have c6b0 : decide (a0 ≤ 90) = true := decide_eq_true c6
      clear c6
      have H' := Aside0.mk H
      clear H
      go_wp2
      go_meet
      case rel => exact ⟨_, (true), zb6, H', ⟨by first | omega | exact Nat.le_refl _⟩, by repeat (first | exact Drawn0.refl _ | apply Drawn0.step)⟩
     ·rw [if_neg c6] at H
      have c6b0 : decide (a0 ≤ 90) = false := decide_eq_false c6
      clear c6
      by_cases c7 : a0 ≥ 97
      ·rw [if_pos c7] at H
       have c7b0 : decide (97 ≤ a0) = true := decide_eq_true c7
       clear c7
       have H' := Aside0.mk H
       clear H
       go_wp2
       go_meet
       case rel => exact ⟨_, (decide (a0 ≤ 122)), zb6, H', ⟨by first | omega | exact Nat.le_refl _⟩, by repeat (first | exact Drawn0.refl _ | apply Drawn0.step)⟩
      ·rw [if_neg c7] at H
       have c7b0 : decide (97 ≤ a0) = false := decide_eq_false c7
       clear c7
       have H' := Aside0.mk H
       clear H
       go_wp2
       go_meet
       case rel => exact ⟨_, (false), zb6, H', ⟨by first | omega | exact Nat.le_refl _⟩, by repeat (first | exact Drawn0.refl _ | apply Drawn0.step)⟩
    ·rw [if_neg c5] at H
     have c5b0 : decide (65 ≤ a0) = false := decide_eq_false c5
     clear c5
     by_cases c8 : a0 ≥ 97
     ·rw [if_pos c8] at H
      have c8b0 : decide (97 ≤ a0) = true := decide_eq_true c8
      clear c8
      have H' := Aside0.mk H
      clear H
      go_wp2
      go_meet
      case rel => exact ⟨_, (decide (a0 ≤ 122)), zb6, H', ⟨by first | omega | exact Nat.le_refl _⟩, by repeat (first | exact Drawn0.refl _ | apply Drawn0.step)⟩
     ·rw [if_neg c8] at H
      have c8b0 : decide (97 ≤ a0) = false := decide_eq_false c8
      clear c8
      have H' := Aside0.mk H
      clear H
      go_wp2
      go_meet
      case rel => exact ⟨_, (false), zb6, H', ⟨by first | omega | exact Nat.le_refl _⟩, by repeat (first | exact Drawn0.refl _ | apply Drawn0.step)⟩
  ·rw [if_neg c3] at H
   have c3b0 : decide (48 ≤ a0) = false := decide_eq_false c3
   clear c3
   (first | rw [c3b0] | (simp only [i64_w, i32_w]; rw [c3b0]) | skip)
   by_cases c9 : a0 ≥ 65
   ·rw [if_pos c9] at H
    have c9b0 : decide (65 ≤ a0) = true := decide_eq_true c9
    clear c9
    by_cases c10 : a0 ≤ 90
    ·rw [if_pos c10] at H
     have c10b0 : decide (a0 ≤ 90) = true := decide_eq_true c10
     clear c10
     have H' := Aside0.mk H
     clear H
     go_wp2
     go_meet
     case rel => exact ⟨_, (true), zb6, H', ⟨by first | omega | exact Nat.le_refl _⟩, by repeat (first | exact Drawn0.refl _ | apply Drawn0.step)⟩
    ·rw [if_neg c10] at H
     have c10b0 : decide (a0 ≤ 90) = false := decide_eq_false c10
     clear c10
     by_cases c11 : a0 ≥ 97
     ·rw [if_pos c11] at H
      have c11b0 : decide (97 ≤ a0) = true := decide_eq_true c11
      clear c11
      have H' := Aside0.mk H
      clear H
      go_wp2
      go_meet
      case rel => exact ⟨_, (decide (a0 ≤ 122)), zb6, H', ⟨by first | omega | exact Nat.le_refl _⟩, by repeat (first | exact Drawn0.refl _ | apply Drawn0.step)⟩
     ·rw [if_neg c11] at H
      have c11b0 : decide (97 ≤ a0) = false := decide_eq_false c11
      clear c11
      have H' := Aside0.mk H
      clear H
      go_wp2
      go_meet
      case rel => exact ⟨_, (false), zb6, H', ⟨by first | omega | exact Nat.le_refl _⟩, by repeat (first | exact Drawn0.refl _ | apply Drawn0.step)⟩
   ·rw [if_neg c9] at H
    have c9b0 : decide (65 ≤ a0) = false := decide_eq_false c9
    clear c9
    by_cases c12 : a0 ≥ 97
    ·rw [if_pos c12] at H
     have c12b0 : decide (97 ≤ a0) = true := decide_eq_true c12
     clear c12
     have H' := Aside0.mk H
     clear H
     go_wp2
     go_meet
     case rel => exact ⟨_, (decide (a0 ≤ 122)), zb6, H', ⟨by first | omega | exact Nat.le_refl _⟩, by repeat (first | exact Drawn0.refl _ | apply Drawn0.step)⟩
    ·rw [if_neg c12] at H
     have c12b0 : decide (97 ≤ a0) = false := decide_eq_false c12
     clear c12
     have H' := Aside0.mk H
     clear H
     go_wp2
     go_meet
     case rel => exact ⟨_, (false), zb6, H', ⟨by first | omega | exact Nat.le_refl _⟩, by repeat (first | exact Drawn0.refl _ | apply Drawn0.step)⟩
 case rest =>
  clear HC2
  try clear c1
  try clear p2
  try clear c3
  try clear c3b0
  try clear c4
  try clear c4b0
  try clear c5
  try clear c5b0
  try clear c6
  try clear c6b0
  try clear c7
  try clear c7b0
  try clear c8
  try clear c8b0
  try clear c9
  try clear c9b0
  try clear c10
  try clear c10b0
  try clear c11
  try clear c11b0
  try clear c12
  try clear c12b0
  obtain ⟨kq, x24_1, rfl, HA, HJ1, ⟨mc1, rfl⟩⟩ := hcut
  cases kq with
  | zero => exact absurd HA.out (by simp [broadsheetref13_TokenByte.j0])
  | succ kj1 =>
   have H := HA.out
   clear HA
   simp only [broadsheetref13_TokenByte.j0] at H
   by_cases c13 : x24_1 = true
   ·subst c13
    replace H : (some true) = some r := by rw [if_pos rfl] at H; exact H
    obtain rfl := Option.some.inj H
    go_wp2
    go_ret
    exact ⟨by first | rfl | (simp; done) | (simp [*]; done), by repeat (first | exact Drawn0.refl _ | apply Drawn0.step)⟩
   ·replace c13 := Bool.eq_false_iff.mpr c13
    subst c13
    replace H : (if a0 = 33 then (some true) else (if a0 = 35 then (some true) else (if a0 = 36 then (some true) else (if a0 = 37 then (some true) else (if a0 = 38 then (some true) else (if a0 = 39 then (some true) else (if a0 = 42 then (some true) else (if a0 = 43 then (some true) else (if a0 = 45 then (some true) else (if a0 = 46 then (some true) else (if a0 = 94 then (some true) else (if a0 = 95 then (some true) else (if a0 = 96 then (some true) else (if a0 = 124 then (some true) else (if a0 = 126 then (some true) else (some false)))))))))))))))) = some r := by rw [if_neg (show ¬ (false = true) by decide)] at H; exact H
    by_cases c14 : a0 = 33
    ·rw [if_pos c14] at H
     have c14b0 : (a0 == 33) = true := beq_iff_eq.mpr c14
     have c14b1 : (a0 != 33) = false := bne_eq_false_iff_eq.mpr c14
     clear c14
     obtain rfl := Option.some.inj H
     go_wp2
     go_ret
     exact ⟨by first | rfl | (simp; done) | (simp [*]; done), by repeat (first | exact Drawn0.refl _ | apply Drawn0.step)⟩
    ·rw [if_neg c14] at H
     have c14b0 : (a0 == 33) = false := beq_eq_false_iff_ne.mpr c14
     have c14b1 : (a0 != 33) = true := bne_iff_ne.mpr c14
     by_cases c15 : a0 = 35
     ·rw [if_pos c15] at H
      have c15b0 : (a0 == 35) = true := beq_iff_eq.mpr c15
      have c15b1 : (a0 != 35) = false := bne_eq_false_iff_eq.mpr c15
      clear c15
      obtain rfl := Option.some.inj H
      go_wp2
      go_ret
      exact ⟨by first | rfl | (simp; done) | (simp [*]; done), by repeat (first | exact Drawn0.refl _ | apply Drawn0.step)⟩
     ·rw [if_neg c15] at H
      have c15b0 : (a0 == 35) = false := beq_eq_false_iff_ne.mpr c15
      have c15b1 : (a0 != 35) = true := bne_iff_ne.mpr c15
      by_cases c16 : a0 = 36
      ·rw [if_pos c16] at H
       have c16b0 : (a0 == 36) = true := beq_iff_eq.mpr c16
       have c16b1 : (a0 != 36) = false := bne_eq_false_iff_eq.mpr c16
       clear c16
       obtain rfl := Option.some.inj H
       go_wp2
       go_ret
       exact ⟨by first | rfl | (simp; done) | (simp [*]; done), by repeat (first | exact Drawn0.refl _ | apply Drawn0.step)⟩
      ·rw [if_neg c16] at H
       have c16b0 : (a0 == 36) = false := beq_eq_false_iff_ne.mpr c16
       have c16b1 : (a0 != 36) = true := bne_iff_ne.mpr c16
       by_cases c17 : a0 = 37
       ·rw [if_pos c17] at H
        have c17b0 : (a0 == 37) = true := beq_iff_eq.mpr c17
        have c17b1 : (a0 != 37) = false := bne_eq_false_iff_eq.mpr c17
        clear c17
        obtain rfl := Option.some.inj H
        go_wp2
        go_ret
        exact ⟨by first | rfl | (simp; done) | (simp [*]; done), by repeat (first | exact Drawn0.refl _ | apply Drawn0.step)⟩
       ·rw [if_neg c17] at H
        have c17b0 : (a0 == 37) = false := beq_eq_false_iff_ne.mpr c17
        have c17b1 : (a0 != 37) = true := bne_iff_ne.mpr c17
        by_cases c18 : a0 = 38
        ·rw [if_pos c18] at H
         have c18b0 : (a0 == 38) = true := beq_iff_eq.mpr c18
         have c18b1 : (a0 != 38) = false := bne_eq_false_iff_eq.mpr c18
         clear c18
         obtain rfl := Option.some.inj H
         go_wp2
         go_ret
         exact ⟨by first | rfl | (simp; done) | (simp [*]; done), by repeat (first | exact Drawn0.refl _ | apply Drawn0.step)⟩
        ·rw [if_neg c18] at H
         have c18b0 : (a0 == 38) = false := beq_eq_false_iff_ne.mpr c18
         have c18b1 : (a0 != 38) = true := bne_iff_ne.mpr c18
         by_cases c19 : a0 = 39
         ·rw [if_pos c19] at H
          have c19b0 : (a0 == 39) = true := beq_iff_eq.mpr c19
          have c19b1 : (a0 != 39) = false := bne_eq_false_iff_eq.mpr c19
          clear c19
          obtain rfl := Option.some.inj H
          go_wp2
          go_ret
          exact ⟨by first | rfl | (simp; done) | (simp [*]; done), by repeat (first | exact Drawn0.refl _ | apply Drawn0.step)⟩
         ·rw [if_neg c19] at H
          have c19b0 : (a0 == 39) = false := beq_eq_false_iff_ne.mpr c19
          have c19b1 : (a0 != 39) = true := bne_iff_ne.mpr c19
          by_cases c20 : a0 = 42
          ·rw [if_pos c20] at H
           have c20b0 : (a0 == 42) = true := beq_iff_eq.mpr c20
           have c20b1 : (a0 != 42) = false := bne_eq_false_iff_eq.mpr c20
           clear c20
           obtain rfl := Option.some.inj H
           go_wp2
           go_ret
           exact ⟨by first | rfl | (simp; done) | (simp [*]; done), by repeat (first | exact Drawn0.refl _ | apply Drawn0.step)⟩
          ·rw [if_neg c20] at H
           have c20b0 : (a0 == 42) = false := beq_eq_false_iff_ne.mpr c20
           have c20b1 : (a0 != 42) = true := bne_iff_ne.mpr c20
           by_cases c21 : a0 = 43
           ·rw [if_pos c21] at H
            have c21b0 : (a0 == 43) = true := beq_iff_eq.mpr c21
            have c21b1 : (a0 != 43) = false := bne_eq_false_iff_eq.mpr c21
            clear c21
            obtain rfl := Option.some.inj H
            go_wp2
            go_ret
            exact ⟨by first | rfl | (simp; done) | (simp [*]; done), by repeat (first | exact Drawn0.refl _ | apply Drawn0.step)⟩
           ·rw [if_neg c21] at H
            have c21b0 : (a0 == 43) = false := beq_eq_false_iff_ne.mpr c21
            have c21b1 : (a0 != 43) = true := bne_iff_ne.mpr c21
            by_cases c22 : a0 = 45
            ·rw [if_pos c22] at H
             have c22b0 : (a0 == 45) = true := beq_iff_eq.mpr c22
             have c22b1 : (a0 != 45) = false := bne_eq_false_iff_eq.mpr c22
             clear c22
             obtain rfl := Option.some.inj H
             go_wp2
             go_ret
             exact ⟨by first | rfl | (simp; done) | (simp [*]; done), by repeat (first | exact Drawn0.refl _ | apply Drawn0.step)⟩
            ·rw [if_neg c22] at H
             have c22b0 : (a0 == 45) = false := beq_eq_false_iff_ne.mpr c22
             have c22b1 : (a0 != 45) = true := bne_iff_ne.mpr c22
             by_cases c23 : a0 = 46
             ·rw [if_pos c23] at H
              have c23b0 : (a0 == 46) = true := beq_iff_eq.mpr c23
              have c23b1 : (a0 != 46) = false := bne_eq_false_iff_eq.mpr c23
              clear c23
              obtain rfl := Option.some.inj H
              go_wp2
              go_ret
              exact ⟨by first | rfl | (simp; done) | (simp [*]; done), by repeat (first | exact Drawn0.refl _ | apply Drawn0.step)⟩
             ·rw [if_neg c23] at H
              have c23b0 : (a0 == 46) = false := beq_eq_false_iff_ne.mpr c23
              have c23b1 : (a0 != 46) = true := bne_iff_ne.mpr c23
              by_cases c24 : a0 = 94
              ·rw [if_pos c24] at H
               have c24b0 : (a0 == 94) = true := beq_iff_eq.mpr c24
               have c24b1 : (a0 != 94) = false := bne_eq_false_iff_eq.mpr c24
               clear c24
               obtain rfl := Option.some.inj H
               go_wp2
               go_ret
               exact ⟨by first | rfl | (simp; done) | (simp [*]; done), by repeat (first | exact Drawn0.refl _ | apply Drawn0.step)⟩
              ·rw [if_neg c24] at H
               have c24b0 : (a0 == 94) = false := beq_eq_false_iff_ne.mpr c24
               have c24b1 : (a0 != 94) = true := bne_iff_ne.mpr c24
               by_cases c25 : a0 = 95
               ·rw [if_pos c25] at H
                have c25b0 : (a0 == 95) = true := beq_iff_eq.mpr c25
                have c25b1 : (a0 != 95) = false := bne_eq_false_iff_eq.mpr c25
                clear c25
                obtain rfl := Option.some.inj H
                go_wp2
                go_ret
                exact ⟨by first | rfl | (simp; done) | (simp [*]; done), by repeat (first | exact Drawn0.refl _ | apply Drawn0.step)⟩
               ·rw [if_neg c25] at H
                have c25b0 : (a0 == 95) = false := beq_eq_false_iff_ne.mpr c25
                have c25b1 : (a0 != 95) = true := bne_iff_ne.mpr c25
                by_cases c26 : a0 = 96
                ·rw [if_pos c26] at H
                 have c26b0 : (a0 == 96) = true := beq_iff_eq.mpr c26
                 have c26b1 : (a0 != 96) = false := bne_eq_false_iff_eq.mpr c26
                 clear c26
                 obtain rfl := Option.some.inj H
                 go_wp2
                 go_ret
                 exact ⟨by first | rfl | (simp; done) | (simp [*]; done), by repeat (first | exact Drawn0.refl _ | apply Drawn0.step)⟩
                ·rw [if_neg c26] at H
                 have c26b0 : (a0 == 96) = false := beq_eq_false_iff_ne.mpr c26
                 have c26b1 : (a0 != 96) = true := bne_iff_ne.mpr c26
                 by_cases c27 : a0 = 124
                 ·rw [if_pos c27] at H
                  have c27b0 : (a0 == 124) = true := beq_iff_eq.mpr c27
                  have c27b1 : (a0 != 124) = false := bne_eq_false_iff_eq.mpr c27
                  clear c27
                  obtain rfl := Option.some.inj H
                  go_wp2
                  go_ret
                  exact ⟨by first | rfl | (simp; done) | (simp [*]; done), by repeat (first | exact Drawn0.refl _ | apply Drawn0.step)⟩
                 ·rw [if_neg c27] at H
                  have c27b0 : (a0 == 124) = false := beq_eq_false_iff_ne.mpr c27
                  have c27b1 : (a0 != 124) = true := bne_iff_ne.mpr c27
                  by_cases c28 : a0 = 126
                  ·rw [if_pos c28] at H
                   have c28b0 : (a0 == 126) = true := beq_iff_eq.mpr c28
                   have c28b1 : (a0 != 126) = false := bne_eq_false_iff_eq.mpr c28
                   clear c28
                   obtain rfl := Option.some.inj H
                   go_wp2
                   go_ret
                   exact ⟨by first | rfl | (simp; done) | (simp [*]; done), by repeat (first | exact Drawn0.refl _ | apply Drawn0.step)⟩
                  ·rw [if_neg c28] at H
                   have c28b0 : (a0 == 126) = false := beq_eq_false_iff_ne.mpr c28
                   have c28b1 : (a0 != 126) = true := bne_iff_ne.mpr c28
                   obtain rfl := Option.some.inj H
                   go_wp2
                   go_ret
                   exact ⟨by first | rfl | (simp; done) | (simp [*]; done), by repeat (first | exact Drawn0.refl _ | apply Drawn0.step)⟩
def broadsheetref13_Token.l0 : Nat → ByteArray → Int → Option (ByteArray × ByteArray)
  | 0, _, _ => none
  | k + 1, x0, x4 => if x4 < (x0.size : Int) then (if 0 ≤ x4 then ((broadsheetref13_TokenByte.f k (bt x0 x4)).bind fun t236 => (if t236 = true then (broadsheetref13_Token.l0 k x0 (wrap64 (x4 + 1))) else (if x4 ≤ (x0.size : Int) then (some (x0.extract 0 (x4 : Int).toNat, x0.extract (x4 : Int).toNat x0.size)) else (none)))) else (none)) else (if 0 ≤ x4 then (if x4 ≤ (x0.size : Int) then (some (x0.extract 0 (x4 : Int).toNat, x0.extract (x4 : Int).toNat x0.size)) else (none)) else (none))
def broadsheetref13_Token.f (k : Nat) (a0 : ByteArray) : Option (ByteArray × ByteArray) := broadsheetref13_Token.l0 k a0 0
set_option maxHeartbeats 8000000 in
set_option maxRecDepth 100000 in
theorem broadsheetref13_Token.calls (k : Nat) (a0 : ByteArray) (r1 : ByteArray) (r2 : ByteArray) (w : World) (h : broadsheetref13_Token.f k a0 = some (r1, r2)) :
  Calls Tryz.prog 51 #[.string a0] w fun e w' => e = .returned (.tuple #[.string r1, .string r2]) ∧ Drawn0 w w' := by
 have H : (broadsheetref13_Token.l0 k a0 0) = some (r1, r2) := h
 clear h
 have H' := Aside0.mk H
 clear H
 go_enter Tryz.func51, Tryz.ntmps51
 go_wp2
 repeat (go_quiet (fail); try go_wp2)
 first | go_loopg [4] k (fun kq v4 w' => ∃ (x4_1 : Int), v4 = .int .i64 x4_1 ∧ Aside0 (broadsheetref13_Token.l0 kq a0 x4_1 = some (r1, r2)) ∧ Aside0 (kq ≤ k) ∧ Drawn0 w w') | (go_simp; go_loopg [4] k (fun kq v4 w' => ∃ (x4_1 : Int), v4 = .int .i64 x4_1 ∧ Aside0 (broadsheetref13_Token.l0 kq a0 x4_1 = some (r1, r2)) ∧ Aside0 (kq ≤ k) ∧ Drawn0 w w'))
 case atStart => exact ⟨(0), zb6, H', ⟨Nat.le_refl _⟩, by repeat (first | exact Drawn0.refl _ | apply Drawn0.step)⟩
 case round =>
  clear H'
  obtain ⟨x4_1, rfl, HA, HK1, ⟨m1, rfl⟩⟩ := hrel
  cases gk with
  | zero => exact absurd HA.out (by simp [broadsheetref13_Token.l0])
  | succ k1 =>
   have H := HA.out
   clear HA
   simp only [broadsheetref13_Token.l0] at H
   by_cases c2 : x4_1 < (a0.size : Int)
   ·rw [if_pos c2] at H
    have c2b0 : decide (x4_1 < (a0.size : Int)) = true := decide_eq_true c2
    clear c2
    by_cases c3 : 0 ≤ x4_1
    ·rw [if_pos c3] at H
     have c3b0 : decide (0 ≤ x4_1) = true := decide_eq_true c3
     clear c3
     replace H := Option.bind_eq_some_iff.mp H
     obtain ⟨t236, A50, H⟩ := H
     replace H : (if t236 = true then (broadsheetref13_Token.l0 k1 a0 (wrap64 (x4_1 + 1))) else (if x4_1 ≤ (a0.size : Int) then (some (a0.extract 0 (x4_1 : Int).toNat, a0.extract (x4_1 : Int).toNat a0.size)) else (none))) = some (r1, r2) := H
     have A5 := Aside0.mk A50
     clear A50
     by_cases c6 : t236 = true
     ·subst c6
      replace H : (broadsheetref13_Token.l0 k1 a0 (wrap64 (x4_1 + 1))) = some (r1, r2) := by rw [if_pos rfl] at H; exact H
      have H' := Aside0.mk H
      clear H
      have p4 : 0 ≤ (x4_1 : Int) := of_decide_eq_true zb2
      have q4 : x4_1 < (a0.size : Int) := of_decide_eq_true zb2
      have hx4 := bt_at a0 x4_1
      replace p4 := eq_true p4
      replace q4 := eq_true q4
      go_wp2_with (first | (go_at_call 86; (with_reducible refine (broadsheetref13_TokenByte.calls k1 (bt a0 x4_1) true _ A5.out).mono ?_); rintro e w' ⟨rfl, ⟨nd, rfl⟩⟩; (try first | exact ⟨rfl, _, World.drewN_drewN _ _ _⟩ | exact ⟨rfl, _, Eq.trans (World.drewN_drewN _ _ _) (congrArg (World.drewN _) (Nat.add_assoc _ _ _))⟩)))
      repeat (go_quiet (first | (go_at_call 86; (with_reducible refine (broadsheetref13_TokenByte.calls k1 (bt a0 x4_1) true _ A5.out).mono ?_); rintro e w' ⟨rfl, ⟨nd, rfl⟩⟩; (try first | exact ⟨rfl, _, World.drewN_drewN _ _ _⟩ | exact ⟨rfl, _, Eq.trans (World.drewN_drewN _ _ _) (congrArg (World.drewN _) (Nat.add_assoc _ _ _))⟩))); try go_wp2_with (first | (go_at_call 86; (with_reducible refine (broadsheetref13_TokenByte.calls k1 (bt a0 x4_1) true _ A5.out).mono ?_); rintro e w' ⟨rfl, ⟨nd, rfl⟩⟩; (try first | exact ⟨rfl, _, World.drewN_drewN _ _ _⟩ | exact ⟨rfl, _, Eq.trans (World.drewN_drewN _ _ _) (congrArg (World.drewN _) (Nat.add_assoc _ _ _))⟩))))
      go_roundg k1
      case measure => have := HK1.out; omega
      case rel => exact ⟨(wrap64 (x4_1 + 1)), zb6, H', ⟨by have := HK1.out; omega⟩, by repeat (first | exact Drawn0.refl _ | apply Drawn0.step)⟩
     ·replace c6 := Bool.eq_false_iff.mpr c6
      subst c6
      replace H : (if x4_1 ≤ (a0.size : Int) then (some (a0.extract 0 (x4_1 : Int).toNat, a0.extract (x4_1 : Int).toNat a0.size)) else (none)) = some (r1, r2) := by rw [if_neg (show ¬ (false = true) by decide)] at H; exact H
      have c7b0 := eq_true (of_decide_eq_true zb2 : 0 ≤ x4_1)
      by_cases c8 : x4_1 ≤ (a0.size : Int)
      ·rw [if_pos c8] at H
       have c8b0 := eq_true c8
       have c8b1 : decide (x4_1 ≤ (a0.size : Int)) = true := decide_eq_true c8
       clear c8
       have c9b0 := eq_true (of_decide_eq_true zb2 : 0 ≤ x4_1)
       have c10b0 := eq_true (of_decide_eq_true zb2 : x4_1 ≤ (a0.size : Int))
       simp only [Option.some.injEq, Prod.mk.injEq] at H
       obtain ⟨rfl, rfl⟩ := H
       have p4 : 0 ≤ (x4_1 : Int) := of_decide_eq_true zb2
       have q4 : x4_1 < (a0.size : Int) := of_decide_eq_true zb2
       have hx4 := bt_at a0 x4_1
       replace p4 := eq_true p4
       replace q4 := eq_true q4
       go_wp2_with (first | (go_at_call 86; (with_reducible refine (broadsheetref13_TokenByte.calls k1 (bt a0 x4_1) false _ A5.out).mono ?_); rintro e w' ⟨rfl, ⟨nd, rfl⟩⟩; (try first | exact ⟨rfl, _, World.drewN_drewN _ _ _⟩ | exact ⟨rfl, _, Eq.trans (World.drewN_drewN _ _ _) (congrArg (World.drewN _) (Nat.add_assoc _ _ _))⟩)))
       repeat (go_quiet (first | (go_at_call 86; (with_reducible refine (broadsheetref13_TokenByte.calls k1 (bt a0 x4_1) false _ A5.out).mono ?_); rintro e w' ⟨rfl, ⟨nd, rfl⟩⟩; (try first | exact ⟨rfl, _, World.drewN_drewN _ _ _⟩ | exact ⟨rfl, _, Eq.trans (World.drewN_drewN _ _ _) (congrArg (World.drewN _) (Nat.add_assoc _ _ _))⟩))); try go_wp2_with (first | (go_at_call 86; (with_reducible refine (broadsheetref13_TokenByte.calls k1 (bt a0 x4_1) false _ A5.out).mono ?_); rintro e w' ⟨rfl, ⟨nd, rfl⟩⟩; (try first | exact ⟨rfl, _, World.drewN_drewN _ _ _⟩ | exact ⟨rfl, _, Eq.trans (World.drewN_drewN _ _ _) (congrArg (World.drewN _) (Nat.add_assoc _ _ _))⟩))))
       go_ret2
       exact ⟨by first | rfl | (simp; done) | (simp [*]; done), by repeat (first | exact Drawn0.refl _ | apply Drawn0.step)⟩
      ·rw [if_neg c8] at H
       exact absurd H zb25
    ·rw [if_neg c3] at H
     exact absurd H zb25
   ·rw [if_neg c2] at H
    have c2b0 : decide (x4_1 < (a0.size : Int)) = false := decide_eq_false c2
    clear c2
    by_cases c11 : 0 ≤ x4_1
    ·rw [if_pos c11] at H
     have c11b0 := eq_true c11
     have c11b1 : decide (0 ≤ x4_1) = true := decide_eq_true c11
     clear c11
     by_cases c12 : x4_1 ≤ (a0.size : Int)
     ·rw [if_pos c12] at H
      have c12b0 := eq_true c12
      have c12b1 : decide (x4_1 ≤ (a0.size : Int)) = true := decide_eq_true c12
      clear c12
      have c13b0 := eq_true (of_decide_eq_true zb2 : 0 ≤ x4_1)
      have c14b0 := eq_true (of_decide_eq_true zb2 : x4_1 ≤ (a0.size : Int))
      simp only [Option.some.injEq, Prod.mk.injEq] at H
      obtain ⟨rfl, rfl⟩ := H
      go_wp2
      repeat (go_quiet (fail); try go_wp2)
      go_ret2
      exact ⟨by first | rfl | (simp; done) | (simp [*]; done), by repeat (first | exact Drawn0.refl _ | apply Drawn0.step)⟩
     ·rw [if_neg c12] at H
      exact absurd H zb25
    ·rw [if_neg c11] at H
     exact absurd H zb25
def broadsheetref13_Skip.l0 : Nat → ByteArray → Option (ByteArray)
  | 0, _ => none
  | k + 1, x0 => if (x0.size : Int) > 0 then (if 0 < (x0.size : Int) then (if (bt x0 0) = 32 then (if 1 ≤ (x0.size : Int) then (broadsheetref13_Skip.l0 k (x0.extract 1 x0.size)) else (none)) else (if (bt x0 0) = 9 then (if 1 ≤ (x0.size : Int) then (broadsheetref13_Skip.l0 k (x0.extract 1 x0.size)) else (none)) else (some x0))) else (none)) else (some x0)
def broadsheetref13_Skip.f (k : Nat) (a0 : ByteArray) : Option (ByteArray) := broadsheetref13_Skip.l0 k a0
set_option maxHeartbeats 8000000 in
set_option maxRecDepth 100000 in
theorem broadsheetref13_Skip.calls (k : Nat) (a0 : ByteArray) (r : ByteArray) (w : World) (h : broadsheetref13_Skip.f k a0 = some r) :
  Calls Tryz.prog 65 #[.string a0] w fun e w' => e = .returned (.string r) ∧ Drawn0 w w' := by
 have H : (broadsheetref13_Skip.l0 k a0) = some r := h
 clear h
 have H' := Aside0.mk H
 clear H
 go_enter Tryz.func65, Tryz.ntmps65
 go_wp2
 first | go_loopg [0] k (fun kq v0 w' => ∃ (x0_1 : ByteArray), v0 = .string x0_1 ∧ Aside0 (broadsheetref13_Skip.l0 kq x0_1 = some r) ∧ Aside0 (kq ≤ k) ∧ Drawn0 w w') | (go_simp; go_loopg [0] k (fun kq v0 w' => ∃ (x0_1 : ByteArray), v0 = .string x0_1 ∧ Aside0 (broadsheetref13_Skip.l0 kq x0_1 = some r) ∧ Aside0 (kq ≤ k) ∧ Drawn0 w w'))
 case atStart => exact ⟨(a0), zb6, H', ⟨Nat.le_refl _⟩, by repeat (first | exact Drawn0.refl _ | apply Drawn0.step)⟩
 case round =>
  clear H'
  obtain ⟨x0_1, rfl, HA, HK1, ⟨m1, rfl⟩⟩ := hrel
  cases gk with
  | zero => exact absurd HA.out (by simp [broadsheetref13_Skip.l0])
  | succ k1 =>
   have H := HA.out
   clear HA
   simp only [broadsheetref13_Skip.l0] at H
   by_cases c2 : (x0_1.size : Int) > 0
   ·rw [if_pos c2] at H
    have c2b0 : decide (0 < (x0_1.size : Int)) = true := decide_eq_true c2
    have c2b1 : decide (0 < x0_1.size) = true := decide_eq_true zb17
    clear c2
    by_cases c3 : 0 < (x0_1.size : Int)
    ·rw [if_pos c3] at H
     have c3b0 : decide (0 < (x0_1.size : Int)) = true := decide_eq_true c3
     have c3b1 : decide (0 < x0_1.size) = true := decide_eq_true zb17
     clear c3
     by_cases c5 : (bt x0_1 0) = 32
     ·rw [if_pos c5] at H
      have c5b0 : ((bt x0_1 0) == 32) = true := beq_iff_eq.mpr c5
      have c5b1 : ((bt x0_1 0) != 32) = false := bne_eq_false_iff_eq.mpr c5
      clear c5
      by_cases c6 : 1 ≤ (x0_1.size : Int)
      ·rw [if_pos c6] at H
       have c6b0 := eq_true c6
       have c6b1 : decide (1 ≤ (x0_1.size : Int)) = true := decide_eq_true c6
       clear c6
       have H' := Aside0.mk H
       clear H
       have p4 : 0 ≤ (0 : Int) := zb17
       have q4 : 0 < x0_1.size := (by have : (0 : Int) < (x0_1.size : Int) := of_decide_eq_true zb2; omega)
       have hx4 : ∀ h : 0 < x0_1.size, ((x0_1[0]'h).toNat : Int) = bt x0_1 0 := bt_at x0_1 0
       clear p4
       have qi4 : (0 < (x0_1.size : Int)) = True := eq_true (of_decide_eq_true zb2)
       replace q4 := eq_true q4
       go_wp2
       go_roundg k1
       case measure => have := HK1.out; omega
       case rel => exact ⟨(x0_1.extract 1 x0_1.size), zb6, H', ⟨by have := HK1.out; omega⟩, by repeat (first | exact Drawn0.refl _ | apply Drawn0.step)⟩
      ·rw [if_neg c6] at H
       exact absurd H zb25
     ·rw [if_neg c5] at H
      have c5b0 : ((bt x0_1 0) == 32) = false := beq_eq_false_iff_ne.mpr c5
      have c5b1 : ((bt x0_1 0) != 32) = true := bne_iff_ne.mpr c5
      by_cases c8 : (bt x0_1 0) = 9
      ·rw [if_pos c8] at H
       have c8b0 : ((bt x0_1 0) == 9) = true := beq_iff_eq.mpr c8
       have c8b1 : ((bt x0_1 0) != 9) = false := bne_eq_false_iff_eq.mpr c8
       clear c8
       by_cases c9 : 1 ≤ (x0_1.size : Int)
       ·rw [if_pos c9] at H
        have c9b0 := eq_true c9
        have c9b1 : decide (1 ≤ (x0_1.size : Int)) = true := decide_eq_true c9
        clear c9
        have H' := Aside0.mk H
        clear H
        have p4 : 0 ≤ (0 : Int) := zb17
        have q4 : 0 < x0_1.size := (by have : (0 : Int) < (x0_1.size : Int) := of_decide_eq_true zb2; omega)
        have hx4 : ∀ h : 0 < x0_1.size, ((x0_1[0]'h).toNat : Int) = bt x0_1 0 := bt_at x0_1 0
        clear p4
        have qi4 : (0 < (x0_1.size : Int)) = True := eq_true (of_decide_eq_true zb2)
        replace q4 := eq_true q4
        have p7 : 0 ≤ (0 : Int) := zb17
        have q7 : 0 < x0_1.size := (by have : (0 : Int) < (x0_1.size : Int) := of_decide_eq_true zb2; omega)
        have hx7 : ∀ h : 0 < x0_1.size, ((x0_1[0]'h).toNat : Int) = bt x0_1 0 := bt_at x0_1 0
        clear p7
        have qi7 : (0 < (x0_1.size : Int)) = True := eq_true (of_decide_eq_true zb2)
        replace q7 := eq_true q7
        go_wp2
        go_roundg k1
        case measure => have := HK1.out; omega
        case rel => exact ⟨(x0_1.extract 1 x0_1.size), zb6, H', ⟨by have := HK1.out; omega⟩, by repeat (first | exact Drawn0.refl _ | apply Drawn0.step)⟩
       ·rw [if_neg c9] at H
        exact absurd H zb25
      ·rw [if_neg c8] at H
       have c8b0 : ((bt x0_1 0) == 9) = false := beq_eq_false_iff_ne.mpr c8
       have c8b1 : ((bt x0_1 0) != 9) = true := bne_iff_ne.mpr c8
       obtain rfl := Option.some.inj H
       have p4 : 0 ≤ (0 : Int) := zb17
       have q4 : 0 < x0_1.size := (by have : (0 : Int) < (x0_1.size : Int) := of_decide_eq_true zb2; omega)
       have hx4 : ∀ h : 0 < x0_1.size, ((x0_1[0]'h).toNat : Int) = bt x0_1 0 := bt_at x0_1 0
       clear p4
       have qi4 : (0 < (x0_1.size : Int)) = True := eq_true (of_decide_eq_true zb2)
       replace q4 := eq_true q4
       have p7 : 0 ≤ (0 : Int) := zb17
       have q7 : 0 < x0_1.size := (by have : (0 : Int) < (x0_1.size : Int) := of_decide_eq_true zb2; omega)
       have hx7 : ∀ h : 0 < x0_1.size, ((x0_1[0]'h).toNat : Int) = bt x0_1 0 := bt_at x0_1 0
       clear p7
       have qi7 : (0 < (x0_1.size : Int)) = True := eq_true (of_decide_eq_true zb2)
       replace q7 := eq_true q7
       go_wp2
       go_ret
       exact ⟨by first | rfl | (simp; done) | (simp [*]; done), by repeat (first | exact Drawn0.refl _ | apply Drawn0.step)⟩
    ·rw [if_neg c3] at H
     exact absurd H zb25
   ·rw [if_neg c2] at H
    have c2b0 : decide (0 < (x0_1.size : Int)) = false := decide_eq_false c2
    have c2b1 : decide (0 < x0_1.size) = false := decide_eq_false zb17
    clear c2
    obtain rfl := Option.some.inj H
    go_wp2
    go_ret
    exact ⟨by first | rfl | (simp; done) | (simp [*]; done), by repeat (first | exact Drawn0.refl _ | apply Drawn0.step)⟩





def broadsheetref18_Trim.l0 : Nat → ByteArray → Option (ByteArray)
  | 0, _ => none
  | k + 1, x0 => if (x0.size : Int) > 0 then (if 0 ≤ (wrap64 ((x0.size : Int) - 1)) then (if (wrap64 ((x0.size : Int) - 1)) < (x0.size : Int) then (if (bt x0 (wrap64 ((x0.size : Int) - 1))) = 32 then (if (wrap64 ((x0.size : Int) - 1)) ≤ (x0.size : Int) then (broadsheetref18_Trim.l0 k (x0.extract 0 ((wrap64 ((x0.size : Int) - 1)) : Int).toNat)) else (none)) else (if (bt x0 (wrap64 ((x0.size : Int) - 1))) = 9 then (if (wrap64 ((x0.size : Int) - 1)) ≤ (x0.size : Int) then (broadsheetref18_Trim.l0 k (x0.extract 0 ((wrap64 ((x0.size : Int) - 1)) : Int).toNat)) else (none)) else (some x0))) else (none)) else (none)) else (some x0)
def broadsheetref18_Trim.f (k : Nat) (a0 : ByteArray) : Option (ByteArray) := (broadsheetref13_Skip.f k a0).bind fun t237 => (broadsheetref18_Trim.l0 k t237)
set_option maxHeartbeats 8000000 in
set_option maxRecDepth 100000 in
theorem broadsheetref18_Trim.calls (k : Nat) (a0 : ByteArray) (r : ByteArray) (w : World) (h : broadsheetref18_Trim.f k a0 = some r) :
  Calls Tryz.prog 67 #[.string a0] w fun e w' => e = .returned (.string r) ∧ Drawn0 w w' := by
 have H : ((broadsheetref13_Skip.f k a0).bind fun t237 => (broadsheetref18_Trim.l0 k t237)) = some r := h
 clear h
 replace H := Option.bind_eq_some_iff.mp H
 obtain ⟨t237, A20, H⟩ := H
 replace H : (broadsheetref18_Trim.l0 k t237) = some r := H
 have A2 := Aside0.mk A20
 clear A20
 have H' := Aside0.mk H
 clear H
 go_enter Tryz.func67, Tryz.ntmps67
 go_wp2_with (first | ((with_reducible refine gate_callee (f := 65) rfl ?_); refine goesL_ (some 4) rfl rfl Tryz.func65 zb15 rfl #[.string a0] rfl zb1 ?_; (with_reducible refine (broadsheetref13_Skip.calls k a0 t237 _ A2.out).mono ?_); rintro e w' ⟨rfl, ⟨nd, rfl⟩⟩; refine ⟨_, rfl, ?_⟩))
 first | go_loopg [0] k (fun kq v0 w' => ∃ (x0_1 : ByteArray), v0 = .string x0_1 ∧ Aside0 (broadsheetref18_Trim.l0 kq x0_1 = some r) ∧ Aside0 (kq ≤ k) ∧ Drawn0 w w') | (go_simp; go_loopg [0] k (fun kq v0 w' => ∃ (x0_1 : ByteArray), v0 = .string x0_1 ∧ Aside0 (broadsheetref18_Trim.l0 kq x0_1 = some r) ∧ Aside0 (kq ≤ k) ∧ Drawn0 w w'))
 case atStart => exact ⟨(t237), zb6, H', ⟨Nat.le_refl _⟩, by repeat (first | exact Drawn0.refl _ | apply Drawn0.step)⟩
 case round =>
  clear H'
  try clear p2
  obtain ⟨x0_1, rfl, HA, HK1, ⟨m1, rfl⟩⟩ := hrel
  cases gk with
  | zero => exact absurd HA.out (by simp [broadsheetref18_Trim.l0])
  | succ k1 =>
   have H := HA.out
   clear HA
   simp only [broadsheetref18_Trim.l0] at H
   by_cases c3 : (x0_1.size : Int) > 0
   ·rw [if_pos c3] at H
    have c3b0 : decide (0 < (x0_1.size : Int)) = true := decide_eq_true c3
    have c3b1 : decide (0 < x0_1.size) = true := decide_eq_true zb17
    clear c3
    obtain ⟨ji4, hji4⟩ : ∃ j_ : Int, (wrap64 ((x0_1.size : Int) - 1)) = j_ := ⟨_, rfl⟩
    replace H : (if 0 ≤ (ji4) then (if (ji4) < (x0_1.size : Int) then (if (bt x0_1 (ji4)) = 32 then (if (ji4) ≤ (x0_1.size : Int) then (broadsheetref18_Trim.l0 k1 (x0_1.extract 0 ((ji4) : Int).toNat)) else (none)) else (if (bt x0_1 (ji4)) = 9 then (if (ji4) ≤ (x0_1.size : Int) then (broadsheetref18_Trim.l0 k1 (x0_1.extract 0 ((ji4) : Int).toNat)) else (none)) else (some x0_1))) else (none)) else (none)) = some r := by first | (rw [hji4] at H; exact H) | (simp only [hji4] at H ⊢; exact H)
    have hji4w : (IntKind.i64.wrap ((x0_1.size : Int) - 1)) = ji4 := (i64_w _).trans hji4
    by_cases c5 : 0 ≤ (ji4)
    ·rw [if_pos c5] at H
     have c5b0 : decide (0 ≤ (ji4)) = true := decide_eq_true c5
     clear c5
     by_cases c6 : (ji4) < (x0_1.size : Int)
     ·rw [if_pos c6] at H
      have c6b0 : decide ((ji4) < (x0_1.size : Int)) = true := decide_eq_true c6
      clear c6
      by_cases c8 : (bt x0_1 (ji4)) = 32
      ·rw [if_pos c8] at H
       have c8b0 : ((bt x0_1 (ji4)) == 32) = true := beq_iff_eq.mpr c8
       have c8b1 : ((bt x0_1 (ji4)) != 32) = false := bne_eq_false_iff_eq.mpr c8
       clear c8
       have c9b0 := eq_true (of_decide_eq_true zb2 : 0 ≤ (ji4))
       by_cases c10 : (ji4) ≤ (x0_1.size : Int)
       ·rw [if_pos c10] at H
        have c10b0 := eq_true c10
        have c10b1 : decide ((ji4) ≤ (x0_1.size : Int)) = true := decide_eq_true c10
        clear c10
        have H' := Aside0.mk H
        clear H
        have p7 : 0 ≤ ((ji4) : Int) := of_decide_eq_true zb2
        have q7 : (ji4) < (x0_1.size : Int) := of_decide_eq_true zb2
        have hx7 := bt_at x0_1 (ji4)
        replace p7 := eq_true p7
        replace q7 := eq_true q7
        go_wp2
        go_roundg k1
        case measure => have := HK1.out; omega
        case rel => exact ⟨(x0_1.extract 0 ((ji4) : Int).toNat), (by first | rfl | (simp; done) | (simp only [← hji4] <;> (first | rfl | simp)) | (simp [*]; done)), H', ⟨by have := HK1.out; omega⟩, by repeat (first | exact Drawn0.refl _ | apply Drawn0.step)⟩
       ·rw [if_neg c10] at H
        exact absurd H zb25
      ·rw [if_neg c8] at H
       have c8b0 : ((bt x0_1 (ji4)) == 32) = false := beq_eq_false_iff_ne.mpr c8
       have c8b1 : ((bt x0_1 (ji4)) != 32) = true := bne_iff_ne.mpr c8
       by_cases c12 : (bt x0_1 (ji4)) = 9
       ·rw [if_pos c12] at H
        have c12b0 : ((bt x0_1 (ji4)) == 9) = true := beq_iff_eq.mpr c12
        have c12b1 : ((bt x0_1 (ji4)) != 9) = false := bne_eq_false_iff_eq.mpr c12
        clear c12
        have c13b0 := eq_true (of_decide_eq_true zb2 : 0 ≤ (ji4))
        by_cases c14 : (ji4) ≤ (x0_1.size : Int)
        ·rw [if_pos c14] at H
         have c14b0 := eq_true c14
         have c14b1 : decide ((ji4) ≤ (x0_1.size : Int)) = true := decide_eq_true c14
         clear c14
         have H' := Aside0.mk H
         clear H
         have p7 : 0 ≤ ((ji4) : Int) := of_decide_eq_true zb2
         have q7 : (ji4) < (x0_1.size : Int) := of_decide_eq_true zb2
         have hx7 := bt_at x0_1 (ji4)
         replace p7 := eq_true p7
         replace q7 := eq_true q7
         have p11 : 0 ≤ ((ji4) : Int) := of_decide_eq_true zb2
         have q11 : (ji4) < (x0_1.size : Int) := of_decide_eq_true zb2
         have hx11 := bt_at x0_1 (ji4)
         replace p11 := eq_true p11
         replace q11 := eq_true q11
         go_wp2
         go_roundg k1
         case measure => have := HK1.out; omega
         case rel => exact ⟨(x0_1.extract 0 ((ji4) : Int).toNat), (by first | rfl | (simp; done) | (simp only [← hji4] <;> (first | rfl | simp)) | (simp [*]; done)), H', ⟨by have := HK1.out; omega⟩, by repeat (first | exact Drawn0.refl _ | apply Drawn0.step)⟩
        ·rw [if_neg c14] at H
         exact absurd H zb25
       ·rw [if_neg c12] at H
        have c12b0 : ((bt x0_1 (ji4)) == 9) = false := beq_eq_false_iff_ne.mpr c12
        have c12b1 : ((bt x0_1 (ji4)) != 9) = true := bne_iff_ne.mpr c12
        obtain rfl := Option.some.inj H
        have p7 : 0 ≤ ((ji4) : Int) := of_decide_eq_true zb2
        have q7 : (ji4) < (x0_1.size : Int) := of_decide_eq_true zb2
        have hx7 := bt_at x0_1 (ji4)
        replace p7 := eq_true p7
        replace q7 := eq_true q7
        have p11 : 0 ≤ ((ji4) : Int) := of_decide_eq_true zb2
        have q11 : (ji4) < (x0_1.size : Int) := of_decide_eq_true zb2
        have hx11 := bt_at x0_1 (ji4)
        replace p11 := eq_true p11
        replace q11 := eq_true q11
        go_wp2
        go_ret
        exact ⟨by first | rfl | (simp; done) | (simp only [← hji4] <;> (first | rfl | simp)) | (simp [*]; done), by repeat (first | exact Drawn0.refl _ | apply Drawn0.step)⟩
     ·rw [if_neg c6] at H
      exact absurd H zb25
    ·rw [if_neg c5] at H
     exact absurd H zb25
   ·rw [if_neg c3] at H
    have c3b0 : decide (0 < (x0_1.size : Int)) = false := decide_eq_false c3
    have c3b1 : decide (0 < x0_1.size) = false := decide_eq_false zb17
    clear c3
    obtain rfl := Option.some.inj H
    go_wp2
    go_ret
    exact ⟨by first | rfl | (simp; done) | (simp [*]; done), by repeat (first | exact Drawn0.refl _ | apply Drawn0.step)⟩
def broadsheetref18_Value.l0 : Nat → ByteArray → Int → Option (Bool)
  | 0, _, _ => none
  | k + 1, x0, x3 => if x3 < (x0.size : Int) then (if 0 ≤ x3 then (if (bt x0 x3) < 32 then (if (bt x0 x3) = 9 then (if (bt x0 x3) = 127 then (some false) else (broadsheetref18_Value.l0 k x0 (wrap64 (x3 + 1)))) else (some false)) else (if (bt x0 x3) = 127 then (some false) else (broadsheetref18_Value.l0 k x0 (wrap64 (x3 + 1))))) else (none)) else ((broadsheetref18_Trim.f k x0).bind fun t238 => (some (t238.toList == x0.toList)))
def broadsheetref18_Value.f (k : Nat) (a0 : ByteArray) : Option (Bool) := broadsheetref18_Value.l0 k a0 0
set_option maxHeartbeats 8000000 in
set_option maxRecDepth 100000 in
theorem broadsheetref18_Value.calls (k : Nat) (a0 : ByteArray) (r : Bool) (w : World) (h : broadsheetref18_Value.f k a0 = some r) :
  Calls Tryz.prog 52 #[.string a0] w fun e w' => e = .returned (.bool r) ∧ Drawn0 w w' := by
 have H : (broadsheetref18_Value.l0 k a0 0) = some r := h
 clear h
 have H' := Aside0.mk H
 clear H
 go_enter Tryz.func52, Tryz.ntmps52
 go_wp2
 first | go_loopg [3] k (fun kq v3 w' => ∃ (x3_1 : Int), v3 = .int .i64 x3_1 ∧ Aside0 (broadsheetref18_Value.l0 kq a0 x3_1 = some r) ∧ Aside0 (kq ≤ k) ∧ Drawn0 w w') | (go_simp; go_loopg [3] k (fun kq v3 w' => ∃ (x3_1 : Int), v3 = .int .i64 x3_1 ∧ Aside0 (broadsheetref18_Value.l0 kq a0 x3_1 = some r) ∧ Aside0 (kq ≤ k) ∧ Drawn0 w w'))
 case atStart => exact ⟨(0), zb6, H', ⟨Nat.le_refl _⟩, by repeat (first | exact Drawn0.refl _ | apply Drawn0.step)⟩
 case round =>
  clear H'
  obtain ⟨x3_1, rfl, HA, HK1, ⟨m1, rfl⟩⟩ := hrel
  cases gk with
  | zero => exact absurd HA.out (by simp [broadsheetref18_Value.l0])
  | succ k1 =>
   have H := HA.out
   clear HA
   simp only [broadsheetref18_Value.l0] at H
   by_cases c2 : x3_1 < (a0.size : Int)
   ·rw [if_pos c2] at H
    have c2b0 : decide (x3_1 < (a0.size : Int)) = true := decide_eq_true c2
    clear c2
    by_cases c3 : 0 ≤ x3_1
    ·rw [if_pos c3] at H
     have c3b0 : decide (0 ≤ x3_1) = true := decide_eq_true c3
     clear c3
     by_cases c5 : (bt a0 x3_1) < 32
     ·rw [if_pos c5] at H
      have c5b0 : decide ((bt a0 x3_1) < 32) = true := decide_eq_true c5
      clear c5
      by_cases c7 : (bt a0 x3_1) = 9
      ·rw [if_pos c7] at H
       have c7b0 : ((bt a0 x3_1) == 9) = true := beq_iff_eq.mpr c7
       have c7b1 : ((bt a0 x3_1) != 9) = false := bne_eq_false_iff_eq.mpr c7
       clear c7
       by_cases c9 : (bt a0 x3_1) = 127
       ·rw [if_pos c9] at H
        have c9b0 : ((bt a0 x3_1) == 127) = true := beq_iff_eq.mpr c9
        have c9b1 : ((bt a0 x3_1) != 127) = false := bne_eq_false_iff_eq.mpr c9
        clear c9
        obtain rfl := Option.some.inj H
        have p4 : 0 ≤ (x3_1 : Int) := of_decide_eq_true zb2
        have q4 : x3_1 < (a0.size : Int) := of_decide_eq_true zb2
        have hx4 := bt_at a0 x3_1
        replace p4 := eq_true p4
        replace q4 := eq_true q4
        have p6 : 0 ≤ (x3_1 : Int) := of_decide_eq_true zb2
        have q6 : x3_1 < (a0.size : Int) := of_decide_eq_true zb2
        have hx6 := bt_at a0 x3_1
        replace p6 := eq_true p6
        replace q6 := eq_true q6
        have p8 : 0 ≤ (x3_1 : Int) := of_decide_eq_true zb2
        have q8 : x3_1 < (a0.size : Int) := of_decide_eq_true zb2
        have hx8 := bt_at a0 x3_1
        replace p8 := eq_true p8
        replace q8 := eq_true q8
        go_wp2
        go_ret
        exact ⟨by first | rfl | (simp; done) | (simp [*]; done), by repeat (first | exact Drawn0.refl _ | apply Drawn0.step)⟩
       ·rw [if_neg c9] at H
        have c9b0 : ((bt a0 x3_1) == 127) = false := beq_eq_false_iff_ne.mpr c9
        have c9b1 : ((bt a0 x3_1) != 127) = true := bne_iff_ne.mpr c9
        have H' := Aside0.mk H
        clear H
        have p4 : 0 ≤ (x3_1 : Int) := of_decide_eq_true zb2
        have q4 : x3_1 < (a0.size : Int) := of_decide_eq_true zb2
        have hx4 := bt_at a0 x3_1
        replace p4 := eq_true p4
        replace q4 := eq_true q4
        have p6 : 0 ≤ (x3_1 : Int) := of_decide_eq_true zb2
        have q6 : x3_1 < (a0.size : Int) := of_decide_eq_true zb2
        have hx6 := bt_at a0 x3_1
        replace p6 := eq_true p6
        replace q6 := eq_true q6
        have p8 : 0 ≤ (x3_1 : Int) := of_decide_eq_true zb2
        have q8 : x3_1 < (a0.size : Int) := of_decide_eq_true zb2
        have hx8 := bt_at a0 x3_1
        replace p8 := eq_true p8
        replace q8 := eq_true q8
        go_wp2
        go_roundg k1
        case measure => have := HK1.out; omega
        case rel => exact ⟨(wrap64 (x3_1 + 1)), zb6, H', ⟨by have := HK1.out; omega⟩, by repeat (first | exact Drawn0.refl _ | apply Drawn0.step)⟩
      ·rw [if_neg c7] at H
       have c7b0 : ((bt a0 x3_1) == 9) = false := beq_eq_false_iff_ne.mpr c7
       have c7b1 : ((bt a0 x3_1) != 9) = true := bne_iff_ne.mpr c7
       obtain rfl := Option.some.inj H
       have p4 : 0 ≤ (x3_1 : Int) := of_decide_eq_true zb2
       have q4 : x3_1 < (a0.size : Int) := of_decide_eq_true zb2
       have hx4 := bt_at a0 x3_1
       replace p4 := eq_true p4
       replace q4 := eq_true q4
       have p6 : 0 ≤ (x3_1 : Int) := of_decide_eq_true zb2
       have q6 : x3_1 < (a0.size : Int) := of_decide_eq_true zb2
       have hx6 := bt_at a0 x3_1
       replace p6 := eq_true p6
       replace q6 := eq_true q6
       go_wp2
       go_ret
       exact ⟨by first | rfl | (simp; done) | (simp [*]; done), by repeat (first | exact Drawn0.refl _ | apply Drawn0.step)⟩
     ·rw [if_neg c5] at H
      have c5b0 : decide ((bt a0 x3_1) < 32) = false := decide_eq_false c5
      clear c5
      by_cases c11 : (bt a0 x3_1) = 127
      ·rw [if_pos c11] at H
       have c11b0 : ((bt a0 x3_1) == 127) = true := beq_iff_eq.mpr c11
       have c11b1 : ((bt a0 x3_1) != 127) = false := bne_eq_false_iff_eq.mpr c11
       clear c11
       obtain rfl := Option.some.inj H
       have p4 : 0 ≤ (x3_1 : Int) := of_decide_eq_true zb2
       have q4 : x3_1 < (a0.size : Int) := of_decide_eq_true zb2
       have hx4 := bt_at a0 x3_1
       replace p4 := eq_true p4
       replace q4 := eq_true q4
       have p10 : 0 ≤ (x3_1 : Int) := of_decide_eq_true zb2
       have q10 : x3_1 < (a0.size : Int) := of_decide_eq_true zb2
       have hx10 := bt_at a0 x3_1
       replace p10 := eq_true p10
       replace q10 := eq_true q10
       go_wp2
       go_ret
       exact ⟨by first | rfl | (simp; done) | (simp [*]; done), by repeat (first | exact Drawn0.refl _ | apply Drawn0.step)⟩
      ·rw [if_neg c11] at H
       have c11b0 : ((bt a0 x3_1) == 127) = false := beq_eq_false_iff_ne.mpr c11
       have c11b1 : ((bt a0 x3_1) != 127) = true := bne_iff_ne.mpr c11
       have H' := Aside0.mk H
       clear H
       have p4 : 0 ≤ (x3_1 : Int) := of_decide_eq_true zb2
       have q4 : x3_1 < (a0.size : Int) := of_decide_eq_true zb2
       have hx4 := bt_at a0 x3_1
       replace p4 := eq_true p4
       replace q4 := eq_true q4
       have p10 : 0 ≤ (x3_1 : Int) := of_decide_eq_true zb2
       have q10 : x3_1 < (a0.size : Int) := of_decide_eq_true zb2
       have hx10 := bt_at a0 x3_1
       replace p10 := eq_true p10
       replace q10 := eq_true q10
       go_wp2
       go_roundg k1
       case measure => have := HK1.out; omega
       case rel => exact ⟨(wrap64 (x3_1 + 1)), zb6, H', ⟨by have := HK1.out; omega⟩, by repeat (first | exact Drawn0.refl _ | apply Drawn0.step)⟩
    ·rw [if_neg c3] at H
     exact absurd H zb25
   ·rw [if_neg c2] at H
    have c2b0 : decide (x3_1 < (a0.size : Int)) = false := decide_eq_false c2
    clear c2
    replace H := Option.bind_eq_some_iff.mp H
    obtain ⟨t238, A120, H⟩ := H
    replace H : (some (t238.toList == a0.toList)) = some r := H
    have A12 := Aside0.mk A120
    clear A120
    obtain rfl := Option.some.inj H
    go_wp2_with (first | ((with_reducible refine gate_callee (f := 67) rfl ?_); refine goesL_ (some 27) rfl rfl Tryz.func67 zb15 rfl #[.string a0] rfl zb1 ?_; (with_reducible refine (broadsheetref18_Trim.calls k1 a0 t238 _ A12.out).mono ?_); rintro e w' ⟨rfl, ⟨nd, rfl⟩⟩; refine ⟨_, rfl, ?_⟩))
    go_ret
    exact ⟨by first | rfl | (simp; done) | (simp [*]; done), by repeat (first | exact Drawn0.refl _ | apply Drawn0.step)⟩
end Go.Proofs.YteonhdfjfjpbjaaGreatDoor.P
/- SpF -/
namespace Go.Proofs.YteonhdfjfjpbjaaGreatDoor.Sp
open Go Go.RowKit Go.Proofs.YteonhdfjfjpbjaaGreatDoorW.PrintWords Go.Proofs.YteonhdfjfjpbjaaGreatDoorW.PrintLast Go.Proofs.YteonhdfjfjpbjaaGreatDoor.O Go.Proofs.YteonhdfjfjpbjaaGreatDoor.P
set_option linter.unusedVariables false
set_option linter.unusedSimpArgs false
theorem w1 (i : Nat) (h : i ≤ 1000000000000) : wrap64 ((i : Int) + 1) = ((i + 1 : Nat) : Int) := by rw [wrap_id (by omega) (by omega)]; omega
theorem w2 (i : Nat) (h : i ≤ 1000000000000) : wrap64 ((i : Int) + 2) = ((i + 2 : Nat) : Int) := by rw [wrap_id (by omega) (by omega)]; omega
theorem ext1 (c : UInt8) (r : L) : (mk (c :: r)).extract 1 (mk (c :: r)).size = mk r := by rw [ext_from]; rfl
theorem rskip_l0 : ∀ (s : L) (k : Nat), s.length < k → broadsheetref13_Skip.l0 k (mk s) = some (mk (skip s))
  | [], k, hk => by
    obtain ⟨k, rfl⟩ : ∃ k', k = k' + 1 := ⟨k - 1, by omega⟩
    rw [broadsheetref13_Skip.l0, if_neg (by rw [mk_size]; simp)]
    rfl
  | c :: r, k, hk => by
    obtain ⟨k, rfl⟩ : ∃ k', k = k' + 1 := ⟨k - 1, by omega⟩
    simp only [List.length_cons] at hk
    have ih := rskip_l0 r k (by omega)
    rw [broadsheetref13_Skip.l0, if_pos (by rw [mk_size]; simp only [List.length_cons]; omega), if_pos (by rw [mk_size]; simp only [List.length_cons]; omega), bt_head]
    have h32 : ((c.toNat : Int) = 32) ↔ c = 32 := u8i c 32 (by omega)
    have h9 : ((c.toNat : Int) = 9) ↔ c = 9 := u8i c 9 (by omega)
    by_cases c32 : c = 32
    · rw [if_pos (h32.2 c32), if_pos (by rw [mk_size]; simp only [List.length_cons]; omega), ext1, ih]
      unfold skip
      rw [List.dropWhile_cons_of_pos (by simp [bl, c32])]
    · rw [if_neg (fun h => c32 (h32.1 h))]
      by_cases c9 : c = 9
      · rw [if_pos (h9.2 c9), if_pos (by rw [mk_size]; simp only [List.length_cons]; omega), ext1, ih]
        unfold skip
        rw [List.dropWhile_cons_of_pos (by simp [bl, c9])]
      · rw [if_neg (fun h => c9 (h9.1 h))]
        unfold skip
        rw [List.dropWhile_cons_of_neg (by simp [bl, c32, c9])]
theorem rskipF (s : L) (k : Nat) (hk : s.length < k) : broadsheetref13_Skip.f k (mk s) = some (mk (skip s)) := rskip_l0 s k hk
theorem rtb_all : ∀ a : Fin 256, broadsheetref13_TokenByte.f 1 ((UInt8.ofNat a.val).toNat : Int) = some (tokB (UInt8.ofNat a.val)) := by decide +kernel
theorem rtbF (c : UInt8) (k : Nat) (hk : 1 ≤ k) : broadsheetref13_TokenByte.f k (c.toNat : Int) = some (tokB c) := by
  obtain ⟨k, rfl⟩ : ∃ k', k = k' + 1 := ⟨k - 1, by omega⟩
  obtain ⟨a, rfl⟩ := u8_fin c
  rw [← rtb_all a]
  rfl
theorem rtok_l0 (s : L) (hs : s.length ≤ 1000000000000) : ∀ (d k i : Nat), i + d = s.length → d + 1 < k →
    broadsheetref13_Token.l0 k (mk s) i = some (mk (s.take (i + ((s.drop i).takeWhile tokB).length)), mk (s.drop (i + ((s.drop i).takeWhile tokB).length))) := by
  intro d
  induction d with
  | zero =>
    intro k i hi hk
    obtain ⟨k, rfl⟩ : ∃ k', k = k' + 1 := ⟨k - 1, by omega⟩
    rw [broadsheetref13_Token.l0, if_neg (by rw [mk_size]; omega), if_pos (by omega), if_pos (by rw [mk_size]; omega), List.drop_eq_nil_of_le (by omega)]
    simp only [Int.toNat_natCast, List.takeWhile_nil, List.length_nil, Nat.add_zero, ext_to, ext_from]
  | succ d ih =>
    intro k i hi hk
    obtain ⟨k, rfl⟩ : ∃ k', k = k' + 1 := ⟨k - 1, by omega⟩
    obtain ⟨b, e1, e2⟩ := mk_bt s i (by omega)
    rw [broadsheetref13_Token.l0, if_pos (by rw [mk_size]; omega), if_pos (by omega), e2, rtbF b k (by omega)]
    simp only [Option.bind_some]
    by_cases ht : tokB b = true
    · rw [if_pos ht, w1 i (by omega), ih k (i + 1) (by omega) (by omega), e1, List.takeWhile_cons_of_pos ht]
      simp only [List.length_cons]
      rw [show i + 1 + ((s.drop (i + 1)).takeWhile tokB).length = i + (((s.drop (i + 1)).takeWhile tokB).length + 1) by omega]
    · rw [if_neg ht, if_pos (by rw [mk_size]; omega), e1, List.takeWhile_cons_of_neg ht]
      simp only [Int.toNat_natCast, List.length_nil, Nat.add_zero, ext_to, ext_from]
theorem rtokF (s : L) (k : Nat) (hs : s.length ≤ 1000000000000) (hk : s.length + 1 < k) : broadsheetref13_Token.f k (mk s) = some (mk (tok s).1, mk (tok s).2) := by
  unfold broadsheetref13_Token.f
  have := rtok_l0 s hs s.length k 0 (by omega) hk
  simp only [List.drop_zero, Nat.zero_add] at this
  rw [show (0 : Int) = ((0 : Nat) : Int) from rfl, this, take_tw, drop_tw]
  rfl
def nums (l : L) : List Int := l.map fun b => (b.toNat : Int)
theorem nums_str (l : L) : strOfNums (nums l) = mk l := by
  unfold strOfNums nums mk
  rw [List.map_map]
  have e : ((fun n : Int => UInt8.ofNat n.toNat) ∘ fun b : UInt8 => (b.toNat : Int)) = id := by
    funext b
    simp
  rw [e, List.map_id]
theorem nums_snoc (l : L) (b : UInt8) : nums l ++ [(b.toNat : Int)] = nums (l ++ [b]) := by simp [nums]
theorem nums_len (l : L) : (nums l).length = l.length := by simp [nums]
theorem lowB_int (b : UInt8) (h : 65 ≤ b.toNat ∧ b.toNat ≤ 90) : (((b.toNat : Int) + 32) % 256) = ((lowB b).toNat : Int) := by
  unfold lowB
  rw [if_pos h, UInt8.toNat_ofNat']
  omega
theorem rlow_l0 (s : L) (hs : s.length ≤ 1000000000000) : ∀ (d k i : Nat) (acc : L), i + d = s.length → d < k → acc.length ≤ i → broadsheetref07_Lower.l0 k (mk s) (nums acc) i = some (mk (acc ++ low (s.drop i))) := by
  intro d
  induction d with
  | zero =>
    intro k i acc hi hk ha
    obtain ⟨k, rfl⟩ : ∃ k', k = k' + 1 := ⟨k - 1, by omega⟩
    rw [broadsheetref07_Lower.l0, if_neg (by rw [mk_size]; omega), List.drop_eq_nil_of_le (by omega), nums_str]
    simp [low]
  | succ d ih =>
    intro k i acc hi hk ha
    obtain ⟨k, rfl⟩ : ∃ k', k = k' + 1 := ⟨k - 1, by omega⟩
    obtain ⟨b, e1, e2⟩ := mk_bt s i (by omega)
    have hlen : (nums acc).length < 140737488355328 := by rw [nums_len]; omega
    rw [broadsheetref07_Lower.l0, if_pos (by rw [mk_size]; omega), if_pos (by omega), e2, w1 i (by omega)]
    have hfin : ∀ x : UInt8, x = lowB b → broadsheetref07_Lower.l0 k (mk s) (nums acc ++ [(x.toNat : Int)]) ((i + 1 : Nat) : Int) = some (mk (acc ++ low (s.drop i))) := fun x hx => by
      rw [nums_snoc, ih k (i + 1) (acc ++ [x]) (by omega) (by omega) (by simp; omega), e1, hx]
      simp [low]
    by_cases h1 : (b.toNat : Int) ≥ 65
    · rw [if_pos h1]
      by_cases h2 : (b.toNat : Int) ≤ 90
      · rw [if_pos h2, if_pos hlen, lowB_int b (by omega)]
        exact hfin _ rfl
      · rw [if_neg h2, if_pos hlen]
        exact hfin b (by unfold lowB; rw [if_neg (by omega)])
    · rw [if_neg h1, if_pos hlen]
      exact hfin b (by unfold lowB; rw [if_neg (by omega)])
theorem rlowF (s : L) (k : Nat) (hs : s.length ≤ 1000000000000) (hk : s.length < k) : broadsheetref07_Lower.f k (mk s) = some (mk (low s)) := by
  have := rlow_l0 s hs s.length k 0 [] (by omega) hk (by simp)
  rwa [List.nil_append, List.drop_zero] at this
theorem ctl_cases (b : UInt8) {α : Type} (x y : α) : (if (b.toNat : Int) < 32 then (if (b.toNat : Int) = 9 then (if (b.toNat : Int) = 127 then x else y) else x) else (if (b.toNat : Int) = 127 then x else y)) = if ctl b = true then x else y := by
  have h9 : ((b.toNat : Int) = 9) ↔ b = 9 := u8i b 9 (by omega)
  have h127 : ((b.toNat : Int) = 127) ↔ b = 127 := u8i b 127 (by omega)
  unfold ctl
  by_cases h1 : (b.toNat : Int) < 32
  · have h1' : b.toNat < 32 := by omega
    rw [if_pos h1]
    by_cases h2 : b = 9
    · rw [if_pos (h9.2 h2), if_neg (by rw [h9.2 h2]; decide), if_neg (by simp [h2])]
    · rw [if_neg (fun h => h2 (h9.1 h)), if_pos (by simp [h1', h2])]
  · have h1' : ¬ b.toNat < 32 := by omega
    rw [if_neg h1]
    by_cases h2 : b = 127
    · rw [if_pos (h127.2 h2), if_pos (by simp [h2])]
    · rw [if_neg (fun h => h2 (h127.1 h)), if_neg (by simp [h1', h2])]
theorem parsIs_ok {o : Option (List (L × L))} {acc : List (L × L)} {q : List S49 × Bool} (h : parsIs o acc q) : q.2 = o.isSome := by
  unfold parsIs at h
  cases o with
  | none => rw [h]; rfl
  | some l => simp only at h; rw [h]; rfl
theorem rtrim_l0 : ∀ (n : Nat) (s : L) (k : Nat), s.length ≤ n → n < k → s.length ≤ 1000000000000 → broadsheetref18_Trim.l0 k (mk s) = some (mk (skip s.reverse).reverse) := by
  intro n
  induction n with
  | zero =>
    intro s k hn hk hs
    obtain ⟨k, rfl⟩ : ∃ k', k = k' + 1 := ⟨k - 1, by omega⟩
    obtain rfl : s = [] := List.eq_nil_of_length_eq_zero (by omega)
    rw [broadsheetref18_Trim.l0, if_neg (by rw [mk_size]; simp)]
    rfl
  | succ n ih =>
    intro s k hn hk hs
    obtain ⟨k, rfl⟩ : ∃ k', k = k' + 1 := ⟨k - 1, by omega⟩
    rw [broadsheetref18_Trim.l0]
    by_cases h0 : s = []
    · subst h0
      rw [if_neg (by rw [mk_size]; simp)]
      rfl
    have hp : 0 < s.length := List.length_pos_iff.2 h0
    have hw : wrap64 ((((mk s).size : Nat) : Int) - 1) = ((s.length - 1 : Nat) : Int) := by rw [mk_size, wrap_id (by omega) (by omega)]; omega
    obtain ⟨b, e1, e2⟩ := mk_bt s (s.length - 1) (by omega)
    have e3 : s.drop (s.length - 1 + 1) = [] := List.drop_eq_nil_of_le (by omega)
    rw [e3] at e1
    have es : s = s.take (s.length - 1) ++ [b] := by rw [← e1, List.take_append_drop]
    rw [hw, if_pos (by rw [mk_size]; omega), if_pos (by omega), if_pos (by rw [mk_size]; omega), e2]
    have h32 : ((b.toNat : Int) = 32) ↔ b = 32 := u8i b 32 (by omega)
    have h9 : ((b.toNat : Int) = 9) ↔ b = 9 := u8i b 9 (by omega)
    simp only [Int.toNat_natCast, ext_to]
    have hI := ih (s.take (s.length - 1)) k (by rw [List.length_take]; omega) (by omega) (by rw [List.length_take]; omega)
    have hrev : s.reverse = b :: (s.take (s.length - 1)).reverse := by conv => lhs; rw [es]; simp
    have hgo : bl b = true → skip s.reverse = skip (s.take (s.length - 1)).reverse := fun h => by
      rw [hrev]
      unfold skip
      rw [List.dropWhile_cons_of_pos h]
    by_cases c32 : b = 32
    · rw [if_pos (h32.2 c32), if_pos (by rw [mk_size]; omega), hI, hgo (by simp [bl, c32])]
    · rw [if_neg (fun h => c32 (h32.1 h))]
      by_cases c9 : b = 9
      · rw [if_pos (h9.2 c9), if_pos (by rw [mk_size]; omega), hI, hgo (by simp [bl, c9])]
      · rw [if_neg (fun h => c9 (h9.1 h))]
        have : skip s.reverse = s.reverse := by
          rw [hrev]
          unfold skip
          rw [List.dropWhile_cons_of_neg (by simp [bl, c32, c9])]
        rw [this, List.reverse_reverse]
theorem rtrimF (s : L) (k : Nat) (hs : s.length ≤ 1000000000000) (hk : s.length < k) : broadsheetref18_Trim.f k (mk s) = some (mk (trim s)) := by
  have := skip_len s
  unfold broadsheetref18_Trim.f
  rw [rskipF s k hk]
  simp only [Option.bind_some]
  rw [rtrim_l0 s.length (skip s) k (by omega) hk (by omega)]
  rfl
theorem rvalue_l0 (s : L) (hs : s.length ≤ 1000000000000) : ∀ (d k i : Nat), i + d = s.length → d + s.length + 1 < k →
    broadsheetref18_Value.l0 k (mk s) i = some ((s.drop i).all (fun c => !ctl c) && decide (trim s = s)) := by
  intro d
  induction d with
  | zero =>
    intro k i hi hk
    obtain ⟨k, rfl⟩ : ∃ k', k = k' + 1 := ⟨k - 1, by omega⟩
    rw [broadsheetref18_Value.l0, if_neg (by rw [mk_size]; omega), rtrimF s k hs (by omega), List.drop_eq_nil_of_le (by omega)]
    simp only [Option.bind_some, tl_mk, List.all_nil, Bool.true_and]
    congr 1
    rw [Bool.eq_iff_iff]
    simp
  | succ d ih =>
    intro k i hi hk
    obtain ⟨k, rfl⟩ : ∃ k', k = k' + 1 := ⟨k - 1, by omega⟩
    obtain ⟨b, e1, e2⟩ := mk_bt s i (by omega)
    rw [broadsheetref18_Value.l0, if_pos (by rw [mk_size]; omega), if_pos (by omega), e2, w1 i (by omega), ctl_cases, e1, List.all_cons, ih k (i + 1) (by omega) (by omega)]
    cases hc : ctl b <;> simp
theorem rfvalF (s : L) (k : Nat) (hs : s.length ≤ 1000000000000) (hk : 2 * s.length + 2 < k) : broadsheetref18_Value.f k (mk s) = some (fval s) := by
  have := rvalue_l0 s hs s.length k 0 (by omega) (by omega)
  rw [List.drop_zero] at this
  exact this
/-- What a reader of fields gives, as texts. -/
def fldB (r : List (L × L) × L × Int) : List S49 × ByteArray × Int := (pairsB r.1, mk r.2.1, r.2.2)
end Go.Proofs.YteonhdfjfjpbjaaGreatDoor.Sp
/- SpB -/
namespace Go.Proofs.YteonhdfjfjpbjaaGreatDoor.Sp
open Go
set_option linter.unusedVariables false
set_option linter.unusedSimpArgs false
theorem hexC_all : ∀ a : Fin 16, hexV (hexC a.val) = some a.val ∧ hexC a.val ≠ 13 ∧ hexC a.val ≠ 10 := by decide +kernel
theorem hexC_v (n : Nat) (h : n < 16) : hexV (hexC n) = some n := (hexC_all ⟨n, h⟩).1
theorem hexC_ne (n : Nat) (h : n < 16) : hexC n ≠ 13 := (hexC_all ⟨n, h⟩).2.1
theorem hexD_lt {n : Nat} (h : n < 16) : hexD n = [hexC n] := by rw [hexD, dif_pos h]
theorem hexD_ge {n : Nat} (h : ¬ n < 16) : hexD n = hexD (n / 16) ++ [hexC (n % 16)] := by rw [hexD, dif_neg h]
theorem hexD_all (n : Nat) : ∀ c ∈ hexD n, hexB c = true ∧ c ≠ 13 := by
  induction n using Nat.strongRecOn with
  | _ n ih =>
    intro c hc
    by_cases h : n < 16
    · rw [hexD_lt h] at hc
      obtain rfl := List.mem_singleton.1 hc
      exact ⟨by unfold hexB; rw [hexC_v n h]; rfl, hexC_ne n h⟩
    · rw [hexD_ge h] at hc
      rcases List.mem_append.1 hc with hc | hc
      · exact ih (n / 16) (by omega) c hc
      · obtain rfl := List.mem_singleton.1 hc
        exact ⟨by unfold hexB; rw [hexC_v _ (by omega)]; rfl, hexC_ne _ (by omega)⟩
theorem hexD_ne (n : Nat) : hexD n ≠ [] := by
  by_cases h : n < 16
  · rw [hexD_lt h]; simp
  · rw [hexD_ge h]; simp
theorem hexN_app (a b : L) : hexN (a ++ b) = b.foldl (fun n c => n * 16 + (hexV c).getD 0) (hexN a) := by unfold hexN; rw [List.foldl_append]
theorem hexN_D (n : Nat) : hexN (hexD n) = n := by
  induction n using Nat.strongRecOn with
  | _ n ih =>
    by_cases h : n < 16
    · rw [hexD_lt h]
      simp [hexN, hexC_v n h]
    · rw [hexD_ge h, hexN_app, ih (n / 16) (by omega)]
      simp [hexC_v (n % 16) (by omega)]
      omega
theorem hexD_len (j : Nat) : ∀ n, n < 16 ^ (j + 1) → (hexD n).length ≤ j + 1 := by
  induction j with
  | zero =>
    intro n h
    rw [hexD_lt (by omega)]
    simp
  | succ j ih =>
    intro n h
    by_cases h2 : n < 16
    · rw [hexD_lt h2]; simp
    · rw [hexD_ge h2]
      have := ih (n / 16) (by rw [Nat.pow_succ] at h; omega)
      simp only [List.length_append, List.length_singleton]
      omega
theorem takeWhile_all {p : UInt8 → Bool} : ∀ {l : L}, (∀ c ∈ l, p c = true) → l.takeWhile p = l ∧ l.dropWhile p = []
  | [], _ => ⟨rfl, rfl⟩
  | c :: r, h => by
    have hc := h c (by simp)
    obtain ⟨h1, h2⟩ := takeWhile_all (l := r) (fun x hx => h x (by simp [hx]))
    exact ⟨by rw [List.takeWhile_cons_of_pos hc, h1], by rw [List.dropWhile_cons_of_pos hc, h2]⟩
theorem pars_nil : pars [] = some [] := by simp [pars, params, skip]
theorem csize_D (n : Nat) (h : n ≤ 100000) : csize (hexD n) = some n := by
  obtain ⟨h1, h2⟩ := takeWhile_all (p := hexB) (l := hexD n) (fun c hc => (hexD_all n c hc).1)
  have hl := hexD_len 7 n (by omega)
  unfold csize
  rw [h1, h2, pars_nil, if_neg (by simp [hexD_ne]; omega), hexN_D]
theorem line_hex (n : Nat) (b : L) : line (hexD n ++ 13 :: 10 :: b) = some (hexD n, b) := by
  have h13 : 13 ∉ hexD n := fun h => (hexD_all n 13 h).2 rfl
  refine line_app _ _ (fun x y e => h13 (by rw [e]; simp)) (fun e => h13 (List.mem_of_getLast? e))
theorem line_crlf (b : L) : line (13 :: 10 :: b) = some ([], b) := by simp [line]
theorem fields_crlf (b : L) : fields (13 :: 10 :: b) = ([], b, 0) := by
  unfold fields
  rw [fparse, line_crlf]
  simp
  omega
theorem csize_0 : csize [48] = some 0 := by
  have h : hexD 0 = [48] := by rw [hexD_lt (by omega)]; rfl
  rw [← h]
  exact csize_D 0 (by omega)
theorem decode_end (f : Nat) (b acc : L) : decode (f + 1) (48 :: 13 :: 10 :: 13 :: 10 :: b) acc = (acc, b, 0) := by
  have e : line (48 :: 13 :: 10 :: 13 :: 10 :: b) = some ([48], 13 :: 10 :: b) := by simp [line]
  have c : csize [48] = some 0 := csize_0
  rw [decode, e]
  simp only [c, fields_crlf]
  simp
theorem decode_enc (n : Nat) (hn : 1 ≤ n) (b : L) : ∀ (d f g : Nat) (s acc : L), s.length ≤ d → d < f → d < g → s.length + acc.length ≤ 100000 → decode f (encode g s n ++ b) acc = (acc ++ s, b, 0) := by
  intro d
  induction d with
  | zero =>
    intro f g s acc hs hf hg hb
    obtain ⟨f, rfl⟩ : ∃ f', f = f' + 1 := ⟨f - 1, by omega⟩
    obtain ⟨g, rfl⟩ : ∃ g', g = g' + 1 := ⟨g - 1, by omega⟩
    obtain rfl : s = [] := List.eq_nil_of_length_eq_zero (by omega)
    rw [encode, if_pos rfl, List.append_nil]
    exact decode_end f b acc
  | succ d ih =>
    intro f g s acc hs hf hg hb
    obtain ⟨f, rfl⟩ : ∃ f', f = f' + 1 := ⟨f - 1, by omega⟩
    obtain ⟨g, rfl⟩ : ∃ g', g = g' + 1 := ⟨g - 1, by omega⟩
    by_cases h0 : s = []
    · subst h0
      rw [encode, if_pos rfl, List.append_nil]
      exact decode_end f b acc
    · have hp : 0 < s.length := List.length_pos_iff.2 h0
      rw [encode, if_neg h0]
      obtain ⟨m, hm⟩ : ∃ m, m = min n s.length := ⟨_, rfl⟩
      have hm1 : 1 ≤ m := by omega
      have et : s.take n = s.take m := by rw [hm]; exact (List.take_eq_take_min).trans (by rfl)
      have ed : s.drop n = s.drop m := by
        by_cases h : n ≤ s.length
        · rw [show m = n by omega]
        · rw [List.drop_eq_nil_of_le (by omega), List.drop_eq_nil_of_le (by omega)]
      rw [← hm, et, ed]
      have e1 : hexD m ++ [13, 10] ++ s.take m ++ [13, 10] ++ encode g (s.drop m) n ++ b = hexD m ++ 13 :: 10 :: (s.take m ++ (13 :: 10 :: (encode g (s.drop m) n ++ b))) := by simp
      have hl : (s.take m).length = m := by rw [List.length_take]; omega
      rw [e1, decode, line_hex]
      simp only [csize_D m (by omega)]
      rw [if_neg (by omega), if_neg (by omega), if_neg (by rw [List.length_append]; omega)]
      have d1 : (s.take m ++ (13 :: 10 :: (encode g (s.drop m) n ++ b))).drop m = 13 :: 10 :: (encode g (s.drop m) n ++ b) := by
        rw [List.drop_append_of_le_length (by omega), List.drop_eq_nil_of_le (by omega)]; rfl
      have d2 : (s.take m ++ (13 :: 10 :: (encode g (s.drop m) n ++ b))).drop (m + 2) = encode g (s.drop m) n ++ b := by
        rw [← List.drop_drop, d1]; rfl
      have d3 : (s.take m ++ (13 :: 10 :: (encode g (s.drop m) n ++ b))).take m = s.take m := by
        rw [List.take_append_of_le_length (by omega), List.take_of_length_le (by omega)]
      rw [d1, d2, d3, if_neg (by simp)]
      rw [ih f g (s.drop m) (acc ++ s.take m) (by rw [List.length_drop]; omega) (by omega) (by omega) (by rw [List.length_drop, List.length_append, hl]; omega)]
      rw [List.append_assoc, List.take_append_drop]
theorem enc_back (s b : L) (n : Nat) (hn : 1 ≤ n) (hs : s.length ≤ 100000) (f : Nat) (hf : s.length < f) : decode f (enc s n ++ b) [] = (s, b, 0) := by
  unfold enc
  have := decode_enc n hn b s.length f (s.length + 1) s [] (Nat.le_refl _) hf (by omega) (by simpa using hs)
  simpa using this
end Go.Proofs.YteonhdfjfjpbjaaGreatDoor.Sp
/- SpE -/
namespace Go.Proofs.YteonhdfjfjpbjaaGreatDoor.Sp
open Go Go.RowKit Go.Proofs.YteonhdfjfjpbjaaGreatDoorW.PrintWords Go.Proofs.YteonhdfjfjpbjaaGreatDoorW.PrintLast Go.Proofs.YteonhdfjfjpbjaaGreatDoor.O Go.Proofs.YteonhdfjfjpbjaaGreatDoor.P
set_option linter.unusedVariables false
set_option linter.unusedSimpArgs false
def hexS : L := [48, 49, 50, 51, 52, 53, 54, 55, 56, 57, 97, 98, 99, 100, 101, 102, 65, 66, 67, 68, 69, 70]
theorem hexS_all : ∀ a : Fin 256, hexS.contains (UInt8.ofNat a.val) = hexB (UInt8.ofNat a.val) ∧ isHex ((UInt8.ofNat a.val).toNat : Int) = hexB (UInt8.ofNat a.val) ∧ (hexB (UInt8.ofNat a.val) = true → hexI ((UInt8.ofNat a.val).toNat : Int) = (((hexV (UInt8.ofNat a.val)).getD 0 : Nat) : Int)) ∧ (hexV (UInt8.ofNat a.val)).getD 0 < 16 := by decide +kernel
theorem hex_eq : (hexS.contains · : UInt8 → Bool) = hexB := by
  funext c
  obtain ⟨a, rfl⟩ := u8_fin c
  exact (hexS_all a).1
theorem isHex_b (c : UInt8) : isHex (c.toNat : Int) = hexB c := by
  obtain ⟨a, rfl⟩ := u8_fin c
  exact (hexS_all a).2.1
theorem hexI_b (c : UInt8) (h : hexB c = true) : hexI (c.toNat : Int) = (((hexV c).getD 0 : Nat) : Int) := by
  obtain ⟨a, rfl⟩ := u8_fin c
  exact (hexS_all a).2.2.1 h
theorem hexV_lt (c : UInt8) : (hexV c).getD 0 < 16 := by
  obtain ⟨a, rfl⟩ := u8_fin c
  exact (hexS_all a).2.2.2
theorem trimHexF (l : L) : strings_TrimLeft.f (mk l) (mk hexS) = some (mk (l.dropWhile hexB)) := by
  unfold strings_TrimLeft.f
  rw [if_pos ⟨by decide, by decide⟩, mk_data, mk_data]
  unfold Lib.trimLeftS
  rw [hex_eq]
  rfl
theorem hexN_snoc (a : L) (c : UInt8) : hexN (a ++ [c]) = hexN a * 16 + (hexV c).getD 0 := by rw [hexN_app]; rfl
theorem hexN_lt (a : L) : hexN a < 16 ^ a.length := by
  suffices h : ∀ (n : Nat) (a : L), a.length = n → hexN a < 16 ^ n from h _ a rfl
  intro n
  induction n with
  | zero =>
    intro a ha
    rw [List.eq_nil_of_length_eq_zero ha]
    decide
  | succ n ih =>
    intro a ha
    have hne : a ≠ [] := by rintro rfl; simp at ha
    rw [← List.dropLast_concat_getLast hne, hexN_snoc, Nat.pow_succ]
    have h1 := ih a.dropLast (by rw [List.length_dropLast]; omega)
    have h2 := hexV_lt (a.getLast hne)
    omega
theorem puR_eq (s : L) (hs : s.length ≤ 8) (hx : ∀ c ∈ s, hexB c = true) : ∀ (f k : Nat), k + f = s.length → puR (mk s) f k ((hexN (s.take k) : Nat) : Int) = (((hexN s : Nat) : Int), none) := by
  intro f
  induction f with
  | zero =>
    intro k hk
    rw [puR, List.take_of_length_le (by omega)]
  | succ f ih =>
    intro k hk
    obtain ⟨b, e1, e2⟩ := mk_bt s k (by omega)
    have hb : b ∈ s := List.mem_of_mem_drop (by rw [e1]; simp)
    have hlt := hexN_lt (s.take k)
    have hk2 : (s.take k).length = k := by rw [List.length_take]; omega
    have h16 : 16 ^ k ≤ 16 ^ 8 := Nat.pow_le_pow_right (by decide) (by omega)
    rw [hk2] at hlt
    have hpow : (16 : Nat) ^ 8 = 4294967296 := by decide
    have et : s.take (k + 1) = s.take k ++ [b] := by
      have hd : s = s.take k ++ (b :: s.drop (k + 1)) := by rw [← e1, List.take_append_drop]
      have : (s.take k ++ (b :: s.drop (k + 1))).take (k + 1) = s.take k ++ [b] := by
        rw [List.take_append, hk2]
        simp
        rw [List.take_of_length_le (by omega)]
      rw [← hd] at this
      exact this
    rw [puR, if_neg (by omega), e2, hexI_b b (hx b hb)]
    have e3 : ((hexN (s.take k) : Nat) : Int) * 16 + (((hexV b).getD 0 : Nat) : Int) = ((hexN (s.take (k + 1)) : Nat) : Int) := by rw [et, hexN_snoc]; omega
    rw [e3]
    exact ih (k + 1) (by omega)
theorem puS_eq (s : L) (hs : s.length ≤ 8) (hx : ∀ c ∈ s, hexB c = true) (hne : s ≠ []) : puS (mk s) = (((hexN s : Nat) : Int), none) := by
  unfold puS
  rw [mk_size, if_neg (fun h => hne (List.eq_nil_of_length_eq_zero h))]
  have := puR_eq s hs hx s.length 0 (by omega)
  simpa [hexN] using this
theorem puF (s : L) (hs : s.length ≤ 100000000000) (hx : ∀ c ∈ s, hexB c = true) : strconv_ParseUint.f (mk s) 16 64 = some (puS (mk s)) := by
  have hh : allHex (mk s) = true := by
    unfold allHex
    rw [List.all_eq_true]
    intro j hj
    rw [List.mem_range, mk_size] at hj
    obtain ⟨b, e1, e2⟩ := mk_bt s j hj
    rw [e2, isHex_b]
    exact hx b (List.mem_of_mem_drop (by rw [e1]; simp))
  unfold strconv_ParseUint.f
  rw [if_pos ⟨rfl, rfl, hh, by rw [mk_size]; omega⟩]
theorem sizeF (l : L) (k : Nat) (hl : l.length ≤ 10000000000) (hk : 3 * l.length + 10 ≤ k) : ∃ n, chunk_size.f k (mk l) = some (n, (csize l).isSome) ∧ (∀ m, csize l = some m → n = (m : Int)) := by
  have hsum : (l.takeWhile hexB).length + (l.dropWhile hexB).length = l.length := by
    have := congrArg List.length (List.takeWhile_append_dropWhile (p := hexB) (l := l))
    rwa [List.length_append] at this
  have hx : ∀ c ∈ l.takeWhile hexB, hexB c = true := fun c hc => mem_tw hc
  have e0 : l.take (l.takeWhile hexB).length = l.takeWhile hexB := take_tw hexB l
  have e1 : l.drop (l.takeWhile hexB).length = l.dropWhile hexB := drop_tw hexB l
  have htw := puF (l.takeWhile hexB) (by omega) hx
  obtain ⟨q, hq, hp⟩ := paramsF (l.dropWhile hexB) k (by omega) (by omega)
  have hok := parsIs_ok hp
  unfold chunk_size.f
  rw [show (⟨#[48, 49, 50, 51, 52, 53, 54, 55, 56, 57, 97, 98, 99, 100, 101, 102, 65, 66, 67, 68, 69, 70]⟩ : ByteArray) = mk hexS from rfl, trimHexF]
  simp only [Option.bind_some, mk_size]
  have hw : wrap64 ((l.length : Int) - ((l.dropWhile hexB).length : Int)) = (((l.takeWhile hexB).length : Nat) : Int) := by rw [wrap_id (by omega) (by omega)]; omega
  rw [hw, if_pos (by omega), if_pos (by omega)]
  simp only [Int.toNat_natCast, ext_to, e0, mk_size]
  rw [if_pos (by omega), if_pos (by omega)]
  have e2 : (mk l).extract (l.takeWhile hexB).length l.length = mk (l.dropWhile hexB) := by
    have := ext_from l (l.takeWhile hexB).length
    rw [mk_size, e1] at this
    exact this
  rw [e2, hq]
  simp only [Option.bind_some]
  rw [htw]
  simp only [Option.bind_some]
  simp only at hok
  rw [hok]
  by_cases c1 : l.takeWhile hexB = []
  · have hc : csize l = none := by unfold csize; rw [if_pos (.inl c1)]
    have hz : puS (mk []) = (0, some 0) := by unfold puS; rw [if_pos (by rw [mk_size]; rfl)]
    rw [hc, c1, hz]
    simp only [Option.isNone_some, Bool.false_eq_true, if_false]
    cases (pars (l.dropWhile hexB)).isSome <;> exact ⟨_, rfl, by simp⟩
  by_cases c2 : 8 < (l.takeWhile hexB).length
  · have hc : csize l = none := by unfold csize; rw [if_pos (.inr (.inl c2))]
    rw [hc, decide_eq_false (by omega)]
    refine ⟨wrap64 (puS (mk (l.takeWhile hexB))).1, ?_, by simp⟩
    cases (pars (l.dropWhile hexB)).isSome <;> cases (puS (mk (l.takeWhile hexB))).2 <;> rfl
  rw [puS_eq _ (by omega) hx c1, decide_eq_true (by omega)]
  cases c3 : pars (l.dropWhile hexB) with
  | none =>
    have hc : csize l = none := by unfold csize; rw [if_pos (.inr (.inr c3))]
    rw [hc]
    exact ⟨_, rfl, by simp⟩
  | some ps =>
    have hc : csize l = some (hexN (l.takeWhile hexB)) := by unfold csize; rw [if_neg (by simp [c1, c2, c3])]
    have hlt := hexN_lt (l.takeWhile hexB)
    have h16 : 16 ^ (l.takeWhile hexB).length ≤ 16 ^ 8 := Nat.pow_le_pow_right (by decide) (by omega)
    have hpow : (16 : Nat) ^ 8 = 4294967296 := by decide
    refine ⟨((hexN (l.takeWhile hexB) : Nat) : Int), ?_, fun m hm => by rw [hc] at hm; obtain rfl := Option.some.inj hm; rfl⟩
    rw [hc]
    simp only [Option.isNone_none, Option.isSome_some, if_true]
    rw [wrap_id (by omega) (by omega)]
def txt3 (r : L × L × Int) : ByteArray × ByteArray × Int := (mk r.1, mk r.2.1, r.2.2)
theorem fldF (s : L) (hs : s.length < 4294967281) : field_Parse.f (mk s) = some (fldB (fields s)) := by
  unfold field_Parse.f fieldsB
  rw [if_pos (by rw [mk_size]; exact hs), mk_data]
  rfl
theorem partF (s : L) (n had : Nat) (hs : s.length ≤ 100000000000) (hn : n ≤ 100000000000) (hh : had ≤ 100000) : chunk_part.f (mk s) n had = some (txt3 (if n + had > 100000 then ([], [], 2) else if s.length < n then ([], [], 190) else if (s.drop n).take 2 ≠ [13, 10] then ([], [], 190) else (s.take n, s.drop (n + 2), 0))) := by
  unfold chunk_part.f
  have hw : wrap64 (100000 - (had : Int)) = ((100000 - had : Nat) : Int) := by rw [wrap_id (by omega) (by omega)]; omega
  rw [hw, mk_size]
  by_cases h1 : n + had > 100000
  · rw [if_pos (by omega), if_pos h1]; rfl
  rw [if_neg (by omega), if_neg h1]
  by_cases h2 : s.length < n
  · rw [if_pos (by omega), if_pos h2]; rfl
  rw [if_neg (by omega), if_neg h2, if_pos (by omega), if_pos (by omega)]
  have e2 : (mk s).extract (((n : Nat) : Int)).toNat s.length = mk (s.drop n) := by
    have := ext_from s n
    rw [mk_size] at this
    exact this
  rw [e2, show (⟨#[13, 10]⟩ : ByteArray) = mk [13, 10] from rfl, cutPF]
  simp only [Option.bind_some, Int.toNat_natCast, ext_to]
  by_cases h3 : (s.drop n).take 2 = [13, 10]
  · have hp : hasP (s.drop n) [13, 10] = true := by unfold hasP; exact decide_eq_true h3
    rw [if_pos hp, if_neg (show ¬ ((s.drop n).take 2 ≠ [13, 10]) from fun h => h h3)]
    simp only [if_true, List.length_cons, List.length_nil, List.drop_drop]
    rfl
  · have hp : ¬ hasP (s.drop n) [13, 10] = true := by unfold hasP; intro h; exact h3 (of_decide_eq_true h)
    rw [if_neg hp, if_pos h3]
    rfl
theorem csize_lt {l : L} {n : Nat} (h : csize l = some n) : n ≤ 4294967296 := by
  unfold csize at h
  split at h
  · simp at h
  · rename_i hc
    obtain rfl := Option.some.inj h
    have hlt := hexN_lt (l.takeWhile hexB)
    have h8 : ¬ 8 < (l.takeWhile hexB).length := fun h => hc (.inr (.inl h))
    have h16 : 16 ^ (l.takeWhile hexB).length ≤ 16 ^ 8 := Nat.pow_le_pow_right (by decide) (by omega)
    have hpow : (16 : Nat) ^ 8 = 4294967296 := by decide
    omega
theorem line_cut (s : L) : (line s = none ∧ Lib.cut s [13, 10] = (s, [], false)) ∨ (∃ p, line s = some p ∧ Lib.cut s [13, 10] = (p.1, p.2, true)) := by
  cases e : line s with
  | none =>
    have hb : lineB (mk s) = none := by unfold lineB; rw [mk_data, e]; rfl
    have := cut_none (mk s) hb
    rw [mk_data] at this
    exact .inl ⟨rfl, this⟩
  | some p =>
    have hb : lineB (mk s) = some (mk p.1, mk p.2) := by unfold lineB; rw [mk_data, e]; rfl
    have := cut_some (mk s) (mk p.1) (mk p.2) hb
    rw [mk_data, mk_data, mk_data] at this
    exact .inr ⟨p, rfl, this⟩
theorem decode_l0 : ∀ (d f k : Nat) (s acc : L), s.length ≤ d → d < f → 5 * d + 30 ≤ k → s.length < 4294967281 → acc.length ≤ 100000 →
    chunk_Decode.l0 k (mk s) (mk acc) = some (txt3 (decode f s acc)) := by
  intro d
  induction d with
  | zero =>
    intro f k s acc hs hf hk hl ha
    obtain ⟨k, rfl⟩ : ∃ k', k = k' + 2 := ⟨k - 2, by omega⟩
    obtain ⟨f, rfl⟩ : ∃ f', f = f' + 1 := ⟨f - 1, by omega⟩
    obtain rfl : s = [] := List.eq_nil_of_length_eq_zero (by omega)
    have e : Lib.cut ([] : L) [13, 10] = ([], [], false) := by decide
    rw [chunk_Decode.l0, show (⟨#[13, 10]⟩ : ByteArray) = mk [13, 10] from rfl, cut_l, if_pos (by simp), e]
    simp only [Option.bind_some]
    obtain ⟨n, hn, _⟩ := sizeF [] (k + 1) (by simp) (by simp; omega)
    rw [hn]
    simp only [Option.bind_some]
    rw [if_neg (by decide), chunk_Decode.j1, if_pos rfl]
    rfl
  | succ d ih =>
    intro f k s acc hs hf hk hl ha
    obtain ⟨k, rfl⟩ : ∃ k', k = k' + 2 := ⟨k - 2, by omega⟩
    obtain ⟨f, rfl⟩ : ∃ f', f = f' + 1 := ⟨f - 1, by omega⟩
    rw [chunk_Decode.l0, show (⟨#[13, 10]⟩ : ByteArray) = mk [13, 10] from rfl, cut_l, if_pos hl, decode]
    rcases line_cut s with ⟨e1, e2⟩ | ⟨p, e1, e2⟩
    · rw [e1, e2]
      simp only [Option.bind_some]
      obtain ⟨n, hn, _⟩ := sizeF s (k + 1) (by omega) (by omega)
      rw [hn]
      simp only [Option.bind_some]
      rw [if_neg (by decide), chunk_Decode.j1, if_pos rfl]
      rfl
    · obtain ⟨l, more⟩ := p
      rw [e1, e2]
      have hll := congrArg List.length (line_len s _ e1)
      simp only [List.length_append, List.length_cons] at hll
      simp only [Option.bind_some]
      obtain ⟨n, hn, hm⟩ := sizeF l (k + 1) (by omega) (by omega)
      rw [hn]
      simp only [Option.bind_some, if_true]
      rw [chunk_Decode.j1]
      cases ec : csize l with
      | none =>
        rw [if_pos (by rfl)]
        rfl
      | some m =>
        have hnm := hm m ec
        subst hnm
        have hmb := csize_lt ec
        rw [if_neg (by simp)]
        simp only
        by_cases h0 : m = 0
        · rw [if_pos (by omega), if_pos h0, fldF more (by omega)]
          simp only [Option.bind_some]
          by_cases hz : (fields more).2.2 = 0
          · rw [if_pos (show (fldB (fields more)).2.2 = 0 from hz), if_pos hz]
            rfl
          · rw [if_neg (show ¬ (fldB (fields more)).2.2 = 0 from hz), if_neg hz]
            rfl
        · rw [if_neg (by omega), if_neg h0]
          have eL : Builder_Len.f (mk acc) = some (((acc.length : Nat) : Int), mk acc) := by unfold Builder_Len.f; rw [mk_size]
          rw [eL]
          simp only [Option.bind_some]
          rw [partF more m acc.length (by omega) (by omega) ha]
          simp only [Option.bind_some]
          by_cases h1 : m + acc.length > 100000
          · rw [if_pos h1, if_pos h1, if_neg (by decide)]
            rfl
          rw [if_neg h1, if_neg h1]
          by_cases h2 : more.length < m
          · rw [if_pos h2, if_pos h2, if_neg (by decide)]
            rfl
          rw [if_neg h2, if_neg h2]
          by_cases h3 : (more.drop m).take 2 ≠ [13, 10]
          · rw [if_pos h3, if_pos h3, if_neg (by decide)]
            rfl
          rw [if_neg h3, if_neg h3, if_pos (by rfl)]
          have htl : (more.take m).length = m := by rw [List.length_take]; omega
          have eW : Builder_WriteString.f (mk acc) (txt3 (more.take m, more.drop (m + 2), 0)).1 = some ((((more.take m).length : Nat) : Int), none, mk (acc ++ more.take m)) := by
            unfold Builder_WriteString.f txt3
            simp only [mk_size]
            rw [if_pos (by omega), mk_append]
          rw [eW]
          simp only [Option.bind_some]
          exact ih f k (more.drop (m + 2)) (acc ++ more.take m) (by rw [List.length_drop]; omega) (by omega) (by omega) (by rw [List.length_drop]; omega) (by rw [List.length_append, htl]; omega)
theorem decodeF (s : L) (k : Nat) (hs : s.length < 4294967281) (hk : 5 * s.length + 30 ≤ k) : chunk_Decode.f k (mk s) = some (txt3 (dec s)) :=
  decode_l0 s.length (s.length + 1) k s [] (Nat.le_refl _) (by omega) hk hs (by simp)
theorem mn_nat (n : Int) (s : L) (h : 1 ≤ n) : mn n ((s.length : Nat) : Int) = ((min n.toNat s.length : Nat) : Int) := by
  unfold mn
  omega
/-- What is told of a body, and the error. -/
def encR (s : L) (n : Int) : L × Int := if n < 1 then ([], 1) else if s.length > 100000 then ([], 2) else (enc s n.toNat, 0)
end Go.Proofs.YteonhdfjfjpbjaaGreatDoor.Sp
/- Oreq -/
namespace Go.Proofs.YteonhdfjfjpbjaaGreatDoor.Sp
open Go.RowKit Go.Proofs.YteonhdfjfjpbjaaGreatDoorW.PrintWords Go.Proofs.YteonhdfjfjpbjaaGreatDoorW.PrintLast Go.Proofs.YteonhdfjfjpbjaaGreatDoor.O Go.Proofs.YteonhdfjfjpbjaaGreatDoor.P
set_option linter.unusedVariables false
set_option linter.unusedSimpArgs false
def hostL : L := [104, 111, 115, 116]
def clenL : L := [99, 111, 110, 116, 101, 110, 116, 45, 108, 101, 110, 103, 116, 104]
def tencL : L := [116, 114, 97, 110, 115, 102, 101, 114, 45, 101, 110, 99, 111, 100, 105, 110, 103]
def chunkedL : L := [99, 104, 117, 110, 107, 101, 100]
def httpL : L := [72, 84, 84, 80, 47, 49, 46, 49]
def bodyS (l : List (L × L)) (s : L) : L × Int :=
  if 1 < (get l clenL).2 ∨ (0 < (get l clenL).2 ∧ 0 < (get l tencL).2) then ([], 190)
  else if 0 < (get l tencL).2 then (if low (get l tencL).1 = chunkedL then (if (dec s).2.2 = 0 then (if (dec s).2.1 = [] then ((dec s).1, 0) else ([], 190)) else ([], (dec s).2.2)) else ([], 190))
  else if 0 < (get l clenL).2 then (s, sizeE s.length (get l clenL).1)
  else if s = [] then ([], 0) else ([], 190)
def firstS (a b c : L) : Bool := decide (c = httpL) && targetB (mk b) && decide ((tok a).1 ≠ []) && decide ((tok a).2 = [])
def zq (e : Int) : L × L × List (L × L) × L × Int := ([], [], [], [], e)
def restS (a b r : L) : L × L × List (L × L) × L × Int :=
  if (fields r).2.2 ≠ 0 then zq (fields r).2.2
  else if (get (fields r).1 hostL).2 ≠ 1 then zq 180
  else if (bodyS (fields r).1 (fields r).2.1).2 ≠ 0 then zq (bodyS (fields r).1 (fields r).2.1).2
  else (a, b, (fields r).1, (bodyS (fields r).1 (fields r).2.1).1, 0)
def reqS (s : L) : L × L × List (L × L) × L × Int :=
  match line s with
  | none => zq (if 8000 < s.length then 2 else 200)
  | some (l, r) => if 8000 < l.length then zq (if 8000 < s.length then 2 else 200) else match Mn.cut 32 l with
    | [a, b, c] => if firstS a b c = true then restS a b r else zq 200
    | _ => zq 200
theorem pairOf_len {l : L} {p : L × L} (h : pairOf l = some p) : p.1.length ≤ l.length ∧ p.2.length ≤ l.length := by
  have h1 : (tok l).1.length ≤ l.length := tw_len _ _
  have h2 : (tok l).2.length ≤ l.length := dw_len _ _
  unfold pairOf at h
  split at h
  · cases h
  · split at h
    · cases h
    · split at h
      · obtain rfl := Option.some.inj h
        have := trim_len (tok l).2.tail
        rw [List.length_tail] at this
        exact ⟨by rw [low_len]; exact h1, by simp only; omega⟩
      · cases h
theorem fparse_len (N M : Nat) : ∀ (f : Nat) (s : L) (acc : List (L × L)), s.length ≤ M → acc.length + s.length ≤ M → (∀ p ∈ acc, p.1.length ≤ M ∧ p.2.length ≤ M) →
    (fparse N f s acc).1.length ≤ M ∧ (∀ p ∈ (fparse N f s acc).1, p.1.length ≤ M ∧ p.2.length ≤ M) ∧ (fparse N f s acc).2.1.length ≤ M := by
  intro f
  induction f with
  | zero => intro s acc _ _ _; simp [fparse]
  | succ f ih =>
    intro s acc hs ha hp
    rw [fparse]
    cases e : line s with
    | none => simp
    | some p =>
      obtain ⟨l, more⟩ := p
      have hl := congrArg List.length (line_len s _ e)
      simp only [List.length_append, List.length_cons] at hl
      simp only
      split
      · simp
      · split
        · exact ⟨by simp only; omega, hp, by simp only; omega⟩
        · cases e2 : pairOf l with
          | none => simp
          | some q =>
            have hq := pairOf_len e2
            refine ih more (acc ++ [q]) zb17 (by rw [List.length_append, List.length_singleton]; omega) (fun p hpm => ?_)
            rcases List.mem_append.1 hpm with hpm | hpm
            · exact hp p hpm
            · obtain rfl := List.mem_singleton.1 hpm
              exact ⟨by omega, by omega⟩
theorem fields_len (s : L) : (fields s).1.length ≤ s.length ∧ (∀ p ∈ (fields s).1, p.1.length ≤ s.length ∧ p.2.length ≤ s.length) ∧ (fields s).2.1.length ≤ s.length :=
  fparse_len s.length s.length _ s [] (Nat.le_refl _) zb25 zb25
theorem joinTail_len (M : Nat) (r : List L) (h : ∀ x ∈ r, x.length ≤ M) : (Lib.joinTail [44, 32] r).length ≤ r.length * (M + 2) := by
  induction r with
  | nil => simp [Lib.joinTail]
  | cons x r ih =>
    have h1 := ih (fun y hy => h y (List.mem_cons_of_mem _ hy))
    have h2 := h x List.mem_cons_self
    have e : Lib.joinTail [44, 32] (x :: r) = [44, 32] ++ x ++ Lib.joinTail [44, 32] r := by simp [Lib.joinTail]
    rw [e]
    simp only [List.length_append, List.length_cons, List.length_nil]
    rw [Nat.add_mul, Nat.one_mul]
    omega
theorem join_len (M : Nat) (l : List L) (h : ∀ x ∈ l, x.length ≤ M) : (Lib.join l [44, 32]).length ≤ l.length * (M + 2) := by
  cases l with
  | nil => simp [Lib.join_nil]
  | cons x r =>
    have h1 := joinTail_len M r (fun y hy => h y (List.mem_cons_of_mem _ hy))
    have h2 := h x List.mem_cons_self
    rw [Lib.join_cons, List.length_append, List.length_cons, Nat.succ_mul]
    omega
theorem vals_len (l : List (L × L)) (n : L) : (vals l n).length ≤ l.length := by
  unfold vals
  rw [List.length_map]
  exact List.length_filter_le _ _
theorem get_len (l : List (L × L)) (n : L) (M : Nat) (h : ∀ p ∈ l, p.2.length ≤ M) : (get l n).1.length ≤ l.length * (M + 2) := by
  have h1 := join_len M (vals l n) (fun x hx => by
    unfold vals at hx
    obtain ⟨p, hp, rfl⟩ := List.mem_map.1 hx
    exact h p (List.mem_filter.1 hp).1)
  exact Nat.le_trans h1 (Nat.mul_le_mul_right _ (vals_len l n))
theorem split_l (l : L) (hl : l.length < 4294967281) : strings_Split.f (mk l) ⟨#[32]⟩ = some ((Mn.cut 32 l).map mk) := by
  unfold strings_Split.f
  rw [if_pos ⟨by rw [mk_size]; exact hl, by decide⟩]
  have h := Mn.split_cut 32 (mk l)
  rw [mk_data] at h
  rw [← h, List.map_map]
  congr 1
  conv => lhs; rw [← List.map_id (Lib.splitB ⟨#[32]⟩ 0 (Lib.countB (mk l) ⟨#[32]⟩) (mk l))]
  exact List.map_congr_left (fun x _ => (mk_self x).symm)
theorem line_does (s l r : L) (ok : Bool) (w : World) (hG : Glob w) (hs : s.length ≤ 1000000) (hl : l.length ≤ s.length) (hc : Lib.cut s [13, 10] = (l, r, ok)) :
    LineDoes w (mk s) (mk r) ((Mn.cut 32 l).map mk) (lnE (mk s) (mk l) ok ((Mn.cut 32 l).map mk) (mk (tok ((Mn.cut 32 l).headD [])).1) (mk (tok ((Mn.cut 32 l).headD [])).2)) := by
  intro g W hb hP
  refine line_in g (mk s) (mk l) (mk r) _ _ ok _ (l.length + 1) _ _ _ _ _ W (hG.below hb) hP ?_ (split_l l zb17) (fun a b c he => ?_) rfl
  · rw [show (⟨#[13, 10]⟩ : ByteArray) = mk [13, 10] from rfl, cut_l, if_pos zb17, hc]
  · match e : Mn.cut 32 l, he with
    | [x, y, z], he =>
      simp only [List.map_cons, List.map_nil, List.cons.injEq] at he
      obtain ⟨rfl, _⟩ := he
      have hx : x.length ≤ l.length := Mn.cut_part 32 l x (by rw [e]; exact List.mem_cons_self)
      exact tokF x _ zb17 zb17
theorem head_does (r : L) (w : World) (hG : Glob w) (hr : r.length ≤ 1000000) : HeadDoes w (mk r) (mk (fields r).2.1) (pairsB (fields r).1) (heE (get (fields r).1 hostL).2 (fields r).2.2) := by
  intro g m t W hb hP
  have hf := fields_len r
  refine head_in g (mk r) (mk (fields r).2.1) (mk (get (fields r).1 hostL).1) _ (fields r).2.2 (get (fields r).1 hostL).2 (r.length + 1) m t _ _ _ W (hG.below hb) hP (fldF r zb17) (fun _ => ?_) rfl
  refine getF _ hostL _ zb20 zb17 (fun p hp => by have := hf.2.1 p hp; omega) ?_ zb17
  exact Nat.le_trans (get_len _ _ r.length (fun p hp => (hf.2.1 p hp).2)) (Nat.le_trans (Nat.mul_le_mul hf.1 (Nat.le_refl _)) (Nat.le_trans (Nat.mul_le_mul (show r.length ≤ 1000000 from hr) (show r.length + 2 ≤ 1000002 by omega)) zb20))
def bodyE (l : List (L × L)) (r : L) : Int := boE (get l clenL).2 (get l tencL).2 (chE (mk (low (get l tencL).1)) (mk (dec r).2.1) (dec r).2.2) (sizedE (mk r) (mk (get l clenL).1)) (mk r)
def bodyB (l : List (L × L)) (r : L) : ByteArray := boB (get l clenL).2 (get l tencL).2 (mk r) (mk (dec r).1)
theorem body_does (l : List (L × L)) (r : L) (M : Nat) (w : World) (hG : Glob w) (hM : M ≤ 900000) (hr : r.length ≤ M) (hl : l.length ≤ M) (hp : ∀ p ∈ l, p.1.length ≤ M ∧ p.2.length ≤ M) : BodyDoes w (mk r) (bodyB l r) (pairsB l) (bodyE l r) := by
  intro g base m t v W hb hP hO
  have hj : ∀ n, (get l n).1.length ≤ 810001800000 := fun n => Nat.le_trans (get_len _ _ M (fun p h => (hp p h).2)) (Nat.le_trans (Nat.mul_le_mul (show l.length ≤ 900000 by omega) (show M + 2 ≤ 900002 by omega)) zb20)
  have h1 := hj clenL
  have h2 := hj tencL
  refine body_in g base (mk r) (mk (get l clenL).1) (mk (get l tencL).1) (mk (low (get l tencL).1)) (mk (dec r).1) (mk (dec r).2.1) _ _ _ (dec r).2.2 (5 * M + 40) m t v _ W (hG.below hb) hP hO
    (getF l clenL _ zb20 zb17 (fun p h => by have := hp p h; omega) zb17 zb17) (getF l tencL _ zb20 zb17 (fun p h => by have := hp p h; omega) zb17 zb17)
    (lowF _ zb17) (decodeF r _ zb17 zb17) (by rw [mk_size]; omega) (by rw [mk_size]; omega) rfl
def reqB (s : ByteArray) : ByteArray × ByteArray × List S49 × ByteArray × Int := (mk (reqS s.data.toList).1, mk (reqS s.data.toList).2.1, pairsB (reqS s.data.toList).2.2.1, mk (reqS s.data.toList).2.2.2.1, (reqS s.data.toList).2.2.2.2)
theorem body_E (l : List (L × L)) (r : L) : bodyE l r = (bodyS l r).2 ∧ ((bodyS l r).2 = 0 → bodyB l r = mk (bodyS l r).1) := by
  unfold bodyE bodyB bodyS boE boB chE
  rw [sizedE_eq, mk_size, mk_data]
  simp only [tl_mk]
  rw [show ([99, 104, 117, 110, 107, 101, 100] : List UInt8) = chunkedL from rfl]
  by_cases h1 : 1 < (get l clenL).2 ∨ (0 < (get l clenL).2 ∧ 0 < (get l tencL).2)
  · rw [if_pos h1, if_pos h1]
    exact ⟨rfl, fun h => absurd h zb20⟩
  · rw [if_neg h1, if_neg h1]
    by_cases h2 : 0 < (get l tencL).2
    · rw [if_pos h2, if_pos h2, if_pos h2]
      by_cases h3 : low (get l tencL).1 = chunkedL
      · rw [if_pos h3, if_pos h3]
        by_cases h4 : (dec r).2.2 = 0
        · rw [if_pos h4, if_pos h4]
          by_cases h5 : (dec r).2.1 = []
          · rw [if_pos h5, if_pos h5]
            exact ⟨rfl, fun _ => rfl⟩
          · rw [if_neg h5, if_neg h5]
            exact ⟨rfl, fun h => absurd h zb20⟩
        · rw [if_neg h4, if_neg h4]
          exact ⟨rfl, fun h => absurd h h4⟩
      · rw [if_neg h3, if_neg h3]
        exact ⟨rfl, fun h => absurd h zb20⟩
    · rw [if_neg h2, if_neg h2, if_neg h2]
      by_cases h3 : 0 < (get l clenL).2
      · rw [if_pos h3, if_pos h3, if_pos h3]
        exact ⟨rfl, fun _ => rfl⟩
      · rw [if_neg h3, if_neg h3, if_neg h3]
        by_cases h4 : r = []
        · rw [if_pos h4, if_pos h4]
          exact ⟨rfl, fun _ => rfl⟩
        · rw [if_neg h4, if_neg h4]
          exact ⟨rfl, fun h => absurd h zb20⟩
theorem head_E (n e : Int) : heE n e = if e ≠ 0 then e else if n ≠ 1 then 180 else 0 := by
  unfold heE
  by_cases h1 : e = 0 <;> by_cases h2 : n = 1 <;> simp [h1, h2]
def Told (s : ByteArray) (w : World) (q : L × L × List (L × L) × L × Int) : Prop :=
  Calls Tryz.prog 17 #[.string s] w fun e w' => ∃ v0_ : Value, e = .returned (.tuple #[.agg #[.string (mk q.1), .string (mk q.2.1), v0_, .string (mk q.2.2.2.1)], .int .i64 q.2.2.2.2]) ∧ Kd.R k49 49 w' w.heap.size (fun _ => True) v0_ (pairsB q.2.2.1) ∧ Below w.heap.size w w'
theorem told_z {s : ByteArray} {w : World} {E : Int} (h : Calls Tryz.prog 17 #[.string s] w fun e w' => e = .returned (.tuple #[.agg #[.string ⟨#[]⟩, .string ⟨#[]⟩, .slice none 0 0, .string ⟨#[]⟩], .int .i64 E]) ∧ Below w.heap.size w w') : Told s w (zq E) := by
  refine h.mono ?_
  rintro e w' ⟨rfl, hb⟩
  exact ⟨_, rfl, Kd.R_nil _ _ _ _ _, hb⟩
theorem rest_told (s a b c r : L) (w : World) (hG : Glob w) (hs : s.length ≤ 900000) (hr : r.length ≤ s.length) (hL : LineDoes w (mk s) (mk r) [mk a, mk b, mk c] 0) : Told (mk s) w (restS a b r) := by
  have hf := fields_len r
  have hH := head_does r w hG zb17
  have hB := body_does (fields r).1 (fields r).2.1 s.length w hG hs zb17 zb17 (fun p hp => by have := hf.2.1 p hp; omega)
  rw [head_E] at hH
  have hE := body_E (fields r).1 (fields r).2.1
  rw [hE.1] at hB
  unfold restS
  by_cases h1 : (fields r).2.2 = 0
  · rw [if_neg (by simpa using h1)] at hH ⊢
    by_cases h2 : (get (fields r).1 hostL).2 = 1
    · rw [if_neg (by simpa using h2)] at hH ⊢
      by_cases h3 : (bodyS (fields r).1 (fields r).2.1).2 = 0
      · rw [if_neg (by simpa using h3)]
        rw [h3] at hB
        rw [hE.2 h3] at hB
        refine (req_ok (mk s) (mk r) _ _ _ _ w hL hH hB).mono ?_
        rintro e w' ⟨a', b', c', v, hw, rfl, hR, hb⟩
        simp only [List.cons.injEq] at hw
        obtain ⟨rfl, rfl, rfl, _⟩ := hw
        exact ⟨v, rfl, hR, hb⟩
      · rw [if_pos h3]
        exact told_z (req_err3 (mk s) (mk r) _ _ _ _ _ w h3 hL hH hB)
    · rw [if_pos h2] at hH ⊢
      exact told_z (req_err2 (mk s) (mk r) _ _ _ _ w zb20 hL hH)
  · rw [if_pos h1] at hH ⊢
    exact told_z (req_err2 (mk s) (mk r) _ _ _ _ w h1 hL hH)
theorem req_told (s : L) (w : World) (hG : Glob w) (hs : s.length ≤ 900000) : Told (mk s) w (reqS s) := by
  unfold reqS
  rcases line_cut s with ⟨e1, e2⟩ | ⟨⟨l, r⟩, e1, e2⟩
  · rw [e1]
    have h := line_does s s [] false w hG zb17 (Nat.le_refl _) e2
    refine told_z (req_err1 (mk s) (mk []) _ _ w ?_ (by
      have : lnE (mk s) (mk s) false ((Mn.cut 32 s).map mk) (mk (tok ((Mn.cut 32 s).headD [])).1) (mk (tok ((Mn.cut 32 s).headD [])).2) = if 8000 < s.length then 2 else 200 := by
        unfold lnE
        rw [if_pos (Or.inl rfl), mk_size]
      rw [this] at h
      exact h))
    split <;> decide
  · rw [e1]
    have hll := congrArg List.length (line_len s _ e1)
    simp only [List.length_append, List.length_cons] at hll
    have h := line_does s l r true w hG zb17 zb17 e2
    simp only
    by_cases h8 : 8000 < l.length
    · rw [if_pos h8]
      refine told_z (req_err1 (mk s) (mk r) _ _ w ?_ (by
        have : lnE (mk s) (mk l) true ((Mn.cut 32 l).map mk) (mk (tok ((Mn.cut 32 l).headD [])).1) (mk (tok ((Mn.cut 32 l).headD [])).2) = if 8000 < s.length then 2 else 200 := by
          unfold lnE
          rw [if_pos (Or.inr (by rw [mk_size]; exact h8)), mk_size]
        rw [this] at h
        exact h))
      split <;> decide
    · rw [if_neg h8]
      have hE : lnE (mk s) (mk l) true ((Mn.cut 32 l).map mk) (mk (tok ((Mn.cut 32 l).headD [])).1) (mk (tok ((Mn.cut 32 l).headD [])).2) = match (Mn.cut 32 l).map mk with
        | [a, b, c] => if firstOk a b c (mk (tok ((Mn.cut 32 l).headD [])).1) (mk (tok ((Mn.cut 32 l).headD [])).2) = true then 0 else 200
        | _ => 200 := by
        unfold lnE
        rw [if_neg (by rw [mk_size]; simpa using h8)]
        rfl
      rw [hE] at h
      clear hE
      generalize Mn.cut 32 l = ws at *
      match ws, h with
      | [a, b, c], h =>
        simp only [List.map_cons, List.map_nil] at h ⊢
        have hf : firstOk (mk a) (mk b) (mk c) (mk (tok a).1) (mk (tok a).2) = firstS a b c := by
          unfold firstOk firstS
          rw [tl_mk, tl_mk, tl_mk]
          rfl
        have h' : LineDoes w (mk s) (mk r) [mk a, mk b, mk c] (if firstOk (mk a) (mk b) (mk c) (mk (tok a).1) (mk (tok a).2) = true then 0 else 200) := h
        have hfE : (if firstOk (mk a) (mk b) (mk c) (mk (tok a).1) (mk (tok a).2) = true then (0 : Int) else 200) = if firstS a b c = true then 0 else 200 := by simp only [hf]
        rw [hfE] at h'
        replace h := h'
        by_cases h1 : firstS a b c = true
        · rw [if_pos h1] at h ⊢
          exact rest_told s a b c r w hG hs zb17 h
        · rw [if_neg h1] at h ⊢
          exact told_z (req_err1 (mk s) (mk r) _ _ w zb20 h)
      | [], h => exact told_z (req_err1 (mk s) (mk r) _ _ w zb20 h)
      | [_], h => exact told_z (req_err1 (mk s) (mk r) _ _ w zb20 h)
      | [_, _], h => exact told_z (req_err1 (mk s) (mk r) _ _ w zb20 h)
      | _ :: _ :: _ :: _ :: _, h => exact told_z (req_err1 (mk s) (mk r) _ _ w zb20 h)
end Go.Proofs.YteonhdfjfjpbjaaGreatDoor.Sp
namespace Go.Proofs.YteonhdfjfjpbjaaGreatDoor.O
open Go.RowKit Go.Proofs.YteonhdfjfjpbjaaGreatDoorW.PrintWords Go.Proofs.YteonhdfjfjpbjaaGreatDoorW.PrintLast Go.Proofs.YteonhdfjfjpbjaaGreatDoorW.PrintMore Go.Proofs.YteonhdfjfjpbjaaGreatDoor.P
def request_Parse.f (a0 : ByteArray) : Option (ByteArray × ByteArray × List S49 × ByteArray × Int) := if a0.size ≤ 900000 then some (Sp.reqB a0) else none
theorem request_Parse.calls (a0 : ByteArray) (r1 r2 : ByteArray) (r3 : List S49) (r4 : ByteArray) (r5 : Int) (w : World) (hG : Glob w) (h : request_Parse.f a0 = some (r1, r2, r3, r4, r5)) :
    Calls Tryz.prog 17 #[.string a0] w fun e w' => ∃ v0_ : Value, e = .returned (.tuple #[.agg #[.string r1, .string r2, v0_, .string r4], .int .i64 r5]) ∧ Kd.R k49 49 w' w.heap.size (fun _ => True) v0_ r3 ∧ Below w.heap.size w w' := by
  unfold request_Parse.f at h
  split at h
  case isFalse => exact absurd h zb25
  rename_i hs
  have h2 := Option.some.inj h
  have := Sp.req_told a0.data.toList w hG (by rw [← Lib.size_eq]; exact hs)
  unfold Sp.Told at this
  rw [Sp.mk_self] at this
  unfold Sp.reqB at h2
  simp only [Prod.mk.injEq] at h2
  obtain ⟨rfl, rfl, rfl, rfl, rfl⟩ := h2
  exact this
end Go.Proofs.YteonhdfjfjpbjaaGreatDoor.O
/- Oput -/
namespace Go.Proofs.YteonhdfjfjpbjaaGreatDoor.O
open Go.RowKit Go.Proofs.YteonhdfjfjpbjaaGreatDoorW.PrintWords Go.Proofs.YteonhdfjfjpbjaaGreatDoorW.PrintLast Go.Proofs.YteonhdfjfjpbjaaGreatDoorW.PrintMore Go.Proofs.YteonhdfjfjpbjaaGreatDoor.P Go.Proofs.YteonhdfjfjpbjaaGreatDoor.B
set_option linter.unusedVariables false
set_option linter.unusedSimpArgs false
def Builder_PutByte.f (s0 : ByteArray) (a1 : Int) : Option (Option Int × ByteArray) := if 0 ≤ a1 ∧ a1 ≤ 255 ∧ s0.size + 1 ≤ 140737488355328 then some (none, s0 ++ oneB a1) else none
theorem Builder_PutByte.calls (g : Nat) (s0_0 : ByteArray) (a1 : Int) (r1 : Option Int) (r2 : ByteArray) (w0 w : World) (hI : IsS54 w0 w g s0_0) (hB : Below w0.heap.size w0 w) (h : Builder_PutByte.f s0_0 a1 = some (r1, r2)) :
    Calls Tryz.prog 48 #[.pointer (some ⟨g, 0, none⟩), .int .u8 a1] w fun e w' => e = .returned (errW r1) ∧ IsS54 w0 w' g r2 ∧ Below w0.heap.size w0 w' ∧ KeepB 5 w w' g := by
  unfold Builder_PutByte.f at h
  split at h
  case isFalse => exact absurd h zb25
  rename_i hb
  obtain ⟨rfl, rfl⟩ : none = r1 ∧ s0_0 ++ oneB a1 = r2 := by simpa using h
  refine (Tryz.Builder_WriteByte_k w0.heap.size g _ a1 w hI (by rw [cells_len]; exact hb.2.2) hB.size).mono ?_
  rintro e w' ⟨rfl, h2, h3, h4⟩
  rw [byte_cell s0_0 a1 hb.1 hb.2.1] at h2
  exact ⟨rfl, .inr h2, hB.trans h3, ⟨h4⟩⟩
end Go.Proofs.YteonhdfjfjpbjaaGreatDoor.O
/- Px17 -/
namespace Go.Proofs.YteonhdfjfjpbjaaGreatDoor.P
open Go.Proofs.YteonhdfjfjpbjaaGreatDoor.B
open Go.RowKit Go.Proofs.YteonhdfjfjpbjaaGreatDoorW.PrintWords Go.Proofs.YteonhdfjfjpbjaaGreatDoorW.PrintLast Go.Proofs.YteonhdfjfjpbjaaGreatDoorW.PrintMore
attribute [local go_sem] str_leq str_gtr str_geq max2_int min2_int max_two min_two max_three min_three max_four min_four
set_option linter.unusedVariables false
set_option linter.unusedSimpArgs false
open Go.Proofs.YteonhdfjfjpbjaaGreatDoor.O
mutual
def request_Percent.l0 : Nat → ByteArray → ByteArray → Option (ByteArray × Bool)
  | 0, _, _ => none
  | k + 1, x0, x188000 => (strings_Cut.f x0 (⟨#[37]⟩ : ByteArray)).bind fun bt188 => ((Builder_WriteString.f x188000 bt188.1).bind fun bt191 => (if bt188.2.2 = true then (if (bt188.2.1.size : Int) < 2 then (request_Percent.j1 k bt188.2.1 true bt191.2.2) else (if 0 ≤ 2 then (if 2 ≤ (bt188.2.1.size : Int) then ((strings_Trim.f (bt188.2.1.extract 0 2) (⟨#[48, 49, 50, 51, 52, 53, 54, 55, 56, 57, 97, 98, 99, 100, 101, 102, 65, 66, 67, 68, 69, 70]⟩ : ByteArray)).bind fun t196 => (request_Percent.j1 k bt188.2.1 (t196.toList != ([] : List UInt8)) bt191.2.2)) else (none)) else (none))) else ((Builder_String.f bt191.2.2).bind fun bt194 => (some (bt194.1, true)))))
def request_Percent.j1 : Nat → ByteArray → Bool → ByteArray → Option (ByteArray × Bool)
  | 0, _, _, _ => none
  | k + 1, x6, x29, x188000 => if x29 = true then (some ((⟨#[]⟩ : ByteArray), false)) else (if 0 ≤ 2 then (if 2 ≤ (x6.size : Int) then ((strconv_ParseUint.f (x6.extract 0 2) 16 64).bind fun bt197 => (if bt197.2.isNone = true then ((Builder_PutByte.f x188000 ((bt197.1) % 256)).bind fun bt200 => (request_Percent.l0 k (x6.extract 2 x6.size) bt200.2)) else ((Builder_PutByte.f x188000 ((bt197.1) % 256)).bind fun bt202 => (request_Percent.l0 k (x6.extract 2 x6.size) bt202.2)))) else (none)) else (none))
end
def request_Percent.f (k : Nat) (a0 : ByteArray) : Option (ByteArray × Bool) := request_Percent.l0 k a0 (⟨#[]⟩ : ByteArray)
set_option maxHeartbeats 8000000 in
set_option maxRecDepth 100000 in
theorem request_Percent.calls (k : Nat) (a0 : ByteArray) (r1 : ByteArray) (r2 : Bool) (w : World) (hG : Glob w) (h : request_Percent.f k a0 = some (r1, r2)) :
  Calls Tryz.prog 20 #[.string a0] w fun e w' => e = .returned (.tuple #[.string r1, .bool r2]) ∧ Below w.heap.size w w' := by
 have hu54 := Tryz.underlying54
 have HB := Aside0.mk (Below.refl w.heap.size w)
 have hGA := Aside0.mk hG
 clear hG
 have H : (request_Percent.l0 k a0 (⟨#[]⟩ : ByteArray)) = some (r1, r2) := h
 clear h
 have H' := Aside0.mk H
 clear H
 go_enter Tryz.func20, Tryz.ntmps20
 go_wp2_with (first | ((with_reducible refine gate_dst (N := 4) rfl ?_); refine box_event ?hg (N := 4) ?hd (cs := #[.pointer none, .slice none 0 0]) (t := 54) ?hr ?_; (case hd => rfl); (case hg => rfl); (case hr => first | (go_simp; done) | (go_simp; rfl)); intro gb187 hg w2 hbox hb; have n0_ := Aside0.mk (below_step zb0 hb); have n1_ := Aside0.mk ((by rw [hg]; exact (below_size zb0) : w.heap.size ≤ gb187)); have n2_ := Aside0.mk ((by rw [hg]; exact (below_size zb0) : w.heap.size ≤ gb187)); have n3_ := Aside0.mk ((show IsS54 w w2 gb187 (⟨#[]⟩ : ByteArray) from IsS54.new hbox zb40)); clear HB; have HB := n0_; have GW187 := n1_; have GE187 := n2_; have HI187 := n3_; clear n0_ n1_ n2_ n3_; clear hb hbox hg))
 first | go_loopg [0] k (fun kq v0 w' => ∃ (x0_1 : ByteArray) (x188000_1 : ByteArray), v0 = .string x0_1 ∧ Aside0 (request_Percent.l0 kq x0_1 x188000_1 = some (r1, r2)) ∧ Aside0 (kq ≤ k) ∧ Aside0 (IsS54 w w' gb187 x188000_1) ∧ Aside0 (Below w.heap.size w w')) | (go_simp; go_loopg [0] k (fun kq v0 w' => ∃ (x0_1 : ByteArray) (x188000_1 : ByteArray), v0 = .string x0_1 ∧ Aside0 (request_Percent.l0 kq x0_1 x188000_1 = some (r1, r2)) ∧ Aside0 (kq ≤ k) ∧ Aside0 (IsS54 w w' gb187 x188000_1) ∧ Aside0 (Below w.heap.size w w')))
 case atStart => exact ⟨(a0), ((⟨#[]⟩ : ByteArray)), zb39, H', ⟨Nat.le_refl _⟩, ⟨by repeat (first | (with_reducible first | exact HI187.out | apply IsS54.alloc | apply IsS54.drewN | apply IsS54.drew) | exact HI187.out)⟩, ⟨by repeat (first | (with_reducible first | exact HB.out | apply below_alloc | apply pw_below_drewN | apply below_drew1 | refine below_set ?_ (IsS54.ge HI187.out)) | exact HB.out)⟩⟩
 case round =>
  clear H'
  try clear c2
  try clear p2
  obtain ⟨x0_1, x188000_1, rfl, HA, HK1, HI187, HB⟩ := hrel
  cases gk with
  | zero => exact absurd HA.out (by simp [request_Percent.l0])
  | succ k1 =>
   have H := HA.out
   clear HA
   simp only [request_Percent.l0] at H
   replace H := Option.bind_eq_some_iff.mp H
   obtain ⟨⟨t188, t189, t190⟩, A30, H⟩ := H
   replace H : ((Builder_WriteString.f x188000_1 t188).bind fun bt191 => (if t190 = true then (if (t189.size : Int) < 2 then (request_Percent.j1 k1 t189 true bt191.2.2) else (if 0 ≤ 2 then (if 2 ≤ (t189.size : Int) then ((strings_Trim.f (t189.extract 0 2) (⟨#[48, 49, 50, 51, 52, 53, 54, 55, 56, 57, 97, 98, 99, 100, 101, 102, 65, 66, 67, 68, 69, 70]⟩ : ByteArray)).bind fun t196 => (request_Percent.j1 k1 t189 (t196.toList != ([] : List UInt8)) bt191.2.2)) else (none)) else (none))) else ((Builder_String.f bt191.2.2).bind fun bt194 => (some (bt194.1, true))))) = some (r1, r2) := H
   have A3 := Aside0.mk A30
   clear A30
   replace H := Option.bind_eq_some_iff.mp H
   obtain ⟨⟨t191, t192, t193⟩, A40, H⟩ := H
   replace H : (if t190 = true then (if (t189.size : Int) < 2 then (request_Percent.j1 k1 t189 true t193) else (if 0 ≤ 2 then (if 2 ≤ (t189.size : Int) then ((strings_Trim.f (t189.extract 0 2) (⟨#[48, 49, 50, 51, 52, 53, 54, 55, 56, 57, 97, 98, 99, 100, 101, 102, 65, 66, 67, 68, 69, 70]⟩ : ByteArray)).bind fun t196 => (request_Percent.j1 k1 t189 (t196.toList != ([] : List UInt8)) t193)) else (none)) else (none))) else ((Builder_String.f t193).bind fun bt194 => (some (bt194.1, true)))) = some (r1, r2) := H
   have A4 := Aside0.mk A40
   clear A40
   by_cases c5 : t190 = true
   ·subst c5
    replace H : (if (t189.size : Int) < 2 then (request_Percent.j1 k1 t189 true t193) else (if 0 ≤ 2 then (if 2 ≤ (t189.size : Int) then ((strings_Trim.f (t189.extract 0 2) (⟨#[48, 49, 50, 51, 52, 53, 54, 55, 56, 57, 97, 98, 99, 100, 101, 102, 65, 66, 67, 68, 69, 70]⟩ : ByteArray)).bind fun t196 => (request_Percent.j1 k1 t189 (t196.toList != ([] : List UInt8)) t193)) else (none)) else (none))) = some (r1, r2) := by rw [if_pos rfl] at H; exact H
    have HC6 := Aside0.mk H
    clear H
    go_upto_region 6 with (first | ((with_reducible refine gate_callee (f := 31) rfl ?_); refine goesL_ (some 12) rfl rfl Tryz.func31 zb15 rfl #[.string x0_1, .string (⟨#[37]⟩ : ByteArray)] rfl zb1 ?_; (with_reducible refine (strings_Cut.calls x0_1 (⟨#[37]⟩ : ByteArray) t188 t189 true _ ?side1 A3.out).mono ?_); (case side1 => exact Glob.below hGA.out zb11); rintro e w7 ⟨rfl, hb⟩; refine ⟨_, rfl, ?_⟩; have n0_ := Aside0.mk (IsS54.below zb26 hb); have n1_ := Aside0.mk (below_step zb11 hb); clear HI187; clear HB; have HI187 := n0_; have HB := n1_; clear n0_ n1_; (try clear hb); (try clear hb2); (try clear hk); (try clear hi)) | ((with_reducible refine gate_callee (f := 27) rfl ?_); refine goesL_ (some 17) rfl rfl Tryz.func27 zb15 rfl #[.pointer (some ⟨gb187, 0, none⟩), .string t188] rfl zb1 ?_; (with_reducible refine (Builder_WriteString.calls gb187 x188000_1 t188 t191 t192 t193 w _ ?side1 ?side2 A4.out).mono ?_); (case side1 => repeat (first | (with_reducible first | exact HI187.out | apply IsS54.alloc | apply IsS54.drewN | apply IsS54.drew) | exact HI187.out)); (case side2 => repeat (first | (with_reducible first | exact HB.out | apply below_alloc | apply pw_below_drewN | apply below_drew1 | refine below_set ?_ (IsS54.ge HI187.out)) | exact HB.out)); rintro e w8 ⟨rfl, hi, hb, hk⟩; refine ⟨_, rfl, ?_⟩; have n0_ := Aside0.mk (hb); have n1_ := Aside0.mk (hi); clear HB; clear HI187; have HB := n0_; have HI187 := n1_; clear n0_ n1_; (try clear hb); (try clear hk); (try clear hi); (try simp only [errW_none, errW_some])))
    (try simp only [Act.put, List.setIfInBounds_toArray, List.set_cons_zero, List.set_cons_succ])
    go_cut [29] (fun v29 wc => ∃ (kq : Nat) (x29_5 : Bool), v29 = .bool x29_5 ∧ Aside0 (request_Percent.j1 kq t189 x29_5 t193 = some (r1, r2)) ∧ Aside0 (kq ≤ k1) ∧ Aside0 (IsS54 w wc gb187 t193) ∧ Aside0 (Below w.heap.size w wc))
    case first =>
     have H := HC6.out
     clear HC6
     by_cases c9 : (t189.size : Int) < 2
     ·rw [if_pos c9] at H
      have c9b0 : decide ((t189.size : Int) < 2) = true := decide_eq_true c9
      have c9b1 : decide (t189.size < 2) = true := decide_eq_true zb17
      clear c9
      (first | rw [c9b0] | (simp only [i64_w, i32_w]; rw [c9b0]) | skip)
      have H' := Aside0.mk H
      clear H
      go_wp2
      go_meet
      case rel => exact ⟨_, (true), zb39, H', ⟨by have := HK1.out; first | omega | exact Nat.le_refl _⟩, ⟨by repeat (first | (with_reducible first | exact HI187.out | apply IsS54.alloc | apply IsS54.drewN | apply IsS54.drew) | exact HI187.out)⟩, ⟨by repeat (first | (with_reducible first | exact HB.out | apply below_alloc | apply pw_below_drewN | apply below_drew1 | refine below_set ?_ (IsS54.ge HI187.out)) | exact HB.out)⟩⟩
     ·rw [if_neg c9] at H
      have c9b0 : decide ((t189.size : Int) < 2) = false := decide_eq_false c9
      have c9b1 : decide (t189.size < 2) = false := decide_eq_false zb17
      clear c9
      (first | rw [c9b0] | (simp only [i64_w, i32_w]; rw [c9b0]) | skip)
      by_cases c10 : 0 ≤ 2
      ·rw [if_pos c10] at H
       have c10b0 := eq_true c10
       have c10b1 : decide (0 ≤ 2) = true := decide_eq_true c10
       clear c10
       by_cases c11 : 2 ≤ (t189.size : Int)
       ·rw [if_pos c11] at H
        have c11b0 := eq_true c11
        have c11b1 : decide (2 ≤ (t189.size : Int)) = true := decide_eq_true c11
        clear c11
        replace H := Option.bind_eq_some_iff.mp H
        obtain ⟨t196, A120, H⟩ := H
        replace H : (request_Percent.j1 k1 t189 (t196.toList != ([] : List UInt8)) t193) = some (r1, r2) := H
        have A12 := Aside0.mk A120
        clear A120
        have H' := Aside0.mk H
        clear H
        go_wp2_with (first | (go_at_call 46; (with_reducible refine (strings_Trim.calls (t189.extract 0 2) (⟨#[48, 49, 50, 51, 52, 53, 54, 55, 56, 57, 97, 98, 99, 100, 101, 102, 65, 66, 67, 68, 69, 70]⟩ : ByteArray) t196 _ A12.out).mono ?_); rintro e w13 ⟨rfl, hb⟩; have n0_ := Aside0.mk (IsS54.below zb26 hb); have n1_ := Aside0.mk (below_step zb11 hb); clear HI187; clear HB; have HI187 := n0_; have HB := n1_; clear n0_ n1_; (try clear hb); (try clear hb2); (try clear hk); (try clear hi)))
        go_meet
        case rel => exact ⟨_, ((t196.toList != ([] : List UInt8))), zb39, H', ⟨by have := HK1.out; first | omega | exact Nat.le_refl _⟩, ⟨by repeat (first | (with_reducible first | exact HI187.out | apply IsS54.alloc | apply IsS54.drewN | apply IsS54.drew) | exact HI187.out)⟩, ⟨by repeat (first | (with_reducible first | exact HB.out | apply below_alloc | apply pw_below_drewN | apply below_drew1 | refine below_set ?_ (IsS54.ge HI187.out)) | exact HB.out)⟩⟩
       ·rw [if_neg c11] at H
        exact absurd H zb25
      ·rw [if_neg c10] at H
       exact absurd H zb25
    case rest =>
     clear HC6
     try clear c1
     try clear c2
     try clear p2
     try clear c3
     try clear c5
     try clear c9
     try clear c9b0
     try clear c9b1
     try clear c10
     try clear c10b0
     try clear c10b1
     try clear c11
     try clear c11b0
     try clear c11b1
     try clear p2
     obtain ⟨kq, x29_5, rfl, HA, HJ5, HI187, HB⟩ := hcut
     cases kq with
     | zero => exact absurd HA.out (by simp [request_Percent.j1])
     | succ kj5 =>
      have H := HA.out
      clear HA
      simp only [request_Percent.j1] at H
      by_cases c14 : x29_5 = true
      ·subst c14
       replace H : (some ((⟨#[]⟩ : ByteArray), false)) = some (r1, r2) := by rw [if_pos rfl] at H; exact H
       simp only [Option.some.injEq, Prod.mk.injEq] at H
       obtain ⟨rfl, rfl⟩ := H
       go_wp2
       go_ret2
       exact ⟨zb4, zb11⟩
      ·replace c14 := Bool.eq_false_iff.mpr c14
       subst c14
       replace H : (if 0 ≤ 2 then (if 2 ≤ (t189.size : Int) then ((strconv_ParseUint.f (t189.extract 0 2) 16 64).bind fun bt197 => (if bt197.2.isNone = true then ((Builder_PutByte.f t193 ((bt197.1) % 256)).bind fun bt200 => (request_Percent.l0 kj5 (t189.extract 2 t189.size) bt200.2)) else ((Builder_PutByte.f t193 ((bt197.1) % 256)).bind fun bt202 => (request_Percent.l0 kj5 (t189.extract 2 t189.size) bt202.2)))) else (none)) else (none)) = some (r1, r2) := by rw [if_neg (show ¬ (false = true) by decide)] at H; exact H
       by_cases c15 : 0 ≤ 2
       ·rw [if_pos c15] at H
        have c15b0 := eq_true c15
        have c15b1 : decide (0 ≤ 2) = true := decide_eq_true c15
        clear c15
        by_cases c16 : 2 ≤ (t189.size : Int)
        ·rw [if_pos c16] at H
         have c16b0 := eq_true c16
         have c16b1 : decide (2 ≤ (t189.size : Int)) = true := decide_eq_true c16
         clear c16
         replace H := Option.bind_eq_some_iff.mp H
         obtain ⟨⟨t197, t198⟩, A170, H⟩ := H
         replace H : (if t198.isNone = true then ((Builder_PutByte.f t193 ((t197) % 256)).bind fun bt200 => (request_Percent.l0 kj5 (t189.extract 2 t189.size) bt200.2)) else ((Builder_PutByte.f t193 ((t197) % 256)).bind fun bt202 => (request_Percent.l0 kj5 (t189.extract 2 t189.size) bt202.2))) = some (r1, r2) := H
         have A17 := Aside0.mk A170
         clear A170
         rcases t198 with _ | q199
         ·have H1 : ((Builder_PutByte.f t193 ((t197) % 256)).bind fun bt200 => (request_Percent.l0 kj5 (t189.extract 2 t189.size) bt200.2)) = some (r1, r2) := by rw [if_pos (show (none : Option Int).isNone = true by rfl)] at H; exact H
          clear H
          have H := H1
          clear H1
          try simp only [errW_none, errW_some]
          replace H := Option.bind_eq_some_iff.mp H
          obtain ⟨⟨t200, t201⟩, A180, H⟩ := H
          replace H : (request_Percent.l0 kj5 (t189.extract 2 t189.size) t201) = some (r1, r2) := H
          have A18 := Aside0.mk A180
          clear A180
          have c19b0 := eq_true (of_decide_eq_true zb2 : 2 ≤ (t189.size : Int))
          have H' := Aside0.mk H
          clear H
          go_wp2_with (first | ((with_reducible refine gate_callee (f := 47) rfl ?_); refine goesL_ (some 33) rfl rfl Tryz.func47 zb15 rfl #[.string (t189.extract 0 2), .int .i64 16, .int .i64 64] rfl zb1 ?_; (with_reducible refine (strconv_ParseUint.calls (t189.extract 0 2) 16 64 t197 none _ ?side1 A17.out).mono ?_); (case side1 => exact Glob.below hGA.out zb11); rintro e w20 ⟨pv21, hpv21, rfl, hb⟩; refine ⟨_, rfl, ?_⟩; obtain rfl := ErrIs.none_ hpv21; have n0_ := Aside0.mk (IsS54.below zb26 hb); have n1_ := Aside0.mk (below_step zb11 hb); clear HI187; clear HB; have HI187 := n0_; have HB := n1_; clear n0_ n1_; (try clear hb); (try clear hb2); (try clear hk); (try clear hi); (try simp only [errW_none, errW_some])) | ((with_reducible refine gate_callee (f := 48) rfl ?_); refine goesL_ (some 38) rfl rfl Tryz.func48 zb15 rfl #[.pointer (some ⟨gb187, 0, none⟩), .int .u8 ((t197) % 256)] rfl zb1 ?_; (with_reducible refine (Builder_PutByte.calls gb187 t193 ((t197) % 256) t200 t201 w _ ?side1 ?side2 A18.out).mono ?_); (case side1 => repeat (first | (with_reducible first | exact HI187.out | apply IsS54.alloc | apply IsS54.drewN | apply IsS54.drew) | exact HI187.out)); (case side2 => repeat (first | (with_reducible first | exact HB.out | apply below_alloc | apply pw_below_drewN | apply below_drew1 | refine below_set ?_ (IsS54.ge HI187.out)) | exact HB.out)); rintro e w22 ⟨rfl, hi, hb, hk⟩; refine ⟨_, rfl, ?_⟩; have n0_ := Aside0.mk (hb); have n1_ := Aside0.mk (hi); clear HB; clear HI187; have HB := n0_; have HI187 := n1_; clear n0_ n1_; (try clear hb); (try clear hk); (try clear hi); (try simp only [errW_none, errW_some])))
          go_roundg kj5
          case measure => have := HK1.out; have := HJ5.out; omega
          case rel => exact ⟨(t189.extract 2 t189.size), (t201), zb39, H', ⟨by have := HK1.out; have := HJ5.out; omega⟩, ⟨by repeat (first | (with_reducible first | exact HI187.out | apply IsS54.alloc | apply IsS54.drewN | apply IsS54.drew) | exact HI187.out)⟩, ⟨by repeat (first | (with_reducible first | exact HB.out | apply below_alloc | apply pw_below_drewN | apply below_drew1 | refine below_set ?_ (IsS54.ge HI187.out)) | exact HB.out)⟩⟩
         ·have H1 : ((Builder_PutByte.f t193 ((t197) % 256)).bind fun bt202 => (request_Percent.l0 kj5 (t189.extract 2 t189.size) bt202.2)) = some (r1, r2) := by rw [if_neg (show ¬ (some q199).isNone = true by simp)] at H; exact H
          clear H
          have H := H1
          clear H1
          try simp only [errW_none, errW_some]
          replace H := Option.bind_eq_some_iff.mp H
          obtain ⟨⟨t202, t203⟩, A230, H⟩ := H
          replace H : (request_Percent.l0 kj5 (t189.extract 2 t189.size) t203) = some (r1, r2) := H
          have A23 := Aside0.mk A230
          clear A230
          have c24b0 := eq_true (of_decide_eq_true zb2 : 2 ≤ (t189.size : Int))
          have H' := Aside0.mk H
          clear H
          go_wp2_with (first | ((with_reducible refine gate_callee (f := 47) rfl ?_); refine goesL_ (some 33) rfl rfl Tryz.func47 zb15 rfl #[.string (t189.extract 0 2), .int .i64 16, .int .i64 64] rfl zb1 ?_; (with_reducible refine (strconv_ParseUint.calls (t189.extract 0 2) 16 64 t197 (some q199) _ ?side1 A17.out).mono ?_); (case side1 => exact Glob.below hGA.out zb11); rintro e w25 ⟨pv26, hpv26, rfl, hb⟩; refine ⟨_, rfl, ?_⟩; obtain ⟨tpv26, ppv26, rfl⟩ := ErrIs.some_ hpv26; have n0_ := Aside0.mk (IsS54.below zb26 hb); have n1_ := Aside0.mk (below_step zb11 hb); clear HI187; clear HB; have HI187 := n0_; have HB := n1_; clear n0_ n1_; (try clear hb); (try clear hb2); (try clear hk); (try clear hi); (try simp only [errW_none, errW_some])) | ((with_reducible refine gate_callee (f := 48) rfl ?_); refine goesL_ (some 38) rfl rfl Tryz.func48 zb15 rfl #[.pointer (some ⟨gb187, 0, none⟩), .int .u8 ((t197) % 256)] rfl zb1 ?_; (with_reducible refine (Builder_PutByte.calls gb187 t193 ((t197) % 256) t202 t203 w _ ?side1 ?side2 A23.out).mono ?_); (case side1 => repeat (first | (with_reducible first | exact HI187.out | apply IsS54.alloc | apply IsS54.drewN | apply IsS54.drew) | exact HI187.out)); (case side2 => repeat (first | (with_reducible first | exact HB.out | apply below_alloc | apply pw_below_drewN | apply below_drew1 | refine below_set ?_ (IsS54.ge HI187.out)) | exact HB.out)); rintro e w27 ⟨rfl, hi, hb, hk⟩; refine ⟨_, rfl, ?_⟩; have n0_ := Aside0.mk (hb); have n1_ := Aside0.mk (hi); clear HB; clear HI187; have HB := n0_; have HI187 := n1_; clear n0_ n1_; (try clear hb); (try clear hk); (try clear hi); (try simp only [errW_none, errW_some])))
          go_roundg kj5
          case measure => have := HK1.out; have := HJ5.out; omega
          case rel => exact ⟨(t189.extract 2 t189.size), (t203), zb39, H', ⟨by have := HK1.out; have := HJ5.out; omega⟩, ⟨by repeat (first | (with_reducible first | exact HI187.out | apply IsS54.alloc | apply IsS54.drewN | apply IsS54.drew) | exact HI187.out)⟩, ⟨by repeat (first | (with_reducible first | exact HB.out | apply below_alloc | apply pw_below_drewN | apply below_drew1 | refine below_set ?_ (IsS54.ge HI187.out)) | exact HB.out)⟩⟩
        ·rw [if_neg c16] at H
         exact absurd H zb25
       ·rw [if_neg c15] at H
        exact absurd H zb25
   ·replace c5 := Bool.eq_false_iff.mpr c5
    subst c5
    replace H : ((Builder_String.f t193).bind fun bt194 => (some (bt194.1, true))) = some (r1, r2) := by rw [if_neg (show ¬ (false = true) by decide)] at H; exact H
    replace H := Option.bind_eq_some_iff.mp H
    obtain ⟨⟨t194, t195⟩, A280, H⟩ := H
    replace H : (some (t194, true)) = some (r1, r2) := H
    have A28 := Aside0.mk A280
    clear A280
    simp only [Option.some.injEq, Prod.mk.injEq] at H
    obtain ⟨rfl, rfl⟩ := H
    go_wp2_with (first | ((with_reducible refine gate_callee (f := 31) rfl ?_); refine goesL_ (some 12) rfl rfl Tryz.func31 zb15 rfl #[.string x0_1, .string (⟨#[37]⟩ : ByteArray)] rfl zb1 ?_; (with_reducible refine (strings_Cut.calls x0_1 (⟨#[37]⟩ : ByteArray) t188 t189 false _ ?side1 A3.out).mono ?_); (case side1 => exact Glob.below hGA.out zb11); rintro e w29 ⟨rfl, hb⟩; refine ⟨_, rfl, ?_⟩; have n0_ := Aside0.mk (IsS54.below zb26 hb); have n1_ := Aside0.mk (below_step zb11 hb); clear HI187; clear HB; have HI187 := n0_; have HB := n1_; clear n0_ n1_; (try clear hb); (try clear hb2); (try clear hk); (try clear hi)) | ((with_reducible refine gate_callee (f := 27) rfl ?_); refine goesL_ (some 17) rfl rfl Tryz.func27 zb15 rfl #[.pointer (some ⟨gb187, 0, none⟩), .string t188] rfl zb1 ?_; (with_reducible refine (Builder_WriteString.calls gb187 x188000_1 t188 t191 t192 t193 w _ ?side1 ?side2 A4.out).mono ?_); (case side1 => repeat (first | (with_reducible first | exact HI187.out | apply IsS54.alloc | apply IsS54.drewN | apply IsS54.drew) | exact HI187.out)); (case side2 => repeat (first | (with_reducible first | exact HB.out | apply below_alloc | apply pw_below_drewN | apply below_drew1 | refine below_set ?_ (IsS54.ge HI187.out)) | exact HB.out)); rintro e w30 ⟨rfl, hi, hb, hk⟩; refine ⟨_, rfl, ?_⟩; have n0_ := Aside0.mk (hb); have n1_ := Aside0.mk (hi); clear HB; clear HI187; have HB := n0_; have HI187 := n1_; clear n0_ n1_; (try clear hb); (try clear hk); (try clear hi); (try simp only [errW_none, errW_some])) | ((with_reducible refine gate_callee (f := 29) rfl ?_); refine goesL_ (some 20) rfl rfl Tryz.func29 zb15 rfl #[.pointer (some ⟨gb187, 0, none⟩)] rfl zb1 ?_; (with_reducible refine (Builder_String.calls gb187 t193 t194 t195 w _ ?side1 ?side2 A28.out).mono ?_); (case side1 => repeat (first | (with_reducible first | exact HI187.out | apply IsS54.alloc | apply IsS54.drewN | apply IsS54.drew) | exact HI187.out)); (case side2 => repeat (first | (with_reducible first | exact HB.out | apply below_alloc | apply pw_below_drewN | apply below_drew1 | refine below_set ?_ (IsS54.ge HI187.out)) | exact HB.out)); rintro e w31 ⟨rfl, hi, hb, hk⟩; refine ⟨_, rfl, ?_⟩; have n0_ := Aside0.mk (hb); have n1_ := Aside0.mk (hi); clear HB; clear HI187; have HB := n0_; have HI187 := n1_; clear n0_ n1_; (try clear hb); (try clear hk); (try clear hi)))
    go_ret2
    exact ⟨zb4, zb11⟩
end Go.Proofs.YteonhdfjfjpbjaaGreatDoor.P
/- Oslw -/
namespace Go.Proofs.YteonhdfjfjpbjaaGreatDoor.O
open Go.RowKit Go.Proofs.YteonhdfjfjpbjaaGreatDoorW.PrintWords Go.Proofs.YteonhdfjfjpbjaaGreatDoorW.PrintLast Go.Proofs.YteonhdfjfjpbjaaGreatDoorW.PrintMore Go.Proofs.YteonhdfjfjpbjaaGreatDoor.P
set_option linter.unusedVariables false
set_option linter.unusedSimpArgs false
def slI (c : Int) : Bool := decide (97 ≤ c) && decide (c ≤ 122) || decide (48 ≤ c) && decide (c ≤ 57)
def dash (o : List Int) (gap : Bool) : List Int := if gap = true ∧ o.length < 19 then o ++ [45] else o
def sgL : List Int → List Int → Bool → List Int
  | [], o, _ => o
  | c :: r, o, gap => if slI c = true then (if (dash o gap).length = 20 then dash o gap else sgL r (dash o gap ++ [c]) false) else sgL r o (decide (0 < o.length))
def btl (s : ByteArray) : List Int := (List.range s.size).map fun (j : Nat) => bt s j
theorem btl_drop (s : ByteArray) (k : Nat) (h : k < s.size) : (btl s).drop k = bt s k :: (btl s).drop (k + 1) := by
  have hl : k < (btl s).length := by simp [btl]; exact h
  rw [List.drop_eq_getElem_cons hl]
  congr 1
  simp [btl]
def Bytes (W : World) (D : Nat) (s : ByteArray) : Prop := D < W.heap.size ∧ ∀ j : Nat, j < s.size → W.cell? ⟨D, j, none⟩ = some (.int .u8 (bt s j))
theorem Bytes.keep {W W' : World} {D : Nat} {s : ByteArray} (h : Bytes W D s) (he : W'.heap[D]? = W.heap[D]?) (hs : W.heap.size ≤ W'.heap.size) : Bytes W' D s := ⟨Nat.lt_of_lt_of_le h.1 hs, fun j hj => (World.cell?_of_block (w := W) (a := ⟨D, j, none⟩) he).trans (h.2 j hj)⟩
theorem u8_new (w : World) : Kd.R (Kd.int .u8) 5 (w.alloc (.cells #[] 5)) w.heap.size (fun _ => True) (.slice (some ⟨w.heap.size, 0, none⟩) 0 0) [] := by
  refine Kd.R_of_own ?_ (fun _ _ => trivial)
  have h2 := World.ownsRow_lit (base := w.heap.size) (e := 5) (size := 1) w (#[] : Array Value) 0 (Nat.le_refl _) (by simp [maxLen]) zb25
  simpa [encs] using h2
set_option maxHeartbeats 4000000 in
theorem slug_in (k : Nat) (a0 p lo : ByteArray) (ok : Bool) (w : World) (hG : Glob w) (hp : request_Percent.f k a0 = some (p, ok)) (hl : media_Small.f (if ok = true then p else a0) = some lo) (hsz : lo.size ≤ 1000000) :
    Calls Tryz.prog 22 #[.string a0] w fun e w' => e = .returned (.string (strOfNums (sgL (btl lo) [] false))) ∧ Below w.heap.size w w' := by
  have HP := Lib.hid (request_Percent.calls k a0 p ok w hG hp)
  clear hp
  obtain ⟨F, hF⟩ : ∃ F, F = sgL (btl lo) [] false := ⟨_, rfl⟩
  rw [← hF]
  replace hF := Lib.hid hF
  obtain ⟨q, hq⟩ : ∃ q, q = if ok = true then p else a0 := ⟨_, rfl⟩
  rw [← hq] at hl
  have HS := Lib.hid (fun W => media_Small.calls q lo W hl)
  clear hl
  cases ok with
  | true =>
    obtain rfl : q = p := by simpa using hq
    clear hq
    go_enter Tryz.func22, Tryz.ntmps22
    go_wp2_with (first | (go_at_call 20; (refine HP.out.mono ?_; rintro e w1 ⟨rfl, hb1⟩)) | (go_at_call 50; (refine (HS.out _).mono ?_; rintro e w2 ⟨rfl, hb2⟩; have hB := Lib.hid (below_step (below_step hb1 (below_alloc (Below.refl _ _) _)) hb2); have hconv := Lib.run_convert_string_bytes (P := Tryz.prog) w2 9 23 5 lo Tryz.underlying9 Tryz.underlying23 Tryz.underlying5; have hb23 := Lib.hid (below_bytes w2 5 lo); have hb3 := Lib.hid (below_step hB.out (below_bytes w2 5 lo)); have hcell := Lib.hid (fun j hj => Lib.bytesWorld_cell w2 5 lo j hj); have hlt0 : Hid (w2.heap.size < (Lib.bytesWorld w2 5 lo).heap.size) := Lib.hid (by rw [Lib.bytesWorld_size]; omega); generalize Lib.bytesWorld w2 5 lo = w3 at *; generalize grownCap w2 lo.size 0 5 = cap at *)))
    go_loopw [5, 6, 21] (fun v5 v6 i wr => ∃ (j : Nat) (o : List Int) (gap : Bool), j ≤ lo.size ∧ v6 = .bool gap ∧ i = .int .i64 j ∧ Hid (sgL ((btl lo).drop j) o gap = F) ∧ Hid (o.length ≤ 20) ∧ Hid (Kd.R (Kd.int .u8) 5 wr w.heap.size (fun b => b ≠ w2.heap.size) v5 o) ∧ Hid (Bytes wr w2.heap.size lo) ∧ Hid (Below w.heap.size w wr)) (fun _ _ i _ => lo.size - (intOf i).toNat)
    case atStart =>
      refine ⟨0, [], false, Nat.zero_le _, rfl, rfl, hF.out.symm ▸ Lib.hid rfl, Lib.hid zb25, Lib.hid ?_, Lib.hid ⟨hlt0.out, fun j hj => by rw [hcell.out j hj, bt_getD lo j hj]⟩, hb3⟩
      have h1 := Kd.R_bound (u8_new w1)
      have h2 := Kd.R_below (Kd.R_below h1 hb2) hb23.out
      exact Kd.R_lower (Kd.R_mono h2 (fun k hk => by have := hk.2.2.1; have := hb2.size; omega)) hb1.size
    case round =>
      obtain ⟨j, o, gap, hj, rfl, rfl, hS, hlen, hR, hBy, hBl⟩ := hrel
      obtain ⟨A, cp, rfl⟩ := Kd.R_slice hR.out
      by_cases hlt : j < lo.size
      · have hS' := hS.out
        rw [btl_drop lo j hlt, sgL] at hS'
        have hc := hBy.out.2 j hlt
        obtain ⟨q1, q2⟩ := bt_range lo j
        clear hS
        generalize bt lo j = c at *
        by_cases hlet : slI c = true
        · rw [if_pos hlet] at hS'
          by_cases hgp : gap = true
          · subst hgp
            by_cases hl19 : o.length < 19
            · rw [show dash o true = o ++ [45] from if_pos ⟨rfl, hl19⟩, if_neg (by rw [List.length_append, List.length_singleton]; omega)] at hS'
              replace hS' := Lib.hid hS'
              have h20 := Lib.hid hl19
              have hl19' : (o.length : Int) < 19 := by omega
              obtain ⟨o1, ho1⟩ : ∃ o1, o1 = o ++ [45] := ⟨_, rfl⟩
              rw [← ho1] at hS'
              have hl1 : o1.length = o.length + 1 := by rw [ho1, List.length_append, List.length_singleton]
              have h20' : ((o1.length : Int) == 20) = false := by simp; omega
              have hlen1 := Lib.hid (show o1.length ≤ 20 by omega)
              replace ho1 := Lib.hid ho1
              replace hl1 := Lib.hid hl1
              clear hl19
              unfold slI at hlet
              by_cases u1 : 97 ≤ c
              · have u2 : c ≤ 122 := by simp at hlet; omega
                clear hlet
                go_wp2_with (first | ((with_reducible refine gate_builtin (b := .append) (xs := #[.tmp 49, .tmp 50]) rfl ?_); at_builtin; (refine Kd.R_append (Kd.int .u8) (w0 := w) w.heap.size rfl (.tmp 49) (.tmp 50) 23 5 (.int .u8 0) 1 rfl Tryz.underlying23 info5 rfl zb20 zb17 (.slice A o.length cp) o 45 [.int .u8 45] (fun b => b ≠ w2.heap.size) (fun _ => False) rfl rfl ?aP (fun _ hk => hk.elim) ?aF ?aO ?aB ?aS ?aL ?_; (case aP => exact rfl); (case aB => exact hBl.out); (case aF => exact (fun k hk => by have := hBy.out.1; (try simp only [World.size_alloc] at hk); omega)); (case aO => exact hR.out); (case aS => exact below_size hBl.out); (case aL => have := hlen.out; (try simp only [List.length_append, List.length_singleton]); omega); intro v1 w4 ho hb hg hat; rw [← ho1.out] at ho; obtain ⟨A1, c1, rfl⟩ := Kd.R_slice ho; have hR1 := Lib.hid ho; have hBl1 := Lib.hid hb; have hBy1 := Lib.hid (hBy.out.keep (hg.block _ hBy.out.1 (Kd.R_away hR.out (fun k hk => hk))) hg.size); clear ho hb hg hat)) | ((with_reducible refine gate_builtin (b := .append) (xs := #[.tmp 55, .tmp 57]) rfl ?_); at_builtin; (refine Kd.R_append (Kd.int .u8) (w0 := w) w.heap.size rfl (.tmp 55) (.tmp 57) 23 5 (.int .u8 0) 1 rfl Tryz.underlying23 info5 rfl zb20 zb17 (.slice A1 o1.length c1) o1 c [.int .u8 c] (fun b => b ≠ w2.heap.size) (fun _ => False) rfl rfl ?aP (fun _ hk => hk.elim) ?aF ?aO ?aB ?aS ?aL ?_; (case aP => exact rfl); (case aB => exact hBl1.out); (case aF => exact (fun k hk => by have := hBy1.out.1; (try simp only [World.size_alloc] at hk); omega)); (case aO => exact hR1.out); (case aS => exact below_size hBl1.out); (case aL => have := hlen1.out; (try simp only [List.length_append, List.length_singleton]); omega); intro v2 w5 ho hb hg hat; have hR2 := Lib.hid ho; have hBl2 := Lib.hid hb; have hBy2 := Lib.hid (hBy1.out.keep (hg.block _ hBy1.out.1 (Kd.R_away hR1.out (fun k hk => hk))) hg.size); clear ho hb hg hat)))
                go_roundw
                case rel => exact ⟨j + 1, (o1 ++ [c]), false, by omega, rfl, by go_num, Lib.hid zb37, Lib.hid zb35, hR2, hBy2, hBl2⟩
                case measure => simp [intOf]; omega
              · have u3 : 48 ≤ c := by simp at hlet; omega
                have u4 : c ≤ 57 := by simp at hlet; omega
                clear hlet
                go_wp2_with (first | ((with_reducible refine gate_builtin (b := .append) (xs := #[.tmp 49, .tmp 50]) rfl ?_); at_builtin; (refine Kd.R_append (Kd.int .u8) (w0 := w) w.heap.size rfl (.tmp 49) (.tmp 50) 23 5 (.int .u8 0) 1 rfl Tryz.underlying23 info5 rfl zb20 zb17 (.slice A o.length cp) o 45 [.int .u8 45] (fun b => b ≠ w2.heap.size) (fun _ => False) rfl rfl ?aP (fun _ hk => hk.elim) ?aF ?aO ?aB ?aS ?aL ?_; (case aP => exact rfl); (case aB => exact hBl.out); (case aF => exact (fun k hk => by have := hBy.out.1; (try simp only [World.size_alloc] at hk); omega)); (case aO => exact hR.out); (case aS => exact below_size hBl.out); (case aL => have := hlen.out; (try simp only [List.length_append, List.length_singleton]); omega); intro v1 w4 ho hb hg hat; rw [← ho1.out] at ho; obtain ⟨A1, c1, rfl⟩ := Kd.R_slice ho; have hR1 := Lib.hid ho; have hBl1 := Lib.hid hb; have hBy1 := Lib.hid (hBy.out.keep (hg.block _ hBy.out.1 (Kd.R_away hR.out (fun k hk => hk))) hg.size); clear ho hb hg hat)) | ((with_reducible refine gate_builtin (b := .append) (xs := #[.tmp 55, .tmp 57]) rfl ?_); at_builtin; (refine Kd.R_append (Kd.int .u8) (w0 := w) w.heap.size rfl (.tmp 55) (.tmp 57) 23 5 (.int .u8 0) 1 rfl Tryz.underlying23 info5 rfl zb20 zb17 (.slice A1 o1.length c1) o1 c [.int .u8 c] (fun b => b ≠ w2.heap.size) (fun _ => False) rfl rfl ?aP (fun _ hk => hk.elim) ?aF ?aO ?aB ?aS ?aL ?_; (case aP => exact rfl); (case aB => exact hBl1.out); (case aF => exact (fun k hk => by have := hBy1.out.1; (try simp only [World.size_alloc] at hk); omega)); (case aO => exact hR1.out); (case aS => exact below_size hBl1.out); (case aL => have := hlen1.out; (try simp only [List.length_append, List.length_singleton]); omega); intro v2 w5 ho hb hg hat; have hR2 := Lib.hid ho; have hBl2 := Lib.hid hb; have hBy2 := Lib.hid (hBy1.out.keep (hg.block _ hBy1.out.1 (Kd.R_away hR1.out (fun k hk => hk))) hg.size); clear ho hb hg hat)))
                go_roundw
                case rel => exact ⟨j + 1, (o1 ++ [c]), false, by omega, rfl, by go_num, Lib.hid zb37, Lib.hid zb35, hR2, hBy2, hBl2⟩
                case measure => simp [intOf]; omega
            · rw [show dash o true = o from if_neg (fun h => hl19 h.2)] at hS'
              have hl19' : ¬ (o.length : Int) < 19 := by omega
              clear hl19
              by_cases hl20 : o.length = 20
              · rw [if_pos hl20] at hS'
                have hl20' : ((o.length : Int) == 20) = true := by simp; omega
                clear hl20
                unfold slI at hlet
                by_cases u1 : 97 ≤ c
                · have u2 : c ≤ 122 := by simp at hlet; omega
                  clear hlet
                  have hconv2 : (convert 23 9 (.slice A o.length cp)).run Tryz.prog wr = .ok (.string (strOfNums o)) wr := Kd.C_string Tryz.underlying23 Tryz.underlying5 Tryz.underlying9 (Kd.R_reads' hR.out).2.2
                  obtain ⟨out, hout⟩ : ∃ x, x = strOfNums o := ⟨_, rfl⟩
                  rw [← hout] at hconv2
                  have hout' := Lib.hid (hout.trans (congrArg strOfNums hS'))
                  clear hout hS'
                  go_wp2
                  go_ret
                  exact ⟨ret_str hout'.out, hBl.out⟩
                · have u3 : 48 ≤ c := by simp at hlet; omega
                  have u4 : c ≤ 57 := by simp at hlet; omega
                  clear hlet
                  have hconv2 : (convert 23 9 (.slice A o.length cp)).run Tryz.prog wr = .ok (.string (strOfNums o)) wr := Kd.C_string Tryz.underlying23 Tryz.underlying5 Tryz.underlying9 (Kd.R_reads' hR.out).2.2
                  obtain ⟨out, hout⟩ : ∃ x, x = strOfNums o := ⟨_, rfl⟩
                  rw [← hout] at hconv2
                  have hout' := Lib.hid (hout.trans (congrArg strOfNums hS'))
                  clear hout hS'
                  go_wp2
                  go_ret
                  exact ⟨ret_str hout'.out, hBl.out⟩
              · rw [if_neg hl20] at hS'
                replace hS' := Lib.hid hS'
                have h20 := Lib.hid (show o.length < 20 by have := hlen.out; omega)
                have hl20' : ((o.length : Int) == 20) = false := by simp; omega
                clear hl20
                unfold slI at hlet
                by_cases u1 : 97 ≤ c
                · have u2 : c ≤ 122 := by simp at hlet; omega
                  clear hlet
                  go_wp2_with ((with_reducible refine gate_builtin (b := .append) (xs := #[.tmp 55, .tmp 57]) rfl ?_); at_builtin; (refine Kd.R_append (Kd.int .u8) (w0 := w) w.heap.size rfl (.tmp 55) (.tmp 57) 23 5 (.int .u8 0) 1 rfl Tryz.underlying23 info5 rfl zb20 zb17 (.slice A o.length cp) o c [.int .u8 c] (fun b => b ≠ w2.heap.size) (fun _ => False) rfl rfl ?aP (fun _ hk => hk.elim) ?aF ?aO ?aB ?aS ?aL ?_; (case aP => exact rfl); (case aB => exact hBl.out); (case aF => exact (fun k hk => by have := hBy.out.1; (try simp only [World.size_alloc] at hk); omega)); (case aO => exact hR.out); (case aS => exact below_size hBl.out); (case aL => have := hlen.out; (try simp only [List.length_append, List.length_singleton]); omega); intro v2 w5 ho hb hg hat; have hR2 := Lib.hid ho; have hBl2 := Lib.hid hb; have hBy2 := Lib.hid (hBy.out.keep (hg.block _ hBy.out.1 (Kd.R_away hR.out (fun k hk => hk))) hg.size); clear ho hb hg hat))
                  go_roundw
                  case rel => exact ⟨j + 1, (o ++ [c]), false, by omega, rfl, by go_num, Lib.hid zb37, Lib.hid zb24, hR2, hBy2, hBl2⟩
                  case measure => simp [intOf]; omega
                · have u3 : 48 ≤ c := by simp at hlet; omega
                  have u4 : c ≤ 57 := by simp at hlet; omega
                  clear hlet
                  go_wp2_with ((with_reducible refine gate_builtin (b := .append) (xs := #[.tmp 55, .tmp 57]) rfl ?_); at_builtin; (refine Kd.R_append (Kd.int .u8) (w0 := w) w.heap.size rfl (.tmp 55) (.tmp 57) 23 5 (.int .u8 0) 1 rfl Tryz.underlying23 info5 rfl zb20 zb17 (.slice A o.length cp) o c [.int .u8 c] (fun b => b ≠ w2.heap.size) (fun _ => False) rfl rfl ?aP (fun _ hk => hk.elim) ?aF ?aO ?aB ?aS ?aL ?_; (case aP => exact rfl); (case aB => exact hBl.out); (case aF => exact (fun k hk => by have := hBy.out.1; (try simp only [World.size_alloc] at hk); omega)); (case aO => exact hR.out); (case aS => exact below_size hBl.out); (case aL => have := hlen.out; (try simp only [List.length_append, List.length_singleton]); omega); intro v2 w5 ho hb hg hat; have hR2 := Lib.hid ho; have hBl2 := Lib.hid hb; have hBy2 := Lib.hid (hBy.out.keep (hg.block _ hBy.out.1 (Kd.R_away hR.out (fun k hk => hk))) hg.size); clear ho hb hg hat))
                  go_roundw
                  case rel => exact ⟨j + 1, (o ++ [c]), false, by omega, rfl, by go_num, Lib.hid zb37, Lib.hid zb24, hR2, hBy2, hBl2⟩
                  case measure => simp [intOf]; omega
          · obtain rfl : gap = false := by simpa using hgp
            clear hgp
            rw [show dash o false = o from if_neg (fun h => absurd h.1 zb20)] at hS'
            by_cases hl20 : o.length = 20
            · rw [if_pos hl20] at hS'
              have hl20' : ((o.length : Int) == 20) = true := by simp; omega
              clear hl20
              unfold slI at hlet
              by_cases u1 : 97 ≤ c
              · have u2 : c ≤ 122 := by simp at hlet; omega
                clear hlet
                have hconv2 : (convert 23 9 (.slice A o.length cp)).run Tryz.prog wr = .ok (.string (strOfNums o)) wr := Kd.C_string Tryz.underlying23 Tryz.underlying5 Tryz.underlying9 (Kd.R_reads' hR.out).2.2
                obtain ⟨out, hout⟩ : ∃ x, x = strOfNums o := ⟨_, rfl⟩
                rw [← hout] at hconv2
                have hout' := Lib.hid (hout.trans (congrArg strOfNums hS'))
                clear hout hS'
                go_wp2
                go_ret
                exact ⟨ret_str hout'.out, hBl.out⟩
              · have u3 : 48 ≤ c := by simp at hlet; omega
                have u4 : c ≤ 57 := by simp at hlet; omega
                clear hlet
                have hconv2 : (convert 23 9 (.slice A o.length cp)).run Tryz.prog wr = .ok (.string (strOfNums o)) wr := Kd.C_string Tryz.underlying23 Tryz.underlying5 Tryz.underlying9 (Kd.R_reads' hR.out).2.2
                obtain ⟨out, hout⟩ : ∃ x, x = strOfNums o := ⟨_, rfl⟩
                rw [← hout] at hconv2
                have hout' := Lib.hid (hout.trans (congrArg strOfNums hS'))
                clear hout hS'
                go_wp2
                go_ret
                exact ⟨ret_str hout'.out, hBl.out⟩
            · rw [if_neg hl20] at hS'
              replace hS' := Lib.hid hS'
              have h20 := Lib.hid (show o.length < 20 by have := hlen.out; omega)
              have hl20' : ((o.length : Int) == 20) = false := by simp; omega
              clear hl20
              unfold slI at hlet
              by_cases u1 : 97 ≤ c
              · have u2 : c ≤ 122 := by simp at hlet; omega
                clear hlet
                go_wp2_with ((with_reducible refine gate_builtin (b := .append) (xs := #[.tmp 55, .tmp 57]) rfl ?_); at_builtin; (refine Kd.R_append (Kd.int .u8) (w0 := w) w.heap.size rfl (.tmp 55) (.tmp 57) 23 5 (.int .u8 0) 1 rfl Tryz.underlying23 info5 rfl zb20 zb17 (.slice A o.length cp) o c [.int .u8 c] (fun b => b ≠ w2.heap.size) (fun _ => False) rfl rfl ?aP (fun _ hk => hk.elim) ?aF ?aO ?aB ?aS ?aL ?_; (case aP => exact rfl); (case aB => exact hBl.out); (case aF => exact (fun k hk => by have := hBy.out.1; (try simp only [World.size_alloc] at hk); omega)); (case aO => exact hR.out); (case aS => exact below_size hBl.out); (case aL => have := hlen.out; (try simp only [List.length_append, List.length_singleton]); omega); intro v2 w5 ho hb hg hat; have hR2 := Lib.hid ho; have hBl2 := Lib.hid hb; have hBy2 := Lib.hid (hBy.out.keep (hg.block _ hBy.out.1 (Kd.R_away hR.out (fun k hk => hk))) hg.size); clear ho hb hg hat))
                go_roundw
                case rel => exact ⟨j + 1, (o ++ [c]), false, by omega, rfl, by go_num, Lib.hid zb37, Lib.hid zb24, hR2, hBy2, hBl2⟩
                case measure => simp [intOf]; omega
              · have u3 : 48 ≤ c := by simp at hlet; omega
                have u4 : c ≤ 57 := by simp at hlet; omega
                clear hlet
                go_wp2_with ((with_reducible refine gate_builtin (b := .append) (xs := #[.tmp 55, .tmp 57]) rfl ?_); at_builtin; (refine Kd.R_append (Kd.int .u8) (w0 := w) w.heap.size rfl (.tmp 55) (.tmp 57) 23 5 (.int .u8 0) 1 rfl Tryz.underlying23 info5 rfl zb20 zb17 (.slice A o.length cp) o c [.int .u8 c] (fun b => b ≠ w2.heap.size) (fun _ => False) rfl rfl ?aP (fun _ hk => hk.elim) ?aF ?aO ?aB ?aS ?aL ?_; (case aP => exact rfl); (case aB => exact hBl.out); (case aF => exact (fun k hk => by have := hBy.out.1; (try simp only [World.size_alloc] at hk); omega)); (case aO => exact hR.out); (case aS => exact below_size hBl.out); (case aL => have := hlen.out; (try simp only [List.length_append, List.length_singleton]); omega); intro v2 w5 ho hb hg hat; have hR2 := Lib.hid ho; have hBl2 := Lib.hid hb; have hBy2 := Lib.hid (hBy.out.keep (hg.block _ hBy.out.1 (Kd.R_away hR.out (fun k hk => hk))) hg.size); clear ho hb hg hat))
                go_roundw
                case rel => exact ⟨j + 1, (o ++ [c]), false, by omega, rfl, by go_num, Lib.hid zb37, Lib.hid zb24, hR2, hBy2, hBl2⟩
                case measure => simp [intOf]; omega
        · rw [if_neg hlet] at hS'
          replace hS' := Lib.hid hS'
          unfold slI at hlet
          by_cases u1 : 97 ≤ c
          · have u2 : ¬ c ≤ 122 := by simp at hlet; omega
            have u3 : 48 ≤ c := by omega
            have u4 : ¬ c ≤ 57 := by omega
            clear hlet
            go_wp2
            go_roundw
            case rel => exact ⟨j + 1, o, _, by omega, rfl, by go_num, Lib.hid zb37, hlen, hR, hBy, hBl⟩
            case measure => simp [intOf]; omega
          · by_cases u3 : 48 ≤ c
            · have u4 : ¬ c ≤ 57 := by simp at hlet; omega
              clear hlet
              go_wp2
              go_roundw
              case rel => exact ⟨j + 1, o, _, by omega, rfl, by go_num, Lib.hid zb37, hlen, hR, hBy, hBl⟩
              case measure => simp [intOf]; omega
            · clear hlet
              go_wp2
              go_roundw
              case rel => exact ⟨j + 1, o, _, by omega, rfl, by go_num, Lib.hid zb37, hlen, hR, hBy, hBl⟩
              case measure => simp [intOf]; omega
      · obtain rfl : j = lo.size := by omega
        have hS' := hS.out
        rw [List.drop_eq_nil_of_le (by simp [btl])] at hS'
        rw [sgL] at hS'
        have hconv2 : (convert 23 9 (.slice A o.length cp)).run Tryz.prog wr = .ok (.string (strOfNums o)) wr := Kd.C_string Tryz.underlying23 Tryz.underlying5 Tryz.underlying9 (Kd.R_reads' hR.out).2.2
        obtain ⟨out, hout⟩ : ∃ x, x = strOfNums o := ⟨_, rfl⟩
        rw [← hout] at hconv2
        have hout' := Lib.hid (hout.trans (congrArg strOfNums hS'))
        clear hout hS' hS
        go_wp2
        go_ret
        exact ⟨ret_str hout'.out, hBl.out⟩
  | false =>
    obtain rfl : q = a0 := by simpa using hq
    clear hq
    go_enter Tryz.func22, Tryz.ntmps22
    go_wp2_with (first | (go_at_call 20; (refine HP.out.mono ?_; rintro e w1 ⟨rfl, hb1⟩)) | (go_at_call 50; (refine (HS.out _).mono ?_; rintro e w2 ⟨rfl, hb2⟩; have hB := Lib.hid (below_step (below_step hb1 (below_alloc (Below.refl _ _) _)) hb2); have hconv := Lib.run_convert_string_bytes (P := Tryz.prog) w2 9 23 5 lo Tryz.underlying9 Tryz.underlying23 Tryz.underlying5; have hb23 := Lib.hid (below_bytes w2 5 lo); have hb3 := Lib.hid (below_step hB.out (below_bytes w2 5 lo)); have hcell := Lib.hid (fun j hj => Lib.bytesWorld_cell w2 5 lo j hj); have hlt0 : Hid (w2.heap.size < (Lib.bytesWorld w2 5 lo).heap.size) := Lib.hid (by rw [Lib.bytesWorld_size]; omega); generalize Lib.bytesWorld w2 5 lo = w3 at *; generalize grownCap w2 lo.size 0 5 = cap at *)))
    go_loopw [5, 6, 21] (fun v5 v6 i wr => ∃ (j : Nat) (o : List Int) (gap : Bool), j ≤ lo.size ∧ v6 = .bool gap ∧ i = .int .i64 j ∧ Hid (sgL ((btl lo).drop j) o gap = F) ∧ Hid (o.length ≤ 20) ∧ Hid (Kd.R (Kd.int .u8) 5 wr w.heap.size (fun b => b ≠ w2.heap.size) v5 o) ∧ Hid (Bytes wr w2.heap.size lo) ∧ Hid (Below w.heap.size w wr)) (fun _ _ i _ => lo.size - (intOf i).toNat)
    case atStart =>
      refine ⟨0, [], false, Nat.zero_le _, rfl, rfl, hF.out.symm ▸ Lib.hid rfl, Lib.hid zb25, Lib.hid ?_, Lib.hid ⟨hlt0.out, fun j hj => by rw [hcell.out j hj, bt_getD lo j hj]⟩, hb3⟩
      have h1 := Kd.R_bound (u8_new w1)
      have h2 := Kd.R_below (Kd.R_below h1 hb2) hb23.out
      exact Kd.R_lower (Kd.R_mono h2 (fun k hk => by have := hk.2.2.1; have := hb2.size; omega)) hb1.size
    case round =>
      obtain ⟨j, o, gap, hj, rfl, rfl, hS, hlen, hR, hBy, hBl⟩ := hrel
      obtain ⟨A, cp, rfl⟩ := Kd.R_slice hR.out
      by_cases hlt : j < lo.size
      · have hS' := hS.out
        rw [btl_drop lo j hlt, sgL] at hS'
        have hc := hBy.out.2 j hlt
        obtain ⟨q1, q2⟩ := bt_range lo j
        clear hS
        generalize bt lo j = c at *
        by_cases hlet : slI c = true
        · rw [if_pos hlet] at hS'
          by_cases hgp : gap = true
          · subst hgp
            by_cases hl19 : o.length < 19
            · rw [show dash o true = o ++ [45] from if_pos ⟨rfl, hl19⟩, if_neg (by rw [List.length_append, List.length_singleton]; omega)] at hS'
              replace hS' := Lib.hid hS'
              have h20 := Lib.hid hl19
              have hl19' : (o.length : Int) < 19 := by omega
              obtain ⟨o1, ho1⟩ : ∃ o1, o1 = o ++ [45] := ⟨_, rfl⟩
              rw [← ho1] at hS'
              have hl1 : o1.length = o.length + 1 := by rw [ho1, List.length_append, List.length_singleton]
              have h20' : ((o1.length : Int) == 20) = false := by simp; omega
              have hlen1 := Lib.hid (show o1.length ≤ 20 by omega)
              replace ho1 := Lib.hid ho1
              replace hl1 := Lib.hid hl1
              clear hl19
              unfold slI at hlet
              by_cases u1 : 97 ≤ c
              · have u2 : c ≤ 122 := by simp at hlet; omega
                clear hlet
                go_wp2_with (first | ((with_reducible refine gate_builtin (b := .append) (xs := #[.tmp 49, .tmp 50]) rfl ?_); at_builtin; (refine Kd.R_append (Kd.int .u8) (w0 := w) w.heap.size rfl (.tmp 49) (.tmp 50) 23 5 (.int .u8 0) 1 rfl Tryz.underlying23 info5 rfl zb20 zb17 (.slice A o.length cp) o 45 [.int .u8 45] (fun b => b ≠ w2.heap.size) (fun _ => False) rfl rfl ?aP (fun _ hk => hk.elim) ?aF ?aO ?aB ?aS ?aL ?_; (case aP => exact rfl); (case aB => exact hBl.out); (case aF => exact (fun k hk => by have := hBy.out.1; (try simp only [World.size_alloc] at hk); omega)); (case aO => exact hR.out); (case aS => exact below_size hBl.out); (case aL => have := hlen.out; (try simp only [List.length_append, List.length_singleton]); omega); intro v1 w4 ho hb hg hat; rw [← ho1.out] at ho; obtain ⟨A1, c1, rfl⟩ := Kd.R_slice ho; have hR1 := Lib.hid ho; have hBl1 := Lib.hid hb; have hBy1 := Lib.hid (hBy.out.keep (hg.block _ hBy.out.1 (Kd.R_away hR.out (fun k hk => hk))) hg.size); clear ho hb hg hat)) | ((with_reducible refine gate_builtin (b := .append) (xs := #[.tmp 55, .tmp 57]) rfl ?_); at_builtin; (refine Kd.R_append (Kd.int .u8) (w0 := w) w.heap.size rfl (.tmp 55) (.tmp 57) 23 5 (.int .u8 0) 1 rfl Tryz.underlying23 info5 rfl zb20 zb17 (.slice A1 o1.length c1) o1 c [.int .u8 c] (fun b => b ≠ w2.heap.size) (fun _ => False) rfl rfl ?aP (fun _ hk => hk.elim) ?aF ?aO ?aB ?aS ?aL ?_; (case aP => exact rfl); (case aB => exact hBl1.out); (case aF => exact (fun k hk => by have := hBy1.out.1; (try simp only [World.size_alloc] at hk); omega)); (case aO => exact hR1.out); (case aS => exact below_size hBl1.out); (case aL => have := hlen1.out; (try simp only [List.length_append, List.length_singleton]); omega); intro v2 w5 ho hb hg hat; have hR2 := Lib.hid ho; have hBl2 := Lib.hid hb; have hBy2 := Lib.hid (hBy1.out.keep (hg.block _ hBy1.out.1 (Kd.R_away hR1.out (fun k hk => hk))) hg.size); clear ho hb hg hat)))
                go_roundw
                case rel => exact ⟨j + 1, (o1 ++ [c]), false, by omega, rfl, by go_num, Lib.hid zb37, Lib.hid zb35, hR2, hBy2, hBl2⟩
                case measure => simp [intOf]; omega
              · have u3 : 48 ≤ c := by simp at hlet; omega
                have u4 : c ≤ 57 := by simp at hlet; omega
                clear hlet
                go_wp2_with (first | ((with_reducible refine gate_builtin (b := .append) (xs := #[.tmp 49, .tmp 50]) rfl ?_); at_builtin; (refine Kd.R_append (Kd.int .u8) (w0 := w) w.heap.size rfl (.tmp 49) (.tmp 50) 23 5 (.int .u8 0) 1 rfl Tryz.underlying23 info5 rfl zb20 zb17 (.slice A o.length cp) o 45 [.int .u8 45] (fun b => b ≠ w2.heap.size) (fun _ => False) rfl rfl ?aP (fun _ hk => hk.elim) ?aF ?aO ?aB ?aS ?aL ?_; (case aP => exact rfl); (case aB => exact hBl.out); (case aF => exact (fun k hk => by have := hBy.out.1; (try simp only [World.size_alloc] at hk); omega)); (case aO => exact hR.out); (case aS => exact below_size hBl.out); (case aL => have := hlen.out; (try simp only [List.length_append, List.length_singleton]); omega); intro v1 w4 ho hb hg hat; rw [← ho1.out] at ho; obtain ⟨A1, c1, rfl⟩ := Kd.R_slice ho; have hR1 := Lib.hid ho; have hBl1 := Lib.hid hb; have hBy1 := Lib.hid (hBy.out.keep (hg.block _ hBy.out.1 (Kd.R_away hR.out (fun k hk => hk))) hg.size); clear ho hb hg hat)) | ((with_reducible refine gate_builtin (b := .append) (xs := #[.tmp 55, .tmp 57]) rfl ?_); at_builtin; (refine Kd.R_append (Kd.int .u8) (w0 := w) w.heap.size rfl (.tmp 55) (.tmp 57) 23 5 (.int .u8 0) 1 rfl Tryz.underlying23 info5 rfl zb20 zb17 (.slice A1 o1.length c1) o1 c [.int .u8 c] (fun b => b ≠ w2.heap.size) (fun _ => False) rfl rfl ?aP (fun _ hk => hk.elim) ?aF ?aO ?aB ?aS ?aL ?_; (case aP => exact rfl); (case aB => exact hBl1.out); (case aF => exact (fun k hk => by have := hBy1.out.1; (try simp only [World.size_alloc] at hk); omega)); (case aO => exact hR1.out); (case aS => exact below_size hBl1.out); (case aL => have := hlen1.out; (try simp only [List.length_append, List.length_singleton]); omega); intro v2 w5 ho hb hg hat; have hR2 := Lib.hid ho; have hBl2 := Lib.hid hb; have hBy2 := Lib.hid (hBy1.out.keep (hg.block _ hBy1.out.1 (Kd.R_away hR1.out (fun k hk => hk))) hg.size); clear ho hb hg hat)))
                go_roundw
                case rel => exact ⟨j + 1, (o1 ++ [c]), false, by omega, rfl, by go_num, Lib.hid zb37, Lib.hid zb35, hR2, hBy2, hBl2⟩
                case measure => simp [intOf]; omega
            · rw [show dash o true = o from if_neg (fun h => hl19 h.2)] at hS'
              have hl19' : ¬ (o.length : Int) < 19 := by omega
              clear hl19
              by_cases hl20 : o.length = 20
              · rw [if_pos hl20] at hS'
                have hl20' : ((o.length : Int) == 20) = true := by simp; omega
                clear hl20
                unfold slI at hlet
                by_cases u1 : 97 ≤ c
                · have u2 : c ≤ 122 := by simp at hlet; omega
                  clear hlet
                  have hconv2 : (convert 23 9 (.slice A o.length cp)).run Tryz.prog wr = .ok (.string (strOfNums o)) wr := Kd.C_string Tryz.underlying23 Tryz.underlying5 Tryz.underlying9 (Kd.R_reads' hR.out).2.2
                  obtain ⟨out, hout⟩ : ∃ x, x = strOfNums o := ⟨_, rfl⟩
                  rw [← hout] at hconv2
                  have hout' := Lib.hid (hout.trans (congrArg strOfNums hS'))
                  clear hout hS'
                  go_wp2
                  go_ret
                  exact ⟨ret_str hout'.out, hBl.out⟩
                · have u3 : 48 ≤ c := by simp at hlet; omega
                  have u4 : c ≤ 57 := by simp at hlet; omega
                  clear hlet
                  have hconv2 : (convert 23 9 (.slice A o.length cp)).run Tryz.prog wr = .ok (.string (strOfNums o)) wr := Kd.C_string Tryz.underlying23 Tryz.underlying5 Tryz.underlying9 (Kd.R_reads' hR.out).2.2
                  obtain ⟨out, hout⟩ : ∃ x, x = strOfNums o := ⟨_, rfl⟩
                  rw [← hout] at hconv2
                  have hout' := Lib.hid (hout.trans (congrArg strOfNums hS'))
                  clear hout hS'
                  go_wp2
                  go_ret
                  exact ⟨ret_str hout'.out, hBl.out⟩
              · rw [if_neg hl20] at hS'
                replace hS' := Lib.hid hS'
                have h20 := Lib.hid (show o.length < 20 by have := hlen.out; omega)
                have hl20' : ((o.length : Int) == 20) = false := by simp; omega
                clear hl20
                unfold slI at hlet
                by_cases u1 : 97 ≤ c
                · have u2 : c ≤ 122 := by simp at hlet; omega
                  clear hlet
                  go_wp2_with ((with_reducible refine gate_builtin (b := .append) (xs := #[.tmp 55, .tmp 57]) rfl ?_); at_builtin; (refine Kd.R_append (Kd.int .u8) (w0 := w) w.heap.size rfl (.tmp 55) (.tmp 57) 23 5 (.int .u8 0) 1 rfl Tryz.underlying23 info5 rfl zb20 zb17 (.slice A o.length cp) o c [.int .u8 c] (fun b => b ≠ w2.heap.size) (fun _ => False) rfl rfl ?aP (fun _ hk => hk.elim) ?aF ?aO ?aB ?aS ?aL ?_; (case aP => exact rfl); (case aB => exact hBl.out); (case aF => exact (fun k hk => by have := hBy.out.1; (try simp only [World.size_alloc] at hk); omega)); (case aO => exact hR.out); (case aS => exact below_size hBl.out); (case aL => have := hlen.out; (try simp only [List.length_append, List.length_singleton]); omega); intro v2 w5 ho hb hg hat; have hR2 := Lib.hid ho; have hBl2 := Lib.hid hb; have hBy2 := Lib.hid (hBy.out.keep (hg.block _ hBy.out.1 (Kd.R_away hR.out (fun k hk => hk))) hg.size); clear ho hb hg hat))
                  go_roundw
                  case rel => exact ⟨j + 1, (o ++ [c]), false, by omega, rfl, by go_num, Lib.hid zb37, Lib.hid zb24, hR2, hBy2, hBl2⟩
                  case measure => simp [intOf]; omega
                · have u3 : 48 ≤ c := by simp at hlet; omega
                  have u4 : c ≤ 57 := by simp at hlet; omega
                  clear hlet
                  go_wp2_with ((with_reducible refine gate_builtin (b := .append) (xs := #[.tmp 55, .tmp 57]) rfl ?_); at_builtin; (refine Kd.R_append (Kd.int .u8) (w0 := w) w.heap.size rfl (.tmp 55) (.tmp 57) 23 5 (.int .u8 0) 1 rfl Tryz.underlying23 info5 rfl zb20 zb17 (.slice A o.length cp) o c [.int .u8 c] (fun b => b ≠ w2.heap.size) (fun _ => False) rfl rfl ?aP (fun _ hk => hk.elim) ?aF ?aO ?aB ?aS ?aL ?_; (case aP => exact rfl); (case aB => exact hBl.out); (case aF => exact (fun k hk => by have := hBy.out.1; (try simp only [World.size_alloc] at hk); omega)); (case aO => exact hR.out); (case aS => exact below_size hBl.out); (case aL => have := hlen.out; (try simp only [List.length_append, List.length_singleton]); omega); intro v2 w5 ho hb hg hat; have hR2 := Lib.hid ho; have hBl2 := Lib.hid hb; have hBy2 := Lib.hid (hBy.out.keep (hg.block _ hBy.out.1 (Kd.R_away hR.out (fun k hk => hk))) hg.size); clear ho hb hg hat))
                  go_roundw
                  case rel => exact ⟨j + 1, (o ++ [c]), false, by omega, rfl, by go_num, Lib.hid zb37, Lib.hid zb24, hR2, hBy2, hBl2⟩
                  case measure => simp [intOf]; omega
          · obtain rfl : gap = false := by simpa using hgp
            clear hgp
            rw [show dash o false = o from if_neg (fun h => absurd h.1 zb20)] at hS'
            by_cases hl20 : o.length = 20
            · rw [if_pos hl20] at hS'
              have hl20' : ((o.length : Int) == 20) = true := by simp; omega
              clear hl20
              unfold slI at hlet
              by_cases u1 : 97 ≤ c
              · have u2 : c ≤ 122 := by simp at hlet; omega
                clear hlet
                have hconv2 : (convert 23 9 (.slice A o.length cp)).run Tryz.prog wr = .ok (.string (strOfNums o)) wr := Kd.C_string Tryz.underlying23 Tryz.underlying5 Tryz.underlying9 (Kd.R_reads' hR.out).2.2
                obtain ⟨out, hout⟩ : ∃ x, x = strOfNums o := ⟨_, rfl⟩
                rw [← hout] at hconv2
                have hout' := Lib.hid (hout.trans (congrArg strOfNums hS'))
                clear hout hS'
                go_wp2
                go_ret
                exact ⟨ret_str hout'.out, hBl.out⟩
              · have u3 : 48 ≤ c := by simp at hlet; omega
                have u4 : c ≤ 57 := by simp at hlet; omega
                clear hlet
                have hconv2 : (convert 23 9 (.slice A o.length cp)).run Tryz.prog wr = .ok (.string (strOfNums o)) wr := Kd.C_string Tryz.underlying23 Tryz.underlying5 Tryz.underlying9 (Kd.R_reads' hR.out).2.2
                obtain ⟨out, hout⟩ : ∃ x, x = strOfNums o := ⟨_, rfl⟩
                rw [← hout] at hconv2
                have hout' := Lib.hid (hout.trans (congrArg strOfNums hS'))
                clear hout hS'
                go_wp2
                go_ret
                exact ⟨ret_str hout'.out, hBl.out⟩
            · rw [if_neg hl20] at hS'
              replace hS' := Lib.hid hS'
              have h20 := Lib.hid (show o.length < 20 by have := hlen.out; omega)
              have hl20' : ((o.length : Int) == 20) = false := by simp; omega
              clear hl20
              unfold slI at hlet
              by_cases u1 : 97 ≤ c
              · have u2 : c ≤ 122 := by simp at hlet; omega
                clear hlet
                go_wp2_with ((with_reducible refine gate_builtin (b := .append) (xs := #[.tmp 55, .tmp 57]) rfl ?_); at_builtin; (refine Kd.R_append (Kd.int .u8) (w0 := w) w.heap.size rfl (.tmp 55) (.tmp 57) 23 5 (.int .u8 0) 1 rfl Tryz.underlying23 info5 rfl zb20 zb17 (.slice A o.length cp) o c [.int .u8 c] (fun b => b ≠ w2.heap.size) (fun _ => False) rfl rfl ?aP (fun _ hk => hk.elim) ?aF ?aO ?aB ?aS ?aL ?_; (case aP => exact rfl); (case aB => exact hBl.out); (case aF => exact (fun k hk => by have := hBy.out.1; (try simp only [World.size_alloc] at hk); omega)); (case aO => exact hR.out); (case aS => exact below_size hBl.out); (case aL => have := hlen.out; (try simp only [List.length_append, List.length_singleton]); omega); intro v2 w5 ho hb hg hat; have hR2 := Lib.hid ho; have hBl2 := Lib.hid hb; have hBy2 := Lib.hid (hBy.out.keep (hg.block _ hBy.out.1 (Kd.R_away hR.out (fun k hk => hk))) hg.size); clear ho hb hg hat))
                go_roundw
                case rel => exact ⟨j + 1, (o ++ [c]), false, by omega, rfl, by go_num, Lib.hid zb37, Lib.hid zb24, hR2, hBy2, hBl2⟩
                case measure => simp [intOf]; omega
              · have u3 : 48 ≤ c := by simp at hlet; omega
                have u4 : c ≤ 57 := by simp at hlet; omega
                clear hlet
                go_wp2_with ((with_reducible refine gate_builtin (b := .append) (xs := #[.tmp 55, .tmp 57]) rfl ?_); at_builtin; (refine Kd.R_append (Kd.int .u8) (w0 := w) w.heap.size rfl (.tmp 55) (.tmp 57) 23 5 (.int .u8 0) 1 rfl Tryz.underlying23 info5 rfl zb20 zb17 (.slice A o.length cp) o c [.int .u8 c] (fun b => b ≠ w2.heap.size) (fun _ => False) rfl rfl ?aP (fun _ hk => hk.elim) ?aF ?aO ?aB ?aS ?aL ?_; (case aP => exact rfl); (case aB => exact hBl.out); (case aF => exact (fun k hk => by have := hBy.out.1; (try simp only [World.size_alloc] at hk); omega)); (case aO => exact hR.out); (case aS => exact below_size hBl.out); (case aL => have := hlen.out; (try simp only [List.length_append, List.length_singleton]); omega); intro v2 w5 ho hb hg hat; have hR2 := Lib.hid ho; have hBl2 := Lib.hid hb; have hBy2 := Lib.hid (hBy.out.keep (hg.block _ hBy.out.1 (Kd.R_away hR.out (fun k hk => hk))) hg.size); clear ho hb hg hat))
                go_roundw
                case rel => exact ⟨j + 1, (o ++ [c]), false, by omega, rfl, by go_num, Lib.hid zb37, Lib.hid zb24, hR2, hBy2, hBl2⟩
                case measure => simp [intOf]; omega
        · rw [if_neg hlet] at hS'
          replace hS' := Lib.hid hS'
          unfold slI at hlet
          by_cases u1 : 97 ≤ c
          · have u2 : ¬ c ≤ 122 := by simp at hlet; omega
            have u3 : 48 ≤ c := by omega
            have u4 : ¬ c ≤ 57 := by omega
            clear hlet
            go_wp2
            go_roundw
            case rel => exact ⟨j + 1, o, _, by omega, rfl, by go_num, Lib.hid zb37, hlen, hR, hBy, hBl⟩
            case measure => simp [intOf]; omega
          · by_cases u3 : 48 ≤ c
            · have u4 : ¬ c ≤ 57 := by simp at hlet; omega
              clear hlet
              go_wp2
              go_roundw
              case rel => exact ⟨j + 1, o, _, by omega, rfl, by go_num, Lib.hid zb37, hlen, hR, hBy, hBl⟩
              case measure => simp [intOf]; omega
            · clear hlet
              go_wp2
              go_roundw
              case rel => exact ⟨j + 1, o, _, by omega, rfl, by go_num, Lib.hid zb37, hlen, hR, hBy, hBl⟩
              case measure => simp [intOf]; omega
      · obtain rfl : j = lo.size := by omega
        have hS' := hS.out
        rw [List.drop_eq_nil_of_le (by simp [btl])] at hS'
        rw [sgL] at hS'
        have hconv2 : (convert 23 9 (.slice A o.length cp)).run Tryz.prog wr = .ok (.string (strOfNums o)) wr := Kd.C_string Tryz.underlying23 Tryz.underlying5 Tryz.underlying9 (Kd.R_reads' hR.out).2.2
        obtain ⟨out, hout⟩ : ∃ x, x = strOfNums o := ⟨_, rfl⟩
        rw [← hout] at hconv2
        have hout' := Lib.hid (hout.trans (congrArg strOfNums hS'))
        clear hout hS' hS
        go_wp2
        go_ret
        exact ⟨ret_str hout'.out, hBl.out⟩
end Go.Proofs.YteonhdfjfjpbjaaGreatDoor.O
/- SpP -/
namespace Go.Proofs.YteonhdfjfjpbjaaGreatDoor.Sp
open Go.RowKit Go.Proofs.YteonhdfjfjpbjaaGreatDoorW.PrintWords Go.Proofs.YteonhdfjfjpbjaaGreatDoorW.PrintLast Go.Proofs.YteonhdfjfjpbjaaGreatDoor.O Go.Proofs.YteonhdfjfjpbjaaGreatDoor.P
set_option linter.unusedVariables false
set_option linter.unusedSimpArgs false
def hx2 (a b : UInt8) : UInt8 := UInt8.ofNat ((hexV a).getD 0 * 16 + (hexV b).getD 0)
def perc : Nat → L → Option L
  | 0, _ => none
  | f + 1, s => if (Lib.cut s [37]).2.2 = true then (match (Lib.cut s [37]).2.1 with
      | a :: b :: t => if hexB a = true ∧ hexB b = true then (perc f t).map (fun q => (Lib.cut s [37]).1 ++ hx2 a b :: q) else none
      | _ => none) else some s
def percS (s : L) : Option L := perc (s.length + 1) s
def percR (acc : L) (r : Option L) : ByteArray × Bool := match r with
  | some t => (mk (acc ++ t), true)
  | none => (⟨#[]⟩, false)
theorem trim_hex (a b : UInt8) : Lib.trimS [a, b] hexS = [] ↔ (hexB a = true ∧ hexB b = true) := by
  unfold Lib.trimS Lib.trimLeftS Lib.trimRightS
  rw [hex_eq]
  show List.dropWhile hexB (List.dropWhile hexB [b, a]).reverse = [] ↔ _
  by_cases hb : hexB b = true
  · by_cases ha : hexB a = true
    · simp [List.dropWhile, ha, hb]
    · simp [List.dropWhile, ha, hb]
  · by_cases ha : hexB a = true
    · simp [List.dropWhile, ha, hb]
    · simp [List.dropWhile, ha, hb]
theorem hx2_toNat (a b : UInt8) : ((hx2 a b).toNat : Int) = ((hexN [a, b] : Nat) : Int) % 256 := by
  have h1 := hexV_lt a
  have h2 := hexV_lt b
  have e : hexN [a, b] = (hexV a).getD 0 * 16 + (hexV b).getD 0 := by simp [hexN]
  unfold hx2
  rw [e, UInt8.toNat_ofNat']
  omega
theorem perc_l0 : ∀ (d f k : Nat) (s acc : L), s.length ≤ d → d < f → 2 * d + 3 ≤ k → acc.length + s.length ≤ 1000000000 → request_Percent.l0 k (mk s) (mk acc) = some (percR acc (perc f s)) := by
  intro d
  induction d with
  | zero =>
    intro f k s acc hs hf hk hb
    obtain ⟨k, rfl⟩ : ∃ k', k = k' + 1 := ⟨k - 1, by omega⟩
    obtain ⟨f, rfl⟩ : ∃ f', f = f' + 1 := ⟨f - 1, by omega⟩
    obtain rfl : s = [] := List.eq_nil_of_length_eq_zero (by omega)
    have e := cut1_none (c := 37) (s := []) (by simp)
    rw [request_Percent.l0, show (⟨#[37]⟩ : ByteArray) = mk [37] from rfl, cut_l, if_pos (by simp), e, perc, e]
    simp only [Option.bind_some]
    rw [Builder_WriteString.f, if_pos (by rw [mk_size, mk_size]; simp; simp at hb; omega)]
    simp [percR, Builder_String.f, mk_append]
  | succ d ih =>
    intro f k s acc hs hf hk hb
    obtain ⟨k, rfl⟩ : ∃ k', k = k' + 2 := ⟨k - 2, by omega⟩
    obtain ⟨f, rfl⟩ : ∃ f', f = f' + 1 := ⟨f - 1, by omega⟩
    rcases index1 37 s with ⟨e1, _⟩ | ⟨x, y, e1, e2, _⟩
    · have e := cut1_none e1
      rw [request_Percent.l0, show (⟨#[37]⟩ : ByteArray) = mk [37] from rfl, cut_l, if_pos (by omega), e, perc, e]
      simp only [Option.bind_some]
      rw [Builder_WriteString.f, if_pos (by rw [mk_size, mk_size]; omega)]
      simp [percR, Builder_String.f, mk_append]
    · have e := cut1_some x y e2
      rw [← e1] at e
      have hsz : s.length = x.length + (y.length + 1) := by rw [e1]; simp
      rw [request_Percent.l0, show (⟨#[37]⟩ : ByteArray) = mk [37] from rfl, cut_l, if_pos (by omega), e, perc, e]
      simp only [Option.bind_some, if_true]
      rw [Builder_WriteString.f, if_pos (by rw [mk_size, mk_size]; omega)]
      simp only [Option.bind_some, mk_append]
      match y, hsz with
      | [], _ => rw [if_pos (by rw [mk_size]; simp), request_Percent.j1, if_pos rfl]; rfl
      | [a], _ => rw [if_pos (by rw [mk_size]; simp), request_Percent.j1, if_pos rfl]; rfl
      | a :: b :: t, hsz =>
        simp only [List.length_cons] at hsz
        have ht : ((mk (a :: b :: t)).extract 0 2) = mk [a, b] := by rw [ext_to]; rfl
        have ht2 : ((mk (a :: b :: t)).extract 2 (mk (a :: b :: t)).size) = mk t := by rw [ext_from]; rfl
        rw [if_neg (by rw [mk_size]; simp only [List.length_cons]; omega), if_pos (by decide), if_pos (by rw [mk_size]; simp only [List.length_cons]; omega), ht]
        rw [strings_Trim.f, if_pos ⟨by rw [mk_size]; simp, by decide, by decide⟩]
        simp only [Option.bind_some, mk_data]
        rw [show ([48, 49, 50, 51, 52, 53, 54, 55, 56, 57, 97, 98, 99, 100, 101, 102, 65, 66, 67, 68, 69, 70] : List UInt8) = hexS from rfl, show (⟨(Lib.trimS [a, b] hexS).toArray⟩ : ByteArray) = mk (Lib.trimS [a, b] hexS) from rfl, tl_mk, request_Percent.j1]
        by_cases hx : hexB a = true ∧ hexB b = true
        · rw [if_neg (by simp [(trim_hex a b).2 hx]), if_pos (by decide), if_pos (by rw [mk_size]; simp only [List.length_cons]; omega), ht, ht2, puF [a, b] (by simp) (by simp [hx.1, hx.2]), puS_eq [a, b] (by simp) (by simp [hx.1, hx.2]) (by simp)]
          simp only [Option.bind_some]
          rw [if_pos (by rfl), Builder_PutByte.f, ← hx2_toNat, oneB_mk, if_pos ⟨by omega, by have := (hx2 a b).toNat_lt; omega, by rw [mk_size, List.length_append]; omega⟩]
          simp only [Option.bind_some, mk_append]
          rw [ih f k t (acc ++ x ++ [hx2 a b]) (by omega) (by omega) (by omega) (by simp only [List.length_append, List.length_singleton]; omega)]
          rw [if_pos hx]
          cases perc f t with
          | none => rfl
          | some q => simp [percR]
        · rw [if_pos (by simpa using fun h => hx ((trim_hex a b).1 h)), if_neg hx]
          rfl
theorem percF (s : L) (k : Nat) (hs : s.length ≤ 1000000) (hk : 2 * s.length + 3 ≤ k) : request_Percent.f k (mk s) = some (percR [] (percS s)) :=
  perc_l0 s.length (s.length + 1) k s [] (Nat.le_refl _) (Nat.lt_succ_self _) hk (by simp; omega)
end Go.Proofs.YteonhdfjfjpbjaaGreatDoor.Sp
/- Oslg -/
namespace Go.Proofs.YteonhdfjfjpbjaaGreatDoor.Sp
open Go.RowKit Go.Proofs.YteonhdfjfjpbjaaGreatDoorW.PrintWords Go.Proofs.YteonhdfjfjpbjaaGreatDoorW.PrintLast Go.Proofs.YteonhdfjfjpbjaaGreatDoor.O Go.Proofs.YteonhdfjfjpbjaaGreatDoor.P
set_option linter.unusedVariables false
set_option linter.unusedSimpArgs false
theorem perc_len : ∀ (f : Nat) (s t : L), perc f s = some t → t.length ≤ s.length := by
  intro f
  induction f with
  | zero => intro s t h; simp [perc] at h
  | succ f ih =>
    intro s t h
    rcases index1 37 s with ⟨e1, _⟩ | ⟨x, y, e1, e2, _⟩
    · rw [perc, cut1_none e1] at h
      simp only [Bool.false_eq_true, if_false, Option.some.injEq] at h
      rw [h]
      exact Nat.le_refl _
    · have hsz : s.length = x.length + (y.length + 1) := by rw [e1]; simp
      have e := cut1_some x y e2
      rw [← e1] at e
      rw [perc, e] at h
      simp only [if_true] at h
      match y, hsz, h with
      | a :: b :: r, hsz, h =>
        simp only at h
        split at h
        · cases e3 : perc f r with
          | none => rw [e3] at h; simp at h
          | some q =>
            rw [e3] at h
            simp only [Option.map_some, Option.some.injEq] at h
            have := ih r q e3
            rw [← h]
            simp only [List.length_append, List.length_cons] at hsz ⊢
            omega
        · cases h
      | [], hsz, h => simp at h
      | [_], hsz, h => simp at h
def slugT (s : L) : L := (percS s).getD s
def slugB (s : L) : ByteArray := strOfNums (sgL (btl (mk (low (slugT s)))) [] false)
theorem slugT_len (s : L) : (slugT s).length ≤ s.length := by
  unfold slugT
  cases h : percS s with
  | none => exact Nat.le_refl _
  | some t => exact perc_len _ _ _ h
end Go.Proofs.YteonhdfjfjpbjaaGreatDoor.Sp
namespace Go.Proofs.YteonhdfjfjpbjaaGreatDoor.O
open Go.RowKit Go.Proofs.YteonhdfjfjpbjaaGreatDoorW.PrintWords Go.Proofs.YteonhdfjfjpbjaaGreatDoorW.PrintLast Go.Proofs.YteonhdfjfjpbjaaGreatDoorW.PrintMore Go.Proofs.YteonhdfjfjpbjaaGreatDoor.P
def request_Slug.f (a0 : ByteArray) : Option ByteArray := if a0.size ≤ 1000000 then some (Sp.slugB a0.data.toList) else none
theorem request_Slug.calls (a0 : ByteArray) (r : ByteArray) (w : World) (hG : Glob w) (h : request_Slug.f a0 = some r) :
    Calls Tryz.prog 22 #[.string a0] w fun e w' => e = .returned (.string r) ∧ Below w.heap.size w w' := by
  unfold request_Slug.f at h
  split at h
  case isFalse => exact absurd h zb25
  rename_i hs
  obtain rfl := Option.some.inj h
  have hs' : a0.data.toList.length ≤ 1000000 := by rw [← Lib.size_eq]; exact hs
  have hp := Sp.percF a0.data.toList (2 * a0.data.toList.length + 3) hs' (Nat.le_refl _)
  rw [Sp.mk_self] at hp
  have hl := Sp.slugT_len a0.data.toList
  refine slug_in _ a0 _ (Sp.mk (Sp.low (Sp.slugT a0.data.toList))) _ w hG hp ?_ (by rw [Sp.mk_size, Sp.low_len]; omega)
  have e : (if (Sp.percR [] (Sp.percS a0.data.toList)).2 = true then (Sp.percR [] (Sp.percS a0.data.toList)).1 else a0) = Sp.mk (Sp.slugT a0.data.toList) := by
    unfold Sp.percR Sp.slugT
    cases Sp.percS a0.data.toList with
    | none => exact (Sp.mk_self a0).symm
    | some t => rfl
  have h2 := Sp.lowF (Sp.slugT a0.data.toList) zb17
  rw [← e] at h2
  exact h2
end Go.Proofs.YteonhdfjfjpbjaaGreatDoor.O
/- Px18 -/
namespace Go.Proofs.YteonhdfjfjpbjaaGreatDoor.P
open Go.Proofs.YteonhdfjfjpbjaaGreatDoor.B
open Go.RowKit Go.Proofs.YteonhdfjfjpbjaaGreatDoorW.PrintWords Go.Proofs.YteonhdfjfjpbjaaGreatDoorW.PrintLast Go.Proofs.YteonhdfjfjpbjaaGreatDoorW.PrintMore
attribute [local go_sem] str_leq str_gtr str_geq max2_int min2_int max_two min_two max_three min_three max_four min_four
set_option linter.unusedVariables false
set_option linter.unusedSimpArgs false
open Go.Proofs.YteonhdfjfjpbjaaGreatDoor.O
def broadsheetlaw20_awake.f  : Option (Bool) := (request_Parse.f (⟨#[71, 69, 84, 32, 47, 32, 72, 84, 84, 80, 47, 49, 46, 49, 13, 10, 72, 111, 115, 116, 58, 32, 97, 13, 10, 13, 10]⟩ : ByteArray)).bind fun bt204 => ((request_Parse.f (⟨#[71, 69, 84, 32, 47, 32, 72, 84, 84, 80, 47, 49, 46, 48, 13, 10, 13, 10]⟩ : ByteArray)).bind fun bt212 => (if bt204.2.2.2.2 = 0 then (if bt204.1.toList = ([71, 69, 84] : List UInt8) then (if bt204.2.1.toList = ([47] : List UInt8) then (if (bt204.2.2.1.length : Int) = 1 then (if bt212.2.2.2.2 = 200 then ((request_Slug.f (⟨#[84, 104, 101, 32, 66, 101, 97, 99, 104, 32, 97, 116, 32, 83, 37, 67, 51, 37, 65, 56, 116, 101]⟩ : ByteArray)).bind fun t220 => (some (t220.toList == ([116, 104, 101, 45, 98, 101, 97, 99, 104, 45, 97, 116, 45, 115, 45, 116, 101] : List UInt8)))) else (some false)) else (some false)) else (some false)) else (some false)) else (some false)))
set_option maxHeartbeats 8000000 in
set_option maxRecDepth 100000 in
theorem broadsheetlaw20_awake.calls  (r : Bool) (w : World) (hG : Glob w) (h : broadsheetlaw20_awake.f  = some r) (hr : r = true) :
  Calls Tryz.prog 16 #[] w fun e w' => e = .returned (.bool r) ∧ Below w.heap.size w w' := by
 have hu36 := Tryz.underlying36
 have HB := Aside0.mk (Below.refl w.heap.size w)
 have hGA := Aside0.mk hG
 clear hG
 have H : ((request_Parse.f (⟨#[71, 69, 84, 32, 47, 32, 72, 84, 84, 80, 47, 49, 46, 49, 13, 10, 72, 111, 115, 116, 58, 32, 97, 13, 10, 13, 10]⟩ : ByteArray)).bind fun bt204 => ((request_Parse.f (⟨#[71, 69, 84, 32, 47, 32, 72, 84, 84, 80, 47, 49, 46, 48, 13, 10, 13, 10]⟩ : ByteArray)).bind fun bt212 => (if bt204.2.2.2.2 = 0 then (if bt204.1.toList = ([71, 69, 84] : List UInt8) then (if bt204.2.1.toList = ([47] : List UInt8) then (if (bt204.2.2.1.length : Int) = 1 then (if bt212.2.2.2.2 = 200 then ((request_Slug.f (⟨#[84, 104, 101, 32, 66, 101, 97, 99, 104, 32, 97, 116, 32, 83, 37, 67, 51, 37, 65, 56, 116, 101]⟩ : ByteArray)).bind fun t220 => (some (t220.toList == ([116, 104, 101, 45, 98, 101, 97, 99, 104, 45, 97, 116, 45, 115, 45, 116, 101] : List UInt8)))) else (some false)) else (some false)) else (some false)) else (some false)) else (some false)))) = some r := h
 clear h
 replace H := Option.bind_eq_some_iff.mp H
 obtain ⟨⟨t204, t205, t206, t209, t210⟩, A10, H⟩ := H
 replace H : ((request_Parse.f (⟨#[71, 69, 84, 32, 47, 32, 72, 84, 84, 80, 47, 49, 46, 48, 13, 10, 13, 10]⟩ : ByteArray)).bind fun bt212 => (if t210 = 0 then (if t204.toList = ([71, 69, 84] : List UInt8) then (if t205.toList = ([47] : List UInt8) then (if (t206.length : Int) = 1 then (if bt212.2.2.2.2 = 200 then ((request_Slug.f (⟨#[84, 104, 101, 32, 66, 101, 97, 99, 104, 32, 97, 116, 32, 83, 37, 67, 51, 37, 65, 56, 116, 101]⟩ : ByteArray)).bind fun t220 => (some (t220.toList == ([116, 104, 101, 45, 98, 101, 97, 99, 104, 45, 97, 116, 45, 115, 45, 116, 101] : List UInt8)))) else (some false)) else (some false)) else (some false)) else (some false)) else (some false))) = some r := H
 have A1 := Aside0.mk A10
 clear A10
 replace H := Option.bind_eq_some_iff.mp H
 obtain ⟨⟨t212, t213, t214, t217, t218⟩, A20, H⟩ := H
 replace H : (if t210 = 0 then (if t204.toList = ([71, 69, 84] : List UInt8) then (if t205.toList = ([47] : List UInt8) then (if (t206.length : Int) = 1 then (if t218 = 200 then ((request_Slug.f (⟨#[84, 104, 101, 32, 66, 101, 97, 99, 104, 32, 97, 116, 32, 83, 37, 67, 51, 37, 65, 56, 116, 101]⟩ : ByteArray)).bind fun t220 => (some (t220.toList == ([116, 104, 101, 45, 98, 101, 97, 99, 104, 45, 97, 116, 45, 115, 45, 116, 101] : List UInt8)))) else (some false)) else (some false)) else (some false)) else (some false)) else (some false)) = some r := H
 have A2 := Aside0.mk A20
 clear A20
 by_cases c3 : t210 = 0
 ·rw [if_pos c3] at H
  have c3b0 : (t210 == 0) = true := beq_iff_eq.mpr c3
  have c3b1 : (t210 != 0) = false := bne_eq_false_iff_eq.mpr c3
  clear c3
  by_cases c4 : t204.toList = ([71, 69, 84] : List UInt8)
  ·rw [if_pos c4] at H
   have c4b0 : (t204.toList == ([71, 69, 84] : List UInt8)) = true := beq_iff_eq.mpr c4
   have c4b1 : (t204.toList != ([71, 69, 84] : List UInt8)) = false := bne_eq_false_iff_eq.mpr c4
   clear c4
   by_cases c5 : t205.toList = ([47] : List UInt8)
   ·rw [if_pos c5] at H
    have c5b0 : (t205.toList == ([47] : List UInt8)) = true := beq_iff_eq.mpr c5
    have c5b1 : (t205.toList != ([47] : List UInt8)) = false := bne_eq_false_iff_eq.mpr c5
    clear c5
    by_cases c6 : (t206.length : Int) = 1
    ·rw [if_pos c6] at H
     have c6b0 : ((t206.length : Int) == 1) = true := beq_iff_eq.mpr c6
     have c6b1 : ((t206.length : Int) != 1) = false := bne_eq_false_iff_eq.mpr c6
     clear c6
     by_cases c7 : t218 = 200
     ·rw [if_pos c7] at H
      have c7b0 : (t218 == 200) = true := beq_iff_eq.mpr c7
      have c7b1 : (t218 != 200) = false := bne_eq_false_iff_eq.mpr c7
      clear c7
      replace H := Option.bind_eq_some_iff.mp H
      obtain ⟨t220, A80, H⟩ := H
      replace H : (some (t220.toList == ([116, 104, 101, 45, 98, 101, 97, 99, 104, 45, 97, 116, 45, 115, 45, 116, 101] : List UInt8))) = some r := H
      have A8 := Aside0.mk A80
      clear A80
      obtain rfl := Option.some.inj H
      go_enter Tryz.func16, Tryz.ntmps16
      go_wp2_with (first | ((with_reducible refine gate_callee (f := 17) rfl ?_); refine goesL_ (some 6) rfl rfl Tryz.func17 zb15 rfl #[.string (⟨#[71, 69, 84, 32, 47, 32, 72, 84, 84, 80, 47, 49, 46, 49, 13, 10, 72, 111, 115, 116, 58, 32, 97, 13, 10, 13, 10]⟩ : ByteArray)] rfl zb1 ?_; (with_reducible refine (request_Parse.calls (⟨#[71, 69, 84, 32, 47, 32, 72, 84, 84, 80, 47, 49, 46, 49, 13, 10, 72, 111, 115, 116, 58, 32, 97, 13, 10, 13, 10]⟩ : ByteArray) t204 t205 t206 t209 t210 _ ?side1 A1.out).mono ?_); (case side1 => exact Glob.below hGA.out zb0); rintro e w9 ⟨v207, rfl, ho0, hb⟩; refine ⟨_, rfl, ?_⟩; have n0_ := Aside0.mk (Kd.R_lower ho0 (below_size zb0)); have n1_ := Aside0.mk (below_step zb0 hb); clear HB; have HO208 := n0_; have HB := n1_; clear n0_ n1_; (try clear hb); (try clear hb2); (try clear hk); (try clear hi); (try clear ho0)) | ((with_reducible refine gate_dst (N := 1) rfl ?_); (try (refine gate_guard (by rfl) ?_; dsimp only)); refine box_event ?hg (N := 1) ?hd (cs := #[.string (⟨#[]⟩ : ByteArray), .string (⟨#[]⟩ : ByteArray), .slice none 0 0, .string (⟨#[]⟩ : ByteArray)]) (t := 36) ?hr ?_; (case hd => rfl); (case hg => rfl); (case hr => first | (go_simp; done) | (go_simp; rfl)); intro gb211 hg w10 hbox hb; have n0_ := Aside0.mk (Kd.R_below (by (with_reducible repeat (first | apply Kd.R_alloc | apply Kd.R_drewN | apply Kd.R_drew)); exact HO208.out) hb); have n1_ := Aside0.mk (below_step zb0 hb); have n2_ := Aside0.mk (hbox); have n3_ := Aside0.mk ((by rw [hg]; exact (below_size zb0) : w.heap.size ≤ gb211)); have n4_ := Aside0.mk ((by rw [hg]; exact (below_size zb0) : w.heap.size ≤ gb211)); clear HO208; clear HB; have HO208 := n0_; have HB := n1_; have BK211 := n2_; have GW211 := n3_; have GE211 := n4_; clear n0_ n1_ n2_ n3_ n4_; clear hb hbox hg; have hcz11_0 : w10.cell? ⟨gb211, 0, none⟩ = some (.string (⟨#[]⟩ : ByteArray)) := (blk_cell BK211.out 0).trans rfl; have hcz11_1 : w10.cell? ⟨gb211, 1, none⟩ = some (.string (⟨#[]⟩ : ByteArray)) := (blk_cell BK211.out 1).trans rfl; have hcz11_2 : w10.cell? ⟨gb211, 2, none⟩ = some (.slice none 0 0) := (blk_cell BK211.out 2).trans rfl; have hcz11_3 : w10.cell? ⟨gb211, 3, none⟩ = some (.string (⟨#[]⟩ : ByteArray)) := (blk_cell BK211.out 3).trans rfl; have hfz11_0 := blk_frozen BK211.out 0; have hfz11_1 := blk_frozen BK211.out 1; have hfz11_2 := blk_frozen BK211.out 2; have hfz11_3 := blk_frozen BK211.out 3; obtain ⟨Ao12, co12, eo12⟩ := Kd.R_slice HO208.out; subst eo12) | ((with_reducible refine gate_callee (f := 17) rfl ?_); refine goesL_ (some 10) rfl rfl Tryz.func17 zb15 rfl #[.string (⟨#[71, 69, 84, 32, 47, 32, 72, 84, 84, 80, 47, 49, 46, 48, 13, 10, 13, 10]⟩ : ByteArray)] rfl zb1 ?_; (with_reducible refine (request_Parse.calls (⟨#[71, 69, 84, 32, 47, 32, 72, 84, 84, 80, 47, 49, 46, 48, 13, 10, 13, 10]⟩ : ByteArray) t212 t213 t214 t217 t218 _ ?side1 A2.out).mono ?_); (case side1 => exact Glob.below hGA.out zb22); rintro e w13 ⟨v215, rfl, ho0, hb⟩; refine ⟨_, rfl, ?_⟩; have n0_ := Aside0.mk (Kd.R_elder' zb31 (Kd.R_base ho0) hb); have n1_ := Aside0.mk (Kd.R_lower (Kd.R_new' ho0 (Kd.R_lt zb31)) (below_size zb22)); have n2_ := Aside0.mk (blk_below (g := gb211) (o := .cells #[.string t204, .string t205, .slice Ao12 t206.length co12, .string t209] 36 (0, 0)) (by (with_reducible repeat (first | refine blk_drewN ?_ _ | refine blk_drew ?_ | refine blk_alloc ?_ _)); refine blk_put (cs := #[.string t204, .string t205, .slice Ao12 t206.length co12, .string (⟨#[]⟩ : ByteArray)]) ?_ 3 _ rfl; (with_reducible repeat (first | refine blk_drewN ?_ _ | refine blk_drew ?_ | refine blk_alloc ?_ _)); refine blk_put (cs := #[.string t204, .string t205, .slice none 0 0, .string (⟨#[]⟩ : ByteArray)]) ?_ 2 _ rfl; (with_reducible repeat (first | refine blk_drewN ?_ _ | refine blk_drew ?_ | refine blk_alloc ?_ _)); refine blk_put (cs := #[.string t204, .string (⟨#[]⟩ : ByteArray), .slice none 0 0, .string (⟨#[]⟩ : ByteArray)]) ?_ 1 _ rfl; (with_reducible repeat (first | refine blk_drewN ?_ _ | refine blk_drew ?_ | refine blk_alloc ?_ _)); refine blk_put (cs := #[.string (⟨#[]⟩ : ByteArray), .string (⟨#[]⟩ : ByteArray), .slice none 0 0, .string (⟨#[]⟩ : ByteArray)]) ?_ 0 _ rfl; (with_reducible repeat (first | refine blk_drewN ?_ _ | refine blk_drew ?_ | refine blk_alloc ?_ _)); exact BK211.out) hb); have n3_ := Aside0.mk (below_step zb22 hb); clear HO208; clear BK211; clear HB; have HO208 := n0_; have HO216 := n1_; have BK211 := n2_; have HB := n3_; clear n0_ n1_ n2_ n3_; (try clear hb); (try clear hb2); (try clear hk); (try clear hi); (try clear ho0)) | ((with_reducible refine gate_dst (N := 3) rfl ?_); (try (refine gate_guard (by rfl) ?_; dsimp only)); refine box_event ?hg (N := 3) ?hd (cs := #[.string (⟨#[]⟩ : ByteArray), .string (⟨#[]⟩ : ByteArray), .slice none 0 0, .string (⟨#[]⟩ : ByteArray)]) (t := 36) ?hr ?_; (case hd => rfl); (case hg => rfl); (case hr => first | (go_simp; done) | (go_simp; rfl)); intro gb219 hg w14 hbox hb; have n0_ := Aside0.mk (Kd.R_below (by (with_reducible repeat (first | apply Kd.R_alloc | apply Kd.R_drewN | apply Kd.R_drew)); exact HO208.out) hb); have n1_ := Aside0.mk (Kd.R_below (by (with_reducible repeat (first | apply Kd.R_alloc | apply Kd.R_drewN | apply Kd.R_drew)); exact HO216.out) hb); have n2_ := Aside0.mk (blk_below (g := gb211) (o := .cells #[.string t204, .string t205, .slice Ao12 t206.length co12, .string t209] 36 (0, 0)) zb41 hb); have n3_ := Aside0.mk (below_step zb22 hb); have n4_ := Aside0.mk (hbox); have n5_ := Aside0.mk ((by rw [hg]; exact (below_size zb22) : w.heap.size ≤ gb219)); have n6_ := Aside0.mk ((by rw [hg]; exact (below_size zb22) : w.heap.size ≤ gb219)); have n7_ := Aside0.mk ((by rw [hg]; exact Nat.ne_of_lt (blk_lt (g := gb211) (o := .cells #[.string t204, .string t205, .slice Ao12 t206.length co12, .string t209] 36 (0, 0)) zb41) : gb211 ≠ gb219)); have n8_ := Aside0.mk ((by rw [hg]; exact Nat.ne_of_gt (blk_lt (g := gb211) (o := .cells #[.string t204, .string t205, .slice Ao12 t206.length co12, .string t209] 36 (0, 0)) zb41) : gb219 ≠ gb211)); clear HO208; clear HO216; clear BK211; clear HB; have HO208 := n0_; have HO216 := n1_; have BK211 := n2_; have HB := n3_; have BK219 := n4_; have GW219 := n5_; have GE219 := n6_; have NB211_219 := n7_; have NB219_211 := n8_; clear n0_ n1_ n2_ n3_ n4_ n5_ n6_ n7_ n8_; clear hb hbox hg; have hnb15 := NB219_211.out; have hnc15 := NB211_219.out; have hcz16_0 : w14.cell? ⟨gb219, 0, none⟩ = some (.string (⟨#[]⟩ : ByteArray)) := (blk_cell BK219.out 0).trans rfl; have hcz16_1 : w14.cell? ⟨gb219, 1, none⟩ = some (.string (⟨#[]⟩ : ByteArray)) := (blk_cell BK219.out 1).trans rfl; have hcz16_2 : w14.cell? ⟨gb219, 2, none⟩ = some (.slice none 0 0) := (blk_cell BK219.out 2).trans rfl; have hcz16_3 : w14.cell? ⟨gb219, 3, none⟩ = some (.string (⟨#[]⟩ : ByteArray)) := (blk_cell BK219.out 3).trans rfl; have hfz16_0 := blk_frozen BK219.out 0; have hfz16_1 := blk_frozen BK219.out 1; have hfz16_2 := blk_frozen BK219.out 2; have hfz16_3 := blk_frozen BK219.out 3; obtain ⟨Ao17, co17, eo17⟩ := Kd.R_slice HO216.out; subst eo17; have hcz18_0 : w14.cell? ⟨gb211, 0, none⟩ = some (.string t204) := (blk_cell BK211.out 0).trans rfl; have hcz18_1 : w14.cell? ⟨gb211, 1, none⟩ = some (.string t205) := (blk_cell BK211.out 1).trans rfl; have hcz18_2 : w14.cell? ⟨gb211, 2, none⟩ = some (.slice Ao12 t206.length co12) := (blk_cell BK211.out 2).trans rfl; have hcz18_3 : w14.cell? ⟨gb211, 3, none⟩ = some (.string t209) := (blk_cell BK211.out 3).trans rfl; have hfz18_0 := blk_frozen BK211.out 0; have hfz18_1 := blk_frozen BK211.out 1; have hfz18_2 := blk_frozen BK211.out 2; have hfz18_3 := blk_frozen BK211.out 3) | (go_at_call 22; (with_reducible refine (request_Slug.calls (⟨#[84, 104, 101, 32, 66, 101, 97, 99, 104, 32, 97, 116, 32, 83, 37, 67, 51, 37, 65, 56, 116, 101]⟩ : ByteArray) t220 _ ?side1 A8.out).mono ?_); (case side1 => exact Glob.below hGA.out zb34); rintro e w19 ⟨rfl, hb⟩; have n0_ := Aside0.mk (Kd.R_below (by (with_reducible repeat (first | apply Kd.R_alloc | apply Kd.R_drewN | apply Kd.R_drew)); exact (Kd.R_mono (Kd.R_far (p := ⟨gb219, 3, none⟩) (Kd.R_far (p := ⟨gb219, 2, none⟩) (Kd.R_far (p := ⟨gb219, 1, none⟩) (Kd.R_far (p := ⟨gb219, 0, none⟩) (Kd.R_types HO208.out BK219.out zb20) (fun _ hk => hk.2) (.string t212)) (fun _ hk => hk.2) (.string t213)) (fun _ hk => hk.2) (.slice Ao17 t214.length co17)) (fun _ hk => hk.2) (.string t217)) (fun _ h_ => h_.1))) hb); have n1_ := Aside0.mk (Kd.R_below (by (with_reducible repeat (first | apply Kd.R_alloc | apply Kd.R_drewN | apply Kd.R_drew)); exact (Kd.R_mono (Kd.R_far (p := ⟨gb219, 3, none⟩) (Kd.R_far (p := ⟨gb219, 2, none⟩) (Kd.R_far (p := ⟨gb219, 1, none⟩) (Kd.R_far (p := ⟨gb219, 0, none⟩) (Kd.R_types HO216.out BK219.out zb20) (fun _ hk => hk.2) (.string t212)) (fun _ hk => hk.2) (.string t213)) (fun _ hk => hk.2) (.slice Ao17 t214.length co17)) (fun _ hk => hk.2) (.string t217)) (fun _ h_ => h_.1))) hb); have n2_ := Aside0.mk (blk_below (g := gb211) (o := .cells #[.string t204, .string t205, .slice Ao12 t206.length co12, .string t209] 36 (0, 0)) (by (with_reducible repeat (first | refine blk_drewN ?_ _ | refine blk_drew ?_ | refine blk_alloc ?_ _)); refine blk_far ?_ NB211_219.out _; (with_reducible repeat (first | refine blk_drewN ?_ _ | refine blk_drew ?_ | refine blk_alloc ?_ _)); refine blk_far ?_ NB211_219.out _; (with_reducible repeat (first | refine blk_drewN ?_ _ | refine blk_drew ?_ | refine blk_alloc ?_ _)); refine blk_far ?_ NB211_219.out _; (with_reducible repeat (first | refine blk_drewN ?_ _ | refine blk_drew ?_ | refine blk_alloc ?_ _)); refine blk_far ?_ NB211_219.out _; (with_reducible repeat (first | refine blk_drewN ?_ _ | refine blk_drew ?_ | refine blk_alloc ?_ _)); exact BK211.out) hb); have n3_ := Aside0.mk (blk_below (g := gb219) (o := .cells #[.string t212, .string t213, .slice Ao17 t214.length co17, .string t217] 36 (0, 0)) (by (with_reducible repeat (first | refine blk_drewN ?_ _ | refine blk_drew ?_ | refine blk_alloc ?_ _)); refine blk_put (cs := #[.string t212, .string t213, .slice Ao17 t214.length co17, .string (⟨#[]⟩ : ByteArray)]) ?_ 3 _ rfl; (with_reducible repeat (first | refine blk_drewN ?_ _ | refine blk_drew ?_ | refine blk_alloc ?_ _)); refine blk_put (cs := #[.string t212, .string t213, .slice none 0 0, .string (⟨#[]⟩ : ByteArray)]) ?_ 2 _ rfl; (with_reducible repeat (first | refine blk_drewN ?_ _ | refine blk_drew ?_ | refine blk_alloc ?_ _)); refine blk_put (cs := #[.string t212, .string (⟨#[]⟩ : ByteArray), .slice none 0 0, .string (⟨#[]⟩ : ByteArray)]) ?_ 1 _ rfl; (with_reducible repeat (first | refine blk_drewN ?_ _ | refine blk_drew ?_ | refine blk_alloc ?_ _)); refine blk_put (cs := #[.string (⟨#[]⟩ : ByteArray), .string (⟨#[]⟩ : ByteArray), .slice none 0 0, .string (⟨#[]⟩ : ByteArray)]) ?_ 0 _ rfl; (with_reducible repeat (first | refine blk_drewN ?_ _ | refine blk_drew ?_ | refine blk_alloc ?_ _)); exact BK219.out) hb); have n4_ := Aside0.mk (below_step zb34 hb); clear HO208; clear HO216; clear BK211; clear BK219; clear HB; have HO208 := n0_; have HO216 := n1_; have BK211 := n2_; have BK219 := n3_; have HB := n4_; clear n0_ n1_ n2_ n3_ n4_; (try clear hb); (try clear hb2); (try clear hk); (try clear hi)))
      go_ret
      exact ⟨zb4, zb34⟩
     ·rw [if_neg c7] at H
      have c7b0 : (t218 == 200) = false := beq_eq_false_iff_ne.mpr c7
      have c7b1 : (t218 != 200) = true := bne_iff_ne.mpr c7
      exact absurd ((Option.some.inj H).trans hr) zb20
    ·rw [if_neg c6] at H
     have c6b0 : ((t206.length : Int) == 1) = false := beq_eq_false_iff_ne.mpr c6
     have c6b1 : ((t206.length : Int) != 1) = true := bne_iff_ne.mpr c6
     exact absurd ((Option.some.inj H).trans hr) zb20
   ·rw [if_neg c5] at H
    have c5b0 : (t205.toList == ([47] : List UInt8)) = false := beq_eq_false_iff_ne.mpr c5
    have c5b1 : (t205.toList != ([47] : List UInt8)) = true := bne_iff_ne.mpr c5
    exact absurd ((Option.some.inj H).trans hr) zb20
  ·rw [if_neg c4] at H
   have c4b0 : (t204.toList == ([71, 69, 84] : List UInt8)) = false := beq_eq_false_iff_ne.mpr c4
   have c4b1 : (t204.toList != ([71, 69, 84] : List UInt8)) = true := bne_iff_ne.mpr c4
   exact absurd ((Option.some.inj H).trans hr) zb20
 ·rw [if_neg c3] at H
  have c3b0 : (t210 == 0) = false := beq_eq_false_iff_ne.mpr c3
  have c3b1 : (t210 != 0) = true := bne_iff_ne.mpr c3
  exact absurd ((Option.some.inj H).trans hr) zb20
end Go.Proofs.YteonhdfjfjpbjaaGreatDoor.P
/- Px20 -/
namespace Go.Proofs.YteonhdfjfjpbjaaGreatDoor.P
open Go.Proofs.YteonhdfjfjpbjaaGreatDoor.B
open Go.RowKit Go.Proofs.YteonhdfjfjpbjaaGreatDoorW.PrintWords Go.Proofs.YteonhdfjfjpbjaaGreatDoorW.PrintLast Go.Proofs.YteonhdfjfjpbjaaGreatDoorW.PrintMore
attribute [local go_sem] str_leq str_gtr str_geq max2_int min2_int max_two min_two max_three min_three max_four min_four
set_option linter.unusedVariables false
set_option linter.unusedSimpArgs false
def broadsheetref18_Get.l0 : Nat → List (S49) → ByteArray → ByteArray → Int → Int → Option (ByteArray × Int)
  | 0, _, _, _, _, _ => none
  | k + 1, x0, x1, x6, x7, x8 => if x8 < (x0.length : Int) then (if 0 ≤ x8 then ((broadsheetref07_Lower.f k ((rd_T49 x0 x8).f0)).bind fun t231 => ((broadsheetref07_Lower.f k x1).bind fun t232 => (if t231.toList = t232.toList then (if x7 > 0 then (if x6.size + 2 ≤ 9223372036854775807 then (if (x6 ++ (⟨#[44, 32]⟩ : ByteArray)).size + ((rd_T49 x0 x8).f1).size ≤ 9223372036854775807 then (broadsheetref18_Get.l0 k x0 x1 ((x6 ++ (⟨#[44, 32]⟩ : ByteArray)) ++ ((rd_T49 x0 x8).f1)) (wrap64 (x7 + 1)) (wrap64 (x8 + 1))) else (none)) else (none)) else (if x6.size + ((rd_T49 x0 x8).f1).size ≤ 9223372036854775807 then (broadsheetref18_Get.l0 k x0 x1 (x6 ++ ((rd_T49 x0 x8).f1)) (wrap64 (x7 + 1)) (wrap64 (x8 + 1))) else (none))) else (broadsheetref18_Get.l0 k x0 x1 x6 x7 (wrap64 (x8 + 1)))))) else (none)) else (some (x6, x7))
def broadsheetref18_Get.f (k : Nat) (l0 : List (S49)) (a1 : ByteArray) : Option (ByteArray × Int) := broadsheetref18_Get.l0 k l0 a1 (⟨#[]⟩ : ByteArray) 0 0
set_option maxHeartbeats 8000000 in
set_option maxRecDepth 100000 in
theorem broadsheetref18_Get.calls (k : Nat) (A0 : Option Addr) (c0 : Nat) (l0 : List (S49)) (a1 : ByteArray) (r1 : ByteArray) (r2 : Int) (w : World) (hr0 : Kd.C k49 w A0 l0.length l0) (hc0 : l0.length ≤ c0) (h : broadsheetref18_Get.f k l0 a1 = some (r1, r2)) :
  Calls Tryz.prog 25 #[.slice A0 l0.length c0, .string a1] w fun e w' => e = .returned (.tuple #[.string r1, .int .i64 r2]) ∧ Below w.heap.size w w' := by
 have HR0 := Aside0.mk hr0
 have HC0 := Aside0.mk hc0
 clear hr0 hc0
 have HB := Aside0.mk (Below.refl w.heap.size w)
 have H : (broadsheetref18_Get.l0 k l0 a1 (⟨#[]⟩ : ByteArray) 0 0) = some (r1, r2) := h
 clear h
 have H' := Aside0.mk H
 clear H
 go_enter Tryz.func25, Tryz.ntmps25
 go_wp2
 first | go_loopg [6, 7, 8] k (fun kq v6 v7 v8 w' => ∃ (x6_1 : ByteArray) (x7_1 : Int) (x8_1 : Int), v6 = .string x6_1 ∧ v7 = .int .i64 x7_1 ∧ v8 = .int .i64 x8_1 ∧ Aside0 (broadsheetref18_Get.l0 kq l0 a1 x6_1 x7_1 x8_1 = some (r1, r2)) ∧ Aside0 (kq ≤ k) ∧ Aside0 (Below w.heap.size w w')) | (go_simp; go_loopg [6, 7, 8] k (fun kq v6 v7 v8 w' => ∃ (x6_1 : ByteArray) (x7_1 : Int) (x8_1 : Int), v6 = .string x6_1 ∧ v7 = .int .i64 x7_1 ∧ v8 = .int .i64 x8_1 ∧ Aside0 (broadsheetref18_Get.l0 kq l0 a1 x6_1 x7_1 x8_1 = some (r1, r2)) ∧ Aside0 (kq ≤ k) ∧ Aside0 (Below w.heap.size w w')))
 case atStart => exact ⟨((⟨#[]⟩ : ByteArray)), (0), (0), zb6, zb6, zb6, H', ⟨Nat.le_refl _⟩, ⟨by repeat (first | (with_reducible first | exact HB.out | apply below_alloc | apply pw_below_drewN | apply below_drew1) | exact HB.out)⟩⟩
 case round =>
  clear H'
  try clear c2
  try clear p2
  obtain ⟨x6_1, x7_1, x8_1, rfl, rfl, rfl, HA, HK1, HB⟩ := hrel
  cases gk with
  | zero => exact absurd HA.out (by simp [broadsheetref18_Get.l0])
  | succ k1 =>
   have H := HA.out
   clear HA
   simp only [broadsheetref18_Get.l0] at H
   by_cases c3 : x8_1 < (l0.length : Int)
   ·rw [if_pos c3] at H
    have c3b0 : decide (x8_1 < (l0.length : Int)) = true := decide_eq_true c3
    clear c3
    by_cases c4 : 0 ≤ x8_1
    ·rw [if_pos c4] at H
     have c4b0 : decide (0 ≤ x8_1) = true := decide_eq_true c4
     clear c4
     replace H := Option.bind_eq_some_iff.mp H
     obtain ⟨t231, A50, H⟩ := H
     replace H : ((broadsheetref07_Lower.f k1 a1).bind fun t232 => (if t231.toList = t232.toList then (if x7_1 > 0 then (if x6_1.size + 2 ≤ 9223372036854775807 then (if (x6_1 ++ (⟨#[44, 32]⟩ : ByteArray)).size + ((rd_T49 l0 x8_1).f1).size ≤ 9223372036854775807 then (broadsheetref18_Get.l0 k1 l0 a1 ((x6_1 ++ (⟨#[44, 32]⟩ : ByteArray)) ++ ((rd_T49 l0 x8_1).f1)) (wrap64 (x7_1 + 1)) (wrap64 (x8_1 + 1))) else (none)) else (none)) else (if x6_1.size + ((rd_T49 l0 x8_1).f1).size ≤ 9223372036854775807 then (broadsheetref18_Get.l0 k1 l0 a1 (x6_1 ++ ((rd_T49 l0 x8_1).f1)) (wrap64 (x7_1 + 1)) (wrap64 (x8_1 + 1))) else (none))) else (broadsheetref18_Get.l0 k1 l0 a1 x6_1 x7_1 (wrap64 (x8_1 + 1))))) = some (r1, r2) := H
     have A5 := Aside0.mk A50
     clear A50
     replace H := Option.bind_eq_some_iff.mp H
     obtain ⟨t232, A60, H⟩ := H
     replace H : (if t231.toList = t232.toList then (if x7_1 > 0 then (if x6_1.size + 2 ≤ 9223372036854775807 then (if (x6_1 ++ (⟨#[44, 32]⟩ : ByteArray)).size + ((rd_T49 l0 x8_1).f1).size ≤ 9223372036854775807 then (broadsheetref18_Get.l0 k1 l0 a1 ((x6_1 ++ (⟨#[44, 32]⟩ : ByteArray)) ++ ((rd_T49 l0 x8_1).f1)) (wrap64 (x7_1 + 1)) (wrap64 (x8_1 + 1))) else (none)) else (none)) else (if x6_1.size + ((rd_T49 l0 x8_1).f1).size ≤ 9223372036854775807 then (broadsheetref18_Get.l0 k1 l0 a1 (x6_1 ++ ((rd_T49 l0 x8_1).f1)) (wrap64 (x7_1 + 1)) (wrap64 (x8_1 + 1))) else (none))) else (broadsheetref18_Get.l0 k1 l0 a1 x6_1 x7_1 (wrap64 (x8_1 + 1)))) = some (r1, r2) := H
     have A6 := Aside0.mk A60
     clear A60
     by_cases c7 : t231.toList = t232.toList
     ·rw [if_pos c7] at H
      have c7b0 : (t231.toList == t232.toList) = true := beq_iff_eq.mpr c7
      have c7b1 : (t231.toList != t232.toList) = false := bne_eq_false_iff_eq.mpr c7
      clear c7
      by_cases c8 : x7_1 > 0
      ·rw [if_pos c8] at H
       have c8b0 : decide (0 < x7_1) = true := decide_eq_true c8
       clear c8
       by_cases c9 : x6_1.size + 2 ≤ 9223372036854775807
       ·rw [if_pos c9] at H
        have c9b0 := eq_true c9
        have c9b1 : decide (x6_1.size + 2 ≤ 9223372036854775807) = true := decide_eq_true c9
        try have c9b2 : (9223372036854775807 < x6_1.size + 2) = False := eq_false (Nat.not_lt.2 c9)
        by_cases c10 : (x6_1 ++ (⟨#[44, 32]⟩ : ByteArray)).size + ((rd_T49 l0 x8_1).f1).size ≤ 9223372036854775807
        ·rw [if_pos c10] at H
         have c10b0 := eq_true c10
         have c10b1 : decide ((x6_1 ++ (⟨#[44, 32]⟩ : ByteArray)).size + ((rd_T49 l0 x8_1).f1).size ≤ 9223372036854775807) = true := decide_eq_true c10
         try have c10b2 : (9223372036854775807 < (x6_1 ++ (⟨#[44, 32]⟩ : ByteArray)).size + ((rd_T49 l0 x8_1).f1).size) = False := eq_false (Nat.not_lt.2 c10)
         obtain ⟨nc10, hc10⟩ : ∃ n_ : Nat, n_ = (x6_1 ++ (⟨#[44, 32]⟩ : ByteArray)).size + ((rd_T49 l0 x8_1).f1).size := ⟨_, rfl⟩
         have c10m0 : nc10 ≤ 9223372036854775807 := by rw [hc10]; exact c10
         (first | simp [go_sem, c9b0] at hc10 | simp [go_sem] at hc10 | skip)
         rw [hc10] at c10m0
         have c10m1 := eq_false (Nat.not_lt.2 c10m0)
         have c10m2 := decide_eq_true c10m0
         clear hc10 c10m0
         have H' := Aside0.mk H
         clear H
         have p230 : 0 ≤ (x8_1 : Int) := of_decide_eq_true zb2
         have q230 : x8_1 < (l0.length : Int) := of_decide_eq_true zb2
         obtain ⟨ad230, e230, hx230_0, hx230_1⟩ := at_T49 HR0.out x8_1 p230 q230
         cases e230
         replace hx230_0 := (HB.out.cell (World.block_lt_of_cell? w _ hx230_0)).trans hx230_0
         replace hx230_1 := (HB.out.cell (World.block_lt_of_cell? w _ hx230_1)).trans hx230_1
         replace p230 := eq_true p230
         replace q230 := eq_true q230
         go_wp2_with (first | ((with_reducible refine gate_callee (f := 53) rfl ?_); refine goesL_ (some 20) rfl rfl Tryz.func53 zb15 rfl #[.string ((rd_T49 l0 x8_1).f0)] rfl zb1 ?_; (with_reducible refine (broadsheetref07_Lower.calls k1 ((rd_T49 l0 x8_1).f0) t231 _ A5.out).mono ?_); rintro e w11 ⟨rfl, hb⟩; refine ⟨_, rfl, ?_⟩; have n0_ := Aside0.mk (below_step zb0 hb); clear HB; have HB := n0_; clear n0_; (try clear hb); (try clear hb2); (try clear hk); (try clear hi)) | ((with_reducible refine gate_callee (f := 53) rfl ?_); refine goesL_ (some 22) rfl rfl Tryz.func53 zb15 rfl #[.string a1] rfl zb1 ?_; (with_reducible refine (broadsheetref07_Lower.calls k1 a1 t232 _ A6.out).mono ?_); rintro e w12 ⟨rfl, hb⟩; refine ⟨_, rfl, ?_⟩; have n0_ := Aside0.mk (below_step zb0 hb); clear HB; have HB := n0_; clear n0_; (try clear hb); (try clear hb2); (try clear hk); (try clear hi); have p233 : 0 ≤ (x8_1 : Int) := of_decide_eq_true zb2; have q233 : x8_1 < (l0.length : Int) := of_decide_eq_true zb2; obtain ⟨ad233, e233, hx233_0, hx233_1⟩ := at_T49 HR0.out x8_1 p233 q233; obtain rfl : ad230 = ad233 := (by injection e233); replace hx233_0 := (HB.out.cell (World.block_lt_of_cell? w _ hx233_0)).trans hx233_0; replace hx233_1 := (HB.out.cell (World.block_lt_of_cell? w _ hx233_1)).trans hx233_1; replace p233 := eq_true p233; replace q233 := eq_true q233))
         go_roundg k1
         case measure => have := HK1.out; omega
         case rel => exact ⟨((x6_1 ++ (⟨#[44, 32]⟩ : ByteArray)) ++ ((rd_T49 l0 x8_1).f1)), (wrap64 (x7_1 + 1)), (wrap64 (x8_1 + 1)), zb6, zb6, zb6, H', ⟨by have := HK1.out; omega⟩, ⟨by repeat (first | (with_reducible first | exact HB.out | apply below_alloc | apply pw_below_drewN | apply below_drew1) | exact HB.out)⟩⟩
        ·rw [if_neg c10] at H
         exact absurd H zb25
       ·rw [if_neg c9] at H
        exact absurd H zb25
      ·rw [if_neg c8] at H
       have c8b0 : decide (0 < x7_1) = false := decide_eq_false c8
       clear c8
       by_cases c13 : x6_1.size + ((rd_T49 l0 x8_1).f1).size ≤ 9223372036854775807
       ·rw [if_pos c13] at H
        have c13b0 := eq_true c13
        have c13b1 : decide (x6_1.size + ((rd_T49 l0 x8_1).f1).size ≤ 9223372036854775807) = true := decide_eq_true c13
        try have c13b2 : (9223372036854775807 < x6_1.size + ((rd_T49 l0 x8_1).f1).size) = False := eq_false (Nat.not_lt.2 c13)
        have H' := Aside0.mk H
        clear H
        have p230 : 0 ≤ (x8_1 : Int) := of_decide_eq_true zb2
        have q230 : x8_1 < (l0.length : Int) := of_decide_eq_true zb2
        obtain ⟨ad230, e230, hx230_0, hx230_1⟩ := at_T49 HR0.out x8_1 p230 q230
        cases e230
        replace hx230_0 := (HB.out.cell (World.block_lt_of_cell? w _ hx230_0)).trans hx230_0
        replace hx230_1 := (HB.out.cell (World.block_lt_of_cell? w _ hx230_1)).trans hx230_1
        replace p230 := eq_true p230
        replace q230 := eq_true q230
        go_wp2_with (first | ((with_reducible refine gate_callee (f := 53) rfl ?_); refine goesL_ (some 20) rfl rfl Tryz.func53 zb15 rfl #[.string ((rd_T49 l0 x8_1).f0)] rfl zb1 ?_; (with_reducible refine (broadsheetref07_Lower.calls k1 ((rd_T49 l0 x8_1).f0) t231 _ A5.out).mono ?_); rintro e w14 ⟨rfl, hb⟩; refine ⟨_, rfl, ?_⟩; have n0_ := Aside0.mk (below_step zb0 hb); clear HB; have HB := n0_; clear n0_; (try clear hb); (try clear hb2); (try clear hk); (try clear hi)) | ((with_reducible refine gate_callee (f := 53) rfl ?_); refine goesL_ (some 22) rfl rfl Tryz.func53 zb15 rfl #[.string a1] rfl zb1 ?_; (with_reducible refine (broadsheetref07_Lower.calls k1 a1 t232 _ A6.out).mono ?_); rintro e w15 ⟨rfl, hb⟩; refine ⟨_, rfl, ?_⟩; have n0_ := Aside0.mk (below_step zb0 hb); clear HB; have HB := n0_; clear n0_; (try clear hb); (try clear hb2); (try clear hk); (try clear hi); have p234 : 0 ≤ (x8_1 : Int) := of_decide_eq_true zb2; have q234 : x8_1 < (l0.length : Int) := of_decide_eq_true zb2; obtain ⟨ad234, e234, hx234_0, hx234_1⟩ := at_T49 HR0.out x8_1 p234 q234; obtain rfl : ad230 = ad234 := (by injection e234); replace hx234_0 := (HB.out.cell (World.block_lt_of_cell? w _ hx234_0)).trans hx234_0; replace hx234_1 := (HB.out.cell (World.block_lt_of_cell? w _ hx234_1)).trans hx234_1; replace p234 := eq_true p234; replace q234 := eq_true q234))
        go_roundg k1
        case measure => have := HK1.out; omega
        case rel => exact ⟨(x6_1 ++ ((rd_T49 l0 x8_1).f1)), (wrap64 (x7_1 + 1)), (wrap64 (x8_1 + 1)), zb6, zb6, zb6, H', ⟨by have := HK1.out; omega⟩, ⟨by repeat (first | (with_reducible first | exact HB.out | apply below_alloc | apply pw_below_drewN | apply below_drew1) | exact HB.out)⟩⟩
       ·rw [if_neg c13] at H
        exact absurd H zb25
     ·rw [if_neg c7] at H
      have c7b0 : (t231.toList == t232.toList) = false := beq_eq_false_iff_ne.mpr c7
      have c7b1 : (t231.toList != t232.toList) = true := bne_iff_ne.mpr c7
      have H' := Aside0.mk H
      clear H
      have p230 : 0 ≤ (x8_1 : Int) := of_decide_eq_true zb2
      have q230 : x8_1 < (l0.length : Int) := of_decide_eq_true zb2
      obtain ⟨ad230, e230, hx230_0, hx230_1⟩ := at_T49 HR0.out x8_1 p230 q230
      cases e230
      replace hx230_0 := (HB.out.cell (World.block_lt_of_cell? w _ hx230_0)).trans hx230_0
      replace hx230_1 := (HB.out.cell (World.block_lt_of_cell? w _ hx230_1)).trans hx230_1
      replace p230 := eq_true p230
      replace q230 := eq_true q230
      go_wp2_with (first | ((with_reducible refine gate_callee (f := 53) rfl ?_); refine goesL_ (some 20) rfl rfl Tryz.func53 zb15 rfl #[.string ((rd_T49 l0 x8_1).f0)] rfl zb1 ?_; (with_reducible refine (broadsheetref07_Lower.calls k1 ((rd_T49 l0 x8_1).f0) t231 _ A5.out).mono ?_); rintro e w16 ⟨rfl, hb⟩; refine ⟨_, rfl, ?_⟩; have n0_ := Aside0.mk (below_step zb0 hb); clear HB; have HB := n0_; clear n0_; (try clear hb); (try clear hb2); (try clear hk); (try clear hi)) | ((with_reducible refine gate_callee (f := 53) rfl ?_); refine goesL_ (some 22) rfl rfl Tryz.func53 zb15 rfl #[.string a1] rfl zb1 ?_; (with_reducible refine (broadsheetref07_Lower.calls k1 a1 t232 _ A6.out).mono ?_); rintro e w17 ⟨rfl, hb⟩; refine ⟨_, rfl, ?_⟩; have n0_ := Aside0.mk (below_step zb0 hb); clear HB; have HB := n0_; clear n0_; (try clear hb); (try clear hb2); (try clear hk); (try clear hi)))
      go_roundg k1
      case measure => have := HK1.out; omega
      case rel => exact ⟨(x6_1), (x7_1), (wrap64 (x8_1 + 1)), zb6, zb6, zb6, H', ⟨by have := HK1.out; omega⟩, ⟨by repeat (first | (with_reducible first | exact HB.out | apply below_alloc | apply pw_below_drewN | apply below_drew1) | exact HB.out)⟩⟩
    ·rw [if_neg c4] at H
     exact absurd H zb25
   ·rw [if_neg c3] at H
    have c3b0 : decide (x8_1 < (l0.length : Int)) = false := decide_eq_false c3
    clear c3
    simp only [Option.some.injEq, Prod.mk.injEq] at H
    obtain ⟨rfl, rfl⟩ := H
    go_wp2
    go_ret2
    exact ⟨zb4, zb0⟩
def broadsheetref19_digits.f : Nat → Int → Option (ByteArray)
  | 0, _ => none
  | k + 1, a0 => if 0 ≤ (Int.tmod a0 16) then (if (Int.tmod a0 16) ≤ (wrap64 ((Int.tmod a0 16) + 1)) then (if (wrap64 ((Int.tmod a0 16) + 1)) ≤ 16 then (if a0 < 16 then (some ((⟨#[48, 49, 50, 51, 52, 53, 54, 55, 56, 57, 97, 98, 99, 100, 101, 102]⟩ : ByteArray).extract ((Int.tmod a0 16) : Int).toNat ((wrap64 ((Int.tmod a0 16) + 1)) : Int).toNat)) else ((broadsheetref19_digits.f k (wrap64 (Int.tdiv a0 16))).bind fun t386 => (if t386.size + ((⟨#[48, 49, 50, 51, 52, 53, 54, 55, 56, 57, 97, 98, 99, 100, 101, 102]⟩ : ByteArray).extract ((Int.tmod a0 16) : Int).toNat ((wrap64 ((Int.tmod a0 16) + 1)) : Int).toNat).size ≤ 9223372036854775807 then (some (t386 ++ ((⟨#[48, 49, 50, 51, 52, 53, 54, 55, 56, 57, 97, 98, 99, 100, 101, 102]⟩ : ByteArray).extract ((Int.tmod a0 16) : Int).toNat ((wrap64 ((Int.tmod a0 16) + 1)) : Int).toNat))) else (none)))) else (none)) else (none)) else (none)
set_option maxHeartbeats 8000000 in
set_option maxRecDepth 100000 in
theorem broadsheetref19_digits.calls (k : Nat) : ∀ (a0 : Int) (r : ByteArray) (w : World) (h : broadsheetref19_digits.f k a0 = some r),
  Calls Tryz.prog 30 #[.int .i64 a0] w fun e w' => e = .returned (.string r) ∧ Drawn0 w w' := by
 induction k using Nat.strongRecOn with
 | _ k ih =>
 intro a0 r w h
 cases k with
 | zero => exact absurd h (by simp [broadsheetref19_digits.f])
 | succ k =>
 simp only [broadsheetref19_digits.f] at h
 have H : (if 0 ≤ (Int.tmod a0 16) then (if (Int.tmod a0 16) ≤ (wrap64 ((Int.tmod a0 16) + 1)) then (if (wrap64 ((Int.tmod a0 16) + 1)) ≤ 16 then (if a0 < 16 then (some ((⟨#[48, 49, 50, 51, 52, 53, 54, 55, 56, 57, 97, 98, 99, 100, 101, 102]⟩ : ByteArray).extract ((Int.tmod a0 16) : Int).toNat ((wrap64 ((Int.tmod a0 16) + 1)) : Int).toNat)) else ((broadsheetref19_digits.f k (wrap64 (Int.tdiv a0 16))).bind fun t386 => (if t386.size + ((⟨#[48, 49, 50, 51, 52, 53, 54, 55, 56, 57, 97, 98, 99, 100, 101, 102]⟩ : ByteArray).extract ((Int.tmod a0 16) : Int).toNat ((wrap64 ((Int.tmod a0 16) + 1)) : Int).toNat).size ≤ 9223372036854775807 then (some (t386 ++ ((⟨#[48, 49, 50, 51, 52, 53, 54, 55, 56, 57, 97, 98, 99, 100, 101, 102]⟩ : ByteArray).extract ((Int.tmod a0 16) : Int).toNat ((wrap64 ((Int.tmod a0 16) + 1)) : Int).toNat))) else (none)))) else (none)) else (none)) else (none)) = some r := h
 clear h
 obtain ⟨ji2, hji2⟩ : ∃ j_ : Int, (Int.tmod a0 16) = j_ := ⟨_, rfl⟩
 replace H : (if 0 ≤ (ji2) then (if (ji2) ≤ (wrap64 ((ji2) + 1)) then (if (wrap64 ((ji2) + 1)) ≤ 16 then (if a0 < 16 then (some ((⟨#[48, 49, 50, 51, 52, 53, 54, 55, 56, 57, 97, 98, 99, 100, 101, 102]⟩ : ByteArray).extract ((ji2) : Int).toNat ((wrap64 ((ji2) + 1)) : Int).toNat)) else ((broadsheetref19_digits.f k (wrap64 (Int.tdiv a0 16))).bind fun t386 => (if t386.size + ((⟨#[48, 49, 50, 51, 52, 53, 54, 55, 56, 57, 97, 98, 99, 100, 101, 102]⟩ : ByteArray).extract ((ji2) : Int).toNat ((wrap64 ((ji2) + 1)) : Int).toNat).size ≤ 9223372036854775807 then (some (t386 ++ ((⟨#[48, 49, 50, 51, 52, 53, 54, 55, 56, 57, 97, 98, 99, 100, 101, 102]⟩ : ByteArray).extract ((ji2) : Int).toNat ((wrap64 ((ji2) + 1)) : Int).toNat))) else (none)))) else (none)) else (none)) else (none)) = some r := by first | (rw [hji2] at H; exact H) | (simp only [hji2] at H ⊢; exact H)
 by_cases c3 : 0 ≤ (ji2)
 ·rw [if_pos c3] at H
  have c3b0 := eq_true c3
  have c3b1 : decide (0 ≤ (ji2)) = true := decide_eq_true c3
  clear c3
  by_cases c4 : (ji2) ≤ (wrap64 ((ji2) + 1))
  ·rw [if_pos c4] at H
   have c4b0 := eq_true c4
   have c4b1 : decide ((ji2) ≤ (wrap64 ((ji2) + 1))) = true := decide_eq_true c4
   by_cases c5 : (wrap64 ((ji2) + 1)) ≤ 16
   ·rw [if_pos c5] at H
    have c5b0 := eq_true c5
    have c5b1 : decide ((wrap64 ((ji2) + 1)) ≤ 16) = true := decide_eq_true c5
    by_cases c6 : a0 < 16
    ·rw [if_pos c6] at H
     have c6b0 : decide (a0 < 16) = true := decide_eq_true c6
     clear c6
     obtain rfl := Option.some.inj H
     go_enter Tryz.func30, Tryz.ntmps30
     go_wp2
     go_ret
     exact ⟨by first | rfl | (simp; done) | (simp only [← hji2] <;> (first | rfl | simp)) | (simp [*]; done), by repeat (first | exact Drawn0.refl _ | apply Drawn0.step)⟩
    ·rw [if_neg c6] at H
     have c6b0 : decide (a0 < 16) = false := decide_eq_false c6
     clear c6
     replace H := Option.bind_eq_some_iff.mp H
     obtain ⟨t386, A70, H⟩ := H
     replace H : (if t386.size + ((⟨#[48, 49, 50, 51, 52, 53, 54, 55, 56, 57, 97, 98, 99, 100, 101, 102]⟩ : ByteArray).extract ((ji2) : Int).toNat ((wrap64 ((ji2) + 1)) : Int).toNat).size ≤ 9223372036854775807 then (some (t386 ++ ((⟨#[48, 49, 50, 51, 52, 53, 54, 55, 56, 57, 97, 98, 99, 100, 101, 102]⟩ : ByteArray).extract ((ji2) : Int).toNat ((wrap64 ((ji2) + 1)) : Int).toNat))) else (none)) = some r := H
     have A7 := Aside0.mk A70
     clear A70
     by_cases c8 : t386.size + ((⟨#[48, 49, 50, 51, 52, 53, 54, 55, 56, 57, 97, 98, 99, 100, 101, 102]⟩ : ByteArray).extract ((ji2) : Int).toNat ((wrap64 ((ji2) + 1)) : Int).toNat).size ≤ 9223372036854775807
     ·rw [if_pos c8] at H
      have c8b0 := eq_true c8
      have c8b1 : decide (t386.size + ((⟨#[48, 49, 50, 51, 52, 53, 54, 55, 56, 57, 97, 98, 99, 100, 101, 102]⟩ : ByteArray).extract ((ji2) : Int).toNat ((wrap64 ((ji2) + 1)) : Int).toNat).size ≤ 9223372036854775807) = true := decide_eq_true c8
      try have c8b2 : (9223372036854775807 < t386.size + ((⟨#[48, 49, 50, 51, 52, 53, 54, 55, 56, 57, 97, 98, 99, 100, 101, 102]⟩ : ByteArray).extract ((ji2) : Int).toNat ((wrap64 ((ji2) + 1)) : Int).toNat).size) = False := eq_false (Nat.not_lt.2 c8)
      obtain ⟨nc8, hc8⟩ : ∃ n_ : Nat, n_ = t386.size + ((⟨#[48, 49, 50, 51, 52, 53, 54, 55, 56, 57, 97, 98, 99, 100, 101, 102]⟩ : ByteArray).extract ((ji2) : Int).toNat ((wrap64 ((ji2) + 1)) : Int).toNat).size := ⟨_, rfl⟩
      have c8m0 : nc8 ≤ 9223372036854775807 := by rw [hc8]; exact c8
      (first | simp [go_sem, c3b0, c4b0, c5b0] at hc8 | simp [go_sem] at hc8 | skip)
      rw [hc8] at c8m0
      have c8m1 := eq_false (Nat.not_lt.2 c8m0)
      have c8m2 := decide_eq_true c8m0
      clear hc8 c8m0
      obtain rfl := Option.some.inj H
      go_enter Tryz.func30, Tryz.ntmps30
      go_wp2_with (first | ((with_reducible refine gate_callee (f := 30) rfl ?_); refine goesL_ (some 15) rfl rfl Tryz.func30 zb15 rfl #[.int .i64 (wrap64 (Int.tdiv a0 16))] rfl zb1 ?_; (with_reducible refine (ih k zb17 (wrap64 (Int.tdiv a0 16)) t386 _ A7.out).mono ?_); rintro e w' ⟨rfl, ⟨nd, rfl⟩⟩; refine ⟨_, rfl, ?_⟩))
      go_ret
      exact ⟨by first | rfl | (simp; done) | (simp only [← hji2] <;> (first | rfl | simp)) | (simp [*]; done), by repeat (first | exact Drawn0.refl _ | apply Drawn0.step)⟩
     ·rw [if_neg c8] at H
      exact absurd H zb25
   ·rw [if_neg c5] at H
    exact absurd H zb25
  ·rw [if_neg c4] at H
   exact absurd H zb25
 ·rw [if_neg c3] at H
  exact absurd H zb25
def broadsheetref19_Encode.l0 : Nat → ByteArray → Int → ByteArray → Option (ByteArray × Int)
  | 0, _, _, _ => none
  | k + 1, x0, x1, x6 => if (x0.size : Int) > 0 then ((broadsheetref19_digits.f k (mn x1 (x0.size : Int))).bind fun t387 => (if x6.size + t387.size ≤ 9223372036854775807 then (if (x6 ++ t387).size + 2 ≤ 9223372036854775807 then (if 0 ≤ (mn x1 (x0.size : Int)) then (if (mn x1 (x0.size : Int)) ≤ (x0.size : Int) then (if ((x6 ++ t387) ++ (⟨#[13, 10]⟩ : ByteArray)).size + (x0.extract 0 ((mn x1 (x0.size : Int)) : Int).toNat).size ≤ 9223372036854775807 then (if (((x6 ++ t387) ++ (⟨#[13, 10]⟩ : ByteArray)) ++ (x0.extract 0 ((mn x1 (x0.size : Int)) : Int).toNat)).size + 2 ≤ 9223372036854775807 then (broadsheetref19_Encode.l0 k (x0.extract ((mn x1 (x0.size : Int)) : Int).toNat x0.size) x1 ((((x6 ++ t387) ++ (⟨#[13, 10]⟩ : ByteArray)) ++ (x0.extract 0 ((mn x1 (x0.size : Int)) : Int).toNat)) ++ (⟨#[13, 10]⟩ : ByteArray))) else (none)) else (none)) else (none)) else (none)) else (none)) else (none))) else (if x6.size + 5 ≤ 9223372036854775807 then (some (x6 ++ (⟨#[48, 13, 10, 13, 10]⟩ : ByteArray), 0)) else (none))
def broadsheetref19_Encode.f (k : Nat) (a0 : ByteArray) (a1 : Int) : Option (ByteArray × Int) := if a1 < 1 then (some ((⟨#[]⟩ : ByteArray), 1)) else (if (a0.size : Int) > 100000 then (some ((⟨#[]⟩ : ByteArray), 2)) else (broadsheetref19_Encode.l0 k a0 a1 (⟨#[]⟩ : ByteArray)))
set_option maxHeartbeats 8000000 in
set_option maxRecDepth 100000 in
theorem broadsheetref19_Encode.calls (k : Nat) (a0 : ByteArray) (a1 : Int) (r1 : ByteArray) (r2 : Int) (w : World) (h : broadsheetref19_Encode.f k a0 a1 = some (r1, r2)) :
  Calls Tryz.prog 11 #[.string a0, .int .i64 a1] w fun e w' => e = .returned (.tuple #[.string r1, .int .i64 r2]) ∧ Below w.heap.size w w' := by
 have HB := Aside0.mk (Below.refl w.heap.size w)
 have H : (if a1 < 1 then (some ((⟨#[]⟩ : ByteArray), 1)) else (if (a0.size : Int) > 100000 then (some ((⟨#[]⟩ : ByteArray), 2)) else (broadsheetref19_Encode.l0 k a0 a1 (⟨#[]⟩ : ByteArray)))) = some (r1, r2) := h
 clear h
 by_cases c3 : a1 < 1
 ·rw [if_pos c3] at H
  have c3b0 : decide (a1 < 1) = true := decide_eq_true c3
  clear c3
  simp only [Option.some.injEq, Prod.mk.injEq] at H
  obtain ⟨rfl, rfl⟩ := H
  go_enter Tryz.func11, Tryz.ntmps11
  go_wp2
  repeat (go_quiet (fail); try go_wp2)
  go_ret2
  exact ⟨zb4, zb0⟩
 ·rw [if_neg c3] at H
  have c3b0 : decide (a1 < 1) = false := decide_eq_false c3
  clear c3
  by_cases c4 : (a0.size : Int) > 100000
  ·rw [if_pos c4] at H
   have c4b0 : decide (100000 < (a0.size : Int)) = true := decide_eq_true c4
   have c4b1 : decide (100000 < a0.size) = true := decide_eq_true zb17
   clear c4
   simp only [Option.some.injEq, Prod.mk.injEq] at H
   obtain ⟨rfl, rfl⟩ := H
   go_enter Tryz.func11, Tryz.ntmps11
   go_wp2
   repeat (go_quiet (fail); try go_wp2)
   go_ret2
   exact ⟨zb4, zb0⟩
  ·rw [if_neg c4] at H
   have c4b0 : decide (100000 < (a0.size : Int)) = false := decide_eq_false c4
   have c4b1 : decide (100000 < a0.size) = false := decide_eq_false zb17
   clear c4
   have H' := Aside0.mk H
   clear H
   go_enter Tryz.func11, Tryz.ntmps11
   go_wp2
   repeat (go_quiet (fail); try go_wp2)
   first | go_loopg [0, 6] k (fun kq v0 v6 w' => ∃ (x0_1 : ByteArray) (x6_1 : ByteArray), v0 = .string x0_1 ∧ v6 = .string x6_1 ∧ Aside0 (broadsheetref19_Encode.l0 kq x0_1 a1 x6_1 = some (r1, r2)) ∧ Aside0 (kq ≤ k) ∧ Aside0 (Below w.heap.size w w')) | (go_simp; go_loopg [0, 6] k (fun kq v0 v6 w' => ∃ (x0_1 : ByteArray) (x6_1 : ByteArray), v0 = .string x0_1 ∧ v6 = .string x6_1 ∧ Aside0 (broadsheetref19_Encode.l0 kq x0_1 a1 x6_1 = some (r1, r2)) ∧ Aside0 (kq ≤ k) ∧ Aside0 (Below w.heap.size w w')))
   case atStart => exact ⟨(a0), ((⟨#[]⟩ : ByteArray)), zb6, zb6, H', ⟨Nat.le_refl _⟩, ⟨by repeat (first | (with_reducible first | exact HB.out | apply below_alloc | apply pw_below_drewN | apply below_drew1) | exact HB.out)⟩⟩
   case round =>
    clear H'
    try clear c1
    try clear p2
    try clear c3
    try clear c3b0
    try clear c4
    try clear c4b0
    try clear c4b1
    obtain ⟨x0_1, x6_1, rfl, rfl, HA, HK1, HB⟩ := hrel
    cases gk with
    | zero => exact absurd HA.out (by simp [broadsheetref19_Encode.l0])
    | succ k1 =>
     have H := HA.out
     clear HA
     simp only [broadsheetref19_Encode.l0] at H
     by_cases c5 : (x0_1.size : Int) > 0
     ·rw [if_pos c5] at H
      have c5b0 : decide (0 < (x0_1.size : Int)) = true := decide_eq_true c5
      have c5b1 : decide (0 < x0_1.size) = true := decide_eq_true zb17
      clear c5
      obtain ⟨ji6, hji6⟩ : ∃ j_ : Int, (mn a1 (x0_1.size : Int)) = j_ := ⟨_, rfl⟩
      replace H : ((broadsheetref19_digits.f k1 (ji6)).bind fun t387 => (if x6_1.size + t387.size ≤ 9223372036854775807 then (if (x6_1 ++ t387).size + 2 ≤ 9223372036854775807 then (if 0 ≤ (ji6) then (if (ji6) ≤ (x0_1.size : Int) then (if ((x6_1 ++ t387) ++ (⟨#[13, 10]⟩ : ByteArray)).size + (x0_1.extract 0 ((ji6) : Int).toNat).size ≤ 9223372036854775807 then (if (((x6_1 ++ t387) ++ (⟨#[13, 10]⟩ : ByteArray)) ++ (x0_1.extract 0 ((ji6) : Int).toNat)).size + 2 ≤ 9223372036854775807 then (broadsheetref19_Encode.l0 k1 (x0_1.extract ((ji6) : Int).toNat x0_1.size) a1 ((((x6_1 ++ t387) ++ (⟨#[13, 10]⟩ : ByteArray)) ++ (x0_1.extract 0 ((ji6) : Int).toNat)) ++ (⟨#[13, 10]⟩ : ByteArray))) else (none)) else (none)) else (none)) else (none)) else (none)) else (none))) = some (r1, r2) := by first | (rw [hji6] at H; exact H) | (simp only [hji6] at H ⊢; exact H)
      have hji6_ : (if (x0_1.size : Int) < a1 then (x0_1.size : Int) else a1) = ji6 := hji6
      replace H := Option.bind_eq_some_iff.mp H
      obtain ⟨t387, A70, H⟩ := H
      replace H : (if x6_1.size + t387.size ≤ 9223372036854775807 then (if (x6_1 ++ t387).size + 2 ≤ 9223372036854775807 then (if 0 ≤ (ji6) then (if (ji6) ≤ (x0_1.size : Int) then (if ((x6_1 ++ t387) ++ (⟨#[13, 10]⟩ : ByteArray)).size + (x0_1.extract 0 ((ji6) : Int).toNat).size ≤ 9223372036854775807 then (if (((x6_1 ++ t387) ++ (⟨#[13, 10]⟩ : ByteArray)) ++ (x0_1.extract 0 ((ji6) : Int).toNat)).size + 2 ≤ 9223372036854775807 then (broadsheetref19_Encode.l0 k1 (x0_1.extract ((ji6) : Int).toNat x0_1.size) a1 ((((x6_1 ++ t387) ++ (⟨#[13, 10]⟩ : ByteArray)) ++ (x0_1.extract 0 ((ji6) : Int).toNat)) ++ (⟨#[13, 10]⟩ : ByteArray))) else (none)) else (none)) else (none)) else (none)) else (none)) else (none)) = some (r1, r2) := H
      have A7 := Aside0.mk A70
      clear A70
      by_cases c8 : x6_1.size + t387.size ≤ 9223372036854775807
      ·rw [if_pos c8] at H
       have c8b0 := eq_true c8
       have c8b1 : decide (x6_1.size + t387.size ≤ 9223372036854775807) = true := decide_eq_true c8
       try have c8b2 : (9223372036854775807 < x6_1.size + t387.size) = False := eq_false (Nat.not_lt.2 c8)
       by_cases c9 : (x6_1 ++ t387).size + 2 ≤ 9223372036854775807
       ·rw [if_pos c9] at H
        have c9b0 := eq_true c9
        have c9b1 : decide ((x6_1 ++ t387).size + 2 ≤ 9223372036854775807) = true := decide_eq_true c9
        try have c9b2 : (9223372036854775807 < (x6_1 ++ t387).size + 2) = False := eq_false (Nat.not_lt.2 c9)
        obtain ⟨nc9, hc9⟩ : ∃ n_ : Nat, n_ = (x6_1 ++ t387).size + 2 := ⟨_, rfl⟩
        have c9m0 : nc9 ≤ 9223372036854775807 := by rw [hc9]; exact c9
        (first | simp [go_sem, c8b0] at hc9 | simp [go_sem] at hc9 | skip)
        rw [hc9] at c9m0
        have c9m1 := eq_false (Nat.not_lt.2 c9m0)
        have c9m2 := decide_eq_true c9m0
        clear hc9 c9m0
        by_cases c10 : 0 ≤ (ji6)
        ·rw [if_pos c10] at H
         have c10b0 := eq_true c10
         have c10b1 : decide (0 ≤ (ji6)) = true := decide_eq_true c10
         clear c10
         by_cases c11 : (ji6) ≤ (x0_1.size : Int)
         ·rw [if_pos c11] at H
          have c11b0 := eq_true c11
          have c11b1 : decide ((ji6) ≤ (x0_1.size : Int)) = true := decide_eq_true c11
          clear c11
          by_cases c12 : ((x6_1 ++ t387) ++ (⟨#[13, 10]⟩ : ByteArray)).size + (x0_1.extract 0 ((ji6) : Int).toNat).size ≤ 9223372036854775807
          ·rw [if_pos c12] at H
           have c12b0 := eq_true c12
           have c12b1 : decide (((x6_1 ++ t387) ++ (⟨#[13, 10]⟩ : ByteArray)).size + (x0_1.extract 0 ((ji6) : Int).toNat).size ≤ 9223372036854775807) = true := decide_eq_true c12
           try have c12b2 : (9223372036854775807 < ((x6_1 ++ t387) ++ (⟨#[13, 10]⟩ : ByteArray)).size + (x0_1.extract 0 ((ji6) : Int).toNat).size) = False := eq_false (Nat.not_lt.2 c12)
           obtain ⟨nc12, hc12⟩ : ∃ n_ : Nat, n_ = ((x6_1 ++ t387) ++ (⟨#[13, 10]⟩ : ByteArray)).size + (x0_1.extract 0 ((ji6) : Int).toNat).size := ⟨_, rfl⟩
           have c12m0 : nc12 ≤ 9223372036854775807 := by rw [hc12]; exact c12
           (first | simp [go_sem, c8b0, c9b0, c10b0, c11b0] at hc12 | simp [go_sem] at hc12 | skip)
           rw [hc12] at c12m0
           have c12m1 := eq_false (Nat.not_lt.2 c12m0)
           have c12m2 := decide_eq_true c12m0
           clear hc12 c12m0
           by_cases c13 : (((x6_1 ++ t387) ++ (⟨#[13, 10]⟩ : ByteArray)) ++ (x0_1.extract 0 ((ji6) : Int).toNat)).size + 2 ≤ 9223372036854775807
           ·rw [if_pos c13] at H
            have c13b0 := eq_true c13
            have c13b1 : decide ((((x6_1 ++ t387) ++ (⟨#[13, 10]⟩ : ByteArray)) ++ (x0_1.extract 0 ((ji6) : Int).toNat)).size + 2 ≤ 9223372036854775807) = true := decide_eq_true c13
            try have c13b2 : (9223372036854775807 < (((x6_1 ++ t387) ++ (⟨#[13, 10]⟩ : ByteArray)) ++ (x0_1.extract 0 ((ji6) : Int).toNat)).size + 2) = False := eq_false (Nat.not_lt.2 c13)
            obtain ⟨nc13, hc13⟩ : ∃ n_ : Nat, n_ = (((x6_1 ++ t387) ++ (⟨#[13, 10]⟩ : ByteArray)) ++ (x0_1.extract 0 ((ji6) : Int).toNat)).size + 2 := ⟨_, rfl⟩
            have c13m0 : nc13 ≤ 9223372036854775807 := by rw [hc13]; exact c13
            (first | simp [go_sem, c8b0, c9b0, c10b0, c11b0, c12b0] at hc13 | simp [go_sem] at hc13 | skip)
            rw [hc13] at c13m0
            have c13m1 := eq_false (Nat.not_lt.2 c13m0)
            have c13m2 := decide_eq_true c13m0
            clear hc13 c13m0
            have c14b0 := eq_true (of_decide_eq_true zb2 : 0 ≤ (ji6))
            have c15b0 := eq_true (of_decide_eq_true zb2 : (ji6) ≤ (x0_1.size : Int))
            have H' := Aside0.mk H
            clear H
            go_wp2_with (first | (go_at_call 30; (with_reducible refine (broadsheetref19_digits.calls k1 ji6 t387 _ A7.out).mono ?_); rintro e w' ⟨rfl, ⟨nd, rfl⟩⟩; (try first | exact ⟨rfl, _, World.drewN_drewN _ _ _⟩ | exact ⟨rfl, _, Eq.trans (World.drewN_drewN _ _ _) (congrArg (World.drewN _) (Nat.add_assoc _ _ _))⟩)))
            repeat (go_quiet (first | (go_at_call 30; (with_reducible refine (broadsheetref19_digits.calls k1 ji6 t387 _ A7.out).mono ?_); rintro e w' ⟨rfl, ⟨nd, rfl⟩⟩; (try first | exact ⟨rfl, _, World.drewN_drewN _ _ _⟩ | exact ⟨rfl, _, Eq.trans (World.drewN_drewN _ _ _) (congrArg (World.drewN _) (Nat.add_assoc _ _ _))⟩))); try go_wp2_with (first | (go_at_call 30; (with_reducible refine (broadsheetref19_digits.calls k1 ji6 t387 _ A7.out).mono ?_); rintro e w' ⟨rfl, ⟨nd, rfl⟩⟩; (try first | exact ⟨rfl, _, World.drewN_drewN _ _ _⟩ | exact ⟨rfl, _, Eq.trans (World.drewN_drewN _ _ _) (congrArg (World.drewN _) (Nat.add_assoc _ _ _))⟩))))
            go_roundg k1
            case measure => have := HK1.out; omega
            case rel => exact ⟨(x0_1.extract ((ji6) : Int).toNat x0_1.size), ((((x6_1 ++ t387) ++ (⟨#[13, 10]⟩ : ByteArray)) ++ (x0_1.extract 0 ((ji6) : Int).toNat)) ++ (⟨#[13, 10]⟩ : ByteArray)), (by first | rfl | (simp; done) | (simp only [← hji6] <;> (first | rfl | simp)) | (simp [*]; done)), (by first | rfl | (simp; done) | (simp only [← hji6] <;> (first | rfl | simp)) | (simp [*]; done)), H', ⟨by have := HK1.out; omega⟩, ⟨by repeat (first | (with_reducible first | exact HB.out | apply below_alloc | apply pw_below_drewN | apply below_drew1) | exact HB.out)⟩⟩
           ·rw [if_neg c13] at H
            exact absurd H zb25
          ·rw [if_neg c12] at H
           exact absurd H zb25
         ·rw [if_neg c11] at H
          exact absurd H zb25
        ·rw [if_neg c10] at H
         exact absurd H zb25
       ·rw [if_neg c9] at H
        exact absurd H zb25
      ·rw [if_neg c8] at H
       exact absurd H zb25
     ·rw [if_neg c5] at H
      have c5b0 : decide (0 < (x0_1.size : Int)) = false := decide_eq_false c5
      have c5b1 : decide (0 < x0_1.size) = false := decide_eq_false zb17
      clear c5
      by_cases c16 : x6_1.size + 5 ≤ 9223372036854775807
      ·rw [if_pos c16] at H
       have c16b0 := eq_true c16
       have c16b1 : decide (x6_1.size + 5 ≤ 9223372036854775807) = true := decide_eq_true c16
       try have c16b2 : (9223372036854775807 < x6_1.size + 5) = False := eq_false (Nat.not_lt.2 c16)
       simp only [Option.some.injEq, Prod.mk.injEq] at H
       obtain ⟨rfl, rfl⟩ := H
       go_wp2
       repeat (go_quiet (fail); try go_wp2)
       go_ret2
       exact ⟨zb4, zb0⟩
      ·rw [if_neg c16] at H
       exact absurd H zb25
def broadsheetref18_Print.l0 : Nat → List (S49) → ByteArray → Int → Option (ByteArray × Int)
  | 0, _, _, _ => none
  | k + 1, x0, x4, x5 => if x5 < (x0.length : Int) then (if 0 ≤ x5 then ((broadsheetref13_Token.f k ((rd_T49 x0 x5).f0)).bind fun bt389 => (if bt389.1.toList = ([] : List UInt8) then (some ((⟨#[]⟩ : ByteArray), 180)) else (if bt389.2.toList = ([] : List UInt8) then ((broadsheetref18_Value.f k ((rd_T49 x0 x5).f1)).bind fun t392 => (if t392 = true then (if x4.size + ((rd_T49 x0 x5).f0).size ≤ 9223372036854775807 then (if (x4 ++ ((rd_T49 x0 x5).f0)).size + 2 ≤ 9223372036854775807 then (if ((x4 ++ ((rd_T49 x0 x5).f0)) ++ (⟨#[58, 32]⟩ : ByteArray)).size + ((rd_T49 x0 x5).f1).size ≤ 9223372036854775807 then (if (((x4 ++ ((rd_T49 x0 x5).f0)) ++ (⟨#[58, 32]⟩ : ByteArray)) ++ ((rd_T49 x0 x5).f1)).size + 2 ≤ 9223372036854775807 then (broadsheetref18_Print.l0 k x0 ((((x4 ++ ((rd_T49 x0 x5).f0)) ++ (⟨#[58, 32]⟩ : ByteArray)) ++ ((rd_T49 x0 x5).f1)) ++ (⟨#[13, 10]⟩ : ByteArray)) (wrap64 (x5 + 1))) else (none)) else (none)) else (none)) else (none)) else (some ((⟨#[]⟩ : ByteArray), 180)))) else (some ((⟨#[]⟩ : ByteArray), 180))))) else (none)) else (if x4.size + 2 ≤ 9223372036854775807 then (if ((x4 ++ (⟨#[13, 10]⟩ : ByteArray)).size : Int) > 8000 then (some ((⟨#[]⟩ : ByteArray), 2)) else (some (x4 ++ (⟨#[13, 10]⟩ : ByteArray), 0))) else (none))
def broadsheetref18_Print.f (k : Nat) (l0 : List (S49)) : Option (ByteArray × Int) := broadsheetref18_Print.l0 k l0 (⟨#[]⟩ : ByteArray) 0
set_option maxHeartbeats 8000000 in
set_option maxRecDepth 100000 in
theorem broadsheetref18_Print.calls (k : Nat) (A0 : Option Addr) (c0 : Nat) (l0 : List (S49)) (r1 : ByteArray) (r2 : Int) (w : World) (hr0 : Kd.C k49 w A0 l0.length l0) (hc0 : l0.length ≤ c0) (h : broadsheetref18_Print.f k l0 = some (r1, r2)) :
  Calls Tryz.prog 24 #[.slice A0 l0.length c0] w fun e w' => e = .returned (.tuple #[.string r1, .int .i64 r2]) ∧ Drawn0 w w' := by
 have HR0 := Aside0.mk hr0
 have HC0 := Aside0.mk hc0
 clear hr0 hc0
 have H : (broadsheetref18_Print.l0 k l0 (⟨#[]⟩ : ByteArray) 0) = some (r1, r2) := h
 clear h
 have H' := Aside0.mk H
 clear H
 go_enter Tryz.func24, Tryz.ntmps24
 go_wp2
 repeat (go_quiet (fail); try go_wp2)
 first | go_loopg [4, 5] k (fun kq v4 v5 w' => ∃ (x4_1 : ByteArray) (x5_1 : Int), v4 = .string x4_1 ∧ v5 = .int .i64 x5_1 ∧ Aside0 (broadsheetref18_Print.l0 kq l0 x4_1 x5_1 = some (r1, r2)) ∧ Aside0 (kq ≤ k) ∧ Drawn0 w w') | (go_simp; go_loopg [4, 5] k (fun kq v4 v5 w' => ∃ (x4_1 : ByteArray) (x5_1 : Int), v4 = .string x4_1 ∧ v5 = .int .i64 x5_1 ∧ Aside0 (broadsheetref18_Print.l0 kq l0 x4_1 x5_1 = some (r1, r2)) ∧ Aside0 (kq ≤ k) ∧ Drawn0 w w'))
 case atStart => exact ⟨((⟨#[]⟩ : ByteArray)), (0), zb6, zb6, H', ⟨Nat.le_refl _⟩, by repeat (first | exact Drawn0.refl _ | apply Drawn0.step)⟩
 case round =>
  clear H'
  obtain ⟨x4_1, x5_1, rfl, rfl, HA, HK1, ⟨m1, rfl⟩⟩ := hrel
  cases gk with
  | zero => exact absurd HA.out (by simp [broadsheetref18_Print.l0])
  | succ k1 =>
   have H := HA.out
   clear HA
   simp only [broadsheetref18_Print.l0] at H
   by_cases c2 : x5_1 < (l0.length : Int)
   ·rw [if_pos c2] at H
    have c2b0 : decide (x5_1 < (l0.length : Int)) = true := decide_eq_true c2
    clear c2
    by_cases c3 : 0 ≤ x5_1
    ·rw [if_pos c3] at H
     have c3b0 : decide (0 ≤ x5_1) = true := decide_eq_true c3
     clear c3
     replace H := Option.bind_eq_some_iff.mp H
     obtain ⟨⟨t389, t390⟩, A40, H⟩ := H
     replace H : (if t389.toList = ([] : List UInt8) then (some ((⟨#[]⟩ : ByteArray), 180)) else (if t390.toList = ([] : List UInt8) then ((broadsheetref18_Value.f k1 ((rd_T49 l0 x5_1).f1)).bind fun t392 => (if t392 = true then (if x4_1.size + ((rd_T49 l0 x5_1).f0).size ≤ 9223372036854775807 then (if (x4_1 ++ ((rd_T49 l0 x5_1).f0)).size + 2 ≤ 9223372036854775807 then (if ((x4_1 ++ ((rd_T49 l0 x5_1).f0)) ++ (⟨#[58, 32]⟩ : ByteArray)).size + ((rd_T49 l0 x5_1).f1).size ≤ 9223372036854775807 then (if (((x4_1 ++ ((rd_T49 l0 x5_1).f0)) ++ (⟨#[58, 32]⟩ : ByteArray)) ++ ((rd_T49 l0 x5_1).f1)).size + 2 ≤ 9223372036854775807 then (broadsheetref18_Print.l0 k1 l0 ((((x4_1 ++ ((rd_T49 l0 x5_1).f0)) ++ (⟨#[58, 32]⟩ : ByteArray)) ++ ((rd_T49 l0 x5_1).f1)) ++ (⟨#[13, 10]⟩ : ByteArray)) (wrap64 (x5_1 + 1))) else (none)) else (none)) else (none)) else (none)) else (some ((⟨#[]⟩ : ByteArray), 180)))) else (some ((⟨#[]⟩ : ByteArray), 180)))) = some (r1, r2) := H
     have A4 := Aside0.mk A40
     clear A40
     by_cases c5 : t389.toList = ([] : List UInt8)
     ·rw [if_pos c5] at H
      have c5b0 : (t389.toList == ([] : List UInt8)) = true := beq_iff_eq.mpr c5
      have c5b1 : (t389.toList != ([] : List UInt8)) = false := bne_eq_false_iff_eq.mpr c5
      clear c5
      simp only [Option.some.injEq, Prod.mk.injEq] at H
      obtain ⟨rfl, rfl⟩ := H
      have p388 : 0 ≤ (x5_1 : Int) := of_decide_eq_true zb2
      have q388 : x5_1 < (l0.length : Int) := of_decide_eq_true zb2
      obtain ⟨ad388, e388, hx388_0, hx388_1⟩ := at_T49 HR0.out x5_1 p388 q388
      cases e388
      replace p388 := eq_true p388
      replace q388 := eq_true q388
      go_wp2_with (first | (go_at_call 51; (with_reducible refine (broadsheetref13_Token.calls k1 ((rd_T49 l0 x5_1).f0) t389 t390 _ A4.out).mono ?_); rintro e w' ⟨rfl, ⟨nd, rfl⟩⟩; (try first | exact ⟨rfl, _, World.drewN_drewN _ _ _⟩ | exact ⟨rfl, _, Eq.trans (World.drewN_drewN _ _ _) (congrArg (World.drewN _) (Nat.add_assoc _ _ _))⟩)))
      repeat (go_quiet (first | (go_at_call 51; (with_reducible refine (broadsheetref13_Token.calls k1 ((rd_T49 l0 x5_1).f0) t389 t390 _ A4.out).mono ?_); rintro e w' ⟨rfl, ⟨nd, rfl⟩⟩; (try first | exact ⟨rfl, _, World.drewN_drewN _ _ _⟩ | exact ⟨rfl, _, Eq.trans (World.drewN_drewN _ _ _) (congrArg (World.drewN _) (Nat.add_assoc _ _ _))⟩))); try go_wp2_with (first | (go_at_call 51; (with_reducible refine (broadsheetref13_Token.calls k1 ((rd_T49 l0 x5_1).f0) t389 t390 _ A4.out).mono ?_); rintro e w' ⟨rfl, ⟨nd, rfl⟩⟩; (try first | exact ⟨rfl, _, World.drewN_drewN _ _ _⟩ | exact ⟨rfl, _, Eq.trans (World.drewN_drewN _ _ _) (congrArg (World.drewN _) (Nat.add_assoc _ _ _))⟩))))
      go_ret2
      exact ⟨by first | rfl | (simp; done) | (simp [*]; done), by repeat (first | exact Drawn0.refl _ | apply Drawn0.step)⟩
     ·rw [if_neg c5] at H
      have c5b0 : (t389.toList == ([] : List UInt8)) = false := beq_eq_false_iff_ne.mpr c5
      have c5b1 : (t389.toList != ([] : List UInt8)) = true := bne_iff_ne.mpr c5
      by_cases c6 : t390.toList = ([] : List UInt8)
      ·rw [if_pos c6] at H
       have c6b0 : (t390.toList == ([] : List UInt8)) = true := beq_iff_eq.mpr c6
       have c6b1 : (t390.toList != ([] : List UInt8)) = false := bne_eq_false_iff_eq.mpr c6
       clear c6
       replace H := Option.bind_eq_some_iff.mp H
       obtain ⟨t392, A70, H⟩ := H
       replace H : (if t392 = true then (if x4_1.size + ((rd_T49 l0 x5_1).f0).size ≤ 9223372036854775807 then (if (x4_1 ++ ((rd_T49 l0 x5_1).f0)).size + 2 ≤ 9223372036854775807 then (if ((x4_1 ++ ((rd_T49 l0 x5_1).f0)) ++ (⟨#[58, 32]⟩ : ByteArray)).size + ((rd_T49 l0 x5_1).f1).size ≤ 9223372036854775807 then (if (((x4_1 ++ ((rd_T49 l0 x5_1).f0)) ++ (⟨#[58, 32]⟩ : ByteArray)) ++ ((rd_T49 l0 x5_1).f1)).size + 2 ≤ 9223372036854775807 then (broadsheetref18_Print.l0 k1 l0 ((((x4_1 ++ ((rd_T49 l0 x5_1).f0)) ++ (⟨#[58, 32]⟩ : ByteArray)) ++ ((rd_T49 l0 x5_1).f1)) ++ (⟨#[13, 10]⟩ : ByteArray)) (wrap64 (x5_1 + 1))) else (none)) else (none)) else (none)) else (none)) else (some ((⟨#[]⟩ : ByteArray), 180))) = some (r1, r2) := H
       have A7 := Aside0.mk A70
       clear A70
       by_cases c8 : t392 = true
       ·subst c8
        replace H : (if x4_1.size + ((rd_T49 l0 x5_1).f0).size ≤ 9223372036854775807 then (if (x4_1 ++ ((rd_T49 l0 x5_1).f0)).size + 2 ≤ 9223372036854775807 then (if ((x4_1 ++ ((rd_T49 l0 x5_1).f0)) ++ (⟨#[58, 32]⟩ : ByteArray)).size + ((rd_T49 l0 x5_1).f1).size ≤ 9223372036854775807 then (if (((x4_1 ++ ((rd_T49 l0 x5_1).f0)) ++ (⟨#[58, 32]⟩ : ByteArray)) ++ ((rd_T49 l0 x5_1).f1)).size + 2 ≤ 9223372036854775807 then (broadsheetref18_Print.l0 k1 l0 ((((x4_1 ++ ((rd_T49 l0 x5_1).f0)) ++ (⟨#[58, 32]⟩ : ByteArray)) ++ ((rd_T49 l0 x5_1).f1)) ++ (⟨#[13, 10]⟩ : ByteArray)) (wrap64 (x5_1 + 1))) else (none)) else (none)) else (none)) else (none)) = some (r1, r2) := by rw [if_pos rfl] at H; exact H
        by_cases c9 : x4_1.size + ((rd_T49 l0 x5_1).f0).size ≤ 9223372036854775807
        ·rw [if_pos c9] at H
         have c9b0 := eq_true c9
         have c9b1 : decide (x4_1.size + ((rd_T49 l0 x5_1).f0).size ≤ 9223372036854775807) = true := decide_eq_true c9
         try have c9b2 : (9223372036854775807 < x4_1.size + ((rd_T49 l0 x5_1).f0).size) = False := eq_false (Nat.not_lt.2 c9)
         by_cases c10 : (x4_1 ++ ((rd_T49 l0 x5_1).f0)).size + 2 ≤ 9223372036854775807
         ·rw [if_pos c10] at H
          have c10b0 := eq_true c10
          have c10b1 : decide ((x4_1 ++ ((rd_T49 l0 x5_1).f0)).size + 2 ≤ 9223372036854775807) = true := decide_eq_true c10
          try have c10b2 : (9223372036854775807 < (x4_1 ++ ((rd_T49 l0 x5_1).f0)).size + 2) = False := eq_false (Nat.not_lt.2 c10)
          obtain ⟨nc10, hc10⟩ : ∃ n_ : Nat, n_ = (x4_1 ++ ((rd_T49 l0 x5_1).f0)).size + 2 := ⟨_, rfl⟩
          have c10m0 : nc10 ≤ 9223372036854775807 := by rw [hc10]; exact c10
          (first | simp [go_sem, c9b0] at hc10 | simp [go_sem] at hc10 | skip)
          rw [hc10] at c10m0
          have c10m1 := eq_false (Nat.not_lt.2 c10m0)
          have c10m2 := decide_eq_true c10m0
          clear hc10 c10m0
          by_cases c11 : ((x4_1 ++ ((rd_T49 l0 x5_1).f0)) ++ (⟨#[58, 32]⟩ : ByteArray)).size + ((rd_T49 l0 x5_1).f1).size ≤ 9223372036854775807
          ·rw [if_pos c11] at H
           have c11b0 := eq_true c11
           have c11b1 : decide (((x4_1 ++ ((rd_T49 l0 x5_1).f0)) ++ (⟨#[58, 32]⟩ : ByteArray)).size + ((rd_T49 l0 x5_1).f1).size ≤ 9223372036854775807) = true := decide_eq_true c11
           try have c11b2 : (9223372036854775807 < ((x4_1 ++ ((rd_T49 l0 x5_1).f0)) ++ (⟨#[58, 32]⟩ : ByteArray)).size + ((rd_T49 l0 x5_1).f1).size) = False := eq_false (Nat.not_lt.2 c11)
           obtain ⟨nc11, hc11⟩ : ∃ n_ : Nat, n_ = ((x4_1 ++ ((rd_T49 l0 x5_1).f0)) ++ (⟨#[58, 32]⟩ : ByteArray)).size + ((rd_T49 l0 x5_1).f1).size := ⟨_, rfl⟩
           have c11m0 : nc11 ≤ 9223372036854775807 := by rw [hc11]; exact c11
           (first | simp [go_sem, c9b0, c10b0] at hc11 | simp [go_sem] at hc11 | skip)
           rw [hc11] at c11m0
           have c11m1 := eq_false (Nat.not_lt.2 c11m0)
           have c11m2 := decide_eq_true c11m0
           clear hc11 c11m0
           by_cases c12 : (((x4_1 ++ ((rd_T49 l0 x5_1).f0)) ++ (⟨#[58, 32]⟩ : ByteArray)) ++ ((rd_T49 l0 x5_1).f1)).size + 2 ≤ 9223372036854775807
           ·rw [if_pos c12] at H
            have c12b0 := eq_true c12
            have c12b1 : decide ((((x4_1 ++ ((rd_T49 l0 x5_1).f0)) ++ (⟨#[58, 32]⟩ : ByteArray)) ++ ((rd_T49 l0 x5_1).f1)).size + 2 ≤ 9223372036854775807) = true := decide_eq_true c12
            try have c12b2 : (9223372036854775807 < (((x4_1 ++ ((rd_T49 l0 x5_1).f0)) ++ (⟨#[58, 32]⟩ : ByteArray)) ++ ((rd_T49 l0 x5_1).f1)).size + 2) = False := eq_false (Nat.not_lt.2 c12)
            obtain ⟨nc12, hc12⟩ : ∃ n_ : Nat, n_ = (((x4_1 ++ ((rd_T49 l0 x5_1).f0)) ++ (⟨#[58, 32]⟩ : ByteArray)) ++ ((rd_T49 l0 x5_1).f1)).size + 2 := ⟨_, rfl⟩
            have c12m0 : nc12 ≤ 9223372036854775807 := by rw [hc12]; exact c12
            (first | simp [go_sem, c9b0, c10b0, c11b0] at hc12 | simp [go_sem] at hc12 | skip)
            rw [hc12] at c12m0
            have c12m1 := eq_false (Nat.not_lt.2 c12m0)
            have c12m2 := decide_eq_true c12m0
            clear hc12 c12m0
            have H' := Aside0.mk H
            clear H
            have p388 : 0 ≤ (x5_1 : Int) := of_decide_eq_true zb2
            have q388 : x5_1 < (l0.length : Int) := of_decide_eq_true zb2
            obtain ⟨ad388, e388, hx388_0, hx388_1⟩ := at_T49 HR0.out x5_1 p388 q388
            cases e388
            replace p388 := eq_true p388
            replace q388 := eq_true q388
            have p391 : 0 ≤ (x5_1 : Int) := of_decide_eq_true zb2
            have q391 : x5_1 < (l0.length : Int) := of_decide_eq_true zb2
            obtain ⟨ad391, e391, hx391_0, hx391_1⟩ := at_T49 HR0.out x5_1 p391 q391
            obtain rfl : ad388 = ad391 := (by injection e391)
            replace p391 := eq_true p391
            replace q391 := eq_true q391
            have p393 : 0 ≤ (x5_1 : Int) := of_decide_eq_true zb2
            have q393 : x5_1 < (l0.length : Int) := of_decide_eq_true zb2
            obtain ⟨ad393, e393, hx393_0, hx393_1⟩ := at_T49 HR0.out x5_1 p393 q393
            obtain rfl : ad388 = ad393 := (by injection e393)
            replace p393 := eq_true p393
            replace q393 := eq_true q393
            have p394 : 0 ≤ (x5_1 : Int) := of_decide_eq_true zb2
            have q394 : x5_1 < (l0.length : Int) := of_decide_eq_true zb2
            obtain ⟨ad394, e394, hx394_0, hx394_1⟩ := at_T49 HR0.out x5_1 p394 q394
            obtain rfl : ad388 = ad394 := (by injection e394)
            replace p394 := eq_true p394
            replace q394 := eq_true q394
            go_wp2_with (first | (go_at_call 51; (with_reducible refine (broadsheetref13_Token.calls k1 ((rd_T49 l0 x5_1).f0) t389 t390 _ A4.out).mono ?_); rintro e w' ⟨rfl, ⟨nd, rfl⟩⟩; (try first | exact ⟨rfl, _, World.drewN_drewN _ _ _⟩ | exact ⟨rfl, _, Eq.trans (World.drewN_drewN _ _ _) (congrArg (World.drewN _) (Nat.add_assoc _ _ _))⟩)) | (go_at_call 52; (with_reducible refine (broadsheetref18_Value.calls k1 ((rd_T49 l0 x5_1).f1) true _ A7.out).mono ?_); rintro e w' ⟨rfl, ⟨nd, rfl⟩⟩; (try first | exact ⟨rfl, _, World.drewN_drewN _ _ _⟩ | exact ⟨rfl, _, Eq.trans (World.drewN_drewN _ _ _) (congrArg (World.drewN _) (Nat.add_assoc _ _ _))⟩)))
            repeat (go_quiet (first | (go_at_call 51; (with_reducible refine (broadsheetref13_Token.calls k1 ((rd_T49 l0 x5_1).f0) t389 t390 _ A4.out).mono ?_); rintro e w' ⟨rfl, ⟨nd, rfl⟩⟩; (try first | exact ⟨rfl, _, World.drewN_drewN _ _ _⟩ | exact ⟨rfl, _, Eq.trans (World.drewN_drewN _ _ _) (congrArg (World.drewN _) (Nat.add_assoc _ _ _))⟩)) | (go_at_call 52; (with_reducible refine (broadsheetref18_Value.calls k1 ((rd_T49 l0 x5_1).f1) true _ A7.out).mono ?_); rintro e w' ⟨rfl, ⟨nd, rfl⟩⟩; (try first | exact ⟨rfl, _, World.drewN_drewN _ _ _⟩ | exact ⟨rfl, _, Eq.trans (World.drewN_drewN _ _ _) (congrArg (World.drewN _) (Nat.add_assoc _ _ _))⟩))); try go_wp2_with (first | (go_at_call 51; (with_reducible refine (broadsheetref13_Token.calls k1 ((rd_T49 l0 x5_1).f0) t389 t390 _ A4.out).mono ?_); rintro e w' ⟨rfl, ⟨nd, rfl⟩⟩; (try first | exact ⟨rfl, _, World.drewN_drewN _ _ _⟩ | exact ⟨rfl, _, Eq.trans (World.drewN_drewN _ _ _) (congrArg (World.drewN _) (Nat.add_assoc _ _ _))⟩)) | (go_at_call 52; (with_reducible refine (broadsheetref18_Value.calls k1 ((rd_T49 l0 x5_1).f1) true _ A7.out).mono ?_); rintro e w' ⟨rfl, ⟨nd, rfl⟩⟩; (try first | exact ⟨rfl, _, World.drewN_drewN _ _ _⟩ | exact ⟨rfl, _, Eq.trans (World.drewN_drewN _ _ _) (congrArg (World.drewN _) (Nat.add_assoc _ _ _))⟩))))
            go_roundg k1
            case measure => have := HK1.out; omega
            case rel => exact ⟨((((x4_1 ++ ((rd_T49 l0 x5_1).f0)) ++ (⟨#[58, 32]⟩ : ByteArray)) ++ ((rd_T49 l0 x5_1).f1)) ++ (⟨#[13, 10]⟩ : ByteArray)), (wrap64 (x5_1 + 1)), zb6, zb6, H', ⟨by have := HK1.out; omega⟩, by repeat (first | exact Drawn0.refl _ | apply Drawn0.step)⟩
           ·rw [if_neg c12] at H
            exact absurd H zb25
          ·rw [if_neg c11] at H
           exact absurd H zb25
         ·rw [if_neg c10] at H
          exact absurd H zb25
        ·rw [if_neg c9] at H
         exact absurd H zb25
       ·replace c8 := Bool.eq_false_iff.mpr c8
        subst c8
        replace H : (some ((⟨#[]⟩ : ByteArray), 180)) = some (r1, r2) := by rw [if_neg (show ¬ (false = true) by decide)] at H; exact H
        simp only [Option.some.injEq, Prod.mk.injEq] at H
        obtain ⟨rfl, rfl⟩ := H
        have p388 : 0 ≤ (x5_1 : Int) := of_decide_eq_true zb2
        have q388 : x5_1 < (l0.length : Int) := of_decide_eq_true zb2
        obtain ⟨ad388, e388, hx388_0, hx388_1⟩ := at_T49 HR0.out x5_1 p388 q388
        cases e388
        replace p388 := eq_true p388
        replace q388 := eq_true q388
        have p391 : 0 ≤ (x5_1 : Int) := of_decide_eq_true zb2
        have q391 : x5_1 < (l0.length : Int) := of_decide_eq_true zb2
        obtain ⟨ad391, e391, hx391_0, hx391_1⟩ := at_T49 HR0.out x5_1 p391 q391
        obtain rfl : ad388 = ad391 := (by injection e391)
        replace p391 := eq_true p391
        replace q391 := eq_true q391
        go_wp2_with (first | (go_at_call 51; (with_reducible refine (broadsheetref13_Token.calls k1 ((rd_T49 l0 x5_1).f0) t389 t390 _ A4.out).mono ?_); rintro e w' ⟨rfl, ⟨nd, rfl⟩⟩; (try first | exact ⟨rfl, _, World.drewN_drewN _ _ _⟩ | exact ⟨rfl, _, Eq.trans (World.drewN_drewN _ _ _) (congrArg (World.drewN _) (Nat.add_assoc _ _ _))⟩)) | (go_at_call 52; (with_reducible refine (broadsheetref18_Value.calls k1 ((rd_T49 l0 x5_1).f1) false _ A7.out).mono ?_); rintro e w' ⟨rfl, ⟨nd, rfl⟩⟩; (try first | exact ⟨rfl, _, World.drewN_drewN _ _ _⟩ | exact ⟨rfl, _, Eq.trans (World.drewN_drewN _ _ _) (congrArg (World.drewN _) (Nat.add_assoc _ _ _))⟩)))
        repeat (go_quiet (first | (go_at_call 51; (with_reducible refine (broadsheetref13_Token.calls k1 ((rd_T49 l0 x5_1).f0) t389 t390 _ A4.out).mono ?_); rintro e w' ⟨rfl, ⟨nd, rfl⟩⟩; (try first | exact ⟨rfl, _, World.drewN_drewN _ _ _⟩ | exact ⟨rfl, _, Eq.trans (World.drewN_drewN _ _ _) (congrArg (World.drewN _) (Nat.add_assoc _ _ _))⟩)) | (go_at_call 52; (with_reducible refine (broadsheetref18_Value.calls k1 ((rd_T49 l0 x5_1).f1) false _ A7.out).mono ?_); rintro e w' ⟨rfl, ⟨nd, rfl⟩⟩; (try first | exact ⟨rfl, _, World.drewN_drewN _ _ _⟩ | exact ⟨rfl, _, Eq.trans (World.drewN_drewN _ _ _) (congrArg (World.drewN _) (Nat.add_assoc _ _ _))⟩))); try go_wp2_with (first | (go_at_call 51; (with_reducible refine (broadsheetref13_Token.calls k1 ((rd_T49 l0 x5_1).f0) t389 t390 _ A4.out).mono ?_); rintro e w' ⟨rfl, ⟨nd, rfl⟩⟩; (try first | exact ⟨rfl, _, World.drewN_drewN _ _ _⟩ | exact ⟨rfl, _, Eq.trans (World.drewN_drewN _ _ _) (congrArg (World.drewN _) (Nat.add_assoc _ _ _))⟩)) | (go_at_call 52; (with_reducible refine (broadsheetref18_Value.calls k1 ((rd_T49 l0 x5_1).f1) false _ A7.out).mono ?_); rintro e w' ⟨rfl, ⟨nd, rfl⟩⟩; (try first | exact ⟨rfl, _, World.drewN_drewN _ _ _⟩ | exact ⟨rfl, _, Eq.trans (World.drewN_drewN _ _ _) (congrArg (World.drewN _) (Nat.add_assoc _ _ _))⟩))))
        go_ret2
        exact ⟨by first | rfl | (simp; done) | (simp [*]; done), by repeat (first | exact Drawn0.refl _ | apply Drawn0.step)⟩
      ·rw [if_neg c6] at H
       have c6b0 : (t390.toList == ([] : List UInt8)) = false := beq_eq_false_iff_ne.mpr c6
       have c6b1 : (t390.toList != ([] : List UInt8)) = true := bne_iff_ne.mpr c6
       simp only [Option.some.injEq, Prod.mk.injEq] at H
       obtain ⟨rfl, rfl⟩ := H
       have p388 : 0 ≤ (x5_1 : Int) := of_decide_eq_true zb2
       have q388 : x5_1 < (l0.length : Int) := of_decide_eq_true zb2
       obtain ⟨ad388, e388, hx388_0, hx388_1⟩ := at_T49 HR0.out x5_1 p388 q388
       cases e388
       replace p388 := eq_true p388
       replace q388 := eq_true q388
       go_wp2_with (first | (go_at_call 51; (with_reducible refine (broadsheetref13_Token.calls k1 ((rd_T49 l0 x5_1).f0) t389 t390 _ A4.out).mono ?_); rintro e w' ⟨rfl, ⟨nd, rfl⟩⟩; (try first | exact ⟨rfl, _, World.drewN_drewN _ _ _⟩ | exact ⟨rfl, _, Eq.trans (World.drewN_drewN _ _ _) (congrArg (World.drewN _) (Nat.add_assoc _ _ _))⟩)))
       repeat (go_quiet (first | (go_at_call 51; (with_reducible refine (broadsheetref13_Token.calls k1 ((rd_T49 l0 x5_1).f0) t389 t390 _ A4.out).mono ?_); rintro e w' ⟨rfl, ⟨nd, rfl⟩⟩; (try first | exact ⟨rfl, _, World.drewN_drewN _ _ _⟩ | exact ⟨rfl, _, Eq.trans (World.drewN_drewN _ _ _) (congrArg (World.drewN _) (Nat.add_assoc _ _ _))⟩))); try go_wp2_with (first | (go_at_call 51; (with_reducible refine (broadsheetref13_Token.calls k1 ((rd_T49 l0 x5_1).f0) t389 t390 _ A4.out).mono ?_); rintro e w' ⟨rfl, ⟨nd, rfl⟩⟩; (try first | exact ⟨rfl, _, World.drewN_drewN _ _ _⟩ | exact ⟨rfl, _, Eq.trans (World.drewN_drewN _ _ _) (congrArg (World.drewN _) (Nat.add_assoc _ _ _))⟩))))
       go_ret2
       exact ⟨by first | rfl | (simp; done) | (simp [*]; done), by repeat (first | exact Drawn0.refl _ | apply Drawn0.step)⟩
    ·rw [if_neg c3] at H
     exact absurd H zb25
   ·rw [if_neg c2] at H
    have c2b0 : decide (x5_1 < (l0.length : Int)) = false := decide_eq_false c2
    clear c2
    by_cases c13 : x4_1.size + 2 ≤ 9223372036854775807
    ·rw [if_pos c13] at H
     have c13b0 := eq_true c13
     have c13b1 : decide (x4_1.size + 2 ≤ 9223372036854775807) = true := decide_eq_true c13
     try have c13b2 : (9223372036854775807 < x4_1.size + 2) = False := eq_false (Nat.not_lt.2 c13)
     by_cases c14 : ((x4_1 ++ (⟨#[13, 10]⟩ : ByteArray)).size : Int) > 8000
     ·rw [if_pos c14] at H
      have c14b0 : decide (8000 < ((x4_1 ++ (⟨#[13, 10]⟩ : ByteArray)).size : Int)) = true := decide_eq_true c14
      have c14z : decide (8000 < (x4_1.size : Int) + 2) = true := by have e_ : ((x4_1 ++ (⟨#[13, 10]⟩ : ByteArray)).size : Int) = (x4_1.size : Int) + 2 := (by rw [ByteArray.size_append]; rfl); have z_ := c14b0; rw [e_] at z_; exact z_
      have c14b1 : decide (8000 < (x4_1 ++ (⟨#[13, 10]⟩ : ByteArray)).size) = true := decide_eq_true zb17
      clear c14
      simp only [Option.some.injEq, Prod.mk.injEq] at H
      obtain ⟨rfl, rfl⟩ := H
      go_wp2
      repeat (go_quiet (fail); try go_wp2)
      go_ret2
      exact ⟨by first | rfl | (simp; done) | (simp [*]; done), by repeat (first | exact Drawn0.refl _ | apply Drawn0.step)⟩
     ·rw [if_neg c14] at H
      have c14b0 : decide (8000 < ((x4_1 ++ (⟨#[13, 10]⟩ : ByteArray)).size : Int)) = false := decide_eq_false c14
      have c14z : decide (8000 < (x4_1.size : Int) + 2) = false := by have e_ : ((x4_1 ++ (⟨#[13, 10]⟩ : ByteArray)).size : Int) = (x4_1.size : Int) + 2 := (by rw [ByteArray.size_append]; rfl); have z_ := c14b0; rw [e_] at z_; exact z_
      have c14b1 : decide (8000 < (x4_1 ++ (⟨#[13, 10]⟩ : ByteArray)).size) = false := decide_eq_false zb17
      clear c14
      simp only [Option.some.injEq, Prod.mk.injEq] at H
      obtain ⟨rfl, rfl⟩ := H
      go_wp2
      repeat (go_quiet (fail); try go_wp2)
      go_ret2
      exact ⟨by first | rfl | (simp; done) | (simp [*]; done), by repeat (first | exact Drawn0.refl _ | apply Drawn0.step)⟩
    ·rw [if_neg c13] at H
     exact absurd H zb25
end Go.Proofs.YteonhdfjfjpbjaaGreatDoor.P
