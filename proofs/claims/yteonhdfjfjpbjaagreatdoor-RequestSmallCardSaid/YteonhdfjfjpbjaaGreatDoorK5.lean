/- Texts of this seat, joined: lemmas and walks that its statements' proofs use. -/
import Derived.Test.YteonhdfjfjpbjaaGreatDoorK1
import Derived.Test.YteonhdfjfjpbjaaGreatDoorK4
import Derived.Test.YteonhdfjfjpbjaaGreatDoorK3
import Derived.Laws.RangeAny
import Derived.Deep.Slices
import Derived.LaidLaws
import Derived.MakeChecks
import Derived.HandedShaped
import Derived.Lib.LaidU8
import Derived.Lib.LaidTab
import Derived.WalkKit
import Derived.ProofKit
import Derived.OpenShut
import Derived.ChangeOld
import Derived.Test.YteonhdfjfjpbjaaGreatDoorRows
/- Px55 -/
namespace Go.Proofs.YteonhdfjfjpbjaaGreatDoor.P
open Go.Proofs.YteonhdfjfjpbjaaGreatDoor.B
open Go.RowKit Go.Proofs.YteonhdfjfjpbjaaGreatDoorW.PrintWords Go.Proofs.YteonhdfjfjpbjaaGreatDoorW.PrintLast Go.Proofs.YteonhdfjfjpbjaaGreatDoorW.PrintMore
attribute [local go_sem] str_leq str_gtr str_geq max2_int min2_int max_two min_two max_three min_three max_four min_four
set_option linter.unusedVariables false
set_option linter.unusedSimpArgs false
def broadsheetlaw05_Pieces.l0 : Nat → List Int → List ByteArray → ByteArray → Int → Option (ByteArray)
  | 0, _, _, _, _ => none
  | k + 1, x0, x1, x5, x6 => if x6 < (x0.length : Int) then (if x6 < 12 then (if 0 ≤ x6 then (if (x1.length : Int) = 0 then (none) else (if 0 ≤ (Int.tmod (wrap64 (rd x0 x6)) (x1.length : Int)) then (if (Int.tmod (wrap64 (rd x0 x6)) (x1.length : Int)) < (x1.length : Int) then (if x5.size + (rdOf ByteArray.empty x1 (Int.tmod (wrap64 (rd x0 x6)) (x1.length : Int))).size ≤ 9223372036854775807 then (broadsheetlaw05_Pieces.l0 k x0 x1 (x5 ++ (rdOf ByteArray.empty x1 (Int.tmod (wrap64 (rd x0 x6)) (x1.length : Int)))) (wrap64 (x6 + 1))) else (none)) else (none)) else (none))) else (none)) else (some x5)) else (some x5)
def broadsheetlaw05_Pieces.f (k : Nat) (l0 : List Int) (l1 : List ByteArray) : Option (ByteArray) := broadsheetlaw05_Pieces.l0 k l0 l1 (⟨#[]⟩ : ByteArray) 0
set_option maxHeartbeats 8000000 in
set_option maxRecDepth 100000 in
theorem broadsheetlaw05_Pieces.calls (k : Nat) (A0 : Option Addr) (c0 : Nat) (l0 : List Int) (A1 : Option Addr) (c1 : Nat) (l1 : List ByteArray) (r : ByteArray) (w : World) (hr0 : Kd.C (Kd.int .u8) w A0 l0.length l0) (hc0 : l0.length ≤ c0) (hr1 : Kd.C Kd.string w A1 l1.length l1) (hc1 : l1.length ≤ c1) (h : broadsheetlaw05_Pieces.f k l0 l1 = some r) :
  Calls Tryz.prog 15 #[.slice A0 l0.length c0, .slice A1 l1.length c1] w fun e w' => e = .returned (.string r) ∧ Drawn0 w w' := by
 have HR0 := Aside0.mk hr0
 have HC0 := Aside0.mk hc0
 clear hr0 hc0
 have HR1 := Aside0.mk hr1
 have HC1 := Aside0.mk hc1
 clear hr1 hc1
 have H : (broadsheetlaw05_Pieces.l0 k l0 l1 (⟨#[]⟩ : ByteArray) 0) = some r := h
 clear h
 have H' := Aside0.mk H
 clear H
 go_enter Tryz.func15, Tryz.ntmps15
 go_wp2
 first | go_loopg [5, 6] k (fun kq v5 v6 w' => ∃ (x5_1 : ByteArray) (x6_1 : Int), v5 = .string x5_1 ∧ v6 = .int .i64 x6_1 ∧ Aside0 (broadsheetlaw05_Pieces.l0 kq l0 l1 x5_1 x6_1 = some r) ∧ Aside0 (kq ≤ k) ∧ Drawn0 w w') | (go_simp; go_loopg [5, 6] k (fun kq v5 v6 w' => ∃ (x5_1 : ByteArray) (x6_1 : Int), v5 = .string x5_1 ∧ v6 = .int .i64 x6_1 ∧ Aside0 (broadsheetlaw05_Pieces.l0 kq l0 l1 x5_1 x6_1 = some r) ∧ Aside0 (kq ≤ k) ∧ Drawn0 w w'))
 case atStart => exact ⟨((⟨#[]⟩ : ByteArray)), (0), zb5, zb5, H', ⟨Nat.le_refl _⟩, by repeat (first | exact Drawn0.refl _ | apply Drawn0.step)⟩
 case round =>
  clear H'
  try clear c1
  try clear p2
  obtain ⟨x5_1, x6_1, rfl, rfl, HA, HK1, ⟨m1, rfl⟩⟩ := hrel
  cases gk with
  | zero => exact absurd HA.out (by simp [broadsheetlaw05_Pieces.l0])
  | succ k1 =>
   have H := HA.out
   clear HA
   simp only [broadsheetlaw05_Pieces.l0] at H
   by_cases c3 : x6_1 < (l0.length : Int)
   ·rw [if_pos c3] at H
    have c3b0 : decide (x6_1 < (l0.length : Int)) = true := decide_eq_true c3
    clear c3
    by_cases c4 : x6_1 < 12
    ·rw [if_pos c4] at H
     have c4b0 : decide (x6_1 < 12) = true := decide_eq_true c4
     clear c4
     by_cases c5 : 0 ≤ x6_1
     ·rw [if_pos c5] at H
      have c5b0 : decide (0 ≤ x6_1) = true := decide_eq_true c5
      clear c5
      by_cases c6 : (l1.length : Int) = 0
      ·rw [if_pos c6] at H
       exact absurd H zb26
      ·rw [if_neg c6] at H
       have c6b0 : ((l1.length : Int) == 0) = false := beq_eq_false_iff_ne.mpr c6
       have c6b1 : ((l1.length : Int) != 0) = true := bne_iff_ne.mpr c6
       have c6b2 : ¬ (l1 = []) := fun h_ => c6 (by rw [h_]; rfl)
       obtain ⟨ji7, hji7⟩ : ∃ j_ : Int, (Int.tmod (wrap64 (rd l0 x6_1)) (l1.length : Int)) = j_ := ⟨_, rfl⟩
       replace H : (if 0 ≤ (ji7) then (if (ji7) < (l1.length : Int) then (if x5_1.size + (rdOf ByteArray.empty l1 (ji7)).size ≤ 9223372036854775807 then (broadsheetlaw05_Pieces.l0 k1 l0 l1 (x5_1 ++ (rdOf ByteArray.empty l1 (ji7))) (wrap64 (x6_1 + 1))) else (none)) else (none)) else (none)) = some r := by first | (rw [hji7] at H; exact H) | (simp only [hji7] at H ⊢; exact H)
       by_cases c8 : 0 ≤ (ji7)
       ·rw [if_pos c8] at H
        have c8b0 : decide (0 ≤ (ji7)) = true := decide_eq_true c8
        clear c8
        by_cases c9 : (ji7) < (l1.length : Int)
        ·rw [if_pos c9] at H
         have c9b0 : decide ((ji7) < (l1.length : Int)) = true := decide_eq_true c9
         clear c9
         by_cases c10 : x5_1.size + (rdOf ByteArray.empty l1 (ji7)).size ≤ 9223372036854775807
         ·rw [if_pos c10] at H
          have c10b0 := eq_true c10
          have c10b1 : decide (x5_1.size + (rdOf ByteArray.empty l1 (ji7)).size ≤ 9223372036854775807) = true := decide_eq_true c10
          try have c10b2 : (9223372036854775807 < x5_1.size + (rdOf ByteArray.empty l1 (ji7)).size) = False := eq_false (Nat.not_lt.2 c10)
          have H' := Aside0.mk H
          clear H
          have p438 : 0 ≤ (x6_1 : Int) := of_decide_eq_true zb2
          have q438 : x6_1 < (l0.length : Int) := of_decide_eq_true zb2
          obtain ⟨ad438, e438, hx438_0⟩ := Kd.at_int HR0.out x6_1 p438 q438
          cases e438
          replace p438 := eq_true p438
          replace q438 := eq_true q438
          have p439 : 0 ≤ ((ji7) : Int) := of_decide_eq_true zb2
          have q439 : (ji7) < (l1.length : Int) := of_decide_eq_true zb2
          obtain ⟨ad439, e439, hx439_0⟩ := Kd.at_string HR1.out (ji7) p439 q439
          cases e439
          replace p439 := eq_true p439
          replace q439 := eq_true q439
          go_wp2
          go_roundg k1
          case measure => have := HK1.out; omega
          case rel => exact ⟨(x5_1 ++ (rdOf ByteArray.empty l1 (ji7))), (wrap64 (x6_1 + 1)), (by first | rfl | (simp; done) | (simp only [← hji7] <;> (first | rfl | simp)) | (simp [*]; done)), zb5, H', ⟨by have := HK1.out; omega⟩, by repeat (first | exact Drawn0.refl _ | apply Drawn0.step)⟩
         ·rw [if_neg c10] at H
          exact absurd H zb26
        ·rw [if_neg c9] at H
         exact absurd H zb26
       ·rw [if_neg c8] at H
        exact absurd H zb26
     ·rw [if_neg c5] at H
      exact absurd H zb26
    ·rw [if_neg c4] at H
     have c4b0 : decide (x6_1 < 12) = false := decide_eq_false c4
     clear c4
     obtain rfl := Option.some.inj H
     go_wp2
     go_ret
     exact ⟨by first | rfl | (simp; done) | (simp [*]; done), by repeat (first | exact Drawn0.refl _ | apply Drawn0.step)⟩
   ·rw [if_neg c3] at H
    have c3b0 : decide (x6_1 < (l0.length : Int)) = false := decide_eq_false c3
    clear c3
    obtain rfl := Option.some.inj H
    go_wp2
    go_ret
    exact ⟨by first | rfl | (simp; done) | (simp [*]; done), by repeat (first | exact Drawn0.refl _ | apply Drawn0.step)⟩
end Go.Proofs.YteonhdfjfjpbjaaGreatDoor.P
/- Px56 -/
namespace Go.Proofs.YteonhdfjfjpbjaaGreatDoor.P
open Go.Proofs.YteonhdfjfjpbjaaGreatDoor.B
open Go.RowKit Go.Proofs.YteonhdfjfjpbjaaGreatDoorW.PrintWords Go.Proofs.YteonhdfjfjpbjaaGreatDoorW.PrintLast Go.Proofs.YteonhdfjfjpbjaaGreatDoorW.PrintMore
attribute [local go_sem] str_leq str_gtr str_geq max2_int min2_int max_two min_two max_three min_three max_four min_four
set_option linter.unusedVariables false
set_option linter.unusedSimpArgs false
open Go.Proofs.YteonhdfjfjpbjaaGreatDoor.O
def broadsheetlaw20_RequestSmall.f (k : Nat) (a0 : Int) (l1 : List Int) (l2 : List Int) : Option (Bool) := (some (([(⟨#[71, 69, 84, 32, 47, 32, 72, 84, 84, 80, 47, 49, 46, 49, 13, 10]⟩ : ByteArray), (⟨#[80, 85, 84, 32, 47, 99, 47, 49, 45, 97, 63, 98, 32, 72, 84, 84, 80, 47, 49, 46, 49, 13, 10]⟩ : ByteArray), (⟨#[71, 69, 84, 32, 47, 32, 72, 84, 84, 80, 47, 49, 46, 48, 13, 10]⟩ : ByteArray), (⟨#[71, 69, 84, 32, 120, 32, 72, 84, 84, 80, 47, 49, 46, 49, 13, 10]⟩ : ByteArray), (⟨#[71, 32, 84, 32, 47, 32, 72, 84, 84, 80, 47, 49, 46, 49, 13, 10]⟩ : ByteArray), (⟨#[71, 69, 84, 32, 47, 32, 72, 84, 84, 80, 47, 49, 46, 49, 10]⟩ : ByteArray)] : List ByteArray) : List ByteArray)).bind fun y440 => (if (y440.length : Int) = 0 then (none) else (if 0 ≤ (Int.tmod (wrap64 (a0)) (y440.length : Int)) then (if (Int.tmod (wrap64 (a0)) (y440.length : Int)) < (y440.length : Int) then ((broadsheetlaw05_Pieces.f k l1 (([(⟨#[72, 111, 115, 116, 58, 32, 97, 13, 10]⟩ : ByteArray), (⟨#[72, 111, 115, 116, 58, 32, 97, 13, 10]⟩ : ByteArray), (⟨#[67, 111, 110, 116, 101, 110, 116, 45, 76, 101, 110, 103, 116, 104, 58, 32, 51, 13, 10]⟩ : ByteArray), (⟨#[67, 111, 110, 116, 101, 110, 116, 45, 76, 101, 110, 103, 116, 104, 58, 32, 48, 13, 10]⟩ : ByteArray), (⟨#[84, 114, 97, 110, 115, 102, 101, 114, 45, 69, 110, 99, 111, 100, 105, 110, 103, 58, 32, 99, 104, 117, 110, 107, 101, 100, 13, 10]⟩ : ByteArray), (⟨#[83, 108, 117, 103, 58, 32, 120, 13, 10]⟩ : ByteArray), (⟨#[98, 97, 100, 13, 10]⟩ : ByteArray), (⟨#[67, 111, 110, 116, 101, 110, 116, 45, 76, 101, 110, 103, 116, 104, 58, 32, 120, 13, 10]⟩ : ByteArray)] : List ByteArray))).bind fun t447 => (if (rdOf ByteArray.empty y440 (Int.tmod (wrap64 (a0)) (y440.length : Int))).size + t447.size ≤ 9223372036854775807 then (if ((rdOf ByteArray.empty y440 (Int.tmod (wrap64 (a0)) (y440.length : Int))) ++ t447).size + 2 ≤ 9223372036854775807 then ((broadsheetlaw05_Pieces.f k l2 (([(⟨#[97, 98, 99]⟩ : ByteArray), (⟨#[48, 13, 10, 13, 10]⟩ : ByteArray), (⟨#[51, 13, 10, 97, 98, 99, 13, 10]⟩ : ByteArray), (⟨#[120]⟩ : ByteArray), (⟨#[]⟩ : ByteArray)] : List ByteArray))).bind fun t451 => (if (((rdOf ByteArray.empty y440 (Int.tmod (wrap64 (a0)) (y440.length : Int))) ++ t447) ++ (⟨#[13, 10]⟩ : ByteArray)).size + t451.size ≤ 9223372036854775807 then ((request_Parse.f ((((rdOf ByteArray.empty y440 (Int.tmod (wrap64 (a0)) (y440.length : Int))) ++ t447) ++ (⟨#[13, 10]⟩ : ByteArray)) ++ t451)).bind fun bt452 => ((broadsheetref20_Parse.f k ((((rdOf ByteArray.empty y440 (Int.tmod (wrap64 (a0)) (y440.length : Int))) ++ t447) ++ (⟨#[13, 10]⟩ : ByteArray)) ++ t451)).bind fun bt460 => ((broadsheetlaw20_awake.f).bind fun t468 => (if t468 = true then ((broadsheetref20_Same.f k bt452.1 bt452.2.1 bt452.2.2.1 bt452.2.2.2.1 bt460.1 bt460.2.1 bt460.2.2.1 bt460.2.2.2.1).bind fun t469 => (if t469 = true then (some (bt452.2.2.2.2 == bt460.2.2.2.2)) else (some false))) else (some false))))) else (none))) else (none)) else (none))) else (none)) else (none)))
def broadsheetlaw20_RequestSmall.T2 : Bool × List (List Nat × List Nat) := (true, [([], []), ([], []), ([1], [1]), ([], []), ([3], [3]), ([2, 4], [2, 4]), ([0, 5], [0, 5]), ([6], [6]), ([], []), ([], []), ([8, 9], [8, 9]), ([7, 10], [7, 10]), ([11], [11]), ([], []), ([], []), ([13, 14, 10], [13, 14]), ([12, 15], [12, 15]), ([16, 15, 0, 1, 2, 3, 4, 5, 6, 7, 8, 9, 10, 11, 12, 13, 14, 15, 16], [16])])
def broadsheetlaw20_RequestSmall.B2 : List Nat := [0, 0, 2, 0, 8, 30, 63, 127, 0, 0, 768, 2047, 4095, 0, 0, 26368, 65535, 131071]
theorem broadsheetlaw20_RequestSmall.tab2 : rtab .any (opsOf Tryz.f9 2) = broadsheetlaw20_RequestSmall.T2 := by kernel_rfl
theorem broadsheetlaw20_RequestSmall.bits2 : waitsOk broadsheetlaw20_RequestSmall.T2.2 broadsheetlaw20_RequestSmall.B2 = true := by kernel_rfl
set_option maxHeartbeats 8000000 in
set_option maxRecDepth 100000 in
theorem broadsheetlaw20_RequestSmall.calls (k : Nat) (a0 : Int) (A1 : Option Addr) (c1 : Nat) (l1 : List Int) (A2 : Option Addr) (c2 : Nat) (l2 : List Int) (r : Bool) (w : World) (hr1 : Kd.C (Kd.int .u8) w A1 l1.length l1) (hc1 : l1.length ≤ c1) (hr2 : Kd.C (Kd.int .u8) w A2 l2.length l2) (hc2 : l2.length ≤ c2) (hG : Glob w) (h : broadsheetlaw20_RequestSmall.f k a0 l1 l2 = some r) (hr : r = true) :
  Calls Tryz.prog 9 #[.int .u8 a0, .slice A1 l1.length c1, .slice A2 l2.length c2] w fun e w' => e = .returned (.bool r) ∧ Below w.heap.size w w' := by
 have hu36 := Tryz.underlying36
 have HR1 := Aside0.mk hr1
 have HC1 := Aside0.mk hc1
 clear hr1 hc1
 have HR2 := Aside0.mk hr2
 have HC2 := Aside0.mk hc2
 clear hr2 hc2
 have HB := Aside0.mk (Below.refl w.heap.size w)
 have hGA := Aside0.mk hG
 clear hG
 have H : ((some (([(⟨#[71, 69, 84, 32, 47, 32, 72, 84, 84, 80, 47, 49, 46, 49, 13, 10]⟩ : ByteArray), (⟨#[80, 85, 84, 32, 47, 99, 47, 49, 45, 97, 63, 98, 32, 72, 84, 84, 80, 47, 49, 46, 49, 13, 10]⟩ : ByteArray), (⟨#[71, 69, 84, 32, 47, 32, 72, 84, 84, 80, 47, 49, 46, 48, 13, 10]⟩ : ByteArray), (⟨#[71, 69, 84, 32, 120, 32, 72, 84, 84, 80, 47, 49, 46, 49, 13, 10]⟩ : ByteArray), (⟨#[71, 32, 84, 32, 47, 32, 72, 84, 84, 80, 47, 49, 46, 49, 13, 10]⟩ : ByteArray), (⟨#[71, 69, 84, 32, 47, 32, 72, 84, 84, 80, 47, 49, 46, 49, 10]⟩ : ByteArray)] : List ByteArray) : List ByteArray)).bind fun y440 => (if (y440.length : Int) = 0 then (none) else (if 0 ≤ (Int.tmod (wrap64 (a0)) (y440.length : Int)) then (if (Int.tmod (wrap64 (a0)) (y440.length : Int)) < (y440.length : Int) then ((broadsheetlaw05_Pieces.f k l1 (([(⟨#[72, 111, 115, 116, 58, 32, 97, 13, 10]⟩ : ByteArray), (⟨#[72, 111, 115, 116, 58, 32, 97, 13, 10]⟩ : ByteArray), (⟨#[67, 111, 110, 116, 101, 110, 116, 45, 76, 101, 110, 103, 116, 104, 58, 32, 51, 13, 10]⟩ : ByteArray), (⟨#[67, 111, 110, 116, 101, 110, 116, 45, 76, 101, 110, 103, 116, 104, 58, 32, 48, 13, 10]⟩ : ByteArray), (⟨#[84, 114, 97, 110, 115, 102, 101, 114, 45, 69, 110, 99, 111, 100, 105, 110, 103, 58, 32, 99, 104, 117, 110, 107, 101, 100, 13, 10]⟩ : ByteArray), (⟨#[83, 108, 117, 103, 58, 32, 120, 13, 10]⟩ : ByteArray), (⟨#[98, 97, 100, 13, 10]⟩ : ByteArray), (⟨#[67, 111, 110, 116, 101, 110, 116, 45, 76, 101, 110, 103, 116, 104, 58, 32, 120, 13, 10]⟩ : ByteArray)] : List ByteArray))).bind fun t447 => (if (rdOf ByteArray.empty y440 (Int.tmod (wrap64 (a0)) (y440.length : Int))).size + t447.size ≤ 9223372036854775807 then (if ((rdOf ByteArray.empty y440 (Int.tmod (wrap64 (a0)) (y440.length : Int))) ++ t447).size + 2 ≤ 9223372036854775807 then ((broadsheetlaw05_Pieces.f k l2 (([(⟨#[97, 98, 99]⟩ : ByteArray), (⟨#[48, 13, 10, 13, 10]⟩ : ByteArray), (⟨#[51, 13, 10, 97, 98, 99, 13, 10]⟩ : ByteArray), (⟨#[120]⟩ : ByteArray), (⟨#[]⟩ : ByteArray)] : List ByteArray))).bind fun t451 => (if (((rdOf ByteArray.empty y440 (Int.tmod (wrap64 (a0)) (y440.length : Int))) ++ t447) ++ (⟨#[13, 10]⟩ : ByteArray)).size + t451.size ≤ 9223372036854775807 then ((request_Parse.f ((((rdOf ByteArray.empty y440 (Int.tmod (wrap64 (a0)) (y440.length : Int))) ++ t447) ++ (⟨#[13, 10]⟩ : ByteArray)) ++ t451)).bind fun bt452 => ((broadsheetref20_Parse.f k ((((rdOf ByteArray.empty y440 (Int.tmod (wrap64 (a0)) (y440.length : Int))) ++ t447) ++ (⟨#[13, 10]⟩ : ByteArray)) ++ t451)).bind fun bt460 => ((broadsheetlaw20_awake.f).bind fun t468 => (if t468 = true then ((broadsheetref20_Same.f k bt452.1 bt452.2.1 bt452.2.2.1 bt452.2.2.2.1 bt460.1 bt460.2.1 bt460.2.2.1 bt460.2.2.2.1).bind fun t469 => (if t469 = true then (some (bt452.2.2.2.2 == bt460.2.2.2.2)) else (some false))) else (some false))))) else (none))) else (none)) else (none))) else (none)) else (none)))) = some r := h
 clear h
 obtain ⟨y440, hy440⟩ : ∃ y_ : List ByteArray, y_ = (([(⟨#[71, 69, 84, 32, 47, 32, 72, 84, 84, 80, 47, 49, 46, 49, 13, 10]⟩ : ByteArray), (⟨#[80, 85, 84, 32, 47, 99, 47, 49, 45, 97, 63, 98, 32, 72, 84, 84, 80, 47, 49, 46, 49, 13, 10]⟩ : ByteArray), (⟨#[71, 69, 84, 32, 47, 32, 72, 84, 84, 80, 47, 49, 46, 48, 13, 10]⟩ : ByteArray), (⟨#[71, 69, 84, 32, 120, 32, 72, 84, 84, 80, 47, 49, 46, 49, 13, 10]⟩ : ByteArray), (⟨#[71, 32, 84, 32, 47, 32, 72, 84, 84, 80, 47, 49, 46, 49, 13, 10]⟩ : ByteArray), (⟨#[71, 69, 84, 32, 47, 32, 72, 84, 84, 80, 47, 49, 46, 49, 10]⟩ : ByteArray)] : List ByteArray)) := ⟨_, rfl⟩
 replace H : (if (y440.length : Int) = 0 then (none) else (if 0 ≤ (Int.tmod (wrap64 (a0)) (y440.length : Int)) then (if (Int.tmod (wrap64 (a0)) (y440.length : Int)) < (y440.length : Int) then ((broadsheetlaw05_Pieces.f k l1 (([(⟨#[72, 111, 115, 116, 58, 32, 97, 13, 10]⟩ : ByteArray), (⟨#[72, 111, 115, 116, 58, 32, 97, 13, 10]⟩ : ByteArray), (⟨#[67, 111, 110, 116, 101, 110, 116, 45, 76, 101, 110, 103, 116, 104, 58, 32, 51, 13, 10]⟩ : ByteArray), (⟨#[67, 111, 110, 116, 101, 110, 116, 45, 76, 101, 110, 103, 116, 104, 58, 32, 48, 13, 10]⟩ : ByteArray), (⟨#[84, 114, 97, 110, 115, 102, 101, 114, 45, 69, 110, 99, 111, 100, 105, 110, 103, 58, 32, 99, 104, 117, 110, 107, 101, 100, 13, 10]⟩ : ByteArray), (⟨#[83, 108, 117, 103, 58, 32, 120, 13, 10]⟩ : ByteArray), (⟨#[98, 97, 100, 13, 10]⟩ : ByteArray), (⟨#[67, 111, 110, 116, 101, 110, 116, 45, 76, 101, 110, 103, 116, 104, 58, 32, 120, 13, 10]⟩ : ByteArray)] : List ByteArray))).bind fun t447 => (if (rdOf ByteArray.empty y440 (Int.tmod (wrap64 (a0)) (y440.length : Int))).size + t447.size ≤ 9223372036854775807 then (if ((rdOf ByteArray.empty y440 (Int.tmod (wrap64 (a0)) (y440.length : Int))) ++ t447).size + 2 ≤ 9223372036854775807 then ((broadsheetlaw05_Pieces.f k l2 (([(⟨#[97, 98, 99]⟩ : ByteArray), (⟨#[48, 13, 10, 13, 10]⟩ : ByteArray), (⟨#[51, 13, 10, 97, 98, 99, 13, 10]⟩ : ByteArray), (⟨#[120]⟩ : ByteArray), (⟨#[]⟩ : ByteArray)] : List ByteArray))).bind fun t451 => (if (((rdOf ByteArray.empty y440 (Int.tmod (wrap64 (a0)) (y440.length : Int))) ++ t447) ++ (⟨#[13, 10]⟩ : ByteArray)).size + t451.size ≤ 9223372036854775807 then ((request_Parse.f ((((rdOf ByteArray.empty y440 (Int.tmod (wrap64 (a0)) (y440.length : Int))) ++ t447) ++ (⟨#[13, 10]⟩ : ByteArray)) ++ t451)).bind fun bt452 => ((broadsheetref20_Parse.f k ((((rdOf ByteArray.empty y440 (Int.tmod (wrap64 (a0)) (y440.length : Int))) ++ t447) ++ (⟨#[13, 10]⟩ : ByteArray)) ++ t451)).bind fun bt460 => ((broadsheetlaw20_awake.f).bind fun t468 => (if t468 = true then ((broadsheetref20_Same.f k bt452.1 bt452.2.1 bt452.2.2.1 bt452.2.2.2.1 bt460.1 bt460.2.1 bt460.2.2.1 bt460.2.2.2.1).bind fun t469 => (if t469 = true then (some (bt452.2.2.2.2 == bt460.2.2.2.2)) else (some false))) else (some false))))) else (none))) else (none)) else (none))) else (none)) else (none))) = some r := by first | (rw [hy440]; with_reducible exact H) | (have H2_ := (Option.bind_some _ _).symm.trans H; rw [hy440]; with_reducible exact H2_) | (have H2_ := (Option.bind_some _ _).symm.trans H; with_reducible exact H2_) | with_reducible exact H | (rw [hy440]; exact H) | exact H
 have Ny440 := Aside0.mk hy440
 clear hy440
 by_cases c4 : (y440.length : Int) = 0
 ·rw [if_pos c4] at H
  exact absurd H zb26
 ·rw [if_neg c4] at H
  have c4b0 : ((y440.length : Int) == 0) = false := beq_eq_false_iff_ne.mpr c4
  have c4b1 : ((y440.length : Int) != 0) = true := bne_iff_ne.mpr c4
  have c4b2 : ¬ (y440 = []) := fun h_ => c4 (by rw [h_]; rfl)
  obtain ⟨ji5, hji5⟩ : ∃ j_ : Int, (Int.tmod (wrap64 (a0)) (y440.length : Int)) = j_ := ⟨_, rfl⟩
  replace H : (if 0 ≤ (ji5) then (if (ji5) < (y440.length : Int) then ((broadsheetlaw05_Pieces.f k l1 (([(⟨#[72, 111, 115, 116, 58, 32, 97, 13, 10]⟩ : ByteArray), (⟨#[72, 111, 115, 116, 58, 32, 97, 13, 10]⟩ : ByteArray), (⟨#[67, 111, 110, 116, 101, 110, 116, 45, 76, 101, 110, 103, 116, 104, 58, 32, 51, 13, 10]⟩ : ByteArray), (⟨#[67, 111, 110, 116, 101, 110, 116, 45, 76, 101, 110, 103, 116, 104, 58, 32, 48, 13, 10]⟩ : ByteArray), (⟨#[84, 114, 97, 110, 115, 102, 101, 114, 45, 69, 110, 99, 111, 100, 105, 110, 103, 58, 32, 99, 104, 117, 110, 107, 101, 100, 13, 10]⟩ : ByteArray), (⟨#[83, 108, 117, 103, 58, 32, 120, 13, 10]⟩ : ByteArray), (⟨#[98, 97, 100, 13, 10]⟩ : ByteArray), (⟨#[67, 111, 110, 116, 101, 110, 116, 45, 76, 101, 110, 103, 116, 104, 58, 32, 120, 13, 10]⟩ : ByteArray)] : List ByteArray))).bind fun t447 => (if (rdOf ByteArray.empty y440 (ji5)).size + t447.size ≤ 9223372036854775807 then (if ((rdOf ByteArray.empty y440 (ji5)) ++ t447).size + 2 ≤ 9223372036854775807 then ((broadsheetlaw05_Pieces.f k l2 (([(⟨#[97, 98, 99]⟩ : ByteArray), (⟨#[48, 13, 10, 13, 10]⟩ : ByteArray), (⟨#[51, 13, 10, 97, 98, 99, 13, 10]⟩ : ByteArray), (⟨#[120]⟩ : ByteArray), (⟨#[]⟩ : ByteArray)] : List ByteArray))).bind fun t451 => (if (((rdOf ByteArray.empty y440 (ji5)) ++ t447) ++ (⟨#[13, 10]⟩ : ByteArray)).size + t451.size ≤ 9223372036854775807 then ((request_Parse.f ((((rdOf ByteArray.empty y440 (ji5)) ++ t447) ++ (⟨#[13, 10]⟩ : ByteArray)) ++ t451)).bind fun bt452 => ((broadsheetref20_Parse.f k ((((rdOf ByteArray.empty y440 (ji5)) ++ t447) ++ (⟨#[13, 10]⟩ : ByteArray)) ++ t451)).bind fun bt460 => ((broadsheetlaw20_awake.f).bind fun t468 => (if t468 = true then ((broadsheetref20_Same.f k bt452.1 bt452.2.1 bt452.2.2.1 bt452.2.2.2.1 bt460.1 bt460.2.1 bt460.2.2.1 bt460.2.2.2.1).bind fun t469 => (if t469 = true then (some (bt452.2.2.2.2 == bt460.2.2.2.2)) else (some false))) else (some false))))) else (none))) else (none)) else (none))) else (none)) else (none)) = some r := by first | (rw [hji5] at H; exact H) | (simp only [hji5] at H ⊢; exact H)
  by_cases c6 : 0 ≤ (ji5)
  ·rw [if_pos c6] at H
   have c6b0 : decide (0 ≤ (ji5)) = true := decide_eq_true c6
   clear c6
   by_cases c7 : (ji5) < (y440.length : Int)
   ·rw [if_pos c7] at H
    have c7b0 : decide ((ji5) < (y440.length : Int)) = true := decide_eq_true c7
    clear c7
    obtain ⟨y444, hy444⟩ : ∃ y_ : List ByteArray, y_ = (([(⟨#[72, 111, 115, 116, 58, 32, 97, 13, 10]⟩ : ByteArray), (⟨#[72, 111, 115, 116, 58, 32, 97, 13, 10]⟩ : ByteArray), (⟨#[67, 111, 110, 116, 101, 110, 116, 45, 76, 101, 110, 103, 116, 104, 58, 32, 51, 13, 10]⟩ : ByteArray), (⟨#[67, 111, 110, 116, 101, 110, 116, 45, 76, 101, 110, 103, 116, 104, 58, 32, 48, 13, 10]⟩ : ByteArray), (⟨#[84, 114, 97, 110, 115, 102, 101, 114, 45, 69, 110, 99, 111, 100, 105, 110, 103, 58, 32, 99, 104, 117, 110, 107, 101, 100, 13, 10]⟩ : ByteArray), (⟨#[83, 108, 117, 103, 58, 32, 120, 13, 10]⟩ : ByteArray), (⟨#[98, 97, 100, 13, 10]⟩ : ByteArray), (⟨#[67, 111, 110, 116, 101, 110, 116, 45, 76, 101, 110, 103, 116, 104, 58, 32, 120, 13, 10]⟩ : ByteArray)] : List ByteArray)) := ⟨_, rfl⟩
    replace H : ((broadsheetlaw05_Pieces.f k l1 y444).bind fun t447 => (if (rdOf ByteArray.empty y440 (ji5)).size + t447.size ≤ 9223372036854775807 then (if ((rdOf ByteArray.empty y440 (ji5)) ++ t447).size + 2 ≤ 9223372036854775807 then ((broadsheetlaw05_Pieces.f k l2 (([(⟨#[97, 98, 99]⟩ : ByteArray), (⟨#[48, 13, 10, 13, 10]⟩ : ByteArray), (⟨#[51, 13, 10, 97, 98, 99, 13, 10]⟩ : ByteArray), (⟨#[120]⟩ : ByteArray), (⟨#[]⟩ : ByteArray)] : List ByteArray))).bind fun t451 => (if (((rdOf ByteArray.empty y440 (ji5)) ++ t447) ++ (⟨#[13, 10]⟩ : ByteArray)).size + t451.size ≤ 9223372036854775807 then ((request_Parse.f ((((rdOf ByteArray.empty y440 (ji5)) ++ t447) ++ (⟨#[13, 10]⟩ : ByteArray)) ++ t451)).bind fun bt452 => ((broadsheetref20_Parse.f k ((((rdOf ByteArray.empty y440 (ji5)) ++ t447) ++ (⟨#[13, 10]⟩ : ByteArray)) ++ t451)).bind fun bt460 => ((broadsheetlaw20_awake.f).bind fun t468 => (if t468 = true then ((broadsheetref20_Same.f k bt452.1 bt452.2.1 bt452.2.2.1 bt452.2.2.2.1 bt460.1 bt460.2.1 bt460.2.2.1 bt460.2.2.2.1).bind fun t469 => (if t469 = true then (some (bt452.2.2.2.2 == bt460.2.2.2.2)) else (some false))) else (some false))))) else (none))) else (none)) else (none))) = some r := by first | (rw [hy444]; with_reducible exact H) | (have H2_ := (Option.bind_some _ _).symm.trans H; rw [hy444]; with_reducible exact H2_) | (have H2_ := (Option.bind_some _ _).symm.trans H; with_reducible exact H2_) | with_reducible exact H | (rw [hy444]; exact H) | exact H
    have Ny444 := Aside0.mk hy444
    clear hy444
    replace H := Option.bind_eq_some_iff.mp H
    obtain ⟨t447, A80, H⟩ := H
    replace H : (if (rdOf ByteArray.empty y440 (ji5)).size + t447.size ≤ 9223372036854775807 then (if ((rdOf ByteArray.empty y440 (ji5)) ++ t447).size + 2 ≤ 9223372036854775807 then ((broadsheetlaw05_Pieces.f k l2 (([(⟨#[97, 98, 99]⟩ : ByteArray), (⟨#[48, 13, 10, 13, 10]⟩ : ByteArray), (⟨#[51, 13, 10, 97, 98, 99, 13, 10]⟩ : ByteArray), (⟨#[120]⟩ : ByteArray), (⟨#[]⟩ : ByteArray)] : List ByteArray))).bind fun t451 => (if (((rdOf ByteArray.empty y440 (ji5)) ++ t447) ++ (⟨#[13, 10]⟩ : ByteArray)).size + t451.size ≤ 9223372036854775807 then ((request_Parse.f ((((rdOf ByteArray.empty y440 (ji5)) ++ t447) ++ (⟨#[13, 10]⟩ : ByteArray)) ++ t451)).bind fun bt452 => ((broadsheetref20_Parse.f k ((((rdOf ByteArray.empty y440 (ji5)) ++ t447) ++ (⟨#[13, 10]⟩ : ByteArray)) ++ t451)).bind fun bt460 => ((broadsheetlaw20_awake.f).bind fun t468 => (if t468 = true then ((broadsheetref20_Same.f k bt452.1 bt452.2.1 bt452.2.2.1 bt452.2.2.2.1 bt460.1 bt460.2.1 bt460.2.2.1 bt460.2.2.2.1).bind fun t469 => (if t469 = true then (some (bt452.2.2.2.2 == bt460.2.2.2.2)) else (some false))) else (some false))))) else (none))) else (none)) else (none)) = some r := H
    have A8 := Aside0.mk A80
    clear A80
    by_cases c9 : (rdOf ByteArray.empty y440 (ji5)).size + t447.size ≤ 9223372036854775807
    ·rw [if_pos c9] at H
     have c9b0 := eq_true c9
     have c9b1 : decide ((rdOf ByteArray.empty y440 (ji5)).size + t447.size ≤ 9223372036854775807) = true := decide_eq_true c9
     try have c9b2 : (9223372036854775807 < (rdOf ByteArray.empty y440 (ji5)).size + t447.size) = False := eq_false (Nat.not_lt.2 c9)
     by_cases c10 : ((rdOf ByteArray.empty y440 (ji5)) ++ t447).size + 2 ≤ 9223372036854775807
     ·rw [if_pos c10] at H
      have c10b0 := eq_true c10
      have c10b1 : decide (((rdOf ByteArray.empty y440 (ji5)) ++ t447).size + 2 ≤ 9223372036854775807) = true := decide_eq_true c10
      try have c10b2 : (9223372036854775807 < ((rdOf ByteArray.empty y440 (ji5)) ++ t447).size + 2) = False := eq_false (Nat.not_lt.2 c10)
      obtain ⟨nc10, hc10⟩ : ∃ n_ : Nat, n_ = ((rdOf ByteArray.empty y440 (ji5)) ++ t447).size + 2 := ⟨_, rfl⟩
      have c10m0 : nc10 ≤ 9223372036854775807 := by rw [hc10]; exact c10
      (first | simp [go_sem, c9b0] at hc10 | simp [go_sem] at hc10 | skip)
      rw [hc10] at c10m0
      have c10m1 := eq_false (Nat.not_lt.2 c10m0)
      have c10m2 := decide_eq_true c10m0
      clear hc10 c10m0
      obtain ⟨y448, hy448⟩ : ∃ y_ : List ByteArray, y_ = (([(⟨#[97, 98, 99]⟩ : ByteArray), (⟨#[48, 13, 10, 13, 10]⟩ : ByteArray), (⟨#[51, 13, 10, 97, 98, 99, 13, 10]⟩ : ByteArray), (⟨#[120]⟩ : ByteArray), (⟨#[]⟩ : ByteArray)] : List ByteArray)) := ⟨_, rfl⟩
      replace H : ((broadsheetlaw05_Pieces.f k l2 y448).bind fun t451 => (if (((rdOf ByteArray.empty y440 (ji5)) ++ t447) ++ (⟨#[13, 10]⟩ : ByteArray)).size + t451.size ≤ 9223372036854775807 then ((request_Parse.f ((((rdOf ByteArray.empty y440 (ji5)) ++ t447) ++ (⟨#[13, 10]⟩ : ByteArray)) ++ t451)).bind fun bt452 => ((broadsheetref20_Parse.f k ((((rdOf ByteArray.empty y440 (ji5)) ++ t447) ++ (⟨#[13, 10]⟩ : ByteArray)) ++ t451)).bind fun bt460 => ((broadsheetlaw20_awake.f).bind fun t468 => (if t468 = true then ((broadsheetref20_Same.f k bt452.1 bt452.2.1 bt452.2.2.1 bt452.2.2.2.1 bt460.1 bt460.2.1 bt460.2.2.1 bt460.2.2.2.1).bind fun t469 => (if t469 = true then (some (bt452.2.2.2.2 == bt460.2.2.2.2)) else (some false))) else (some false))))) else (none))) = some r := by first | (rw [hy448]; with_reducible exact H) | (have H2_ := (Option.bind_some _ _).symm.trans H; rw [hy448]; with_reducible exact H2_) | (have H2_ := (Option.bind_some _ _).symm.trans H; with_reducible exact H2_) | with_reducible exact H | (rw [hy448]; exact H) | exact H
      have Ny448 := Aside0.mk hy448
      clear hy448
      replace H := Option.bind_eq_some_iff.mp H
      obtain ⟨t451, A110, H⟩ := H
      replace H : (if (((rdOf ByteArray.empty y440 (ji5)) ++ t447) ++ (⟨#[13, 10]⟩ : ByteArray)).size + t451.size ≤ 9223372036854775807 then ((request_Parse.f ((((rdOf ByteArray.empty y440 (ji5)) ++ t447) ++ (⟨#[13, 10]⟩ : ByteArray)) ++ t451)).bind fun bt452 => ((broadsheetref20_Parse.f k ((((rdOf ByteArray.empty y440 (ji5)) ++ t447) ++ (⟨#[13, 10]⟩ : ByteArray)) ++ t451)).bind fun bt460 => ((broadsheetlaw20_awake.f).bind fun t468 => (if t468 = true then ((broadsheetref20_Same.f k bt452.1 bt452.2.1 bt452.2.2.1 bt452.2.2.2.1 bt460.1 bt460.2.1 bt460.2.2.1 bt460.2.2.2.1).bind fun t469 => (if t469 = true then (some (bt452.2.2.2.2 == bt460.2.2.2.2)) else (some false))) else (some false))))) else (none)) = some r := H
      have A11 := Aside0.mk A110
      clear A110
      by_cases c12 : (((rdOf ByteArray.empty y440 (ji5)) ++ t447) ++ (⟨#[13, 10]⟩ : ByteArray)).size + t451.size ≤ 9223372036854775807
      ·rw [if_pos c12] at H
       have c12b0 := eq_true c12
       have c12b1 : decide ((((rdOf ByteArray.empty y440 (ji5)) ++ t447) ++ (⟨#[13, 10]⟩ : ByteArray)).size + t451.size ≤ 9223372036854775807) = true := decide_eq_true c12
       try have c12b2 : (9223372036854775807 < (((rdOf ByteArray.empty y440 (ji5)) ++ t447) ++ (⟨#[13, 10]⟩ : ByteArray)).size + t451.size) = False := eq_false (Nat.not_lt.2 c12)
       obtain ⟨nc12, hc12⟩ : ∃ n_ : Nat, n_ = (((rdOf ByteArray.empty y440 (ji5)) ++ t447) ++ (⟨#[13, 10]⟩ : ByteArray)).size + t451.size := ⟨_, rfl⟩
       have c12m0 : nc12 ≤ 9223372036854775807 := by rw [hc12]; exact c12
       (first | simp [go_sem, c9b0, c10b0] at hc12 | simp [go_sem] at hc12 | skip)
       rw [hc12] at c12m0
       have c12m1 := eq_false (Nat.not_lt.2 c12m0)
       have c12m2 := decide_eq_true c12m0
       clear hc12 c12m0
       replace H := Option.bind_eq_some_iff.mp H
       obtain ⟨⟨t452, t453, t454, t457, t458⟩, A130, H⟩ := H
       replace H : ((broadsheetref20_Parse.f k ((((rdOf ByteArray.empty y440 (ji5)) ++ t447) ++ (⟨#[13, 10]⟩ : ByteArray)) ++ t451)).bind fun bt460 => ((broadsheetlaw20_awake.f).bind fun t468 => (if t468 = true then ((broadsheetref20_Same.f k t452 t453 t454 t457 bt460.1 bt460.2.1 bt460.2.2.1 bt460.2.2.2.1).bind fun t469 => (if t469 = true then (some (t458 == bt460.2.2.2.2)) else (some false))) else (some false)))) = some r := H
       have A13 := Aside0.mk A130
       clear A130
       replace H := Option.bind_eq_some_iff.mp H
       obtain ⟨⟨t460, t461, t462, t465, t466⟩, A140, H⟩ := H
       replace H : ((broadsheetlaw20_awake.f).bind fun t468 => (if t468 = true then ((broadsheetref20_Same.f k t452 t453 t454 t457 t460 t461 t462 t465).bind fun t469 => (if t469 = true then (some (t458 == t466)) else (some false))) else (some false))) = some r := H
       have A14 := Aside0.mk A140
       clear A140
       replace H := Option.bind_eq_some_iff.mp H
       obtain ⟨t468, A150, H⟩ := H
       replace H : (if t468 = true then ((broadsheetref20_Same.f k t452 t453 t454 t457 t460 t461 t462 t465).bind fun t469 => (if t469 = true then (some (t458 == t466)) else (some false))) else (some false)) = some r := H
       have A15 := Aside0.mk A150
       clear A150
       by_cases c16 : t468 = true
       ·subst c16
        replace H : ((broadsheetref20_Same.f k t452 t453 t454 t457 t460 t461 t462 t465).bind fun t469 => (if t469 = true then (some (t458 == t466)) else (some false))) = some r := by rw [if_pos rfl] at H; exact H
        replace H := Option.bind_eq_some_iff.mp H
        obtain ⟨t469, A170, H⟩ := H
        replace H : (if t469 = true then (some (t458 == t466)) else (some false)) = some r := H
        have A17 := Aside0.mk A170
        clear A170
        by_cases c18 : t469 = true
        ·subst c18
         replace H : (some (t458 == t466)) = some r := by rw [if_pos rfl] at H; exact H
         obtain rfl := Option.some.inj H
         go_enter Tryz.func9, Tryz.ntmps9
         try go_wp2_with (first | ((with_reducible refine gate_dst (N := 13) rfl ?_); refine Kd.R_lit Kd.string _ 9 ?hg (N := 13) ?hd (xs := ([(⟨#[71, 69, 84, 32, 47, 32, 72, 84, 84, 80, 47, 49, 46, 49, 13, 10]⟩ : ByteArray), (⟨#[80, 85, 84, 32, 47, 99, 47, 49, 45, 97, 63, 98, 32, 72, 84, 84, 80, 47, 49, 46, 49, 13, 10]⟩ : ByteArray), (⟨#[71, 69, 84, 32, 47, 32, 72, 84, 84, 80, 47, 49, 46, 48, 13, 10]⟩ : ByteArray), (⟨#[71, 69, 84, 32, 120, 32, 72, 84, 84, 80, 47, 49, 46, 49, 13, 10]⟩ : ByteArray), (⟨#[71, 32, 84, 32, 47, 32, 72, 84, 84, 80, 47, 49, 46, 49, 13, 10]⟩ : ByteArray), (⟨#[71, 69, 84, 32, 47, 32, 72, 84, 84, 80, 47, 49, 46, 49, 10]⟩ : ByteArray)] : List ByteArray)) (inner := [.string (⟨#[71, 69, 84, 32, 47, 32, 72, 84, 84, 80, 47, 49, 46, 49, 13, 10]⟩ : ByteArray), .string (⟨#[80, 85, 84, 32, 47, 99, 47, 49, 45, 97, 63, 98, 32, 72, 84, 84, 80, 47, 49, 46, 49, 13, 10]⟩ : ByteArray), .string (⟨#[71, 69, 84, 32, 47, 32, 72, 84, 84, 80, 47, 49, 46, 48, 13, 10]⟩ : ByteArray), .string (⟨#[71, 69, 84, 32, 120, 32, 72, 84, 84, 80, 47, 49, 46, 49, 13, 10]⟩ : ByteArray), .string (⟨#[71, 32, 84, 32, 47, 32, 72, 84, 84, 80, 47, 49, 46, 49, 13, 10]⟩ : ByteArray), .string (⟨#[71, 69, 84, 32, 47, 32, 72, 84, 84, 80, 47, 49, 46, 49, 10]⟩ : ByteArray)]) (ok := fun _ => True) (okp := fun _ => True) ?hr ?hp (fun _ hk => hk) trivial (Below.refl _ _) (Nat.le_refl _) zb26 ?_; (case hd => rfl); (case hg => rfl); (case hr => first | (go_simp; done) | (go_simp; rfl)); (case hp => exact (Reps.one (show Kd.M Kd.string _ _ _ (⟨#[71, 69, 84, 32, 47, 32, 72, 84, 84, 80, 47, 49, 46, 49, 13, 10]⟩ : ByteArray) [.string (⟨#[71, 69, 84, 32, 47, 32, 72, 84, 84, 80, 47, 49, 46, 49, 13, 10]⟩ : ByteArray)] from rfl) (Reps.one (show Kd.M Kd.string _ _ _ (⟨#[80, 85, 84, 32, 47, 99, 47, 49, 45, 97, 63, 98, 32, 72, 84, 84, 80, 47, 49, 46, 49, 13, 10]⟩ : ByteArray) [.string (⟨#[80, 85, 84, 32, 47, 99, 47, 49, 45, 97, 63, 98, 32, 72, 84, 84, 80, 47, 49, 46, 49, 13, 10]⟩ : ByteArray)] from rfl) (Reps.one (show Kd.M Kd.string _ _ _ (⟨#[71, 69, 84, 32, 47, 32, 72, 84, 84, 80, 47, 49, 46, 48, 13, 10]⟩ : ByteArray) [.string (⟨#[71, 69, 84, 32, 47, 32, 72, 84, 84, 80, 47, 49, 46, 48, 13, 10]⟩ : ByteArray)] from rfl) (Reps.one (show Kd.M Kd.string _ _ _ (⟨#[71, 69, 84, 32, 120, 32, 72, 84, 84, 80, 47, 49, 46, 49, 13, 10]⟩ : ByteArray) [.string (⟨#[71, 69, 84, 32, 120, 32, 72, 84, 84, 80, 47, 49, 46, 49, 13, 10]⟩ : ByteArray)] from rfl) (Reps.one (show Kd.M Kd.string _ _ _ (⟨#[71, 32, 84, 32, 47, 32, 72, 84, 84, 80, 47, 49, 46, 49, 13, 10]⟩ : ByteArray) [.string (⟨#[71, 32, 84, 32, 47, 32, 72, 84, 84, 80, 47, 49, 46, 49, 13, 10]⟩ : ByteArray)] from rfl) (Reps.one (show Kd.M Kd.string _ _ _ (⟨#[71, 69, 84, 32, 47, 32, 72, 84, 84, 80, 47, 49, 46, 49, 10]⟩ : ByteArray) [.string (⟨#[71, 69, 84, 32, 47, 32, 72, 84, 84, 80, 47, 49, 46, 49, 10]⟩ : ByteArray)] from rfl) (Reps.none _ _)))))))); intro v441 w19 ho20 hb hg_ hnew_; clear hg_ hnew_; (first | rw [← Ny440.out] at ho20 | (simp only [Int.reduceToNat] at ho20; rw [← Ny440.out] at ho20)); have n0_ := Aside0.mk (Kd.R_lower ho20 (below_size zb0)); have n1_ := Aside0.mk (below_step zb0 hb); clear HB; have HO442 := n0_; have HB := n1_; clear n0_ n1_; clear hb ho20))
         have n0_ := Aside0.mk (Kd.R_drew HO442.out)
         have n1_ := Aside0.mk (below_drew1 HB.out)
         clear HO442
         clear HB
         have HO442 := n0_
         have HB := n1_
         clear n0_ n1_
         obtain ⟨Ao22, co22, eo22⟩ := Kd.R_slice HO442.out
         (first | subst eo22 | (injection eo22 with f1_ f2_ f3_; have f4_ := f1_.symm; have f5_ := f3_.symm; clear f1_ f2_ f3_; subst f4_; subst f5_))
         have p443 : 0 ≤ ((ji5) : Int) := of_decide_eq_true zb2
         have q443 : (ji5) < (y440.length : Int) := of_decide_eq_true zb2
         obtain ⟨ad443, e443, hx443_0⟩ := Kd.at_string (Kd.R_reads' HO442.out).2.2 (ji5) p443 q443
         cases e443
         replace p443 := eq_true p443
         replace q443 := eq_true q443
         refine start_ (n := 18) (S := fun w' => w'.cell? (ad443.add ((ji5)).toNat) = some (.string (rdOf ByteArray.empty y440 (ji5)))) (ds := []) #[false, false, false, false, false, false, false, false, false, false, false, false, false, false, false, false, false, false] zb12 rfl rfl (hx443_0) (fun hHeld => ?_); refine with_tabW broadsheetlaw20_RequestSmall.tab2 broadsheetlaw20_RequestSmall.bits2 (fun HT_ HW_ => ?_)
         generalize w19.drew = w21 at HO442 HB hx443_0 hHeld ⊢
         refine pure_ (i := 0) (N := some 14) (v := ?_) (a' := ?_) #[true, false, false, false, false, false, false, false, false, false, false, false, false, false, false, false, false, false] rfl rfl (any_of HT_.out zb12) (fun _ _ _ h => h) (Or.inl ⟨by rfl, ?_⟩) ?_ ?_
         rotate_left
         ·intro w'
          go_simp
          first | with_reducible rfl | (rw [if_neg zb8])
         rotate_left
         ·simp only [Act.put, List.setIfInBounds_toArray, List.set_cons_zero, List.set_cons_succ, i64_w, i32_w]
          rfl
         refine pure_ (i := 1) (N := some 15) (v := ?_) (a' := ?_) #[true, true, false, false, false, false, false, false, false, false, false, false, false, false, false, false, false, false] rfl rfl (any_of HT_.out zb12) (fun _ _ _ h => h) (Or.inl ⟨by rfl, ?_⟩) ?_ ?_
         rotate_left
         ·intro w'
          go_simp
          first | with_reducible rfl | (rw [if_neg zb8])
         rotate_left
         ·simp only [Act.put, List.setIfInBounds_toArray, List.set_cons_zero, List.set_cons_succ, i64_w, i32_w]
          rfl
         refine pure_ (i := 2) (N := some 16) (v := ?_) (a' := ?_) #[true, true, true, false, false, false, false, false, false, false, false, false, false, false, false, false, false, false] rfl rfl (any_of HT_.out zb12) (fun _ _ _ h => h) (Or.inl ⟨by rfl, ?_⟩) ?_ ?_
         rotate_left
         ·intro w'
          go_simp
          first | with_reducible rfl | (rw [if_neg zb8])
         rotate_left
         ·simp only [Act.put, List.setIfInBounds_toArray, List.set_cons_zero, List.set_cons_succ, i64_w, i32_w]
          rfl
         refine pure_ (i := 3) (N := some 17) (v := ?_) (a' := ?_) #[true, true, true, true, false, false, false, false, false, false, false, false, false, false, false, false, false, false] rfl rfl (any_of HT_.out zb12) (fun _ _ _ h => h) (Or.inl ⟨by rfl, ?_⟩) ?_ ?_
         rotate_left
         ·intro w'
          go_simp
          first | with_reducible rfl | (rw [if_neg zb8])
         rotate_left
         ·simp only [Act.put, List.setIfInBounds_toArray, List.set_cons_zero, List.set_cons_succ, i64_w, i32_w]
          rfl
         refine pure_ (i := 4) (N := some 18) (v := ?_) (a' := ?_) #[true, true, true, true, true, false, false, false, false, false, false, false, false, false, false, false, false, false] rfl rfl (any_of HT_.out zb12) (fun _ _ _ h => h) (Or.inl ⟨by rfl, ?_⟩) ?_ ?_
         rotate_left
         ·intro w'
          go_simp
          first | with_reducible rfl | (rw [if_neg zb8])
         rotate_left
         ·simp only [Act.put, List.setIfInBounds_toArray, List.set_cons_zero, List.set_cons_succ, i64_w, i32_w]
          rfl
         refine pure_ (i := 5) (N := some 19) (v := ?_) (a' := ?_) #[true, true, true, true, true, true, false, false, false, false, false, false, false, false, false, false, false, false] rfl rfl (any_of HT_.out zb12) (fun _ _ _ h => h) (Or.inl ⟨by rfl, ?_⟩) ?_ ?_
         rotate_left
         ·intro w'
          go_simp
          first | with_reducible rfl | (rw [if_neg zb8])
         rotate_left
         ·simp only [Act.put, List.setIfInBounds_toArray, List.set_cons_zero, List.set_cons_succ, i64_w, i32_w]
          rfl
         refine pure_ (i := 6) (N := some 20) (v := ?_) (a' := ?_) #[true, true, true, true, true, true, true, false, false, false, false, false, false, false, false, false, false, false] rfl rfl (any_of HT_.out zb12) (fun _ _ _ h => h) (Or.inl ⟨by rfl, ?_⟩) ?_ ?_
         rotate_left
         ·intro w'
          go_simp
          first | with_reducible rfl | (rw [if_neg zb8])
         rotate_left
         ·simp only [Act.put, List.setIfInBounds_toArray, List.set_cons_zero, List.set_cons_succ, i64_w, i32_w]
          rfl
         refine pure_ (i := 8) (N := some 22) (v := ?_) (a' := ?_) #[true, true, true, true, true, true, true, false, true, false, false, false, false, false, false, false, false, false] rfl rfl (any_of HT_.out zb12) (fun _ _ _ h => h) (Or.inl ⟨by rfl, ?_⟩) ?_ ?_
         rotate_left
         ·intro w'
          go_simp
          first | with_reducible rfl | (rw [if_neg zb8])
         rotate_left
         ·simp only [Act.put, List.setIfInBounds_toArray, List.set_cons_zero, List.set_cons_succ, i64_w, i32_w]
          rfl
         refine pure_ (i := 13) (N := some 27) (v := ?_) (a' := ?_) #[true, true, true, true, true, true, true, false, true, false, false, false, false, true, false, false, false, false] rfl rfl (any_of HT_.out zb12) (fun _ _ _ h => h) (Or.inl ⟨by rfl, ?_⟩) ?_ ?_
         rotate_left
         ·intro w'
          go_simp
          first | with_reducible rfl | (rw [if_neg zb8])
         rotate_left
         ·simp only [Act.put, List.setIfInBounds_toArray, List.set_cons_zero, List.set_cons_succ, i64_w, i32_w]
          rfl
         refine take_ (i := 7) (N := some 21) (v := ?_) (a' := ?_) #[true, true, true, true, true, true, true, true, true, false, false, false, false, true, false, false, false, false] rfl rfl (take_ofW HT_.out HW_.out zb12) (fun _ _ _ h => h) (Or.inl ⟨by rfl, ?_⟩) hHeld ?_ ?_
         rotate_left
         ·intro w' s0
          go_simp
          first | with_reducible rfl | (rw [if_neg zb8])
         rotate_left
         ·simp only [Act.put, List.setIfInBounds_toArray, List.set_cons_zero, List.set_cons_succ, i64_w, i32_w]
          rfl
         refine join_ (σ := Value × Value) 3 #[true, true, true, true, true, true, true, true, true, true, true, true, true, true, true, false, false, false] (fun s_ => [(23, s_.1), (24, .string t447), (28, s_.2), (25, .string ((rdOf ByteArray.empty y440 (ji5)) ++ t447)), (26, .string (((rdOf ByteArray.empty y440 (ji5)) ++ t447) ++ (⟨#[13, 10]⟩ : ByteArray)))]) (fun s_ w' => (w'.cell? (ad443.add ((ji5)).toNat) = some (.string (rdOf ByteArray.empty y440 (ji5)))) ∧ (Kd.R Kd.string 9 w' w.heap.size (fun k_ => some k_ ≠ (s_.1 : Value).ownBlock ∧ some k_ ≠ (s_.2 : Value).ownBlock) (.slice (some ad443) y440.length co22) y440) ∧ (Kd.R Kd.string 9 w' w.heap.size (fun k_ => some k_ ≠ (.slice (some ad443) y440.length co22 : Value).ownBlock ∧ some k_ ≠ (s_.2 : Value).ownBlock) s_.1 y444) ∧ (Kd.R Kd.string 9 w' w.heap.size (fun k_ => some k_ ≠ (.slice (some ad443) y440.length co22 : Value).ownBlock ∧ some k_ ≠ (s_.1 : Value).ownBlock) s_.2 y448) ∧ (Below w.heap.size w w')) ?_ ?_
         rotate_left
         ·intro hCont
          refine two_ (i := 9) (j := 14) (Ni := some 23) (Nj := some 28) #[true, true, true, true, true, true, true, true, true, true, false, false, false, true, false, false, false, false] #[true, true, true, true, true, true, true, true, true, false, false, false, false, true, true, false, false, false] rfl rfl rfl rfl (two_of HT_.out zb12) zb20 zb20 (fun K hK => ?_) (fun K hK => ?_)
          ·skip
           refine Kd.R_lit_step Kd.string _ 9 ?hg (N := 23) ?hd (xs := ([(⟨#[72, 111, 115, 116, 58, 32, 97, 13, 10]⟩ : ByteArray), (⟨#[72, 111, 115, 116, 58, 32, 97, 13, 10]⟩ : ByteArray), (⟨#[67, 111, 110, 116, 101, 110, 116, 45, 76, 101, 110, 103, 116, 104, 58, 32, 51, 13, 10]⟩ : ByteArray), (⟨#[67, 111, 110, 116, 101, 110, 116, 45, 76, 101, 110, 103, 116, 104, 58, 32, 48, 13, 10]⟩ : ByteArray), (⟨#[84, 114, 97, 110, 115, 102, 101, 114, 45, 69, 110, 99, 111, 100, 105, 110, 103, 58, 32, 99, 104, 117, 110, 107, 101, 100, 13, 10]⟩ : ByteArray), (⟨#[83, 108, 117, 103, 58, 32, 120, 13, 10]⟩ : ByteArray), (⟨#[98, 97, 100, 13, 10]⟩ : ByteArray), (⟨#[67, 111, 110, 116, 101, 110, 116, 45, 76, 101, 110, 103, 116, 104, 58, 32, 120, 13, 10]⟩ : ByteArray)] : List ByteArray)) (inner := [.string (⟨#[72, 111, 115, 116, 58, 32, 97, 13, 10]⟩ : ByteArray), .string (⟨#[72, 111, 115, 116, 58, 32, 97, 13, 10]⟩ : ByteArray), .string (⟨#[67, 111, 110, 116, 101, 110, 116, 45, 76, 101, 110, 103, 116, 104, 58, 32, 51, 13, 10]⟩ : ByteArray), .string (⟨#[67, 111, 110, 116, 101, 110, 116, 45, 76, 101, 110, 103, 116, 104, 58, 32, 48, 13, 10]⟩ : ByteArray), .string (⟨#[84, 114, 97, 110, 115, 102, 101, 114, 45, 69, 110, 99, 111, 100, 105, 110, 103, 58, 32, 99, 104, 117, 110, 107, 101, 100, 13, 10]⟩ : ByteArray), .string (⟨#[83, 108, 117, 103, 58, 32, 120, 13, 10]⟩ : ByteArray), .string (⟨#[98, 97, 100, 13, 10]⟩ : ByteArray), .string (⟨#[67, 111, 110, 116, 101, 110, 116, 45, 76, 101, 110, 103, 116, 104, 58, 32, 120, 13, 10]⟩ : ByteArray)]) (ok := fun _ => True) (okp := fun _ => True) ?hr ?hp (fun _ hk => hk) trivial (Below.refl _ _) (Nat.le_refl _) zb26 ?_; (case hd => rfl); (case hg => rfl); (case hr => first | (go_simp; done) | (go_simp; rfl)); (case hp => exact (Reps.one (show Kd.M Kd.string _ _ _ (⟨#[72, 111, 115, 116, 58, 32, 97, 13, 10]⟩ : ByteArray) [.string (⟨#[72, 111, 115, 116, 58, 32, 97, 13, 10]⟩ : ByteArray)] from rfl) (Reps.one (show Kd.M Kd.string _ _ _ (⟨#[72, 111, 115, 116, 58, 32, 97, 13, 10]⟩ : ByteArray) [.string (⟨#[72, 111, 115, 116, 58, 32, 97, 13, 10]⟩ : ByteArray)] from rfl) (Reps.one (show Kd.M Kd.string _ _ _ (⟨#[67, 111, 110, 116, 101, 110, 116, 45, 76, 101, 110, 103, 116, 104, 58, 32, 51, 13, 10]⟩ : ByteArray) [.string (⟨#[67, 111, 110, 116, 101, 110, 116, 45, 76, 101, 110, 103, 116, 104, 58, 32, 51, 13, 10]⟩ : ByteArray)] from rfl) (Reps.one (show Kd.M Kd.string _ _ _ (⟨#[67, 111, 110, 116, 101, 110, 116, 45, 76, 101, 110, 103, 116, 104, 58, 32, 48, 13, 10]⟩ : ByteArray) [.string (⟨#[67, 111, 110, 116, 101, 110, 116, 45, 76, 101, 110, 103, 116, 104, 58, 32, 48, 13, 10]⟩ : ByteArray)] from rfl) (Reps.one (show Kd.M Kd.string _ _ _ (⟨#[84, 114, 97, 110, 115, 102, 101, 114, 45, 69, 110, 99, 111, 100, 105, 110, 103, 58, 32, 99, 104, 117, 110, 107, 101, 100, 13, 10]⟩ : ByteArray) [.string (⟨#[84, 114, 97, 110, 115, 102, 101, 114, 45, 69, 110, 99, 111, 100, 105, 110, 103, 58, 32, 99, 104, 117, 110, 107, 101, 100, 13, 10]⟩ : ByteArray)] from rfl) (Reps.one (show Kd.M Kd.string _ _ _ (⟨#[83, 108, 117, 103, 58, 32, 120, 13, 10]⟩ : ByteArray) [.string (⟨#[83, 108, 117, 103, 58, 32, 120, 13, 10]⟩ : ByteArray)] from rfl) (Reps.one (show Kd.M Kd.string _ _ _ (⟨#[98, 97, 100, 13, 10]⟩ : ByteArray) [.string (⟨#[98, 97, 100, 13, 10]⟩ : ByteArray)] from rfl) (Reps.one (show Kd.M Kd.string _ _ _ (⟨#[67, 111, 110, 116, 101, 110, 116, 45, 76, 101, 110, 103, 116, 104, 58, 32, 120, 13, 10]⟩ : ByteArray) [.string (⟨#[67, 111, 110, 116, 101, 110, 116, 45, 76, 101, 110, 103, 116, 104, 58, 32, 120, 13, 10]⟩ : ByteArray)] from rfl) (Reps.none _ _))))))))))
           intro v445 w23 ho24 hb hg_ hnew_
           have HS0_ := (hb.cell (World.block_lt_of_cell? _ _ (hHeld))).trans (hHeld)
           clear hg_ hnew_
           (first | rw [← Ny444.out] at ho24 | (simp only [Int.reduceToNat] at ho24; rw [← Ny444.out] at ho24))
           have n0_ := Aside0.mk (Kd.R_elder' zb17 (Kd.R_base ho24) hb)
           have n1_ := Aside0.mk (Kd.R_lower (Kd.R_new' ho24 (Kd.R_lt zb17)) (below_size zb0))
           have n2_ := Aside0.mk (below_step zb0 hb)
           clear HO442
           clear HB
           have HO442 := n0_
           have HO446 := n1_
           have HB := n2_
           clear n0_ n1_ n2_
           clear hb ho24
           obtain ⟨Ao25, co25, eo25⟩ := Kd.R_slice HO446.out
           (first | subst eo25 | (injection eo25 with f1_ f2_ f3_; have f4_ := f1_.symm; have f5_ := f3_.symm; clear f1_ f2_ f3_; subst f4_; subst f5_))
           refine hK.out _ _ (HS0_) (fun hHeld => ?_)
           clear hK K
           refine norm_ (a' := ?_) ?_ ?_
           rotate_left
           ·show Act.put _ (some 23) _ = _
            simp only [Act.put, List.setIfInBounds_toArray, List.set_cons_zero, List.set_cons_succ, i64_w, i32_w]
            rfl
           refine two_ (i := 10) (j := 14) (Ni := some 24) (Nj := some 28) #[true, true, true, true, true, true, true, true, true, true, true, false, false, true, false, false, false, false] #[true, true, true, true, true, true, true, true, true, true, false, false, false, true, true, false, false, false] rfl rfl rfl rfl (two_of HT_.out zb12) zb20 zb20 (fun K hK => ?_) (fun K hK => ?_)
           ·skip
            refine goes_ Tryz.func15 zb12 rfl #[.slice A1 l1.length c1, .slice Ao25 y444.length co25] (by rfl) rfl rfl zb1 ?_
            with_reducible refine (broadsheetlaw05_Pieces.calls k _ _ l1 _ _ y444 t447 _ ?side1 ?side2 ?side3 ?side4 A8.out).mono ?_
            (case side1 => repeat (first | exact (Kd.C_below HR1.out HB.out) | (with_reducible refine Kd.C_alloc ?_ _) | (with_reducible refine Kd.C_drewN ?_ _) | (with_reducible refine Kd.C_drew ?_)))
            (case side2 => exact HC1.out)
            (case side3 => repeat (first | exact (Kd.R_reads' HO446.out).2.2 | (with_reducible refine Kd.C_alloc ?_ _) | (with_reducible refine Kd.C_drewN ?_ _) | (with_reducible refine Kd.C_drew ?_)))
            (case side4 => exact (Kd.R_reads' HO446.out).2.1)
            rintro e w' ⟨rfl, ⟨nd, rfl⟩⟩
            refine ⟨_, rfl, ?_⟩
            refine hK.out _ _ (hHeld) (fun hHeld => ?_)
            clear hK K
            refine norm_ (a' := ?_) ?_ ?_
            rotate_left
            ·show Act.put _ (some 24) _ = _
             simp only [Act.put, List.setIfInBounds_toArray, List.set_cons_zero, List.set_cons_succ, i64_w, i32_w]
             rfl
            refine pure_ (i := 11) (N := some 25) (v := ?_) (a' := ?_) #[true, true, true, true, true, true, true, true, true, true, true, true, false, true, false, false, false, false] rfl rfl (any_of HT_.out zb12) (fun _ _ _ h => h) (Or.inl ⟨by rfl, ?_⟩) ?_ ?_
            rotate_left
            ·intro w'
             go_simp
             first | with_reducible rfl | (rw [if_neg zb8])
            rotate_left
            ·simp only [Act.put, List.setIfInBounds_toArray, List.set_cons_zero, List.set_cons_succ, i64_w, i32_w]
             rfl
            refine pure_ (i := 12) (N := some 26) (v := ?_) (a' := ?_) #[true, true, true, true, true, true, true, true, true, true, true, true, true, true, false, false, false, false] rfl rfl (any_of HT_.out zb12) (fun _ _ _ h => h) (Or.inl ⟨by rfl, ?_⟩) ?_ ?_
            rotate_left
            ·intro w'
             go_simp
             first | with_reducible rfl | (rw [if_neg zb8])
            rotate_left
            ·simp only [Act.put, List.setIfInBounds_toArray, List.set_cons_zero, List.set_cons_succ, i64_w, i32_w]
             rfl
            refine one_ (i := 14) (N := some 28) #[true, true, true, true, true, true, true, true, true, true, true, true, true, true, true, false, false, false] rfl rfl (one_of HT_.out zb12) zb20 (fun K hK => ?_)
            refine Kd.R_lit_step Kd.string _ 9 ?hg (N := 28) ?hd (xs := ([(⟨#[97, 98, 99]⟩ : ByteArray), (⟨#[48, 13, 10, 13, 10]⟩ : ByteArray), (⟨#[51, 13, 10, 97, 98, 99, 13, 10]⟩ : ByteArray), (⟨#[120]⟩ : ByteArray), (⟨#[]⟩ : ByteArray)] : List ByteArray)) (inner := [.string (⟨#[97, 98, 99]⟩ : ByteArray), .string (⟨#[48, 13, 10, 13, 10]⟩ : ByteArray), .string (⟨#[51, 13, 10, 97, 98, 99, 13, 10]⟩ : ByteArray), .string (⟨#[120]⟩ : ByteArray), .string (⟨#[]⟩ : ByteArray)]) (ok := fun _ => True) (okp := fun _ => True) ?hr ?hp (fun _ hk => hk) trivial (Below.refl _ _) (Nat.le_refl _) zb26 ?_; (case hd => rfl); (case hg => rfl); (case hr => first | (go_simp; done) | (go_simp; rfl)); (case hp => exact (Reps.one (show Kd.M Kd.string _ _ _ (⟨#[97, 98, 99]⟩ : ByteArray) [.string (⟨#[97, 98, 99]⟩ : ByteArray)] from rfl) (Reps.one (show Kd.M Kd.string _ _ _ (⟨#[48, 13, 10, 13, 10]⟩ : ByteArray) [.string (⟨#[48, 13, 10, 13, 10]⟩ : ByteArray)] from rfl) (Reps.one (show Kd.M Kd.string _ _ _ (⟨#[51, 13, 10, 97, 98, 99, 13, 10]⟩ : ByteArray) [.string (⟨#[51, 13, 10, 97, 98, 99, 13, 10]⟩ : ByteArray)] from rfl) (Reps.one (show Kd.M Kd.string _ _ _ (⟨#[120]⟩ : ByteArray) [.string (⟨#[120]⟩ : ByteArray)] from rfl) (Reps.one (show Kd.M Kd.string _ _ _ (⟨#[]⟩ : ByteArray) [.string (⟨#[]⟩ : ByteArray)] from rfl) (Reps.none _ _)))))))
            intro v449 w26 ho27 hb hg_ hnew_
            have HS0_ := (hb.cell (World.block_lt_of_cell? _ _ (hHeld))).trans (hHeld)
            clear hg_ hnew_
            (first | rw [← Ny448.out] at ho27 | (simp only [Int.reduceToNat] at ho27; rw [← Ny448.out] at ho27))
            have n0_ := Aside0.mk (Kd.R_elder' zb17 (Kd.R_base ho27) hb)
            have n1_ := Aside0.mk (Kd.R_elder' zb25 (Kd.R_base ho27) hb)
            have n2_ := Aside0.mk (Kd.R_lower (Kd.R_new' (Kd.R_new' ho27 (Kd.R_lt zb17)) (Kd.R_lt zb25)) (below_size zb0))
            have n3_ := Aside0.mk (below_step zb0 hb)
            clear HO442
            clear HO446
            clear HB
            have HO442 := n0_
            have HO446 := n1_
            have HO450 := n2_
            have HB := n3_
            clear n0_ n1_ n2_ n3_
            clear hb ho27
            refine hK.out _ _ (HS0_) (fun hHeld => ?_)
            clear hK K
            refine norm_ (a' := ?_) ?_ ?_
            rotate_left
            ·show Act.put _ (some 28) _ = _
             simp only [Act.put, List.setIfInBounds_toArray, List.set_cons_zero, List.set_cons_succ, i64_w, i32_w]
             rfl
            exact norm_ (by simp only [putAll, Act.put, List.setIfInBounds_toArray, List.set_cons_zero, List.set_cons_succ]) (hCont (.slice Ao25 y444.length co25, v449) _ ⟨hHeld, (by (with_reducible repeat (first | apply Kd.R_alloc | apply Kd.R_drewN | apply Kd.R_drew)); exact Kd.R_mono HO442.out (fun _ hk => ⟨hk.1.2, hk.2⟩)), zb50, zb49, zb0⟩)
           ·skip
            refine Kd.R_lit_step Kd.string _ 9 ?hg (N := 28) ?hd (xs := ([(⟨#[97, 98, 99]⟩ : ByteArray), (⟨#[48, 13, 10, 13, 10]⟩ : ByteArray), (⟨#[51, 13, 10, 97, 98, 99, 13, 10]⟩ : ByteArray), (⟨#[120]⟩ : ByteArray), (⟨#[]⟩ : ByteArray)] : List ByteArray)) (inner := [.string (⟨#[97, 98, 99]⟩ : ByteArray), .string (⟨#[48, 13, 10, 13, 10]⟩ : ByteArray), .string (⟨#[51, 13, 10, 97, 98, 99, 13, 10]⟩ : ByteArray), .string (⟨#[120]⟩ : ByteArray), .string (⟨#[]⟩ : ByteArray)]) (ok := fun _ => True) (okp := fun _ => True) ?hr ?hp (fun _ hk => hk) trivial (Below.refl _ _) (Nat.le_refl _) zb26 ?_; (case hd => rfl); (case hg => rfl); (case hr => first | (go_simp; done) | (go_simp; rfl)); (case hp => exact (Reps.one (show Kd.M Kd.string _ _ _ (⟨#[97, 98, 99]⟩ : ByteArray) [.string (⟨#[97, 98, 99]⟩ : ByteArray)] from rfl) (Reps.one (show Kd.M Kd.string _ _ _ (⟨#[48, 13, 10, 13, 10]⟩ : ByteArray) [.string (⟨#[48, 13, 10, 13, 10]⟩ : ByteArray)] from rfl) (Reps.one (show Kd.M Kd.string _ _ _ (⟨#[51, 13, 10, 97, 98, 99, 13, 10]⟩ : ByteArray) [.string (⟨#[51, 13, 10, 97, 98, 99, 13, 10]⟩ : ByteArray)] from rfl) (Reps.one (show Kd.M Kd.string _ _ _ (⟨#[120]⟩ : ByteArray) [.string (⟨#[120]⟩ : ByteArray)] from rfl) (Reps.one (show Kd.M Kd.string _ _ _ (⟨#[]⟩ : ByteArray) [.string (⟨#[]⟩ : ByteArray)] from rfl) (Reps.none _ _)))))))
            intro v449 w25 ho26 hb hg_ hnew_
            have HS0_ := (hb.cell (World.block_lt_of_cell? _ _ (hHeld))).trans (hHeld)
            clear hg_ hnew_
            (first | rw [← Ny448.out] at ho26 | (simp only [Int.reduceToNat] at ho26; rw [← Ny448.out] at ho26))
            have n0_ := Aside0.mk (Kd.R_elder' zb17 (Kd.R_base ho26) hb)
            have n1_ := Aside0.mk (Kd.R_elder' zb25 (Kd.R_base ho26) hb)
            have n2_ := Aside0.mk (Kd.R_lower (Kd.R_new' (Kd.R_new' ho26 (Kd.R_lt zb17)) (Kd.R_lt zb25)) (below_size zb0))
            have n3_ := Aside0.mk (below_step zb0 hb)
            clear HO442
            clear HO446
            clear HB
            have HO442 := n0_
            have HO446 := n1_
            have HO450 := n2_
            have HB := n3_
            clear n0_ n1_ n2_ n3_
            clear hb ho26
            obtain ⟨Ao27, co27, eo27⟩ := Kd.R_slice HO446.out
            (first | subst eo27 | (injection eo27 with f1_ f2_ f3_; have f4_ := f1_.symm; have f5_ := f3_.symm; clear f1_ f2_ f3_; subst f4_; subst f5_))
            refine hK.out _ _ (HS0_) (fun hHeld => ?_)
            clear hK K
            refine norm_ (a' := ?_) ?_ ?_
            rotate_left
            ·show Act.put _ (some 28) _ = _
             simp only [Act.put, List.setIfInBounds_toArray, List.set_cons_zero, List.set_cons_succ, i64_w, i32_w]
             rfl
            refine one_ (i := 10) (N := some 24) #[true, true, true, true, true, true, true, true, true, true, true, false, false, true, true, false, false, false] rfl rfl (one_of HT_.out zb12) zb20 (fun K hK => ?_)
            refine goes_ Tryz.func15 zb12 rfl #[.slice A1 l1.length c1, .slice Ao27 y444.length co27] (by rfl) rfl rfl zb1 ?_
            with_reducible refine (broadsheetlaw05_Pieces.calls k _ _ l1 _ _ y444 t447 _ ?side1 ?side2 ?side3 ?side4 A8.out).mono ?_
            (case side1 => repeat (first | exact (Kd.C_below HR1.out HB.out) | (with_reducible refine Kd.C_alloc ?_ _) | (with_reducible refine Kd.C_drewN ?_ _) | (with_reducible refine Kd.C_drew ?_)))
            (case side2 => exact HC1.out)
            (case side3 => repeat (first | exact (Kd.R_reads' HO446.out).2.2 | (with_reducible refine Kd.C_alloc ?_ _) | (with_reducible refine Kd.C_drewN ?_ _) | (with_reducible refine Kd.C_drew ?_)))
            (case side4 => exact (Kd.R_reads' HO446.out).2.1)
            rintro e w' ⟨rfl, ⟨nd, rfl⟩⟩
            refine ⟨_, rfl, ?_⟩
            refine hK.out _ _ (hHeld) (fun hHeld => ?_)
            clear hK K
            refine norm_ (a' := ?_) ?_ ?_
            rotate_left
            ·show Act.put _ (some 24) _ = _
             simp only [Act.put, List.setIfInBounds_toArray, List.set_cons_zero, List.set_cons_succ, i64_w, i32_w]
             rfl
            refine pure_ (i := 11) (N := some 25) (v := ?_) (a' := ?_) #[true, true, true, true, true, true, true, true, true, true, true, true, false, true, true, false, false, false] rfl rfl (any_of HT_.out zb12) (fun _ _ _ h => h) (Or.inl ⟨by rfl, ?_⟩) ?_ ?_
            rotate_left
            ·intro w'
             go_simp
             first | with_reducible rfl | (rw [if_neg zb8])
            rotate_left
            ·simp only [Act.put, List.setIfInBounds_toArray, List.set_cons_zero, List.set_cons_succ, i64_w, i32_w]
             rfl
            refine pure_ (i := 12) (N := some 26) (v := ?_) (a' := ?_) #[true, true, true, true, true, true, true, true, true, true, true, true, true, true, true, false, false, false] rfl rfl (any_of HT_.out zb12) (fun _ _ _ h => h) (Or.inl ⟨by rfl, ?_⟩) ?_ ?_
            rotate_left
            ·intro w'
             go_simp
             first | with_reducible rfl | (rw [if_neg zb8])
            rotate_left
            ·simp only [Act.put, List.setIfInBounds_toArray, List.set_cons_zero, List.set_cons_succ, i64_w, i32_w]
             rfl
            exact norm_ (by simp only [putAll, Act.put, List.setIfInBounds_toArray, List.set_cons_zero, List.set_cons_succ]) (hCont (.slice Ao27 y444.length co27, v449) _ ⟨hHeld, (by (with_reducible repeat (first | apply Kd.R_alloc | apply Kd.R_drewN | apply Kd.R_drew)); exact Kd.R_mono HO442.out (fun _ hk => ⟨hk.1.2, hk.2⟩)), zb50, zb49, zb0⟩)
          ·skip
           refine Kd.R_lit_step Kd.string _ 9 ?hg (N := 28) ?hd (xs := ([(⟨#[97, 98, 99]⟩ : ByteArray), (⟨#[48, 13, 10, 13, 10]⟩ : ByteArray), (⟨#[51, 13, 10, 97, 98, 99, 13, 10]⟩ : ByteArray), (⟨#[120]⟩ : ByteArray), (⟨#[]⟩ : ByteArray)] : List ByteArray)) (inner := [.string (⟨#[97, 98, 99]⟩ : ByteArray), .string (⟨#[48, 13, 10, 13, 10]⟩ : ByteArray), .string (⟨#[51, 13, 10, 97, 98, 99, 13, 10]⟩ : ByteArray), .string (⟨#[120]⟩ : ByteArray), .string (⟨#[]⟩ : ByteArray)]) (ok := fun _ => True) (okp := fun _ => True) ?hr ?hp (fun _ hk => hk) trivial (Below.refl _ _) (Nat.le_refl _) zb26 ?_; (case hd => rfl); (case hg => rfl); (case hr => first | (go_simp; done) | (go_simp; rfl)); (case hp => exact (Reps.one (show Kd.M Kd.string _ _ _ (⟨#[97, 98, 99]⟩ : ByteArray) [.string (⟨#[97, 98, 99]⟩ : ByteArray)] from rfl) (Reps.one (show Kd.M Kd.string _ _ _ (⟨#[48, 13, 10, 13, 10]⟩ : ByteArray) [.string (⟨#[48, 13, 10, 13, 10]⟩ : ByteArray)] from rfl) (Reps.one (show Kd.M Kd.string _ _ _ (⟨#[51, 13, 10, 97, 98, 99, 13, 10]⟩ : ByteArray) [.string (⟨#[51, 13, 10, 97, 98, 99, 13, 10]⟩ : ByteArray)] from rfl) (Reps.one (show Kd.M Kd.string _ _ _ (⟨#[120]⟩ : ByteArray) [.string (⟨#[120]⟩ : ByteArray)] from rfl) (Reps.one (show Kd.M Kd.string _ _ _ (⟨#[]⟩ : ByteArray) [.string (⟨#[]⟩ : ByteArray)] from rfl) (Reps.none _ _)))))))
           intro v449 w23 ho24 hb hg_ hnew_
           have HS0_ := (hb.cell (World.block_lt_of_cell? _ _ (hHeld))).trans (hHeld)
           clear hg_ hnew_
           (first | rw [← Ny448.out] at ho24 | (simp only [Int.reduceToNat] at ho24; rw [← Ny448.out] at ho24))
           have n0_ := Aside0.mk (Kd.R_elder' zb17 (Kd.R_base ho24) hb)
           have n1_ := Aside0.mk (Kd.R_lower (Kd.R_new' ho24 (Kd.R_lt zb17)) (below_size zb0))
           have n2_ := Aside0.mk (below_step zb0 hb)
           clear HO442
           clear HB
           have HO442 := n0_
           have HO450 := n1_
           have HB := n2_
           clear n0_ n1_ n2_
           clear hb ho24
           refine hK.out _ _ (HS0_) (fun hHeld => ?_)
           clear hK K
           refine norm_ (a' := ?_) ?_ ?_
           rotate_left
           ·show Act.put _ (some 28) _ = _
            simp only [Act.put, List.setIfInBounds_toArray, List.set_cons_zero, List.set_cons_succ, i64_w, i32_w]
            rfl
           refine one_ (i := 9) (N := some 23) #[true, true, true, true, true, true, true, true, true, true, false, false, false, true, true, false, false, false] rfl rfl (one_of HT_.out zb12) zb20 (fun K hK => ?_)
           refine Kd.R_lit_step Kd.string _ 9 ?hg (N := 23) ?hd (xs := ([(⟨#[72, 111, 115, 116, 58, 32, 97, 13, 10]⟩ : ByteArray), (⟨#[72, 111, 115, 116, 58, 32, 97, 13, 10]⟩ : ByteArray), (⟨#[67, 111, 110, 116, 101, 110, 116, 45, 76, 101, 110, 103, 116, 104, 58, 32, 51, 13, 10]⟩ : ByteArray), (⟨#[67, 111, 110, 116, 101, 110, 116, 45, 76, 101, 110, 103, 116, 104, 58, 32, 48, 13, 10]⟩ : ByteArray), (⟨#[84, 114, 97, 110, 115, 102, 101, 114, 45, 69, 110, 99, 111, 100, 105, 110, 103, 58, 32, 99, 104, 117, 110, 107, 101, 100, 13, 10]⟩ : ByteArray), (⟨#[83, 108, 117, 103, 58, 32, 120, 13, 10]⟩ : ByteArray), (⟨#[98, 97, 100, 13, 10]⟩ : ByteArray), (⟨#[67, 111, 110, 116, 101, 110, 116, 45, 76, 101, 110, 103, 116, 104, 58, 32, 120, 13, 10]⟩ : ByteArray)] : List ByteArray)) (inner := [.string (⟨#[72, 111, 115, 116, 58, 32, 97, 13, 10]⟩ : ByteArray), .string (⟨#[72, 111, 115, 116, 58, 32, 97, 13, 10]⟩ : ByteArray), .string (⟨#[67, 111, 110, 116, 101, 110, 116, 45, 76, 101, 110, 103, 116, 104, 58, 32, 51, 13, 10]⟩ : ByteArray), .string (⟨#[67, 111, 110, 116, 101, 110, 116, 45, 76, 101, 110, 103, 116, 104, 58, 32, 48, 13, 10]⟩ : ByteArray), .string (⟨#[84, 114, 97, 110, 115, 102, 101, 114, 45, 69, 110, 99, 111, 100, 105, 110, 103, 58, 32, 99, 104, 117, 110, 107, 101, 100, 13, 10]⟩ : ByteArray), .string (⟨#[83, 108, 117, 103, 58, 32, 120, 13, 10]⟩ : ByteArray), .string (⟨#[98, 97, 100, 13, 10]⟩ : ByteArray), .string (⟨#[67, 111, 110, 116, 101, 110, 116, 45, 76, 101, 110, 103, 116, 104, 58, 32, 120, 13, 10]⟩ : ByteArray)]) (ok := fun _ => True) (okp := fun _ => True) ?hr ?hp (fun _ hk => hk) trivial (Below.refl _ _) (Nat.le_refl _) zb26 ?_; (case hd => rfl); (case hg => rfl); (case hr => first | (go_simp; done) | (go_simp; rfl)); (case hp => exact (Reps.one (show Kd.M Kd.string _ _ _ (⟨#[72, 111, 115, 116, 58, 32, 97, 13, 10]⟩ : ByteArray) [.string (⟨#[72, 111, 115, 116, 58, 32, 97, 13, 10]⟩ : ByteArray)] from rfl) (Reps.one (show Kd.M Kd.string _ _ _ (⟨#[72, 111, 115, 116, 58, 32, 97, 13, 10]⟩ : ByteArray) [.string (⟨#[72, 111, 115, 116, 58, 32, 97, 13, 10]⟩ : ByteArray)] from rfl) (Reps.one (show Kd.M Kd.string _ _ _ (⟨#[67, 111, 110, 116, 101, 110, 116, 45, 76, 101, 110, 103, 116, 104, 58, 32, 51, 13, 10]⟩ : ByteArray) [.string (⟨#[67, 111, 110, 116, 101, 110, 116, 45, 76, 101, 110, 103, 116, 104, 58, 32, 51, 13, 10]⟩ : ByteArray)] from rfl) (Reps.one (show Kd.M Kd.string _ _ _ (⟨#[67, 111, 110, 116, 101, 110, 116, 45, 76, 101, 110, 103, 116, 104, 58, 32, 48, 13, 10]⟩ : ByteArray) [.string (⟨#[67, 111, 110, 116, 101, 110, 116, 45, 76, 101, 110, 103, 116, 104, 58, 32, 48, 13, 10]⟩ : ByteArray)] from rfl) (Reps.one (show Kd.M Kd.string _ _ _ (⟨#[84, 114, 97, 110, 115, 102, 101, 114, 45, 69, 110, 99, 111, 100, 105, 110, 103, 58, 32, 99, 104, 117, 110, 107, 101, 100, 13, 10]⟩ : ByteArray) [.string (⟨#[84, 114, 97, 110, 115, 102, 101, 114, 45, 69, 110, 99, 111, 100, 105, 110, 103, 58, 32, 99, 104, 117, 110, 107, 101, 100, 13, 10]⟩ : ByteArray)] from rfl) (Reps.one (show Kd.M Kd.string _ _ _ (⟨#[83, 108, 117, 103, 58, 32, 120, 13, 10]⟩ : ByteArray) [.string (⟨#[83, 108, 117, 103, 58, 32, 120, 13, 10]⟩ : ByteArray)] from rfl) (Reps.one (show Kd.M Kd.string _ _ _ (⟨#[98, 97, 100, 13, 10]⟩ : ByteArray) [.string (⟨#[98, 97, 100, 13, 10]⟩ : ByteArray)] from rfl) (Reps.one (show Kd.M Kd.string _ _ _ (⟨#[67, 111, 110, 116, 101, 110, 116, 45, 76, 101, 110, 103, 116, 104, 58, 32, 120, 13, 10]⟩ : ByteArray) [.string (⟨#[67, 111, 110, 116, 101, 110, 116, 45, 76, 101, 110, 103, 116, 104, 58, 32, 120, 13, 10]⟩ : ByteArray)] from rfl) (Reps.none _ _))))))))))
           intro v445 w25 ho26 hb hg_ hnew_
           have HS0_ := (hb.cell (World.block_lt_of_cell? _ _ (hHeld))).trans (hHeld)
           clear hg_ hnew_
           (first | rw [← Ny444.out] at ho26 | (simp only [Int.reduceToNat] at ho26; rw [← Ny444.out] at ho26))
           have n0_ := Aside0.mk (Kd.R_elder' zb17 (Kd.R_base ho26) hb)
           have n1_ := Aside0.mk (Kd.R_elder' zb32 (Kd.R_base ho26) hb)
           have n2_ := Aside0.mk (Kd.R_lower (Kd.R_new' (Kd.R_new' ho26 (Kd.R_lt zb17)) (Kd.R_lt zb32)) (below_size zb0))
           have n3_ := Aside0.mk (below_step zb0 hb)
           clear HO442
           clear HO450
           clear HB
           have HO442 := n0_
           have HO450 := n1_
           have HO446 := n2_
           have HB := n3_
           clear n0_ n1_ n2_ n3_
           clear hb ho26
           obtain ⟨Ao27, co27, eo27⟩ := Kd.R_slice HO446.out
           (first | subst eo27 | (injection eo27 with f1_ f2_ f3_; have f4_ := f1_.symm; have f5_ := f3_.symm; clear f1_ f2_ f3_; subst f4_; subst f5_))
           refine hK.out _ _ (HS0_) (fun hHeld => ?_)
           clear hK K
           refine norm_ (a' := ?_) ?_ ?_
           rotate_left
           ·show Act.put _ (some 23) _ = _
            simp only [Act.put, List.setIfInBounds_toArray, List.set_cons_zero, List.set_cons_succ, i64_w, i32_w]
            rfl
           refine one_ (i := 10) (N := some 24) #[true, true, true, true, true, true, true, true, true, true, true, false, false, true, true, false, false, false] rfl rfl (one_of HT_.out zb12) zb20 (fun K hK => ?_)
           refine goes_ Tryz.func15 zb12 rfl #[.slice A1 l1.length c1, .slice Ao27 y444.length co27] (by rfl) rfl rfl zb1 ?_
           with_reducible refine (broadsheetlaw05_Pieces.calls k _ _ l1 _ _ y444 t447 _ ?side1 ?side2 ?side3 ?side4 A8.out).mono ?_
           (case side1 => repeat (first | exact (Kd.C_below HR1.out HB.out) | (with_reducible refine Kd.C_alloc ?_ _) | (with_reducible refine Kd.C_drewN ?_ _) | (with_reducible refine Kd.C_drew ?_)))
           (case side2 => exact HC1.out)
           (case side3 => repeat (first | exact (Kd.R_reads' HO446.out).2.2 | (with_reducible refine Kd.C_alloc ?_ _) | (with_reducible refine Kd.C_drewN ?_ _) | (with_reducible refine Kd.C_drew ?_)))
           (case side4 => exact (Kd.R_reads' HO446.out).2.1)
           rintro e w' ⟨rfl, ⟨nd, rfl⟩⟩
           refine ⟨_, rfl, ?_⟩
           refine hK.out _ _ (hHeld) (fun hHeld => ?_)
           clear hK K
           refine norm_ (a' := ?_) ?_ ?_
           rotate_left
           ·show Act.put _ (some 24) _ = _
            simp only [Act.put, List.setIfInBounds_toArray, List.set_cons_zero, List.set_cons_succ, i64_w, i32_w]
            rfl
           refine pure_ (i := 11) (N := some 25) (v := ?_) (a' := ?_) #[true, true, true, true, true, true, true, true, true, true, true, true, false, true, true, false, false, false] rfl rfl (any_of HT_.out zb12) (fun _ _ _ h => h) (Or.inl ⟨by rfl, ?_⟩) ?_ ?_
           rotate_left
           ·intro w'
            go_simp
            first | with_reducible rfl | (rw [if_neg zb8])
           rotate_left
           ·simp only [Act.put, List.setIfInBounds_toArray, List.set_cons_zero, List.set_cons_succ, i64_w, i32_w]
            rfl
           refine pure_ (i := 12) (N := some 26) (v := ?_) (a' := ?_) #[true, true, true, true, true, true, true, true, true, true, true, true, true, true, true, false, false, false] rfl rfl (any_of HT_.out zb12) (fun _ _ _ h => h) (Or.inl ⟨by rfl, ?_⟩) ?_ ?_
           rotate_left
           ·intro w'
            go_simp
            first | with_reducible rfl | (rw [if_neg zb8])
           rotate_left
           ·simp only [Act.put, List.setIfInBounds_toArray, List.set_cons_zero, List.set_cons_succ, i64_w, i32_w]
            rfl
           exact norm_ (by simp only [putAll, Act.put, List.setIfInBounds_toArray, List.set_cons_zero, List.set_cons_succ]) (hCont (.slice Ao27 y444.length co27, v449) _ ⟨hHeld, (by (with_reducible repeat (first | apply Kd.R_alloc | apply Kd.R_drewN | apply Kd.R_drew)); exact Kd.R_mono HO442.out (fun _ hk => ⟨hk.2, hk.1.2⟩)), zb50, zb49, zb0⟩)
         rintro ⟨v445, v449⟩ w28 ⟨hS_, h0_, h1_, h2_, h3_⟩
         have n0_ : Aside0 (Kd.R Kd.string 9 w28 w.heap.size (fun k_ => some k_ ≠ (v445 : Value).ownBlock ∧ some k_ ≠ (v449 : Value).ownBlock) (.slice (some ad443) y440.length co22) y440) := ⟨h0_⟩
         have n1_ : Aside0 (Kd.R Kd.string 9 w28 w.heap.size (fun k_ => some k_ ≠ (.slice (some ad443) y440.length co22 : Value).ownBlock ∧ some k_ ≠ (v449 : Value).ownBlock) v445 y444) := ⟨h1_⟩
         have n2_ : Aside0 (Kd.R Kd.string 9 w28 w.heap.size (fun k_ => some k_ ≠ (.slice (some ad443) y440.length co22 : Value).ownBlock ∧ some k_ ≠ (v445 : Value).ownBlock) v449 y448) := ⟨h2_⟩
         have n3_ : Aside0 (Below w.heap.size w w28) := ⟨h3_⟩
         clear HO442
         clear HB
         clear h0_ h1_ h2_ h3_
         have HO442 := n0_
         have HO446 := n1_
         have HO450 := n2_
         have HB := n3_
         clear n0_ n1_ n2_ n3_
         have hHeld : w28.cell? (ad443.add ((ji5)).toNat) = some (.string (rdOf ByteArray.empty y440 (ji5))) := hS_
         obtain ⟨Ao29, co29, eo29⟩ := Kd.R_slice HO450.out
         (first | subst eo29 | (injection eo29 with f1_ f2_ f3_; have f4_ := f1_.symm; have f5_ := f3_.symm; clear f1_ f2_ f3_; subst f4_; subst f5_))
         refine norm_ (a' := ?_) ?_ ?_
         rotate_left
         ·simp only [putAll, Act.put, List.setIfInBounds_toArray, List.set_cons_zero, List.set_cons_succ]
          rfl
         refine one_ (i := 15) (N := some 29) #[true, true, true, true, true, true, true, true, true, true, true, true, true, true, true, true, false, false] rfl rfl (one_of HT_.out zb12) zb20 (fun K hK => ?_)
         refine goes_ Tryz.func15 zb12 rfl #[.slice A2 l2.length c2, .slice Ao29 y448.length co29] (by rfl) rfl rfl zb1 ?_
         with_reducible refine (broadsheetlaw05_Pieces.calls k _ _ l2 _ _ y448 t451 _ ?side1 ?side2 ?side3 ?side4 A11.out).mono ?_
         (case side1 => repeat (first | exact (Kd.C_below HR2.out HB.out) | (with_reducible refine Kd.C_alloc ?_ _) | (with_reducible refine Kd.C_drewN ?_ _) | (with_reducible refine Kd.C_drew ?_)))
         (case side2 => exact HC2.out)
         (case side3 => repeat (first | exact (Kd.R_reads' HO450.out).2.2 | (with_reducible refine Kd.C_alloc ?_ _) | (with_reducible refine Kd.C_drewN ?_ _) | (with_reducible refine Kd.C_drew ?_)))
         (case side4 => exact (Kd.R_reads' HO450.out).2.1)
         rintro e w' ⟨rfl, ⟨nd, rfl⟩⟩
         refine ⟨_, rfl, ?_⟩
         refine hK.out _ _ (hHeld) (fun hHeld => ?_)
         clear hK K
         refine norm_ (a' := ?_) ?_ ?_
         rotate_left
         ·show Act.put _ (some 29) _ = _
          simp only [Act.put, List.setIfInBounds_toArray, List.set_cons_zero, List.set_cons_succ, i64_w, i32_w]
          rfl
         refine pure_ (i := 16) (N := some 30) (v := ?_) (a' := ?_) #[true, true, true, true, true, true, true, true, true, true, true, true, true, true, true, true, true, false] rfl rfl (any_of HT_.out zb12) (fun _ _ _ h => h) (Or.inl ⟨by rfl, ?_⟩) ?_ ?_
         rotate_left
         ·intro w'
          go_simp
          first | with_reducible rfl | (rw [if_neg zb8])
         rotate_left
         ·simp only [Act.put, List.setIfInBounds_toArray, List.set_cons_zero, List.set_cons_succ, i64_w, i32_w]
          rfl
         refine pure_ (i := 17) (N := some 8) (v := ?_) (a' := ?_) #[true, true, true, true, true, true, true, true, true, true, true, true, true, true, true, true, true, true] rfl rfl (any_of HT_.out zb12) (fun _ _ _ h => h) (Or.inl ⟨by rfl, ?_⟩) ?_ ?_
         rotate_left
         ·intro w'
          go_simp
          first | with_reducible rfl | (rw [if_neg zb8])
         rotate_left
         ·simp only [Act.put, List.setIfInBounds_toArray, List.set_cons_zero, List.set_cons_succ, i64_w, i32_w]
          rfl
         refine done_ (done_of HT_.out zb12) ?_
         try go_wp2_with (first | ((with_reducible refine gate_callee (f := 17) rfl ?_); refine goesL_ (some 33) rfl rfl Tryz.func17 zb12 rfl #[.string ((((rdOf ByteArray.empty y440 (ji5)) ++ t447) ++ (⟨#[13, 10]⟩ : ByteArray)) ++ t451)] rfl (by (try simp only [List.map_toArray, List.map_cons, List.map_nil]); first | done | (simp only [hji5]; rfl) | rfl | (simp only [List.length_drop, List.length_take]; rfl)) ?_; (with_reducible refine (request_Parse.calls ((((rdOf ByteArray.empty y440 (ji5)) ++ t447) ++ (⟨#[13, 10]⟩ : ByteArray)) ++ t451) t452 t453 t454 t457 t458 _ ?side1 A13.out).mono ?_); (case side1 => exact Glob.below hGA.out zb0); rintro e w30 ⟨v455, rfl, ho0, hb⟩; refine ⟨_, rfl, ?_⟩; have n0_ := Aside0.mk (Kd.R_below zb17 hb); have n1_ := Aside0.mk (Kd.R_below zb25 hb); have n2_ := Aside0.mk (Kd.R_below zb32 hb); have n3_ := Aside0.mk (Kd.R_lower ho0 (below_size zb0)); have n4_ := Aside0.mk (below_step zb0 hb); clear HO442; clear HO446; clear HO450; clear HB; have HO442 := n0_; have HO446 := n1_; have HO450 := n2_; have HO456 := n3_; have HB := n4_; clear n0_ n1_ n2_ n3_ n4_; (try clear hb); (try clear hb2); (try clear hk); (try clear hi); (try clear ho0)) | ((with_reducible refine gate_dst (N := 9) rfl ?_); refine box_event ?hg (N := 9) ?hd (cs := #[.string (⟨#[]⟩ : ByteArray), .string (⟨#[]⟩ : ByteArray), .slice none 0 0, .string (⟨#[]⟩ : ByteArray)]) (t := 36) ?hr ?_; (case hd => rfl); (case hg => rfl); (case hr => first | (go_simp; done) | (go_simp; rfl)); intro gb459 hg w31 hbox hb; have n0_ := Aside0.mk (Kd.R_below zb17 hb); have n1_ := Aside0.mk (Kd.R_below zb25 hb); have n2_ := Aside0.mk (Kd.R_below zb32 hb); have n3_ := Aside0.mk (Kd.R_below (by (with_reducible repeat (first | apply Kd.R_alloc | apply Kd.R_drewN | apply Kd.R_drew)); exact HO456.out) hb); have n4_ := Aside0.mk (below_step zb0 hb); have n5_ := Aside0.mk (hbox); have n6_ := Aside0.mk ((by rw [hg]; exact (below_size zb0) : w.heap.size ≤ gb459)); have n7_ := Aside0.mk ((by rw [hg]; exact (below_size zb0) : w.heap.size ≤ gb459)); clear HO442; clear HO446; clear HO450; clear HO456; clear HB; have HO442 := n0_; have HO446 := n1_; have HO450 := n2_; have HO456 := n3_; have HB := n4_; have BK459 := n5_; have GW459 := n6_; have GE459 := n7_; clear n0_ n1_ n2_ n3_ n4_ n5_ n6_ n7_; clear hb hbox hg; have hcz32_0 : w31.cell? ⟨gb459, 0, none⟩ = some (.string (⟨#[]⟩ : ByteArray)) := (blk_cell BK459.out 0).trans rfl; have hcz32_1 : w31.cell? ⟨gb459, 1, none⟩ = some (.string (⟨#[]⟩ : ByteArray)) := (blk_cell BK459.out 1).trans rfl; have hcz32_2 : w31.cell? ⟨gb459, 2, none⟩ = some (.slice none 0 0) := (blk_cell BK459.out 2).trans rfl; have hcz32_3 : w31.cell? ⟨gb459, 3, none⟩ = some (.string (⟨#[]⟩ : ByteArray)) := (blk_cell BK459.out 3).trans rfl; have hfz32_0 := blk_frozen BK459.out 0; have hfz32_1 := blk_frozen BK459.out 1; have hfz32_2 := blk_frozen BK459.out 2; have hfz32_3 := blk_frozen BK459.out 3; obtain ⟨Ao33, co33, eo33⟩ := Kd.R_slice HO456.out; subst eo33) | ((with_reducible refine gate_callee (f := 18) rfl ?_); refine goesL_ (some 38) rfl rfl Tryz.func18 zb12 rfl #[.string ((((rdOf ByteArray.empty y440 (ji5)) ++ t447) ++ (⟨#[13, 10]⟩ : ByteArray)) ++ t451)] rfl (by (try simp only [List.map_toArray, List.map_cons, List.map_nil]); first | done | (simp only [hji5]; rfl) | rfl | (simp only [List.length_drop, List.length_take]; rfl)) ?_; (with_reducible refine (broadsheetref20_Parse.calls k ((((rdOf ByteArray.empty y440 (ji5)) ++ t447) ++ (⟨#[13, 10]⟩ : ByteArray)) ++ t451) t460 t461 t462 t465 t466 _ A14.out).mono ?_); rintro e w34 ⟨v463, rfl, ho0, hb⟩; refine ⟨_, rfl, ?_⟩; have n0_ := Aside0.mk (Kd.R_below (by (with_reducible repeat (first | apply Kd.R_alloc | apply Kd.R_drewN | apply Kd.R_drew)); exact (Kd.R_mono (Kd.R_far (p := ⟨gb459, 3, none⟩) (Kd.R_far (p := ⟨gb459, 2, none⟩) (Kd.R_far (p := ⟨gb459, 1, none⟩) (Kd.R_far (p := ⟨gb459, 0, none⟩) (Kd.R_types HO442.out BK459.out zb20) (fun _ hk => hk.2) (.string t452)) (fun _ hk => hk.2) (.string t453)) (fun _ hk => hk.2) (.slice Ao33 t454.length co33)) (fun _ hk => hk.2) (.string t457)) (fun _ h_ => h_.1))) hb); have n1_ := Aside0.mk (Kd.R_below (by (with_reducible repeat (first | apply Kd.R_alloc | apply Kd.R_drewN | apply Kd.R_drew)); exact (Kd.R_mono (Kd.R_far (p := ⟨gb459, 3, none⟩) (Kd.R_far (p := ⟨gb459, 2, none⟩) (Kd.R_far (p := ⟨gb459, 1, none⟩) (Kd.R_far (p := ⟨gb459, 0, none⟩) (Kd.R_types HO446.out BK459.out zb20) (fun _ hk => hk.2) (.string t452)) (fun _ hk => hk.2) (.string t453)) (fun _ hk => hk.2) (.slice Ao33 t454.length co33)) (fun _ hk => hk.2) (.string t457)) (fun _ h_ => h_.1))) hb); have n2_ := Aside0.mk (Kd.R_below (by (with_reducible repeat (first | apply Kd.R_alloc | apply Kd.R_drewN | apply Kd.R_drew)); exact (Kd.R_mono (Kd.R_far (p := ⟨gb459, 3, none⟩) (Kd.R_far (p := ⟨gb459, 2, none⟩) (Kd.R_far (p := ⟨gb459, 1, none⟩) (Kd.R_far (p := ⟨gb459, 0, none⟩) (Kd.R_types HO450.out BK459.out zb20) (fun _ hk => hk.2) (.string t452)) (fun _ hk => hk.2) (.string t453)) (fun _ hk => hk.2) (.slice Ao33 t454.length co33)) (fun _ hk => hk.2) (.string t457)) (fun _ h_ => h_.1))) hb); have n3_ := Aside0.mk (Kd.R_elder' zb36 (Kd.R_base ho0) hb); have n4_ := Aside0.mk (Kd.R_lower (Kd.R_new' ho0 (Kd.R_lt zb36)) (below_size zb28)); have n5_ := Aside0.mk (blk_below (g := gb459) (o := .cells #[.string t452, .string t453, .slice Ao33 t454.length co33, .string t457] 36 (0, 0)) (by (with_reducible repeat (first | refine blk_drewN ?_ _ | refine blk_drew ?_ | refine blk_alloc ?_ _)); refine blk_put (cs := #[.string t452, .string t453, .slice Ao33 t454.length co33, .string (⟨#[]⟩ : ByteArray)]) ?_ 3 _ rfl; (with_reducible repeat (first | refine blk_drewN ?_ _ | refine blk_drew ?_ | refine blk_alloc ?_ _)); refine blk_put (cs := #[.string t452, .string t453, .slice none 0 0, .string (⟨#[]⟩ : ByteArray)]) ?_ 2 _ rfl; (with_reducible repeat (first | refine blk_drewN ?_ _ | refine blk_drew ?_ | refine blk_alloc ?_ _)); refine blk_put (cs := #[.string t452, .string (⟨#[]⟩ : ByteArray), .slice none 0 0, .string (⟨#[]⟩ : ByteArray)]) ?_ 1 _ rfl; (with_reducible repeat (first | refine blk_drewN ?_ _ | refine blk_drew ?_ | refine blk_alloc ?_ _)); refine blk_put (cs := #[.string (⟨#[]⟩ : ByteArray), .string (⟨#[]⟩ : ByteArray), .slice none 0 0, .string (⟨#[]⟩ : ByteArray)]) ?_ 0 _ rfl; (with_reducible repeat (first | refine blk_drewN ?_ _ | refine blk_drew ?_ | refine blk_alloc ?_ _)); exact BK459.out) hb); have n6_ := Aside0.mk (below_step zb28 hb); clear HO442; clear HO446; clear HO450; clear HO456; clear BK459; clear HB; have HO442 := n0_; have HO446 := n1_; have HO450 := n2_; have HO456 := n3_; have HO464 := n4_; have BK459 := n5_; have HB := n6_; clear n0_ n1_ n2_ n3_ n4_ n5_ n6_; (try clear hb); (try clear hb2); (try clear hk); (try clear hi); (try clear ho0)) | ((with_reducible refine gate_dst (N := 11) rfl ?_); refine box_event ?hg (N := 11) ?hd (cs := #[.string (⟨#[]⟩ : ByteArray), .string (⟨#[]⟩ : ByteArray), .slice none 0 0, .string (⟨#[]⟩ : ByteArray)]) (t := 36) ?hr ?_; (case hd => rfl); (case hg => rfl); (case hr => first | (go_simp; done) | (go_simp; rfl)); intro gb467 hg w35 hbox hb; have n0_ := Aside0.mk (Kd.R_below zb17 hb); have n1_ := Aside0.mk (Kd.R_below zb25 hb); have n2_ := Aside0.mk (Kd.R_below zb32 hb); have n3_ := Aside0.mk (Kd.R_below (by (with_reducible repeat (first | apply Kd.R_alloc | apply Kd.R_drewN | apply Kd.R_drew)); exact HO456.out) hb); have n4_ := Aside0.mk (Kd.R_below (by (with_reducible repeat (first | apply Kd.R_alloc | apply Kd.R_drewN | apply Kd.R_drew)); exact HO464.out) hb); have n5_ := Aside0.mk (blk_below (g := gb459) (o := .cells #[.string t452, .string t453, .slice Ao33 t454.length co33, .string t457] 36 (0, 0)) zb43 hb); have n6_ := Aside0.mk (below_step zb28 hb); have n7_ := Aside0.mk (hbox); have n8_ := Aside0.mk ((by rw [hg]; exact (below_size zb28) : w.heap.size ≤ gb467)); have n9_ := Aside0.mk ((by rw [hg]; exact (below_size zb28) : w.heap.size ≤ gb467)); have n10_ := Aside0.mk ((by rw [hg]; exact Nat.ne_of_lt (blk_lt (g := gb459) (o := .cells #[.string t452, .string t453, .slice Ao33 t454.length co33, .string t457] 36 (0, 0)) zb43) : gb459 ≠ gb467)); have n11_ := Aside0.mk ((by rw [hg]; exact Nat.ne_of_gt (blk_lt (g := gb459) (o := .cells #[.string t452, .string t453, .slice Ao33 t454.length co33, .string t457] 36 (0, 0)) zb43) : gb467 ≠ gb459)); clear HO442; clear HO446; clear HO450; clear HO456; clear HO464; clear BK459; clear HB; have HO442 := n0_; have HO446 := n1_; have HO450 := n2_; have HO456 := n3_; have HO464 := n4_; have BK459 := n5_; have HB := n6_; have BK467 := n7_; have GW467 := n8_; have GE467 := n9_; have NB459_467 := n10_; have NB467_459 := n11_; clear n0_ n1_ n2_ n3_ n4_ n5_ n6_ n7_ n8_ n9_ n10_ n11_; clear hb hbox hg; have hnb36 := NB467_459.out; have hnc36 := NB459_467.out; have hcz37_0 : w35.cell? ⟨gb467, 0, none⟩ = some (.string (⟨#[]⟩ : ByteArray)) := (blk_cell BK467.out 0).trans rfl; have hcz37_1 : w35.cell? ⟨gb467, 1, none⟩ = some (.string (⟨#[]⟩ : ByteArray)) := (blk_cell BK467.out 1).trans rfl; have hcz37_2 : w35.cell? ⟨gb467, 2, none⟩ = some (.slice none 0 0) := (blk_cell BK467.out 2).trans rfl; have hcz37_3 : w35.cell? ⟨gb467, 3, none⟩ = some (.string (⟨#[]⟩ : ByteArray)) := (blk_cell BK467.out 3).trans rfl; have hfz37_0 := blk_frozen BK467.out 0; have hfz37_1 := blk_frozen BK467.out 1; have hfz37_2 := blk_frozen BK467.out 2; have hfz37_3 := blk_frozen BK467.out 3; obtain ⟨Ao38, co38, eo38⟩ := Kd.R_slice HO464.out; subst eo38) | ((with_reducible refine gate_callee (f := 16) rfl ?_); refine goesL_ (some 41) rfl rfl Tryz.func16 zb12 rfl #[] rfl zb1 ?_; (with_reducible refine (broadsheetlaw20_awake.calls  true _ ?side1 A15.out (by first | rfl | exact hr)).mono ?_); (case side1 => exact Glob.below hGA.out zb29); rintro e w39 ⟨rfl, hb⟩; refine ⟨_, rfl, ?_⟩; have n0_ := Aside0.mk (Kd.R_below (by (with_reducible repeat (first | apply Kd.R_alloc | apply Kd.R_drewN | apply Kd.R_drew)); exact (Kd.R_mono (Kd.R_far (p := ⟨gb467, 3, none⟩) (Kd.R_far (p := ⟨gb467, 2, none⟩) (Kd.R_far (p := ⟨gb467, 1, none⟩) (Kd.R_far (p := ⟨gb467, 0, none⟩) (Kd.R_types HO442.out BK467.out zb20) (fun _ hk => hk.2) (.string t460)) (fun _ hk => hk.2) (.string t461)) (fun _ hk => hk.2) (.slice Ao38 t462.length co38)) (fun _ hk => hk.2) (.string t465)) (fun _ h_ => h_.1))) hb); have n1_ := Aside0.mk (Kd.R_below (by (with_reducible repeat (first | apply Kd.R_alloc | apply Kd.R_drewN | apply Kd.R_drew)); exact (Kd.R_mono (Kd.R_far (p := ⟨gb467, 3, none⟩) (Kd.R_far (p := ⟨gb467, 2, none⟩) (Kd.R_far (p := ⟨gb467, 1, none⟩) (Kd.R_far (p := ⟨gb467, 0, none⟩) (Kd.R_types HO446.out BK467.out zb20) (fun _ hk => hk.2) (.string t460)) (fun _ hk => hk.2) (.string t461)) (fun _ hk => hk.2) (.slice Ao38 t462.length co38)) (fun _ hk => hk.2) (.string t465)) (fun _ h_ => h_.1))) hb); have n2_ := Aside0.mk (Kd.R_below (by (with_reducible repeat (first | apply Kd.R_alloc | apply Kd.R_drewN | apply Kd.R_drew)); exact (Kd.R_mono (Kd.R_far (p := ⟨gb467, 3, none⟩) (Kd.R_far (p := ⟨gb467, 2, none⟩) (Kd.R_far (p := ⟨gb467, 1, none⟩) (Kd.R_far (p := ⟨gb467, 0, none⟩) (Kd.R_types HO450.out BK467.out zb20) (fun _ hk => hk.2) (.string t460)) (fun _ hk => hk.2) (.string t461)) (fun _ hk => hk.2) (.slice Ao38 t462.length co38)) (fun _ hk => hk.2) (.string t465)) (fun _ h_ => h_.1))) hb); have n3_ := Aside0.mk (Kd.R_below (by (with_reducible repeat (first | apply Kd.R_alloc | apply Kd.R_drewN | apply Kd.R_drew)); exact (Kd.R_mono (Kd.R_far (p := ⟨gb467, 3, none⟩) (Kd.R_far (p := ⟨gb467, 2, none⟩) (Kd.R_far (p := ⟨gb467, 1, none⟩) (Kd.R_far (p := ⟨gb467, 0, none⟩) (Kd.R_types HO456.out BK467.out zb20) (fun _ hk => hk.2) (.string t460)) (fun _ hk => hk.2) (.string t461)) (fun _ hk => hk.2) (.slice Ao38 t462.length co38)) (fun _ hk => hk.2) (.string t465)) (fun _ h_ => h_.1))) hb); have n4_ := Aside0.mk (Kd.R_below (by (with_reducible repeat (first | apply Kd.R_alloc | apply Kd.R_drewN | apply Kd.R_drew)); exact (Kd.R_mono (Kd.R_far (p := ⟨gb467, 3, none⟩) (Kd.R_far (p := ⟨gb467, 2, none⟩) (Kd.R_far (p := ⟨gb467, 1, none⟩) (Kd.R_far (p := ⟨gb467, 0, none⟩) (Kd.R_types HO464.out BK467.out zb20) (fun _ hk => hk.2) (.string t460)) (fun _ hk => hk.2) (.string t461)) (fun _ hk => hk.2) (.slice Ao38 t462.length co38)) (fun _ hk => hk.2) (.string t465)) (fun _ h_ => h_.1))) hb); have n5_ := Aside0.mk (blk_below (g := gb459) (o := .cells #[.string t452, .string t453, .slice Ao33 t454.length co33, .string t457] 36 (0, 0)) (by (with_reducible repeat (first | refine blk_drewN ?_ _ | refine blk_drew ?_ | refine blk_alloc ?_ _)); refine blk_far ?_ NB459_467.out _; (with_reducible repeat (first | refine blk_drewN ?_ _ | refine blk_drew ?_ | refine blk_alloc ?_ _)); refine blk_far ?_ NB459_467.out _; (with_reducible repeat (first | refine blk_drewN ?_ _ | refine blk_drew ?_ | refine blk_alloc ?_ _)); refine blk_far ?_ NB459_467.out _; (with_reducible repeat (first | refine blk_drewN ?_ _ | refine blk_drew ?_ | refine blk_alloc ?_ _)); refine blk_far ?_ NB459_467.out _; (with_reducible repeat (first | refine blk_drewN ?_ _ | refine blk_drew ?_ | refine blk_alloc ?_ _)); exact BK459.out) hb); have n6_ := Aside0.mk (blk_below (g := gb467) (o := .cells #[.string t460, .string t461, .slice Ao38 t462.length co38, .string t465] 36 (0, 0)) (by (with_reducible repeat (first | refine blk_drewN ?_ _ | refine blk_drew ?_ | refine blk_alloc ?_ _)); refine blk_put (cs := #[.string t460, .string t461, .slice Ao38 t462.length co38, .string (⟨#[]⟩ : ByteArray)]) ?_ 3 _ rfl; (with_reducible repeat (first | refine blk_drewN ?_ _ | refine blk_drew ?_ | refine blk_alloc ?_ _)); refine blk_put (cs := #[.string t460, .string t461, .slice none 0 0, .string (⟨#[]⟩ : ByteArray)]) ?_ 2 _ rfl; (with_reducible repeat (first | refine blk_drewN ?_ _ | refine blk_drew ?_ | refine blk_alloc ?_ _)); refine blk_put (cs := #[.string t460, .string (⟨#[]⟩ : ByteArray), .slice none 0 0, .string (⟨#[]⟩ : ByteArray)]) ?_ 1 _ rfl; (with_reducible repeat (first | refine blk_drewN ?_ _ | refine blk_drew ?_ | refine blk_alloc ?_ _)); refine blk_put (cs := #[.string (⟨#[]⟩ : ByteArray), .string (⟨#[]⟩ : ByteArray), .slice none 0 0, .string (⟨#[]⟩ : ByteArray)]) ?_ 0 _ rfl; (with_reducible repeat (first | refine blk_drewN ?_ _ | refine blk_drew ?_ | refine blk_alloc ?_ _)); exact BK467.out) hb); have n7_ := Aside0.mk (below_step zb29 hb); clear HO442; clear HO446; clear HO450; clear HO456; clear HO464; clear BK459; clear BK467; clear HB; have HO442 := n0_; have HO446 := n1_; have HO450 := n2_; have HO456 := n3_; have HO464 := n4_; have BK459 := n5_; have BK467 := n6_; have HB := n7_; clear n0_ n1_ n2_ n3_ n4_ n5_ n6_ n7_; (try clear hb); (try clear hb2); (try clear hk); (try clear hi); have hcz40_0 : w39.cell? ⟨gb459, 0, none⟩ = some (.string t452) := (blk_cell BK459.out 0).trans rfl; have hcz40_1 : w39.cell? ⟨gb459, 1, none⟩ = some (.string t453) := (blk_cell BK459.out 1).trans rfl; have hcz40_2 : w39.cell? ⟨gb459, 2, none⟩ = some (.slice Ao33 t454.length co33) := (blk_cell BK459.out 2).trans rfl; have hcz40_3 : w39.cell? ⟨gb459, 3, none⟩ = some (.string t457) := (blk_cell BK459.out 3).trans rfl; have hfz40_0 := blk_frozen BK459.out 0; have hfz40_1 := blk_frozen BK459.out 1; have hfz40_2 := blk_frozen BK459.out 2; have hfz40_3 := blk_frozen BK459.out 3; have hcz41_0 : w39.cell? ⟨gb467, 0, none⟩ = some (.string t460) := (blk_cell BK467.out 0).trans rfl; have hcz41_1 : w39.cell? ⟨gb467, 1, none⟩ = some (.string t461) := (blk_cell BK467.out 1).trans rfl; have hcz41_2 : w39.cell? ⟨gb467, 2, none⟩ = some (.slice Ao38 t462.length co38) := (blk_cell BK467.out 2).trans rfl; have hcz41_3 : w39.cell? ⟨gb467, 3, none⟩ = some (.string t465) := (blk_cell BK467.out 3).trans rfl; have hfz41_0 := blk_frozen BK467.out 0; have hfz41_1 := blk_frozen BK467.out 1; have hfz41_2 := blk_frozen BK467.out 2; have hfz41_3 := blk_frozen BK467.out 3) | (go_at_call 19; (with_reducible refine (broadsheetref20_Same.calls k t452 t453 _ _ t454 t457 t460 t461 _ _ t462 t465 true _ ?side1 ?side2 ?side3 ?side4 A17.out (by first | rfl | exact hr)).mono ?_); (case side1 => repeat (first | exact (Kd.R_reads' HO456.out).2.2 | (with_reducible refine Kd.C_alloc ?_ _) | (with_reducible refine Kd.C_drewN ?_ _) | (with_reducible refine Kd.C_drew ?_))); (case side2 => exact (Kd.R_reads' HO456.out).2.1); (case side3 => repeat (first | exact (Kd.R_reads' HO464.out).2.2 | (with_reducible refine Kd.C_alloc ?_ _) | (with_reducible refine Kd.C_drewN ?_ _) | (with_reducible refine Kd.C_drew ?_))); (case side4 => exact (Kd.R_reads' HO464.out).2.1); rintro e w42 ⟨rfl, hb⟩; have n0_ := Aside0.mk (Kd.R_below zb17 hb); have n1_ := Aside0.mk (Kd.R_below zb25 hb); have n2_ := Aside0.mk (Kd.R_below zb32 hb); have n3_ := Aside0.mk (Kd.R_below (by (with_reducible repeat (first | apply Kd.R_alloc | apply Kd.R_drewN | apply Kd.R_drew)); exact HO456.out) hb); have n4_ := Aside0.mk (Kd.R_below (by (with_reducible repeat (first | apply Kd.R_alloc | apply Kd.R_drewN | apply Kd.R_drew)); exact HO464.out) hb); have n5_ := Aside0.mk (blk_below (g := gb459) (o := .cells #[.string t452, .string t453, .slice Ao33 t454.length co33, .string t457] 36 (0, 0)) zb43 hb); have n6_ := Aside0.mk (blk_below (g := gb467) (o := .cells #[.string t460, .string t461, .slice Ao38 t462.length co38, .string t465] 36 (0, 0)) (by (with_reducible repeat (first | refine blk_drewN ?_ _ | refine blk_drew ?_ | refine blk_alloc ?_ _)); exact BK467.out) hb); have n7_ := Aside0.mk (below_step zb29 hb); clear HO442; clear HO446; clear HO450; clear HO456; clear HO464; clear BK459; clear BK467; clear HB; have HO442 := n0_; have HO446 := n1_; have HO450 := n2_; have HO456 := n3_; have HO464 := n4_; have BK459 := n5_; have BK467 := n6_; have HB := n7_; clear n0_ n1_ n2_ n3_ n4_ n5_ n6_ n7_; (try clear hb); (try clear hb2); (try clear hk); (try clear hi)))
         go_ret
         exact ⟨by first | rfl | (simp [errW_none, errW_some, bne_nil_] <;> rfl) | (simp only [← hji5]; first | rfl | (simp [errW_none, errW_some, bne_nil_] <;> rfl)) | (simp [*, errW_none, errW_some] <;> rfl), zb29⟩
        ·replace c18 := Bool.eq_false_iff.mpr c18
         subst c18
         replace H : (some false) = some r := by rw [if_neg (show ¬ (false = true) by decide)] at H; exact H
         exact absurd ((Option.some.inj H).trans hr) zb20
       ·replace c16 := Bool.eq_false_iff.mpr c16
        subst c16
        replace H : (some false) = some r := by rw [if_neg (show ¬ (false = true) by decide)] at H; exact H
        exact absurd ((Option.some.inj H).trans hr) zb20
      ·rw [if_neg c12] at H
       exact absurd H zb26
     ·rw [if_neg c10] at H
      exact absurd H zb26
    ·rw [if_neg c9] at H
     exact absurd H zb26
   ·rw [if_neg c7] at H
    exact absurd H zb26
  ·rw [if_neg c6] at H
   exact absurd H zb26
end Go.Proofs.YteonhdfjfjpbjaaGreatDoor.P
/- SpG -/
namespace Go.Proofs.YteonhdfjfjpbjaaGreatDoor.Sp
open Go Go.RowKit Go.Proofs.YteonhdfjfjpbjaaGreatDoorW.PrintWords Go.Proofs.YteonhdfjfjpbjaaGreatDoorW.PrintLast Go.Proofs.YteonhdfjfjpbjaaGreatDoor.O Go.Proofs.YteonhdfjfjpbjaaGreatDoor.P
set_option linter.unusedVariables false
set_option linter.unusedSimpArgs false
def hexR (c : UInt8) : Int := match hexV c with
  | some n => n
  | none => -1
theorem rhex_all : ∀ a : Fin 256, broadsheetref19_hex.f 2 ((UInt8.ofNat a.val).toNat : Int) = some (hexR (UInt8.ofNat a.val)) := by decide +kernel
theorem rhexF (c : UInt8) (k : Nat) (hk : 2 ≤ k) : broadsheetref19_hex.f k (c.toNat : Int) = some (hexR c) := by
  obtain ⟨k, rfl⟩ : ∃ k', k = k' + 2 := ⟨k - 2, by omega⟩
  obtain ⟨a, rfl⟩ := u8_fin c
  rw [← rhex_all a]
  rfl
theorem hexR_ge (c : UInt8) : decide (hexR c ≥ 0) = hexB c := by
  unfold hexR hexB
  cases hexV c with
  | none => rfl
  | some n => simp
/-- The size at a line's head. -/
def rsz (l : L) : Int × L := if l.takeWhile hexB = [] ∨ 8 < (l.takeWhile hexB).length then (-1, []) else (((hexN (l.takeWhile hexB) : Nat) : Int), l.dropWhile hexB)
theorem rsize_l0 (l : L) (hl : l.length ≤ 100000000000) : ∀ (d k i : Nat), i + d = l.length → 2 * d + 5 ≤ k → i ≤ 8 → (∀ c ∈ l.take i, hexB c = true) →
    broadsheetref19_size.l0 k (mk l) ((hexN (l.take i) : Nat) : Int) i = some ((rsz l).1, mk (rsz l).2) := by
  intro d
  induction d with
  | zero =>
    intro k i hi hk h8 hx
    obtain ⟨k, rfl⟩ : ∃ k', k = k' + 2 := ⟨k - 2, by omega⟩
    rw [broadsheetref19_size.l0, if_neg (by rw [mk_size]; omega), broadsheetref19_size.j1, if_neg (by decide)]
    rw [List.take_of_length_le (by omega)] at hx ⊢
    obtain ⟨t1, t2⟩ := takeWhile_all hx
    unfold rsz
    rw [t1, t2]
    by_cases h0 : i = 0
    · have : l = [] := List.eq_nil_of_length_eq_zero (by omega)
      rw [if_pos (by omega), if_pos (.inl this)]
      rfl
    · rw [if_neg (by omega), if_pos (by omega), if_pos (by rw [mk_size]; omega), if_neg (by
        rintro (h | h)
        · rw [h] at hi; simp at hi; omega
        · omega)]
      simp only [Int.toNat_natCast, ext_from]
      rw [List.drop_eq_nil_of_le (by omega)]
  | succ d ih =>
    intro k i hi hk h8 hx
    obtain ⟨k, rfl⟩ : ∃ k', k = k' + 2 := ⟨k - 2, by omega⟩
    obtain ⟨b, e1, e2⟩ := mk_bt l i (by omega)
    have hti : (l.take i).length = i := by rw [List.length_take]; omega
    have hdec : l = l.take i ++ (b :: l.drop (i + 1)) := by rw [← e1, List.take_append_drop]
    have et : l.take (i + 1) = l.take i ++ [b] := by
      have : (l.take i ++ (b :: l.drop (i + 1))).take (i + 1) = l.take i ++ [b] := by
        rw [List.take_append, hti]
        simp
        rw [List.take_of_length_le (by omega)]
      rw [← hdec] at this
      exact this
    rw [broadsheetref19_size.l0, if_pos (by rw [mk_size]; omega), if_pos (by omega), e2, rhexF b (k + 1) (by omega)]
    simp only [Option.bind_some]
    rw [hexR_ge, broadsheetref19_size.j1]
    cases hb : hexB b with
    | true =>
      rw [if_pos rfl]
      have htw : ∀ (n : Nat), n ≤ (l.takeWhile hexB).length ∨ True := fun _ => .inr trivial
      by_cases h8i : i = 8
      · -- nine digits
        have hlen : 8 < (l.takeWhile hexB).length := by
          have htw2 : l.takeWhile hexB = (l.take i ++ [b]) ++ (l.drop (i + 1)).takeWhile hexB := by
            have hall : ∀ c ∈ l.take i ++ [b], hexB c = true := by
              intro c hc
              rcases List.mem_append.1 hc with hc | hc
              · exact hx c hc
              · rw [List.mem_singleton.1 hc]; exact hb
            have hd2 : l = (l.take i ++ [b]) ++ l.drop (i + 1) := by rw [List.append_assoc]; exact hdec
            conv => lhs; rw [hd2]
            rw [List.takeWhile_append_of_pos hall]
          rw [htw2]
          simp only [List.length_append, List.length_singleton, hti]
          omega
        rw [if_pos (by omega)]
        unfold rsz
        rw [if_pos (.inr hlen)]
        rfl
      · rw [if_neg (by omega), if_pos (by omega), if_pos (by rw [mk_size]; omega), e2, rhexF b k (by omega)]
        simp only [Option.bind_some]
        have hv : hexR b = (((hexV b).getD 0 : Nat) : Int) := by
          unfold hexR
          unfold hexB at hb
          cases e : hexV b with
          | none => rw [e] at hb; simp at hb
          | some n => rfl
        have hlt := hexN_lt (l.take i)
        rw [hti] at hlt
        have h16 : 16 ^ i ≤ 16 ^ 8 := Nat.pow_le_pow_right (by decide) (by omega)
        have hpow : (16 : Nat) ^ 8 = 4294967296 := by decide
        have hvl := hexV_lt b
        rw [hv, wrap_id (x := ((hexN (l.take i) : Nat) : Int) * 16) (by omega) (by omega), wrap_id (by omega) (by omega), w1 i (by omega)]
        have e3 : ((hexN (l.take i) : Nat) : Int) * 16 + (((hexV b).getD 0 : Nat) : Int) = ((hexN (l.take (i + 1)) : Nat) : Int) := by rw [et, hexN_snoc]; omega
        rw [e3]
        refine ih k (i + 1) (by omega) (by omega) (by omega) (fun c hc => ?_)
        rw [et] at hc
        rcases List.mem_append.1 hc with hc | hc
        · exact hx c hc
        · rw [List.mem_singleton.1 hc]; exact hb
    | false =>
      have htw : l.takeWhile hexB = l.take i ∧ l.dropWhile hexB = b :: l.drop (i + 1) := by
        have h1 : (l.take i ++ (b :: l.drop (i + 1))).takeWhile hexB = l.take i := by
          rw [List.takeWhile_append_of_pos hx, List.takeWhile_cons_of_neg (by rw [hb]; simp), List.append_nil]
        have h2 : (l.take i ++ (b :: l.drop (i + 1))).dropWhile hexB = b :: l.drop (i + 1) := by
          rw [List.dropWhile_append_of_pos hx, List.dropWhile_cons_of_neg (by rw [hb]; simp)]
        rw [← hdec] at h1 h2
        exact ⟨h1, h2⟩
      unfold rsz
      rw [if_neg (by decide), htw.1, htw.2]
      by_cases h0 : i = 0
      · subst h0
        rw [if_pos (by omega), if_pos (.inl (by simp))]
        rfl
      · rw [if_neg (by omega), if_pos (by omega), if_pos (by rw [mk_size]; omega), if_neg (by
          rintro (h | h)
          · rw [h] at hti; simp at hti; omega
          · omega)]
        simp only [Int.toNat_natCast, ext_from]
        rw [e1]
theorem rsizeF (l : L) (k : Nat) (hl : l.length ≤ 100000000000) (hk : 2 * l.length + 5 ≤ k) : broadsheetref19_size.f k (mk l) = some ((rsz l).1, mk (rsz l).2) := by
  have := rsize_l0 l hl l.length k 0 (by omega) hk (by omega) (by simp)
  exact this
theorem two_at (s : L) (n : Nat) (h : n + 2 ≤ s.length) : ((s.drop n).take 2 = [13, 10]) ↔ (bt (mk s) n = 13 ∧ bt (mk s) ((n + 1 : Nat) : Int) = 10) := by
  obtain ⟨a, e1, e2⟩ := mk_bt s n (by omega)
  obtain ⟨b, e3, e4⟩ := mk_bt s (n + 1) (by omega)
  rw [e1, e3, e2, e4]
  have h13 : ((a.toNat : Int) = 13) ↔ a = 13 := u8i a 13 (by omega)
  have h10 : ((b.toNat : Int) = 10) ↔ b = 10 := u8i b 10 (by omega)
  rw [h13, h10]
  simp
theorem rdecode_l0 : ∀ (d f k : Nat) (s acc : L), s.length ≤ d → d < f → 8 * d + 40 ≤ k → s.length ≤ 10000000000 → acc.length ≤ 100000 →
    broadsheetref19_Decode.l0 k (mk s) (mk acc) = some (txt3 (decode f s acc)) := by
  intro d
  induction d with
  | zero =>
    intro f k s acc hs hf hk hl ha
    obtain ⟨k, rfl⟩ : ∃ k', k = k' + 2 := ⟨k - 2, by omega⟩
    obtain ⟨f, rfl⟩ : ∃ f', f = f' + 1 := ⟨f - 1, by omega⟩
    obtain rfl : s = [] := List.eq_nil_of_length_eq_zero (by omega)
    rw [broadsheetref19_Decode.l0, rLineF [] (k + 1) (by simp) (by simp), decode]
    simp only [Option.bind_some, line]
    rw [if_neg (by decide)]
    rfl
  | succ d ih =>
    intro f k s acc hs hf hk hl ha
    obtain ⟨k, rfl⟩ : ∃ k', k = k' + 2 := ⟨k - 2, by omega⟩
    obtain ⟨f, rfl⟩ : ∃ f', f = f' + 1 := ⟨f - 1, by omega⟩
    rw [broadsheetref19_Decode.l0, rLineF s (k + 1) (by omega) (by omega), decode]
    cases e1 : line s with
    | none =>
      simp only [Option.bind_some]
      rw [if_neg (by decide)]
      rfl
    | some p =>
      obtain ⟨l, more⟩ := p
      have hll := congrArg List.length (line_len s _ e1)
      simp only [List.length_append, List.length_cons] at hll
      simp only [Option.bind_some, if_true]
      rw [rsizeF l (k + 1) (by omega) (by omega)]
      simp only [Option.bind_some]
      have hdl := dw_len hexB l
      have hrl : (rsz l).2.length ≤ l.length := by
        unfold rsz
        split
        · simp
        · exact hdl
      obtain ⟨q, hq, hp⟩ := rparamsF (rsz l).2 (k + 1) (by omega) (by omega)
      rw [hq]
      simp only [Option.bind_some]
      rw [parsIs_ok hp]
      by_cases hc : l.takeWhile hexB = [] ∨ 8 < (l.takeWhile hexB).length
      · have hz : csize l = none := by
          unfold csize
          rw [if_pos (hc.elim .inl (fun h => .inr (.inl h)))]
        have hr : rsz l = (-1, []) := by unfold rsz; rw [if_pos hc]
        rw [hr, if_pos (by decide), broadsheetref19_Decode.j1, if_pos rfl, hz]
        rfl
      · have hr : rsz l = (((hexN (l.takeWhile hexB) : Nat) : Int), l.dropWhile hexB) := by unfold rsz; rw [if_neg hc]
        rw [hr, if_neg (by simp only; omega), broadsheetref19_Decode.j1]
        simp only
        cases ep : pars (l.dropWhile hexB) with
        | none =>
          have hz : csize l = none := by unfold csize; rw [if_pos (.inr (.inr ep))]
          rw [if_pos (by rfl), hz]
          rfl
        | some ps =>
          have hz : csize l = some (hexN (l.takeWhile hexB)) := by
            unfold csize
            rw [if_neg (by
              rintro (h | h | h)
              · exact hc (.inl h)
              · exact hc (.inr h)
              · rw [ep] at h; simp at h)]
          have hmb := csize_lt hz
          rw [if_neg (by simp), hz]
          simp only
          generalize hexN (l.takeWhile hexB) = m at *
          by_cases h0 : m = 0
          · rw [if_pos (by omega), if_pos h0, rparseF more k (by omega) (by omega)]
            simp only [Option.bind_some]
            by_cases hz2 : (fields more).2.2 = 0
            · rw [if_pos (show (fldB (fields more)).2.2 = 0 from hz2), if_pos hz2]
              rfl
            · rw [if_neg (show ¬ (fldB (fields more)).2.2 = 0 from hz2), if_neg hz2]
              rfl
          · have hw : wrap64 (100000 - (((mk acc).size : Nat) : Int)) = ((100000 - acc.length : Nat) : Int) := by rw [mk_size, wrap_id (by omega) (by omega)]; omega
            rw [if_neg (by omega), if_neg h0, hw]
            by_cases h1 : m + acc.length > 100000
            · rw [if_pos (by omega), if_pos h1]
              rfl
            rw [if_neg (by omega), if_neg h1, w2 m (by omega), w1 m (by omega), mk_size]
            by_cases h2 : more.length < m + 2
            · rw [if_pos (by omega)]
              by_cases h2' : more.length < m
              · rw [if_pos h2']; rfl
              · rw [if_neg h2', if_pos (by
                  intro h
                  have := congrArg List.length h
                  rw [List.length_take, List.length_drop] at this
                  simp at this
                  omega)]
                rfl
            rw [if_neg (by omega), if_neg (show ¬ more.length < m by omega), if_pos (by omega), if_pos (by omega)]
            have h2at := two_at more m (by omega)
            by_cases h13 : bt (mk more) m = 13
            · rw [if_pos h13, if_pos (by omega), if_pos (by omega)]
              by_cases h10 : bt (mk more) ((m + 1 : Nat) : Int) = 10
              · rw [if_pos h10, if_pos (by omega)]
                have h3 : ¬ ((more.drop m).take 2 ≠ [13, 10]) := fun h => h (h2at.2 ⟨h13, h10⟩)
                have htl : (more.take m).length = m := by rw [List.length_take]; omega
                simp only [Int.toNat_natCast, ext_to]
                rw [if_pos (by rw [mk_size, mk_size, htl]; omega), if_pos (by omega), if_pos (by omega), if_neg h3, mk_append]
                have e2 : (mk more).extract (m + 2) more.length = mk (more.drop (m + 2)) := by
                  have := ext_from more (m + 2)
                  rw [mk_size] at this
                  exact this
                rw [e2]
                exact ih f k (more.drop (m + 2)) (acc ++ more.take m) (by rw [List.length_drop]; omega) (by omega) (by omega) (by rw [List.length_drop]; omega) (by rw [List.length_append, htl]; omega)
              · rw [if_neg h10, if_pos (fun h => h10 (h2at.1 h).2)]
                rfl
            · rw [if_neg h13, if_pos (fun h => h13 (h2at.1 h).1)]
              rfl
theorem rdecodeF (s : L) (k : Nat) (hs : s.length ≤ 10000000000) (hk : 8 * s.length + 40 ≤ k) : broadsheetref19_Decode.f k (mk s) = some (txt3 (dec s)) :=
  rdecode_l0 s.length (s.length + 1) k s [] (Nat.le_refl _) (by omega) hk hs (by simp)
end Go.Proofs.YteonhdfjfjpbjaaGreatDoor.Sp
/- SpT -/
namespace Go.Proofs.YteonhdfjfjpbjaaGreatDoor.Sp
open Go.RowKit Go.Proofs.YteonhdfjfjpbjaaGreatDoorW.PrintWords Go.Proofs.YteonhdfjfjpbjaaGreatDoorW.PrintLast Go.Proofs.YteonhdfjfjpbjaaGreatDoor.O Go.Proofs.YteonhdfjfjpbjaaGreatDoor.P
set_option linter.unusedVariables false
set_option linter.unusedSimpArgs false
def tgB (c : UInt8) : Bool := decide (32 < c.toNat) && decide (c.toNat ≤ 126) && decide (c.toNat ≠ 35)
theorem odd_ch (b : UInt8) : oddT b.toNat = !tgB b := by
  unfold oddT tgB
  rw [Bool.eq_iff_iff]
  simp
theorem odd_high (x : Nat) (h : 128 ≤ x) : oddT x = true := by
  unfold oddT
  simp
  omega
theorem tg_low (b : UInt8) (h : tgB b = true) : b.toNat < 128 := by
  unfold tgB at h
  simp at h
  omega
theorem drop_bt' (s : ByteArray) (i : Nat) (h : i < s.size) : ∃ b : UInt8, s.data.toList.drop i = b :: s.data.toList.drop (i + 1) ∧ s[i]'h = b := by
  have h' : i < s.data.toList.length := by rw [← Lib.size_eq]; exact h
  refine ⟨s.data.toList[i], List.drop_eq_getElem_cons h', ?_⟩
  rw [Array.getElem_toList]
  rfl
theorem idx_all (s : ByteArray) : ∀ (f pos : Nat), s.size - pos ≤ f → (Lib.idxFuncFrom oddT true s f pos = -1 ↔ (s.data.toList.drop pos).all tgB = true)
  | f, pos, hf => by
    by_cases hp : pos < s.size
    · obtain ⟨b, e1, e3⟩ := drop_bt' s pos hp
      cases f with
      | zero => omega
      | succ f =>
        unfold Lib.idxFuncFrom
        rw [if_pos hp, e1, List.all_cons]
        by_cases ha : b.toNat < 128
        · have hd := decode_ascii s pos hp (by rw [e3]; exact ha)
          rw [e3] at hd
          rw [hd, odd_ch]
          cases hc : tgB b with
          | true =>
            rw [if_neg (by decide)]
            rw [idx_all s f (pos + 1) (by omega)]
            simp
          | false =>
            rw [if_pos (by decide)]
            simp
        · have hd := decode_high s pos hp (by rw [e3]; omega)
          rw [if_pos (odd_high _ hd.1)]
          have : tgB b = false := by
            cases hc : tgB b with
            | true => exact absurd (tg_low b hc) ha
            | false => rfl
          rw [this]
          simp
    · rw [Lib.idxFuncFrom_end _ _ _ _ _ hp, List.drop_eq_nil_of_le (by rw [← Lib.size_eq]; omega)]
      simp
theorem target_eq (l : L) : targetB (mk l) = (decide (l.head? = some 47) && l.all tgB) := by
  unfold targetB
  rw [mk_data]
  by_cases h : l.head? = some 47
  · rw [if_pos h]
    have key := idx_all (mk l) (mk l).size 0 (by omega)
    rw [List.drop_zero, mk_data] at key
    have hr := Lib.idxFunc_range oddT true (mk l)
    unfold Lib.idxFunc at hr ⊢
    have : (!decide (0 ≤ Lib.idxFuncFrom oddT true (mk l) (mk l).size 0)) = l.all tgB := by
      rw [Bool.eq_iff_iff, ← key]
      simp
      omega
    rw [this]
    simp [h]
  · rw [if_neg h]
    simp [h]
theorem rtarget_l0 (l : L) (hl : l.length ≤ 1000000000) : ∀ (d k i : Nat), i + d = l.length → d < k → broadsheetref20_target.l0 k (mk l) (i : Int) = some ((l.drop i).all tgB) := by
  intro d
  induction d with
  | zero =>
    intro k i hi hk
    obtain ⟨k, rfl⟩ : ∃ k', k = k' + 1 := ⟨k - 1, by omega⟩
    rw [broadsheetref20_target.l0, if_neg (by rw [mk_size]; omega), List.drop_eq_nil_of_le (by omega)]
    rfl
  | succ d ih =>
    intro k i hi hk
    obtain ⟨k, rfl⟩ : ∃ k', k = k' + 1 := ⟨k - 1, by omega⟩
    obtain ⟨b, e1, e2⟩ := mk_bt l i (by omega)
    have hw : wrap64 ((i : Int) + 1) = ((i + 1 : Nat) : Int) := by rw [wrap_id (by omega) (by omega)]; omega
    rw [broadsheetref20_target.l0, if_pos (by rw [mk_size]; omega), if_pos (by omega), e1, List.all_cons, e2, hw, ih k (i + 1) (by omega) (by omega)]
    unfold tgB
    by_cases h1 : (b.toNat : Int) < 33
    · rw [if_pos h1]
      simp [show ¬ 32 < b.toNat by omega]
    · rw [if_neg h1]
      by_cases h2 : (b.toNat : Int) > 126
      · rw [if_pos h2]
        simp [show ¬ b.toNat ≤ 126 by omega]
      · rw [if_neg h2]
        by_cases h3 : (b.toNat : Int) = 35
        · rw [if_pos h3]
          simp [show b.toNat = 35 by omega]
        · rw [if_neg h3]
          simp [show 32 < b.toNat by omega, show b.toNat ≤ 126 by omega, show ¬ b.toNat = 35 by omega]
theorem rtargetF (l : L) (k : Nat) (hl : l.length ≤ 1000000000) (hk : l.length + 2 ≤ k) : broadsheetref20_target.f k (mk l) = some (targetB (mk l)) := by
  obtain ⟨k, rfl⟩ : ∃ k', k = k' + 1 := ⟨k - 1, by omega⟩
  rw [target_eq]
  unfold broadsheetref20_target.f
  rw [tl_mk]
  cases l with
  | nil => rfl
  | cons c r =>
    rw [if_neg (by simp), if_pos (by rw [mk_size]; simp), bt_head, broadsheetref20_target.j0]
    have hc : ((c.toNat : Int) = 47) ↔ c = 47 := u8i c 47 (by omega)
    by_cases h : c = 47
    · rw [if_neg (by simp [hc.2 h]), show (0 : Int) = ((0 : Nat) : Int) from rfl, rtarget_l0 (c :: r) hl (c :: r).length k 0 (by omega) (by omega), List.drop_zero]
      simp [h]
    · rw [if_pos (by simpa using fun e => h (hc.1 e))]
      simp [h]
theorem rsplit_l0 (s : L) (c : UInt8) (hs : s.length ≤ 1000000) : ∀ (d k i a : Nat) (acc : List L), i + d = s.length → a ≤ i → d + 1 < k → acc.length ≤ i → (∀ x ∈ (s.drop a).take (i - a), x ≠ c) →
    broadsheetref03_Split.l0 k (mk s) (c.toNat : Int) (acc.map mk) (a : Int) (i : Int) = some ((acc ++ Mn.cut c (s.drop a)).map mk) := by
  intro d
  induction d with
  | zero =>
    intro k i a acc hi ha hk hl hx
    obtain ⟨k, rfl⟩ : ∃ k', k = k' + 2 := ⟨k - 2, by omega⟩
    obtain rfl : i = s.length := by omega
    have hw : wrap64 ((s.length : Int) + 1) = ((s.length + 1 : Nat) : Int) := by rw [wrap_id (by omega) (by omega)]; omega
    rw [broadsheetref03_Split.l0, if_pos (by rw [mk_size]; omega), if_pos (by rw [mk_size]), if_pos (by omega), if_pos (by omega), if_pos (by rw [List.length_map]; omega), hw, broadsheetref03_Split.l0, if_neg (by rw [mk_size]; omega)]
    have hc : c ∉ s.drop a := fun hm => hx c (by rw [List.take_of_length_le (by rw [List.length_drop]; omega)]; exact hm) rfl
    rw [Mn.cut_none c _ hc, List.map_append, Int.toNat_natCast, Int.toNat_natCast, ext_mk, List.take_of_length_le (by rw [List.length_drop]; omega)]
    rfl
  | succ d ih =>
    intro k i a acc hi ha hk hl hx
    obtain ⟨k, rfl⟩ : ∃ k', k = k' + 1 := ⟨k - 1, by omega⟩
    have hlt : i < s.length := by omega
    obtain ⟨b, e1, e2⟩ := mk_bt s i hlt
    have hw : wrap64 ((i : Int) + 1) = ((i + 1 : Nat) : Int) := by rw [wrap_id (by omega) (by omega)]; omega
    have hsp : s.drop a = (s.drop a).take (i - a) ++ b :: s.drop (i + 1) := by
      have := (List.take_append_drop (i - a) (s.drop a)).symm
      rw [List.drop_drop, show a + (i - a) = i by omega, e1] at this
      exact this
    rw [broadsheetref03_Split.l0, if_pos (by rw [mk_size]; omega), if_neg (by rw [mk_size]; omega), if_pos (by omega), if_pos (by rw [mk_size]; omega), e2]
    by_cases h : b = c
    · subst h
      rw [if_pos rfl, if_pos (by omega), if_pos (by omega), if_pos (by rw [List.length_map]; omega), hw, Int.toNat_natCast, Int.toNat_natCast, ext_mk]
      have := ih k (i + 1) (i + 1) (acc ++ [(s.drop a).take (i - a)]) (by omega) (Nat.le_refl _) (by omega) (by rw [List.length_append, List.length_singleton]; omega) (by simp)
      rw [List.map_append] at this
      refine Eq.trans this ?_
      have hn : b ∉ (s.drop a).take (i - a) := fun hm => hx b hm rfl
      conv => rhs; rw [hsp, Mn.cut_app b _ _ hn]
      simp
    · rw [if_neg (fun e => h (UInt8.toNat_inj.1 (by omega))), hw]
      refine ih k (i + 1) a acc (by omega) (by omega) (by omega) (by omega) (fun x hm => ?_)
      have ht : (s.drop a).take (i + 1 - a) = (s.drop a).take (i - a) ++ [b] := by
        have hl2 : ((s.drop a).take (i - a)).length = i - a := by rw [List.length_take, List.length_drop]; omega
        conv => lhs; rw [hsp]
        rw [List.take_append, List.take_of_length_le (by omega), hl2, show i + 1 - a - (i - a) = 1 by omega]
        rfl
      rw [ht] at hm
      rcases List.mem_append.1 hm with hm | hm
      · exact hx x hm
      · rw [List.mem_singleton.1 hm]
        exact h
theorem rsplitF (s : L) (c : UInt8) (k : Nat) (hs : s.length ≤ 1000000) (hk : s.length + 1 < k) : broadsheetref03_Split.f k (mk s) (c.toNat : Int) = some ((Mn.cut c s).map mk) := by
  have := rsplit_l0 s c hs s.length k 0 0 [] (by omega) (Nat.le_refl _) hk (Nat.le_refl _) (by simp)
  rw [List.drop_zero, List.nil_append] at this
  exact this
theorem tok_whole {a : L} (h : (tok a).2 = []) : (tok a).1 = a := by
  have := (tok_parts a).1
  rw [h, List.append_nil] at this
  exact this.symm
theorem rfirstF (l : L) (k : Nat) (hl : l.length ≤ 1000000) (hk : l.length + 10 ≤ k) :
    ∃ q, broadsheetref20_first.f k (mk l) = some q ∧ q.2.2 = (match Mn.cut 32 l with
      | [a, b, c] => firstS a b c
      | _ => false) ∧ (∀ a b c, Mn.cut 32 l = [a, b, c] → q.2.2 = true → q.1 = mk a ∧ q.2.1 = mk b) := by
  have hp := Mn.cut_part 32 l
  have hs := rsplitF l 32 k hl (by omega)
  rw [show (((32 : UInt8).toNat : Nat) : Int) = 32 from rfl] at hs
  unfold broadsheetref20_first.f
  rw [hs]
  simp only [Option.bind_some]
  generalize Mn.cut 32 l = ws at *
  match ws, hp with
  | [a, b, c], hp =>
    have ha := hp a (by simp)
    have hb := hp b (by simp)
    rw [if_pos (by simp), if_pos (by simp), show rdOf ByteArray.empty ([a, b, c].map mk) 2 = mk c from rfl, show rdOf ByteArray.empty ([a, b, c].map mk) 1 = mk b from rfl, show rdOf ByteArray.empty ([a, b, c].map mk) 0 = mk a from rfl, tl_mk, show ([72, 84, 84, 80, 47, 49, 46, 49] : List UInt8) = httpL from rfl]
    unfold firstS
    by_cases h1 : c = httpL
    · rw [if_pos h1, if_pos (by simp), rtargetF b k (by omega) (by omega)]
      simp only [Option.bind_some]
      by_cases h2 : targetB (mk b) = true
      · rw [if_pos h2, if_pos (by simp), rtokF a k (by omega) (by omega)]
        simp only [Option.bind_some, tl_mk]
        by_cases h3 : (tok a).1 = []
        · rw [if_pos h3]
          exact ⟨_, rfl, by simp [h3], fun _ _ _ _ h => absurd h (by simp)⟩
        · rw [if_neg h3]
          refine ⟨_, rfl, ?_, ?_⟩
          · by_cases h4 : (tok a).2 = [] <;> simp [h1, h2, h3, h4]
          · intro a' b' c' he ht
            simp only [List.cons.injEq, and_true] at he
            obtain ⟨rfl, rfl, rfl⟩ := he
            exact ⟨congrArg mk (tok_whole (by simpa using ht)), rfl⟩
      · rw [if_neg h2]
        exact ⟨_, rfl, by simp [h2], fun _ _ _ _ h => absurd h (by decide)⟩
    · rw [if_neg h1]
      exact ⟨_, rfl, by simp [h1], fun _ _ _ _ h => absurd h (by decide)⟩
  | [], _ => rw [if_neg (by simp)]; exact ⟨_, rfl, rfl, fun _ _ _ h => by simp at h⟩
  | [_], _ => rw [if_neg (by simp)]; exact ⟨_, rfl, rfl, fun _ _ _ h => by simp at h⟩
  | [_, _], _ => rw [if_neg (by simp)]; exact ⟨_, rfl, rfl, fun _ _ _ h => by simp at h⟩
  | _ :: _ :: _ :: _ :: r, _ => rw [if_neg (by simp only [List.map_cons, List.length_cons]; omega)]; exact ⟨_, rfl, rfl, fun _ _ _ h => by simp at h⟩
theorem rsz20_l0 (a : L) (ha : a.length ≤ 9) : ∀ (d k i n : Nat), i + d = a.length → d < k → n < 10 ^ i → broadsheetref20_size.l0 k (mk a) n i = some (if (a.drop i).all digB = true then ((numN n (a.drop i) : Nat) : Int) else -1) := by
  intro d
  induction d with
  | zero =>
    intro k i n hi hk hn
    obtain ⟨k, rfl⟩ : ∃ k', k = k' + 1 := ⟨k - 1, by omega⟩
    rw [broadsheetref20_size.l0, if_neg (by rw [mk_size]; omega), List.drop_eq_nil_of_le (by omega)]
    rfl
  | succ d ih =>
    intro k i n hi hk hn
    obtain ⟨k, rfl⟩ : ∃ k', k = k' + 1 := ⟨k - 1, by omega⟩
    obtain ⟨b, e1, e2⟩ := mk_bt a i (by omega)
    have hb := b.toNat_lt
    have h9 : 10 ^ i ≤ 10 ^ 9 := Nat.pow_le_pow_right (by decide) (by omega)
    have hp : (10 : Nat) ^ 9 = 1000000000 := by decide
    rw [broadsheetref20_size.l0, if_pos (by rw [mk_size]; omega), if_pos (by omega), e1, e2, List.all_cons]
    by_cases h1 : (b.toNat : Int) < 48
    · have hd : digB b = false := by unfold digB; simp; omega
      rw [if_pos h1, hd]; rfl
    · by_cases h2 : (b.toNat : Int) > 57
      · have hd : digB b = false := by unfold digB; simp; omega
        rw [if_neg h1, if_pos h2, hd]; rfl
      · have hd : digB b = true := by unfold digB; simp; omega
        have e3 : wrap64 (wrap64 (wrap64 ((n : Int) * 10) + wrap64 (b.toNat : Int)) - 48) = ((n * 10 + (b.toNat - 48) : Nat) : Int) := by
          rw [wrap_id (x := (n : Int) * 10) (by omega) (by omega), wrap_id (x := (b.toNat : Int)) (by omega) (by omega), wrap_id (x := (n : Int) * 10 + (b.toNat : Int)) (by omega) (by omega), wrap_id (by omega) (by omega)]
          omega
        rw [if_neg h1, if_neg h2, e3, w1 i (by omega), hd, ih k (i + 1) _ (by omega) (by omega) (by rw [Nat.pow_succ]; omega), Bool.true_and]
        rfl
theorem rsz20F (a : L) (k : Nat) (hk : 12 ≤ k) : broadsheetref20_size.f k (mk a) = some (match sizeS a with
    | none => -1
    | some n => ((n : Nat) : Int)) := by
  obtain ⟨k, rfl⟩ : ∃ k', k = k' + 1 := ⟨k - 1, by omega⟩
  unfold broadsheetref20_size.f sizeS
  rw [tl_mk]
  by_cases h0 : a = []
  · rw [if_pos h0, if_pos (Or.inl h0), broadsheetref20_size.j0, if_pos rfl]
  · rw [if_neg h0, broadsheetref20_size.j0, mk_size]
    by_cases h9 : 9 < a.length
    · rw [if_pos (decide_eq_true (by omega)), if_pos (Or.inr (Or.inl h9))]
    · have key : broadsheetref20_size.l0 k (mk a) 0 0 = _ := rsz20_l0 a (by omega) a.length k 0 0 (by omega) (by omega) (by decide)
      rw [decide_eq_false (by omega), if_neg (by decide), key, List.drop_zero]
      by_cases hd : a.all digB = true
      · rw [if_pos hd, if_neg (by simp [h0, h9, hd])]
      · rw [if_neg hd, if_pos (Or.inr (Or.inr (by simpa using hd)))]
theorem join_snoc (acc : List L) (v sep : L) (h : acc ≠ []) : Lib.join (acc ++ [v]) sep = Lib.join acc sep ++ sep ++ v := by
  obtain ⟨x, r, rfl⟩ := List.exists_cons_of_ne_nil h
  rw [List.cons_append, Lib.join_cons, Lib.join_cons]
  unfold Lib.joinTail
  simp
theorem join_one (v sep : L) : Lib.join [v] sep = v := by rw [Lib.join_cons]; simp [Lib.joinTail]
theorem join_le (acc r : List L) (sep : L) : (Lib.join acc sep).length ≤ (Lib.join (acc ++ r) sep).length := by
  cases acc with
  | nil => rw [Lib.join_nil]; simp
  | cons x t =>
    rw [List.cons_append, Lib.join_cons, Lib.join_cons]
    unfold Lib.joinTail
    simp
theorem rget_l0 (l : List (L × L)) (n : L) (M : Nat) (hM : M ≤ 1000000) (hn : n.length ≤ M) (hl : l.length ≤ 1000000) (hp : ∀ p ∈ l, p.1.length ≤ M) : ∀ (d k i : Nat) (acc : List L), i + d = l.length → d + M + 1 < k → acc.length ≤ i → (Lib.join (acc ++ vals (l.drop i) n) [44, 32]).length ≤ 140737488355328 →
    broadsheetref18_Get.l0 k (pairsB l) (mk n) (mk (Lib.join acc [44, 32])) (acc.length : Int) (i : Int) = some (mk (Lib.join (acc ++ vals (l.drop i) n) [44, 32]), ((acc ++ vals (l.drop i) n).length : Int)) := by
  intro d
  induction d with
  | zero =>
    intro k i acc hi hk ha hj
    obtain ⟨k, rfl⟩ : ∃ k', k = k' + 1 := ⟨k - 1, by omega⟩
    rw [List.drop_eq_nil_of_le (by omega)] at hj ⊢
    rw [show vals [] n = [] from rfl, List.append_nil] at hj ⊢
    rw [broadsheetref18_Get.l0, if_neg (by rw [pairsB_len]; omega)]
  | succ d ih =>
    intro k i acc hi hk ha hj
    obtain ⟨k, rfl⟩ : ∃ k', k = k' + 1 := ⟨k - 1, by omega⟩
    have hlt : i < l.length := by omega
    have hmem := hp l[i] (List.getElem_mem hlt)
    rw [List.drop_eq_getElem_cons hlt, vals_cons] at hj ⊢
    rw [broadsheetref18_Get.l0, if_pos (by rw [pairsB_len]; omega), if_pos (by omega), rd_pairs l i l[i] (List.getElem?_eq_getElem hlt), rlowF _ _ (by omega) (by omega), Option.bind_some, rlowF _ _ (by omega) (by omega), Option.bind_some, tl_mk, tl_mk, w1 i (by omega), w1 acc.length (by omega)]
    by_cases h : low l[i].1 = low n
    · rw [if_pos h] at hj ⊢
      rw [if_pos h]
      have hstep := ih k (i + 1) (acc ++ [l[i].2]) (by omega) (by omega) (by rw [List.length_append, List.length_singleton]; omega) (by rw [List.append_assoc]; exact hj)
      rw [List.append_assoc, List.length_append, List.length_singleton] at hstep
      have hle := join_le (acc ++ [l[i].2]) (vals (l.drop (i + 1)) n) [44, 32]
      rw [List.append_assoc] at hle
      have hle2 := Nat.le_trans hle hj
      by_cases h0 : acc = []
      · subst h0
        rw [List.nil_append, join_one] at hle2 hstep
        rw [if_neg (by simp), if_pos (by rw [mk_size, mk_size, Lib.join_nil]; simp only [List.length_nil]; omega), mk_append, Lib.join_nil]
        exact hstep
      · have hpos := List.length_pos_iff.2 h0
        rw [join_snoc _ _ _ h0] at hle2 hstep
        simp only [List.length_append, List.length_cons, List.length_nil] at hle2
        rw [if_pos (by omega), show (⟨#[44, 32]⟩ : ByteArray) = mk [44, 32] from rfl, if_pos (by rw [mk_size]; omega), mk_append, if_pos (by rw [mk_size, mk_size, List.length_append]; simp only [List.length_cons, List.length_nil]; omega), mk_append]
        exact hstep
    · rw [if_neg h] at hj ⊢
      rw [if_neg h]
      exact ih k (i + 1) acc (by omega) (by omega) (by omega) hj
theorem rgetF (l : List (L × L)) (n : L) (M k : Nat) (hM : M ≤ 1000000) (hn : n.length ≤ M) (hl : l.length ≤ 1000000) (hp : ∀ p ∈ l, p.1.length ≤ M) (hj : (get l n).1.length ≤ 140737488355328) (hk : l.length + M + 1 < k) : broadsheetref18_Get.f k (pairsB l) (mk n) = some (mk (get l n).1, (get l n).2) := by
  have := rget_l0 l n M hM hn hl hp l.length k 0 [] (by omega) hk (by simp) (by simpa [get] using hj)
  unfold broadsheetref18_Get.f
  rw [List.drop_zero, List.nil_append] at this
  exact this
theorem get_bound (l : List (L × L)) (n : L) (hl : l.length ≤ 100000) (hp : ∀ p ∈ l, p.1.length ≤ 100000 ∧ p.2.length ≤ 100000) : (get l n).1.length ≤ 10000200000 :=
  Nat.le_trans (get_len _ _ 100000 (fun p h => (hp p h).2)) (Nat.mul_le_mul (show l.length ≤ 100000 from hl) (Nat.le_refl 100002))
theorem get_nat (l : List (L × L)) (n : L) : ∃ m : Nat, (get l n).2 = m := ⟨_, rfl⟩
theorem rbodyF (l : List (L × L)) (s : L) (k : Nat) (hs : s.length ≤ 100000) (hl : l.length ≤ 100000) (hp : ∀ p ∈ l, p.1.length ≤ 100000 ∧ p.2.length ≤ 100000) (hk : 20000000000 ≤ k) :
    ∃ q, broadsheetref20_body.f k (pairsB l) (mk s) = some q ∧ q.2 = (bodyS l s).2 ∧ (q.2 = 0 → q.1 = mk (bodyS l s).1) := by
  obtain ⟨k, rfl⟩ : ∃ k', k = k' + 1 := ⟨k - 1, by omega⟩
  have hja := get_bound l clenL hl hp
  have hjb := get_bound l tencL hl hp
  unfold broadsheetref20_body.f
  rw [show (⟨#[99, 111, 110, 116, 101, 110, 116, 45, 108, 101, 110, 103, 116, 104]⟩ : ByteArray) = mk clenL from rfl, show (⟨#[116, 114, 97, 110, 115, 102, 101, 114, 45, 101, 110, 99, 111, 100, 105, 110, 103]⟩ : ByteArray) = mk tencL from rfl,
    rgetF l clenL 100000 _ (by decide) (by decide) (by omega) (fun p h => (hp p h).1) (by omega) (by omega), Option.bind_some, rgetF l tencL 100000 _ (by decide) (by decide) (by omega) (fun p h => (hp p h).1) (by omega) (by omega), Option.bind_some]
  unfold bodyS
  obtain ⟨na, ea⟩ := get_nat l clenL
  obtain ⟨nb, eb⟩ := get_nat l tencL
  generalize get l clenL = A at *
  generalize get l tencL = B at *
  have e0 : (if A.2 > 0 then (if B.2 > 0 then (broadsheetref20_body.j0 (k + 1) (mk s) (mk A.1) A.2 (mk B.1) B.2 true) else (broadsheetref20_body.j0 (k + 1) (mk s) (mk A.1) A.2 (mk B.1) B.2 (decide (A.2 > 1)))) else (broadsheetref20_body.j0 (k + 1) (mk s) (mk A.1) A.2 (mk B.1) B.2 (decide (A.2 > 1)))) = broadsheetref20_body.j0 (k + 1) (mk s) (mk A.1) A.2 (mk B.1) B.2 (decide (1 < A.2 ∨ (0 < A.2 ∧ 0 < B.2))) := by
    by_cases h1 : A.2 > 0
    · by_cases h2 : B.2 > 0
      · rw [if_pos h1, if_pos h2, decide_eq_true (p := (1 < A.2 ∨ (0 < A.2 ∧ 0 < B.2))) (Or.inr ⟨h1, h2⟩)]
      · rw [if_pos h1, if_neg h2]
        congr 1
        rw [decide_eq_decide]
        omega
    · rw [if_neg h1]
      congr 1
      rw [decide_eq_decide]
      omega
  simp only [e0]
  rw [broadsheetref20_body.j0]
  by_cases h1 : 1 < A.2 ∨ (0 < A.2 ∧ 0 < B.2)
  · rw [if_pos (decide_eq_true h1), if_pos h1]
    exact ⟨_, rfl, rfl, fun h => absurd h (by decide)⟩
  · rw [if_neg (by simpa using h1), if_neg h1]
    by_cases h2 : 0 < B.2
    · rw [if_pos h2, if_pos h2, rlowF _ _ (by omega) (by omega), Option.bind_some, tl_mk, show ([99, 104, 117, 110, 107, 101, 100] : List UInt8) = chunkedL from rfl]
      by_cases h3 : low B.1 = chunkedL
      · rw [if_pos h3, if_pos h3, rdecodeF s k (by omega) (by omega), Option.bind_some]
        unfold txt3
        simp only [tl_mk]
        by_cases h4 : (dec s).2.2 = 0
        · rw [if_pos h4, if_pos h4]
          by_cases h5 : (dec s).2.1 = []
          · rw [if_pos h5, if_pos h5]
            exact ⟨_, rfl, h4, fun _ => rfl⟩
          · rw [if_neg h5, if_neg h5]
            exact ⟨_, rfl, rfl, fun h => absurd h (by decide)⟩
        · rw [if_neg h4, if_neg h4]
          exact ⟨_, rfl, rfl, fun h => absurd h h4⟩
      · rw [if_neg h3, if_neg h3]
        exact ⟨_, rfl, rfl, fun h => absurd h (by decide)⟩
    · rw [if_neg h2, if_neg h2]
      by_cases h3 : A.2 = 0
      · rw [if_pos h3, if_neg (show ¬ 0 < A.2 by omega), tl_mk]
        by_cases h4 : s = []
        · rw [if_pos h4, if_pos h4]
          exact ⟨_, rfl, rfl, fun _ => rfl⟩
        · rw [if_neg h4, if_neg h4]
          exact ⟨_, rfl, rfl, fun h => absurd h (by decide)⟩
      · rw [if_neg h3, if_pos (show 0 < A.2 by omega), rsz20F _ _ (by omega), Option.bind_some, mk_size]
        unfold sizeE
        cases sizeS A.1 with
        | none =>
          rw [if_pos (by decide)]
          exact ⟨_, rfl, rfl, fun h => absurd h (by decide)⟩
        | some n =>
          simp only
          rw [if_neg (by omega)]
          by_cases h5 : 100000 < n
          · rw [if_pos (by omega), if_pos h5]
            exact ⟨_, rfl, rfl, fun h => absurd h (by decide)⟩
          · rw [if_neg (by omega), if_neg h5]
            by_cases h6 : n = s.length
            · rw [if_pos (by omega), if_neg (by simpa using h6)]
              exact ⟨_, rfl, rfl, fun _ => rfl⟩
            · rw [if_neg (by omega), if_pos h6]
              exact ⟨_, rfl, rfl, fun h => absurd h (by decide)⟩
def reqT (r : L × L × List (L × L) × L × Int) : ByteArray × ByteArray × List S49 × ByteArray × Int := (mk r.1, mk r.2.1, pairsB r.2.2.1, mk r.2.2.2.1, r.2.2.2.2)
theorem reqB_eq (s : L) : reqB (mk s) = reqT (reqS s) := by unfold reqB reqT; rw [mk_data]
theorem rrest (a b r : L) (k : Nat) (hr : r.length ≤ 100000) (hk : 20000000000 ≤ k) :
    ((broadsheetref18_Parse.f k (mk r)).bind fun bt327 => (if bt327.2.2 = 0 then ((broadsheetref18_Get.f k bt327.1 (⟨#[104, 111, 115, 116]⟩ : ByteArray)).bind fun bt332 => (if bt332.2 = 1 then ((broadsheetref20_body.f k bt327.1 bt327.2.1).bind fun bt334 => (if bt334.2 = 0 then (some (mk a, mk b, bt327.1, bt334.1, (0 : Int))) else (some ((⟨#[]⟩ : ByteArray), (⟨#[]⟩ : ByteArray), ([] : List (S49)), (⟨#[]⟩ : ByteArray), bt334.2)))) else (some ((⟨#[]⟩ : ByteArray), (⟨#[]⟩ : ByteArray), ([] : List (S49)), (⟨#[]⟩ : ByteArray), 180)))) else (some ((⟨#[]⟩ : ByteArray), (⟨#[]⟩ : ByteArray), ([] : List (S49)), (⟨#[]⟩ : ByteArray), bt327.2.2)))) = some (reqT (restS a b r)) := by
  have hf := fields_len r
  rw [rparseF r k (by omega) (by omega), Option.bind_some]
  unfold fldB restS
  simp only
  by_cases h1 : (fields r).2.2 = 0
  · have hpp : ∀ p ∈ (fields r).1, p.1.length ≤ 100000 ∧ p.2.length ≤ 100000 := fun p hp => by have := hf.2.1 p hp; omega
    rw [if_pos h1, if_neg (by simpa using h1), show (⟨#[104, 111, 115, 116]⟩ : ByteArray) = mk hostL from rfl, rgetF (fields r).1 hostL 100000 k (by decide) (by decide) (by omega) (fun p hp => (hpp p hp).1) (by have := get_bound (fields r).1 hostL (by omega) hpp; omega) (by omega), Option.bind_some]
    simp only
    by_cases h2 : (get (fields r).1 hostL).2 = 1
    · obtain ⟨q, hq, hq2, hq1⟩ := rbodyF (fields r).1 (fields r).2.1 k (by omega) (by omega) hpp hk
      rw [if_pos h2, if_neg (by simpa using h2), hq, Option.bind_some]
      by_cases h3 : (bodyS (fields r).1 (fields r).2.1).2 = 0
      · rw [if_pos (hq2.trans h3), if_neg (by simpa using h3), hq1 (hq2.trans h3)]
        rfl
      · rw [if_neg (fun h => h3 (hq2.symm.trans h)), if_pos h3, hq2]
        rfl
    · rw [if_neg h2, if_pos h2]
      rfl
  · rw [if_neg h1, if_pos h1]
    rfl
theorem rreqF (s : L) (k : Nat) (hs : s.length ≤ 100000) (hk : 30000000000 ≤ k) : broadsheetref20_Parse.f k (mk s) = some (reqT (reqS s)) := by
  obtain ⟨k, rfl⟩ : ∃ k', k = k' + 1 := ⟨k - 1, by omega⟩
  unfold broadsheetref20_Parse.f reqS
  rw [rLineF s _ (by omega) (by omega), Option.bind_some]
  cases e : line s with
  | none =>
    simp only
    rw [if_neg (by decide), broadsheetref20_Parse.j0, if_pos rfl, mk_size]
    by_cases h : 8000 < s.length
    · rw [if_pos (by omega), if_pos h]; rfl
    · rw [if_neg (by omega), if_neg h]; rfl
  | some p =>
    obtain ⟨l, r⟩ := p
    have hll := congrArg List.length (line_len s _ e)
    simp only [List.length_append, List.length_cons] at hll
    simp only [if_true]
    rw [broadsheetref20_Parse.j0, mk_size, mk_size]
    by_cases h8 : 8000 < l.length
    · rw [if_pos (decide_eq_true (by omega)), if_pos h8]
      by_cases h : 8000 < s.length
      · rw [if_pos (by omega), if_pos h]; rfl
      · rw [if_neg (by omega), if_neg h]; rfl
    · rw [decide_eq_false (by omega), if_neg (by decide), if_neg h8]
      obtain ⟨q, hq, hq2, hq1⟩ := rfirstF l k (by omega) (by omega)
      rw [hq, Option.bind_some]
      generalize Mn.cut 32 l = ws at *
      match ws, hq2, hq1 with
      | [a, b, c], hq2, hq1 =>
        simp only at hq2 ⊢
        by_cases h1 : firstS a b c = true
        · obtain ⟨g1, g2⟩ := hq1 a b c rfl (hq2.trans h1)
          rw [if_pos (hq2.trans h1), if_pos h1, g1, g2]
          exact rrest a b r k (by omega) (by omega)
        · rw [if_neg (by rw [hq2]; exact h1), if_neg h1]
          rfl
      | [], hq2, _ => rw [if_neg (by rw [hq2]; simp)]; rfl
      | [_], hq2, _ => rw [if_neg (by rw [hq2]; simp)]; rfl
      | [_, _], hq2, _ => rw [if_neg (by rw [hq2]; simp)]; rfl
      | _ :: _ :: _ :: _ :: _, hq2, _ => rw [if_neg (by rw [hq2]; simp)]; rfl
theorem rsame_l0 (l : List (L × L)) (hl : l.length ≤ 1000000) : ∀ (d k i : Nat), i + d = l.length → d < k → broadsheetref07_SamePairs.l0 k (pairsB l) (pairsB l) i = some true := by
  intro d
  induction d with
  | zero =>
    intro k i hi hk
    obtain ⟨k, rfl⟩ : ∃ k', k = k' + 1 := ⟨k - 1, by omega⟩
    rw [broadsheetref07_SamePairs.l0, if_neg (by rw [pairsB_len]; omega)]
  | succ d ih =>
    intro k i hi hk
    obtain ⟨k, rfl⟩ : ∃ k', k = k' + 1 := ⟨k - 1, by omega⟩
    rw [broadsheetref07_SamePairs.l0, if_pos (by rw [pairsB_len]; omega), if_pos (by omega), if_pos (by rw [pairsB_len]; omega), if_neg (by simp), w1 i (by omega)]
    exact ih k (i + 1) (by omega) (by omega)
theorem rsameF (l : List (L × L)) (k : Nat) (hl : l.length ≤ 1000000) (hk : l.length < k) : broadsheetref07_SamePairs.f k (pairsB l) (pairsB l) = some true := by
  unfold broadsheetref07_SamePairs.f
  rw [if_pos rfl]
  exact rsame_l0 l hl l.length k 0 (by omega) hk
theorem reqS_len (s : L) : (reqS s).2.2.1.length ≤ s.length := by
  unfold reqS
  cases e : line s with
  | none => simp [zq]
  | some p =>
    obtain ⟨l, r⟩ := p
    have hll := congrArg List.length (line_len s _ e)
    simp only [List.length_append, List.length_cons] at hll
    have hf := fields_len r
    simp only
    split
    · simp [zq]
    · split
      · split
        · unfold restS
          split
          · simp [zq]
          · split
            · simp [zq]
            · split
              · simp [zq]
              · simp only; omega
        · simp [zq]
      · simp [zq]
theorem req_same (s : L) (k : Nat) (hs : s.length ≤ 100000) (hk : 100000 < k) : broadsheetref20_Same.f k (reqT (reqS s)).1 (reqT (reqS s)).2.1 (reqT (reqS s)).2.2.1 (reqT (reqS s)).2.2.2.1 (reqT (reqS s)).1 (reqT (reqS s)).2.1 (reqT (reqS s)).2.2.1 (reqT (reqS s)).2.2.2.1 = some true := by
  have := reqS_len s
  unfold broadsheetref20_Same.f
  rw [if_pos rfl, if_pos rfl, if_pos rfl]
  unfold reqT
  rw [rsameF _ k (by omega) (by omega)]
  rfl
theorem parseF (s : L) (hs : s.length ≤ 900000) : request_Parse.f (mk s) = some (reqT (reqS s)) := by
  unfold request_Parse.f
  rw [if_pos (by rw [mk_size]; exact hs), reqB_eq]
end Go.Proofs.YteonhdfjfjpbjaaGreatDoor.Sp
/- Px44 -/
namespace Go.Proofs.YteonhdfjfjpbjaaGreatDoor.P
open Go.Proofs.YteonhdfjfjpbjaaGreatDoor.B
open Go.RowKit Go.Proofs.YteonhdfjfjpbjaaGreatDoorW.PrintWords Go.Proofs.YteonhdfjfjpbjaaGreatDoorW.PrintLast Go.Proofs.YteonhdfjfjpbjaaGreatDoorW.PrintMore
attribute [local go_sem] str_leq str_gtr str_geq max2_int min2_int max_two min_two max_three min_three max_four min_four
set_option linter.unusedVariables false
set_option linter.unusedSimpArgs false

end Go.Proofs.YteonhdfjfjpbjaaGreatDoor.P
/- SpV -/
namespace Go.Proofs.YteonhdfjfjpbjaaGreatDoor.Sp
open Go.RowKit Go.Proofs.YteonhdfjfjpbjaaGreatDoorW.PrintWords Go.Proofs.YteonhdfjfjpbjaaGreatDoorW.PrintLast Go.Proofs.YteonhdfjfjpbjaaGreatDoor.O Go.Proofs.YteonhdfjfjpbjaaGreatDoor.P
set_option linter.unusedVariables false
set_option linter.unusedSimpArgs false
def pc : L → Option L
  | [] => some []
  | c :: r => if c = 37 then (match r with
      | a :: b :: t => if hexB a = true ∧ hexB b = true then (pc t).map (hx2 a b :: ·) else none
      | _ => none) else (pc r).map (c :: ·)
theorem pc_plain (y : L) : ∀ (x : L), 37 ∉ x → pc (x ++ y) = (pc y).map (x ++ ·)
  | [], _ => by rw [List.nil_append]; cases pc y <;> simp
  | c :: x, h => by
    have hc : c ≠ 37 := fun e => h (by simp [e])
    rw [List.cons_append, pc.eq_def]
    simp only [hc, if_false]
    rw [pc_plain y x (fun e => h (by simp [e]))]
    cases pc y <;> rfl
theorem perc_pc : ∀ (d f : Nat) (s : L), s.length ≤ d → d < f → perc f s = pc s := by
  intro d
  induction d with
  | zero =>
    intro f s hs hf
    obtain ⟨f, rfl⟩ : ∃ f', f = f' + 1 := ⟨f - 1, by omega⟩
    obtain rfl : s = [] := List.eq_nil_of_length_eq_zero (by omega)
    rw [perc, cut1_none (by simp)]
    rfl
  | succ d ih =>
    intro f s hs hf
    obtain ⟨f, rfl⟩ : ∃ f', f = f' + 1 := ⟨f - 1, by omega⟩
    rcases index1 37 s with ⟨e1, _⟩ | ⟨x, y, e1, e2, _⟩
    · rw [perc, cut1_none e1, if_neg (by simp)]
      have := pc_plain [] s e1
      rw [List.append_nil] at this
      rw [this]
      simp [pc]
    · have hsz : s.length = x.length + (y.length + 1) := by rw [e1]; simp
      have e := cut1_some x y e2
      rw [e1, pc_plain (37 :: y) x e2, perc, e]
      simp only [if_true]
      match y, hsz with
      | [], _ => rfl
      | [a], _ => rfl
      | a :: b :: t, hsz =>
        simp only [List.length_cons] at hsz
        rw [pc.eq_def]
        simp only [if_true]
        rw [ih f t (by omega) (by omega)]
        by_cases h : hexB a = true ∧ hexB b = true
        · rw [if_pos h, if_pos h]
          cases pc t <;> simp
        · rw [if_neg h, if_neg h]
          rfl
theorem percS_pc (s : L) : percS s = pc s := perc_pc s.length _ s (Nat.le_refl _) (Nat.lt_succ_self _)
def slB (c : UInt8) : Bool := decide (97 ≤ c.toNat) && decide (c.toNat ≤ 122) || decide (48 ≤ c.toNat) && decide (c.toNat ≤ 57)
def dsh (o : L) (gap : Bool) : L := if gap = true ∧ o.length < 19 then o ++ [45] else o
def sg : L → L → Bool → L
  | [], o, _ => o
  | c :: r, o, gap => if slB c = true then (if (dsh o gap).length = 20 then dsh o gap else sg r (dsh o gap ++ [c]) false) else sg r o (decide (0 < o.length))
theorem slI_b (c : UInt8) : slI (c.toNat : Int) = slB c := by
  unfold slI slB
  rw [Bool.eq_iff_iff]
  simp only [Bool.or_eq_true, Bool.and_eq_true, decide_eq_true_eq]
  omega
theorem dash_nums (o : L) (g : Bool) : dash (nums o) g = nums (dsh o g) := by
  unfold dash dsh
  rw [nums_len]
  split
  · simp [nums]
  · rfl
theorem sgL_nums : ∀ (l o : L) (g : Bool), sgL (nums l) (nums o) g = nums (sg l o g)
  | [], o, g => rfl
  | c :: r, o, g => by
    show sgL ((c.toNat : Int) :: nums r) (nums o) g = _
    rw [sgL, sg, slI_b, dash_nums, nums_len, nums_snoc, nums_len]
    by_cases h : slB c = true
    · rw [if_pos h, if_pos h]
      by_cases h2 : (dsh o g).length = 20
      · rw [if_pos h2, if_pos h2]
      · rw [if_neg h2, if_neg h2, sgL_nums r]
    · rw [if_neg h, if_neg h, sgL_nums r]
theorem btl_nums (l : L) : btl (mk l) = nums l := by
  apply List.ext_getElem
  · simp [btl, nums, mk_size]
  · intro i h1 h2
    have hi : i < l.length := by rw [nums_len] at h2; exact h2
    obtain ⟨b, e1, e2⟩ := mk_bt l i hi
    have hb : b = l[i] := by
      rw [List.drop_eq_getElem_cons hi] at e1
      exact (List.cons.inj e1).1.symm
    simp only [btl, nums, List.getElem_map, List.getElem_range]
    rw [e2, hb]
def slugS (s : L) : L := sg (low (slugT s)) [] false
theorem slugB_eq (s : L) : slugB s = mk (slugS s) := by
  unfold slugB slugS
  rw [btl_nums, show ([] : List Int) = nums [] from rfl, sgL_nums, nums_str]
theorem slugF (s : L) (hs : s.length ≤ 1000000) : request_Slug.f (mk s) = some (mk (slugS s)) := by
  unfold request_Slug.f
  rw [if_pos (by rw [mk_size]; exact hs), mk_data, slugB_eq]
def awA : L := [71, 69, 84, 32, 47, 32, 72, 84, 84, 80, 47, 49, 46, 49, 13, 10, 72, 111, 115, 116, 58, 32, 97, 13, 10, 13, 10]
def awB : L := [71, 69, 84, 32, 47, 32, 72, 84, 84, 80, 47, 49, 46, 48, 13, 10, 13, 10]
def awC : L := [84, 104, 101, 32, 66, 101, 97, 99, 104, 32, 97, 116, 32, 83, 37, 67, 51, 37, 65, 56, 116, 101]
theorem firstS_eq (a b c : L) : firstS a b c = (decide (c = httpL) && (decide (b.head? = some 47) && b.all tgB) && decide ((tok a).1 ≠ []) && decide ((tok a).2 = [])) := by unfold firstS; rw [target_eq]
theorem first_a : firstS [71, 69, 84] [47] httpL = true := by rw [firstS_eq]; decide +kernel
theorem req_a : reqS awA = ([71, 69, 84], [47], [([104, 111, 115, 116], [97])], [], 0) := by
  have e1 : line awA = some ([71, 69, 84, 32, 47, 32, 72, 84, 84, 80, 47, 49, 46, 49], [72, 111, 115, 116, 58, 32, 97, 13, 10, 13, 10]) := by decide +kernel
  have e2 : Mn.cut 32 [71, 69, 84, 32, 47, 32, 72, 84, 84, 80, 47, 49, 46, 49] = [[71, 69, 84], [47], httpL] := by decide +kernel
  have e3 : restS [71, 69, 84] [47] [72, 111, 115, 116, 58, 32, 97, 13, 10, 13, 10] = ([71, 69, 84], [47], [([104, 111, 115, 116], [97])], [], 0) := by decide +kernel
  unfold reqS
  rw [e1]
  simp only
  rw [if_neg (by decide), e2]
  simp only
  rw [if_pos first_a, e3]
theorem req_b : reqS awB = zq 200 := by
  have e1 : line awB = some ([71, 69, 84, 32, 47, 32, 72, 84, 84, 80, 47, 49, 46, 48], [13, 10]) := by decide +kernel
  have e2 : Mn.cut 32 [71, 69, 84, 32, 47, 32, 72, 84, 84, 80, 47, 49, 46, 48] = [[71, 69, 84], [47], [72, 84, 84, 80, 47, 49, 46, 48]] := by decide +kernel
  unfold reqS
  rw [e1]
  simp only
  rw [if_neg (by decide), e2]
  simp only
  rw [if_neg (by rw [firstS_eq]; decide +kernel)]
theorem slug_c : slugS awC = [116, 104, 101, 45, 98, 101, 97, 99, 104, 45, 97, 116, 45, 115, 45, 116, 101] := by
  unfold slugS slugT
  rw [percS_pc]
  decide +kernel
theorem awake20 : broadsheetlaw20_awake.f = some true := by
  unfold broadsheetlaw20_awake.f
  rw [show (⟨#[71, 69, 84, 32, 47, 32, 72, 84, 84, 80, 47, 49, 46, 49, 13, 10, 72, 111, 115, 116, 58, 32, 97, 13, 10, 13, 10]⟩ : ByteArray) = mk awA from rfl, show (⟨#[71, 69, 84, 32, 47, 32, 72, 84, 84, 80, 47, 49, 46, 48, 13, 10, 13, 10]⟩ : ByteArray) = mk awB from rfl,
    show (⟨#[84, 104, 101, 32, 66, 101, 97, 99, 104, 32, 97, 116, 32, 83, 37, 67, 51, 37, 65, 56, 116, 101]⟩ : ByteArray) = mk awC from rfl, parseF awA (by decide), parseF awB (by decide), slugF awC (by decide), req_a, req_b, slug_c]
  simp only [Option.bind_some, reqT, zq, tl_mk]
  simp [pairsB]
end Go.Proofs.YteonhdfjfjpbjaaGreatDoor.Sp
/- SpPieces -/
namespace Go.Proofs.YteonhdfjfjpbjaaGreatDoor.Sp
open Go Go.RowKit Go.Proofs.YteonhdfjfjpbjaaGreatDoorW.PrintWords Go.Proofs.YteonhdfjfjpbjaaGreatDoorW.PrintLast Go.Proofs.YteonhdfjfjpbjaaGreatDoor.O Go.Proofs.YteonhdfjfjpbjaaGreatDoor.P
set_option linter.unusedVariables false
theorem pieces_l0 (l : List Int) (hl : ∀ x ∈ l, 0 ≤ x ∧ x < 256) (pcs : List ByteArray) (hp : pcs ≠ []) (hn : pcs.length ≤ 1000) (hb : ∀ p ∈ pcs, p.size ≤ 1000) : ∀ (d k i : Nat) (acc : ByteArray), i + d = 12 → d < k → acc.size ≤ 1000 * i →
    ∃ t, broadsheetlaw05_Pieces.l0 k l pcs acc i = some t ∧ t.size ≤ 12000 := by
  intro d
  induction d with
  | zero =>
    intro k i acc hi hk ha
    obtain ⟨k, rfl⟩ : ∃ k', k = k' + 1 := ⟨k - 1, by omega⟩
    rw [broadsheetlaw05_Pieces.l0]
    by_cases h : (i : Int) < (l.length : Int)
    · rw [if_pos h, if_neg (by omega)]
      exact ⟨_, rfl, by omega⟩
    · rw [if_neg h]
      exact ⟨_, rfl, by omega⟩
  | succ d ih =>
    intro k i acc hi hk ha
    obtain ⟨k, rfl⟩ : ∃ k', k = k' + 1 := ⟨k - 1, by omega⟩
    rw [broadsheetlaw05_Pieces.l0]
    by_cases h : (i : Int) < (l.length : Int)
    · have hil : i < l.length := by omega
      have hpl : 0 < pcs.length := List.length_pos_iff.2 hp
      have hr : rd l (i : Int) = l[i] := by simp [rd, List.getD_eq_getElem?_getD, List.getElem?_eq_getElem hil]
      have hx := hl l[i] (List.getElem_mem hil)
      obtain ⟨x, hx2⟩ := Int.eq_ofNat_of_zero_le hx.1
      rw [if_pos h, if_pos (by omega), if_pos (by omega), if_neg (by omega), hr, hx2, wrap_id (by omega) (by omega)]
      have hm : Int.tmod (x : Int) ((pcs.length : Nat) : Int) = ((x % pcs.length : Nat) : Int) := by rw [Int.tmod_eq_emod_of_nonneg (by omega)]; rfl
      have hlt : x % pcs.length < pcs.length := Nat.mod_lt _ hpl
      obtain ⟨j, hj⟩ : ∃ j, j = x % pcs.length := ⟨_, rfl⟩
      rw [← hj] at hm hlt
      clear hj hx2 hr hx hl
      have hq : (rdOf ByteArray.empty pcs ((j : Nat) : Int)).size ≤ 1000 := by
        have e : rdOf ByteArray.empty pcs ((j : Nat) : Int) = pcs[j] := by
          unfold rdOf
          rw [Int.toNat_natCast, List.getD_eq_getElem?_getD, List.getElem?_eq_getElem hlt]
          rfl
        rw [e]
        exact hb _ (List.getElem_mem hlt)
      have hw : wrap64 ((i : Int) + 1) = ((i + 1 : Nat) : Int) := by rw [wrap_id (by omega) (by omega)]; omega
      rw [hm, if_pos (by omega), if_pos (by omega), if_pos (by omega), hw]
      exact ih k (i + 1) _ (by omega) (by omega) (by rw [ByteArray.size_append]; omega)
    · rw [if_neg h]
      exact ⟨_, rfl, by omega⟩
theorem piecesF (l : List Int) (hl : ∀ x ∈ l, 0 ≤ x ∧ x < 256) (pcs : List ByteArray) (hp : pcs ≠ []) (hn : pcs.length ≤ 1000) (hb : ∀ p ∈ pcs, p.size ≤ 1000) (k : Nat) (hk : 13 ≤ k) : ∃ t, broadsheetlaw05_Pieces.f k l pcs = some t ∧ t.size ≤ 12000 :=
  pieces_l0 l hl pcs hp hn hb 12 k 0 _ (by omega) (by omega) (Nat.zero_le _)
theorem rsmall_end (t : ByteArray) (ht : t.size ≤ 100000) (k : Nat) (hk : 40000000000 ≤ k) : ((request_Parse.f t).bind fun bt452 => ((broadsheetref20_Parse.f k t).bind fun bt460 => ((broadsheetlaw20_awake.f).bind fun t468 => (if t468 = true then ((broadsheetref20_Same.f k bt452.1 bt452.2.1 bt452.2.2.1 bt452.2.2.2.1 bt460.1 bt460.2.1 bt460.2.2.1 bt460.2.2.2.1).bind fun t469 => (if t469 = true then (some (bt452.2.2.2.2 == bt460.2.2.2.2)) else (some false))) else (some false))))) = some true := by
  rw [← mk_self t]
  have hl : t.data.toList.length ≤ 100000 := by rw [← Lib.size_eq]; exact ht
  generalize t.data.toList = l at *
  rw [awake20, parseF l (by omega), rreqF l _ (by omega) (by omega)]
  simp only [Option.bind_some, if_true]
  rw [req_same l _ (by omega) (by omega)]
  simp
theorem rsmall_all (a : Int) (l m : List Int) (ha : (Lit.int .u8 a).wf = true) (hl : ∀ x ∈ l, (Lit.int .u8 x).wf = true) (hm : ∀ x ∈ m, (Lit.int .u8 x).wf = true) : ∃ k, broadsheetlaw20_RequestSmall.f k a l m = some true := by
  refine ⟨40000000000, ?_⟩
  have ga := wf_u8 ha
  have htm : Int.tmod (wrap64 a) 6 = a % 6 := by rw [wrap_id (by omega) (by omega), Int.tmod_eq_emod_of_nonneg ga.1]
  have k1 := piecesF l (fun x hx => wf_u8 (hl x hx)) ([(⟨#[72, 111, 115, 116, 58, 32, 97, 13, 10]⟩ : ByteArray), (⟨#[72, 111, 115, 116, 58, 32, 97, 13, 10]⟩ : ByteArray), (⟨#[67, 111, 110, 116, 101, 110, 116, 45, 76, 101, 110, 103, 116, 104, 58, 32, 51, 13, 10]⟩ : ByteArray), (⟨#[67, 111, 110, 116, 101, 110, 116, 45, 76, 101, 110, 103, 116, 104, 58, 32, 48, 13, 10]⟩ : ByteArray), (⟨#[84, 114, 97, 110, 115, 102, 101, 114, 45, 69, 110, 99, 111, 100, 105, 110, 103, 58, 32, 99, 104, 117, 110, 107, 101, 100, 13, 10]⟩ : ByteArray), (⟨#[83, 108, 117, 103, 58, 32, 120, 13, 10]⟩ : ByteArray), (⟨#[98, 97, 100, 13, 10]⟩ : ByteArray), (⟨#[67, 111, 110, 116, 101, 110, 116, 45, 76, 101, 110, 103, 116, 104, 58, 32, 120, 13, 10]⟩ : ByteArray)] : List ByteArray) (by simp) (by decide) (by decide) 40000000000 (by omega)
  have k2 := piecesF m (fun x hx => wf_u8 (hm x hx)) ([(⟨#[97, 98, 99]⟩ : ByteArray), (⟨#[48, 13, 10, 13, 10]⟩ : ByteArray), (⟨#[51, 13, 10, 97, 98, 99, 13, 10]⟩ : ByteArray), (⟨#[120]⟩ : ByteArray), (⟨#[]⟩ : ByteArray)] : List ByteArray) (by simp) (by decide) (by decide) 40000000000 (by omega)
  obtain ⟨t1, h1, s1⟩ := k1
  obtain ⟨t2, h2, s2⟩ := k2
  have hb : ∀ p ∈ ([(⟨#[71, 69, 84, 32, 47, 32, 72, 84, 84, 80, 47, 49, 46, 49, 13, 10]⟩ : ByteArray), (⟨#[80, 85, 84, 32, 47, 99, 47, 49, 45, 97, 63, 98, 32, 72, 84, 84, 80, 47, 49, 46, 49, 13, 10]⟩ : ByteArray), (⟨#[71, 69, 84, 32, 47, 32, 72, 84, 84, 80, 47, 49, 46, 48, 13, 10]⟩ : ByteArray), (⟨#[71, 69, 84, 32, 120, 32, 72, 84, 84, 80, 47, 49, 46, 49, 13, 10]⟩ : ByteArray), (⟨#[71, 32, 84, 32, 47, 32, 72, 84, 84, 80, 47, 49, 46, 49, 13, 10]⟩ : ByteArray), (⟨#[71, 69, 84, 32, 47, 32, 72, 84, 84, 80, 47, 49, 46, 49, 10]⟩ : ByteArray)] : List ByteArray), p.size ≤ 100 := by decide
  unfold broadsheetlaw20_RequestSmall.f
  rw [h1, h2]
  simp only [Option.bind_some]
  generalize he : ([(⟨#[71, 69, 84, 32, 47, 32, 72, 84, 84, 80, 47, 49, 46, 49, 13, 10]⟩ : ByteArray), (⟨#[80, 85, 84, 32, 47, 99, 47, 49, 45, 97, 63, 98, 32, 72, 84, 84, 80, 47, 49, 46, 49, 13, 10]⟩ : ByteArray), (⟨#[71, 69, 84, 32, 47, 32, 72, 84, 84, 80, 47, 49, 46, 48, 13, 10]⟩ : ByteArray), (⟨#[71, 69, 84, 32, 120, 32, 72, 84, 84, 80, 47, 49, 46, 49, 13, 10]⟩ : ByteArray), (⟨#[71, 32, 84, 32, 47, 32, 72, 84, 84, 80, 47, 49, 46, 49, 13, 10]⟩ : ByteArray), (⟨#[71, 69, 84, 32, 47, 32, 72, 84, 84, 80, 47, 49, 46, 49, 10]⟩ : ByteArray)] : List ByteArray) = ys at hb ⊢
  have hlen : ys.length = 6 := by rw [← he]; rfl
  have hlen' : (ys.length : Int) = 6 := by omega
  clear he
  rw [hlen', htm, if_neg (by omega), if_pos (by omega), if_pos (by omega)]
  obtain ⟨j, hj⟩ := Int.eq_ofNat_of_zero_le (show 0 ≤ a % 6 by omega)
  have hq : (rdOf ByteArray.empty ys (a % 6)).size ≤ 100 := by
    rw [hj]
    have hlt : j < ys.length := by omega
    have e : rdOf ByteArray.empty ys ((j : Nat) : Int) = ys[j] := by
      unfold rdOf
      rw [Int.toNat_natCast, List.getD_eq_getElem?_getD, List.getElem?_eq_getElem hlt]
      rfl
    rw [e]
    exact hb _ (List.getElem_mem hlt)
  generalize rdOf ByteArray.empty ys (a % 6) = q at *
  have e2 : (⟨#[13, 10]⟩ : ByteArray).size = 2 := rfl
  rw [if_pos (by omega), if_pos (by rw [ByteArray.size_append]; omega), if_pos (by simp only [ByteArray.size_append, e2]; omega)]
  exact rsmall_end _ (by simp only [ByteArray.size_append, e2]; omega) _ (Nat.le_refl _)
end Go.Proofs.YteonhdfjfjpbjaaGreatDoor.Sp
/- CardW -/
namespace Go.Proofs.YteonhdfjfjpbjaaGreatDoor.Cg
open Go.RowKit Go.Proofs.YteonhdfjfjpbjaaGreatDoor.P Go.Proofs.YteonhdfjfjpbjaaGreatDoorW.PrintWords Go.Proofs.YteonhdfjfjpbjaaGreatDoorW.PrintLast Go.Proofs.YteonhdfjfjpbjaaGreatDoor.O
open Go.ChangeShapes Go.WideShapes Go.Deep
set_option linter.unusedVariables false
/-- The plain wrap, with a condition of one's own and the world's shape. -/
theorem wrapS {H : Type} {enc : TypeId × Value → H} {a : Assume} {C : Checked} {os : Os} {f : FuncId} {fn : Func} {s : ChangeSpec} {conds : List PathCond} {apart fresh handsOn again : Bool} {X : World → Array Value → Prop}
    (hX : ∀ (w w' : World) (args : Array Value), w.heap = w'.heap → X w args → X w' args)
    (own : ownKnob C.prog.godebug = none) (started : os.Started) (noInit : C.prog.inits.idxOf? f = none) (hfn : C.prog.funcs[f]? = some fn)
    (witness : ∃ (w : World) (tape : Tape) (i : Input), w.os = os ∧ (w.forCall tape i).Shaped C.prog ∧ i.vars = [] ∧ Input.okWide C.prog (w.forCall tape i) .any w.heap.size f i ∧
      ((s.pre enc C.prog fn conds apart (w.forCall tape i).memory i.args ∧ X (w.forCall tape i).memory i.args) ∧ sizedMet enc C.prog fn (OpenSpec.ofChange s) apart (w.forCall tape i).memory i.args) ∧ a.holds C.prog (lone (Frame.enter C.prog f i.args .normal) [] (w.forCall tape i)))
    (contract : ∀ (W : World) (base : Nat) (args : Array Value) (ds gs : List (DataW H)) (before : List MemPlace),
      (∀ (j : Nat) t v, fn.params[j]? = some t → args[j]? = some v → Value.okWide C.prog W .any base t v) →
      DataW.Whole enc C.prog fn.params.toList s.vars apart W args.toList ds gs before →
      (DataW.weightsEach C.prog (fn.params.toList ++ s.plain.varTypes C.prog) (ds ++ gs)).all (· ≤ reachBytes) = true → X W args → W.ShapedOpen C.prog →
      Calls C.prog f args W fun e W' => ∃ v, e = .returned v ∧ s.post enc C.prog fn apart fresh handsOn again W args v W') :
    ReturnsInHanded a C os f .any (fun w args => (s.pre enc C.prog fn conds apart w args ∧ X w args) ∧ sizedMet enc C.prog fn (OpenSpec.ofChange s) apart w args) (s.post enc C.prog fn apart fresh handsOn again) := by
  refine returnsInHanded_of_calls own started noInit witness ?_
  intro w tape i _ hsh _ hok hpre _
  obtain ⟨_, _, _, fn', hfn', _, _, _, _, hval⟩ := hok
  obtain rfl : fn' = fn := Option.some.inj (hfn'.symm.trans hfn)
  obtain ⟨⟨⟨ds, gs, before, hw, _⟩, hx⟩, hz⟩ := hpre
  refine (contract (w.forCall tape i) w.heap.size i.args ds gs before hval (DataW.Whole.of_heap (w' := w.forCall tape i) (by rfl) hw) (hz.weights hw) (hX _ _ _ (by rfl) hx) hsh).mono fun e W' ⟨v, he, hp⟩ => ?_
  subst he
  exact ChangeSpec.post_blind hp
theorem var_iface {W : World} {n nm : String} {d : DataW Unit} {g t : Nat} {ms : Array (String × TypeId)} (h : Lib.VarReads Tryz.prog W n (.iface nm d)) (hg : Tryz.prog.globalNamed n = some g) (ht : (Tryz.prog.globals[g]?).map (·.type) = some t) (hi : Tryz.prog.underlying t = some (.interface ms)) :
    ∃ t p, W.var? Tryz.prog n = some #[.iface t p] := by
  obtain ⟨g', t', cs, fuel, p, hg', ht', hv, hd⟩ := h
  obtain rfl := Option.some.inj (hg.symm.trans hg')
  obtain rfl := Option.some.inj (ht.symm.trans ht')
  obtain ⟨_, u, v, e, _, _⟩ := iface_of_trod hi hd
  refine ⟨u, v, ?_⟩
  rw [hv]
  cases cs
  simp only at e
  rw [e]
theorem u8s_of {H : Type} {enc : TypeId × Value → H} {W : World} {v : Value} {d : DataW H} {p : List MemPlace} (h : DataW.Trod enc Tryz.prog W 0 (fun _ => true) true 23 v d p) (hv : ∃ a len cap, v = .slice a len cap) :
    ∃ A c l, v = .slice A l.length c ∧ l.length ≤ c ∧ Kd.C (Kd.int .u8) W A l.length l ∧ ∀ x ∈ l, (Lit.int .u8 x).wf = true := by
  obtain ⟨a, len, cap, rfl⟩ := hv
  obtain ⟨fuel, hf⟩ := h
  rcases open_ints Tryz.underlying23 Tryz.underlying5 (by kernel_rfl) hf with ⟨hcs, _⟩ | ⟨x, l, c, zs, hcs, _, hl, hm, hz, _, hcell, hwz⟩
  · simp [Value.cells] at hcs
    obtain ⟨rfl, rfl, rfl⟩ := hcs
    exact ⟨none, 0, [], rfl, Nat.le_refl _, ⟨rfl, by simp, fun h => absurd h (by simp)⟩, by simp⟩
  · simp [Value.cells] at hcs
    obtain ⟨rfl, rfl, rfl⟩ := hcs
    have hz' : zs.length = cap := by simpa using hz
    have hlen : (zs.take len).length = len := by rw [List.length_take]; omega
    refine ⟨some x, cap, zs.take len, by rw [hlen], by rw [hlen]; exact hl, ⟨rfl, by rw [hlen]; unfold maxLen at hm; omega, fun _ => ⟨x, rfl, fun j q hj => ?_⟩⟩, fun y hy => hwz y (List.mem_of_mem_take hy)⟩
    have hjl := (List.getElem?_eq_some_iff.1 hj).1
    rw [hlen] at hjl
    have hq : zs.getD j 0 = q := by
      rw [List.getElem?_take_of_lt hjl] at hj
      rw [List.getD_eq_getElem?_getD, hj]
      rfl
    refine ⟨[.int .u8 q], rfl, rfl, fun i u hu => ?_⟩
    match i, hu with
    | 0, hu =>
      simp at hu
      subst hu
      have hc := hcell j (by omega)
      rw [hq] at hc
      simpa [Kd.int, Kd.scalar] using hc
abbrev laidL : List (String × DataW Unit) := Rows.chunkLongRow.laid
theorem glob_of {W : World} (h : laidMetH Tryz.prog laidL W) (hsh : W.ShapedOpen Tryz.prog) : Glob W := by
  rw [MakeChecks.laidMetH_plain _ _ _ (by kernel_rfl)] at h
  refine ⟨?_, ?_, ?_, ?_, ?_⟩
  · obtain ⟨g', t', cs, fuel, p, hg', ht', hv, hd⟩ := Lib.laidMet.reads h (n := "internal/strconv.uint64pow10") (d := Rows.laid_internal_strconv_uint64pow10) (.tail _ (.tail _ (.head _)))
    obtain rfl := Option.some.inj (gpow.symm.trans hg')
    obtain rfl := Option.some.inj ((show (Tryz.prog.globals[0]?).map (·.type) = some 138 by kernel_rfl).symm.trans ht')
    have hd' : DataW.trod (fun _ => ()) Tryz.prog W 0 (fun _ => true) false fuel 138 cs.toList = some (Lib.tabData .u64 (Lib.pow10Tab), p) := hd
    unfold Lib.TabIs
    rw [hv, ← Lib.cells_of_tab Tryz.underlying138 Tryz.underlying82 (by kernel_rfl) (by kernel_rfl) hd']
  · have hb : ((begin Tryz.prog (fun _ _ => 0) default).world.heap[1]?).bind Obj.row? = some (#[.int .i64 0], 3) := by kernel_rfl
    obtain ⟨m, hm⟩ := cell_of_shapedOpen_int hsh (of_decide_eq_true (by kernel_rfl)) hb rfl (by kernel_rfl) (by kernel_rfl) Tryz.underlying3
    obtain ⟨cs, hh, hs, _⟩ := hsh.1 _ _ _ (of_decide_eq_true (by kernel_rfl)) hb
    refine ⟨m, ?_⟩
    have h1 : 0 < cs.size := by rw [hs]; decide
    have hc : cs[0] = .int .i64 m := by
      have : W.cell? ⟨1, 0, none⟩ = some cs[0] := by simp [World.cell?, hh, h1]
      exact Option.some.inj (this.symm.trans hm)
    unfold World.var?
    rw [gmlen]
    simp only [Option.bind_some, hh]
    congr 1
    apply Array.ext
    · rw [hs]; rfl
    · intro i hi1 hi2
      have : i = 0 := by rw [hs] at hi1; simp at hi1; exact hi1
      subst this
      rw [hc]; rfl
  · exact var_iface (Lib.laidMet.reads h (n := "strconv.ErrSyntax") (d := Rows.laid_strconv_ErrSyntax) (.tail _ (.tail _ (.tail _ (.tail _ (.tail _ (.head _))))))) gsyn (by kernel_rfl) Tryz.underlying56
  · exact var_iface (Lib.laidMet.reads h (n := "strconv.ErrRange") (d := Rows.laid_strconv_ErrRange) (.tail _ (.tail _ (.tail _ (.tail _ (.head _)))))) grng (by kernel_rfl) Tryz.underlying56
  · obtain ⟨g', t', cs, fuel, p, hg', ht', hv, hd⟩ := Lib.laidMet.reads h (n := "math/bits.deBruijn64tab") (d := Rows.laid_math_bits_deBruijn64tab) (.tail _ (.head _))
    obtain rfl := Option.some.inj (gbru.symm.trans hg')
    obtain rfl := Option.some.inj ((show (Tryz.prog.globals[7]?).map (·.type) = some 164 by kernel_rfl).symm.trans ht')
    have hd' : DataW.trod (fun _ => ()) Tryz.prog W 0 (fun _ => true) false fuel 164 cs.toList = some (Lib.tabData .u8 (Lib.deBruijn64tab.map Int.ofNat), p) := hd
    unfold Lib.TabIs
    rw [hv, ← Lib.cells_of_tab Tryz.underlying164 Tryz.underlying5 (by kernel_rfl) (by kernel_rfl) hd']
end Go.Proofs.YteonhdfjfjpbjaaGreatDoor.Cg
