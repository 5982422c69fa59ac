/- Texts of this seat, joined: lemmas and walks that its statements' proofs use. -/
import Derived.Test.YtaopopnlnohnpaaGreatDoorK1
import Derived.Test.YtaopopnlnohnpaaGreatDoorK2
import Derived.Test.YtaopopnlnohnpaaGreatDoorK4
import Derived.OpenShut
import Derived.ChangeOld
/- Px37 -/
namespace Go.Proofs.YtaopopnlnohnpaaGreatDoor.P
open Go.Proofs.YtaopopnlnohnpaaGreatDoor.B
open Go.RowKit Go.Proofs.YtaopopnlnohnpaaGreatDoorW.PrintWords Go.Proofs.YtaopopnlnohnpaaGreatDoorW.PrintLast Go.Proofs.YtaopopnlnohnpaaGreatDoorW.PrintMore
attribute [local go_sem] str_leq str_gtr str_geq max2_int min2_int max_two min_two max_three min_three max_four min_four
set_option linter.unusedVariables false
set_option linter.unusedSimpArgs false
def broadsheetlaw05_Pieces.l0 : Nat → List Int → List ByteArray → ByteArray → Int → Option (ByteArray)
  | 0, _, _, _, _ => none
  | k + 1, x0, x1, x5, x6 => if x6 < (x0.length : Int) then (if x6 < 12 then (if 0 ≤ x6 then (if (x1.length : Int) = 0 then (none) else (if 0 ≤ (Int.tmod (wrap64 (rd x0 x6)) (x1.length : Int)) then (if (Int.tmod (wrap64 (rd x0 x6)) (x1.length : Int)) < (x1.length : Int) then (if x5.size + (rdOf ByteArray.empty x1 (Int.tmod (wrap64 (rd x0 x6)) (x1.length : Int))).size ≤ 9223372036854775807 then (broadsheetlaw05_Pieces.l0 k x0 x1 (x5 ++ (rdOf ByteArray.empty x1 (Int.tmod (wrap64 (rd x0 x6)) (x1.length : Int)))) (wrap64 (x6 + 1))) else (none)) else (none)) else (none))) else (none)) else (some x5)) else (some x5)
def broadsheetlaw05_Pieces.f (k : Nat) (l0 : List Int) (l1 : List ByteArray) : Option (ByteArray) := broadsheetlaw05_Pieces.l0 k l0 l1 (⟨#[]⟩ : ByteArray) 0
set_option maxHeartbeats 8000000 in
set_option maxRecDepth 100000 in
theorem broadsheetlaw05_Pieces.calls (k : Nat) (A0 : Option Addr) (c0 : Nat) (l0 : List Int) (A1 : Option Addr) (c1 : Nat) (l1 : List ByteArray) (r : ByteArray) (w : World) (hr0 : Kd.C (Kd.int .u8) w A0 l0.length l0) (hc0 : l0.length ≤ c0) (hr1 : Kd.C Kd.string w A1 l1.length l1) (hc1 : l1.length ≤ c1) (h : broadsheetlaw05_Pieces.f k l0 l1 = some r) :
  Calls Tryz.prog 16 #[.slice A0 l0.length c0, .slice A1 l1.length c1] w fun e w' => e = .returned (.string r) ∧ Drawn0 w w' := by
 have HR0 := Aside0.mk hr0
 have HC0 := Aside0.mk hc0
 clear hr0 hc0
 have HR1 := Aside0.mk hr1
 have HC1 := Aside0.mk hc1
 clear hr1 hc1
 have H : (broadsheetlaw05_Pieces.l0 k l0 l1 (⟨#[]⟩ : ByteArray) 0) = some r := h
 clear h
 have H' := Aside0.mk H
 clear H
 go_enter Tryz.func16, Tryz.ntmps16
 go_wp2
 first | go_loopg [5, 6] k (fun kq v5 v6 w' => ∃ (x5_1 : ByteArray) (x6_1 : Int), v5 = .string x5_1 ∧ v6 = .int .i64 x6_1 ∧ Aside0 (broadsheetlaw05_Pieces.l0 kq l0 l1 x5_1 x6_1 = some r) ∧ Aside0 (kq ≤ k) ∧ Drawn0 w w') | (go_simp; go_loopg [5, 6] k (fun kq v5 v6 w' => ∃ (x5_1 : ByteArray) (x6_1 : Int), v5 = .string x5_1 ∧ v6 = .int .i64 x6_1 ∧ Aside0 (broadsheetlaw05_Pieces.l0 kq l0 l1 x5_1 x6_1 = some r) ∧ Aside0 (kq ≤ k) ∧ Drawn0 w w'))
 case atStart => exact ⟨((⟨#[]⟩ : ByteArray)), (0), zb11, zb11, H', ⟨Nat.le_refl _⟩, by repeat (first | exact Drawn0.refl _ | apply Drawn0.step)⟩
 case round =>
  clear H'
  try clear c1
  try clear p2
  obtain ⟨x5_1, x6_1, rfl, rfl, HA, HK1, ⟨m1, rfl⟩⟩ := hrel
  cases gk with
  | zero => exact absurd HA.out (by simp [broadsheetlaw05_Pieces.l0])
  | succ k1 =>
   have H := HA.out
   clear HA
   simp only [broadsheetlaw05_Pieces.l0] at H
   by_cases c3 : x6_1 < (l0.length : Int)
   ·rw [if_pos c3] at H
    have c3b0 : decide (x6_1 < (l0.length : Int)) = true := decide_eq_true c3
    clear c3
    by_cases c4 : x6_1 < 12
    ·rw [if_pos c4] at H
     have c4b0 : decide (x6_1 < 12) = true := decide_eq_true c4
     clear c4
     by_cases c5 : 0 ≤ x6_1
     ·rw [if_pos c5] at H
      have c5b0 : decide (0 ≤ x6_1) = true := decide_eq_true c5
      clear c5
      by_cases c6 : (l1.length : Int) = 0
      ·rw [if_pos c6] at H
       exact absurd H zb46
      ·rw [if_neg c6] at H
       have c6b0 : ((l1.length : Int) == 0) = false := beq_eq_false_iff_ne.mpr c6
       have c6b1 : ((l1.length : Int) != 0) = true := bne_iff_ne.mpr c6
       have c6b2 : ¬ (l1 = []) := fun h_ => c6 (by rw [h_]; rfl)
       obtain ⟨ji7, hji7⟩ : ∃ j_ : Int, (Int.tmod (wrap64 (rd l0 x6_1)) (l1.length : Int)) = j_ := ⟨_, rfl⟩
       replace H : (if 0 ≤ (ji7) then (if (ji7) < (l1.length : Int) then (if x5_1.size + (rdOf ByteArray.empty l1 (ji7)).size ≤ 9223372036854775807 then (broadsheetlaw05_Pieces.l0 k1 l0 l1 (x5_1 ++ (rdOf ByteArray.empty l1 (ji7))) (wrap64 (x6_1 + 1))) else (none)) else (none)) else (none)) = some r := by first | (rw [hji7] at H; exact H) | (simp only [hji7] at H ⊢; exact H)
       by_cases c8 : 0 ≤ (ji7)
       ·rw [if_pos c8] at H
        have c8b0 : decide (0 ≤ (ji7)) = true := decide_eq_true c8
        clear c8
        by_cases c9 : (ji7) < (l1.length : Int)
        ·rw [if_pos c9] at H
         have c9b0 : decide ((ji7) < (l1.length : Int)) = true := decide_eq_true c9
         clear c9
         by_cases c10 : x5_1.size + (rdOf ByteArray.empty l1 (ji7)).size ≤ 9223372036854775807
         ·rw [if_pos c10] at H
          have c10b0 := eq_true c10
          have c10b1 : decide (x5_1.size + (rdOf ByteArray.empty l1 (ji7)).size ≤ 9223372036854775807) = true := decide_eq_true c10
          try have c10b2 : (9223372036854775807 < x5_1.size + (rdOf ByteArray.empty l1 (ji7)).size) = False := eq_false (Nat.not_lt.2 c10)
          have H' := Aside0.mk H
          clear H
          have p330 : 0 ≤ (x6_1 : Int) := of_decide_eq_true zb4
          have q330 : x6_1 < (l0.length : Int) := of_decide_eq_true zb4
          obtain ⟨ad330, e330, hx330_0⟩ := Kd.at_int HR0.out x6_1 p330 q330
          cases e330
          replace p330 := eq_true p330
          replace q330 := eq_true q330
          have p331 : 0 ≤ ((ji7) : Int) := of_decide_eq_true zb4
          have q331 : (ji7) < (l1.length : Int) := of_decide_eq_true zb4
          obtain ⟨ad331, e331, hx331_0⟩ := Kd.at_string HR1.out (ji7) p331 q331
          cases e331
          replace p331 := eq_true p331
          replace q331 := eq_true q331
          go_wp2
          go_roundg k1
          case measure => have := HK1.out; omega
          case rel => exact ⟨(x5_1 ++ (rdOf ByteArray.empty l1 (ji7))), (wrap64 (x6_1 + 1)), (by first | rfl | (simp; done) | (simp only [← hji7] <;> (first | rfl | simp)) | (simp [*]; done)), zb11, H', ⟨by have := HK1.out; omega⟩, by repeat (first | exact Drawn0.refl _ | apply Drawn0.step)⟩
         ·rw [if_neg c10] at H
          exact absurd H zb46
        ·rw [if_neg c9] at H
         exact absurd H zb46
       ·rw [if_neg c8] at H
        exact absurd H zb46
     ·rw [if_neg c5] at H
      exact absurd H zb46
    ·rw [if_neg c4] at H
     have c4b0 : decide (x6_1 < 12) = false := decide_eq_false c4
     clear c4
     obtain rfl := Option.some.inj H
     go_wp2
     go_ret
     exact ⟨by first | rfl | (simp; done) | (simp [*]; done), by repeat (first | exact Drawn0.refl _ | apply Drawn0.step)⟩
   ·rw [if_neg c3] at H
    have c3b0 : decide (x6_1 < (l0.length : Int)) = false := decide_eq_false c3
    clear c3
    obtain rfl := Option.some.inj H
    go_wp2
    go_ret
    exact ⟨by first | rfl | (simp; done) | (simp [*]; done), by repeat (first | exact Drawn0.refl _ | apply Drawn0.step)⟩
end Go.Proofs.YtaopopnlnohnpaaGreatDoor.P
/- Px38 -/
namespace Go.Proofs.YtaopopnlnohnpaaGreatDoor.P
open Go.Proofs.YtaopopnlnohnpaaGreatDoor.B
open Go.RowKit Go.Proofs.YtaopopnlnohnpaaGreatDoorW.PrintWords Go.Proofs.YtaopopnlnohnpaaGreatDoorW.PrintLast Go.Proofs.YtaopopnlnohnpaaGreatDoorW.PrintMore
attribute [local go_sem] str_leq str_gtr str_geq max2_int min2_int max_two min_two max_three min_three max_four min_four
set_option linter.unusedVariables false
set_option linter.unusedSimpArgs false
open Go.Proofs.YtaopopnlnohnpaaGreatDoor.O
def broadsheetlaw21_ResponseSmall.f (k : Nat) (a0 : Int) (l1 : List Int) (l2 : List Int) : Option (Bool) := (some (([(⟨#[72, 84, 84, 80, 47, 49, 46, 49, 32, 50, 48, 48, 32, 79, 75, 13, 10]⟩ : ByteArray), (⟨#[72, 84, 84, 80, 47, 49, 46, 49, 32, 50, 48, 52, 32, 78, 111, 32, 67, 111, 110, 116, 101, 110, 116, 13, 10]⟩ : ByteArray), (⟨#[72, 84, 84, 80, 47, 49, 46, 49, 32, 51, 48, 52, 32, 78, 111, 116, 32, 77, 111, 100, 105, 102, 105, 101, 100, 13, 10]⟩ : ByteArray), (⟨#[72, 84, 84, 80, 47, 49, 46, 49, 32, 52, 48, 52, 32, 78, 111, 116, 32, 102, 111, 117, 110, 100, 13, 10]⟩ : ByteArray), (⟨#[72, 84, 84, 80, 47, 49, 46, 49, 32, 50, 48, 48, 32, 32, 79, 75, 13, 10]⟩ : ByteArray)] : List ByteArray) : List ByteArray)).bind fun y332 => (if (y332.length : Int) = 0 then (none) else (if 0 ≤ (Int.tmod (wrap64 (a0)) (y332.length : Int)) then (if (Int.tmod (wrap64 (a0)) (y332.length : Int)) < (y332.length : Int) then ((broadsheetlaw05_Pieces.f k l1 (([(⟨#[88, 58, 32, 121, 13, 10]⟩ : ByteArray), (⟨#[67, 111, 110, 116, 101, 110, 116, 45, 76, 101, 110, 103, 116, 104, 58, 32, 48, 13, 10]⟩ : ByteArray), (⟨#[67, 111, 110, 116, 101, 110, 116, 45, 76, 101, 110, 103, 116, 104, 58, 32, 51, 13, 10]⟩ : ByteArray), (⟨#[99, 111, 110, 116, 101, 110, 116, 45, 108, 101, 110, 103, 116, 104, 58, 32, 54, 13, 10]⟩ : ByteArray), (⟨#[98, 97, 100, 13, 10]⟩ : ByteArray), (⟨#[69, 84, 97, 103, 58, 32, 34, 97, 34, 13, 10]⟩ : ByteArray)] : List ByteArray))).bind fun t339 => (if (rdOf ByteArray.empty y332 (Int.tmod (wrap64 (a0)) (y332.length : Int))).size + t339.size ≤ 9223372036854775807 then (if ((rdOf ByteArray.empty y332 (Int.tmod (wrap64 (a0)) (y332.length : Int))) ++ t339).size + 2 ≤ 9223372036854775807 then ((broadsheetlaw05_Pieces.f k l2 (([(⟨#[97, 98, 99]⟩ : ByteArray), (⟨#[]⟩ : ByteArray), (⟨#[120]⟩ : ByteArray)] : List ByteArray))).bind fun t343 => (if (((rdOf ByteArray.empty y332 (Int.tmod (wrap64 (a0)) (y332.length : Int))) ++ t339) ++ (⟨#[13, 10]⟩ : ByteArray)).size + t343.size ≤ 9223372036854775807 then ((response_Parse.f k ((((rdOf ByteArray.empty y332 (Int.tmod (wrap64 (a0)) (y332.length : Int))) ++ t339) ++ (⟨#[13, 10]⟩ : ByteArray)) ++ t343)).bind fun bt344 => ((broadsheetref21_Parse.f k ((((rdOf ByteArray.empty y332 (Int.tmod (wrap64 (a0)) (y332.length : Int))) ++ t339) ++ (⟨#[13, 10]⟩ : ByteArray)) ++ t343)).bind fun bt351 => ((broadsheetlaw21_awake.f k).bind fun t358 => (if t358 = true then ((broadsheetref21_Same.f k bt344.1 bt344.2.1 bt344.2.2.1 bt351.1 bt351.2.1 bt351.2.2.1).bind fun t359 => (if t359 = true then (some (bt344.2.2.2 == bt351.2.2.2)) else (some false))) else (some false))))) else (none))) else (none)) else (none))) else (none)) else (none)))
def broadsheetlaw21_ResponseSmall.T2 : Bool × List (List Nat × List Nat) := (true, [([], []), ([], []), ([1], [1]), ([], []), ([3], [3]), ([2, 4], [2, 4]), ([0, 5], [0, 5]), ([6], [6]), ([], []), ([], []), ([8, 9], [8, 9]), ([7, 10], [7, 10]), ([11], [11]), ([], []), ([], []), ([13, 14, 10], [13, 14]), ([12, 15], [12, 15]), ([16, 15, 0, 1, 2, 3, 4, 5, 6, 7, 8, 9, 10, 11, 12, 13, 14, 15, 16], [16])])
def broadsheetlaw21_ResponseSmall.B2 : List Nat := [0, 0, 2, 0, 8, 30, 63, 127, 0, 0, 768, 2047, 4095, 0, 0, 26368, 65535, 131071]
theorem broadsheetlaw21_ResponseSmall.tab2 : rtab .any (opsOf Tryz.f6 2) = broadsheetlaw21_ResponseSmall.T2 := by kernel_rfl
theorem broadsheetlaw21_ResponseSmall.bits2 : waitsOk broadsheetlaw21_ResponseSmall.T2.2 broadsheetlaw21_ResponseSmall.B2 = true := by kernel_rfl
set_option maxHeartbeats 8000000 in
set_option maxRecDepth 100000 in
theorem broadsheetlaw21_ResponseSmall.calls (k : Nat) (a0 : Int) (A1 : Option Addr) (c1 : Nat) (l1 : List Int) (A2 : Option Addr) (c2 : Nat) (l2 : List Int) (r : Bool) (w : World) (hr1 : Kd.C (Kd.int .u8) w A1 l1.length l1) (hc1 : l1.length ≤ c1) (hr2 : Kd.C (Kd.int .u8) w A2 l2.length l2) (hc2 : l2.length ≤ c2) (hG : Glob w) (h : broadsheetlaw21_ResponseSmall.f k a0 l1 l2 = some r) (hr : r = true) :
  Calls Tryz.prog 6 #[.int .u8 a0, .slice A1 l1.length c1, .slice A2 l2.length c2] w fun e w' => e = .returned (.bool r) ∧ Below w.heap.size w w' := by
 have hu24 := Tryz.underlying24
 have HR1 := Aside0.mk hr1
 have HC1 := Aside0.mk hc1
 clear hr1 hc1
 have HR2 := Aside0.mk hr2
 have HC2 := Aside0.mk hc2
 clear hr2 hc2
 have HB := Aside0.mk (Below.refl w.heap.size w)
 have hGA := Aside0.mk hG
 clear hG
 have H : ((some (([(⟨#[72, 84, 84, 80, 47, 49, 46, 49, 32, 50, 48, 48, 32, 79, 75, 13, 10]⟩ : ByteArray), (⟨#[72, 84, 84, 80, 47, 49, 46, 49, 32, 50, 48, 52, 32, 78, 111, 32, 67, 111, 110, 116, 101, 110, 116, 13, 10]⟩ : ByteArray), (⟨#[72, 84, 84, 80, 47, 49, 46, 49, 32, 51, 48, 52, 32, 78, 111, 116, 32, 77, 111, 100, 105, 102, 105, 101, 100, 13, 10]⟩ : ByteArray), (⟨#[72, 84, 84, 80, 47, 49, 46, 49, 32, 52, 48, 52, 32, 78, 111, 116, 32, 102, 111, 117, 110, 100, 13, 10]⟩ : ByteArray), (⟨#[72, 84, 84, 80, 47, 49, 46, 49, 32, 50, 48, 48, 32, 32, 79, 75, 13, 10]⟩ : ByteArray)] : List ByteArray) : List ByteArray)).bind fun y332 => (if (y332.length : Int) = 0 then (none) else (if 0 ≤ (Int.tmod (wrap64 (a0)) (y332.length : Int)) then (if (Int.tmod (wrap64 (a0)) (y332.length : Int)) < (y332.length : Int) then ((broadsheetlaw05_Pieces.f k l1 (([(⟨#[88, 58, 32, 121, 13, 10]⟩ : ByteArray), (⟨#[67, 111, 110, 116, 101, 110, 116, 45, 76, 101, 110, 103, 116, 104, 58, 32, 48, 13, 10]⟩ : ByteArray), (⟨#[67, 111, 110, 116, 101, 110, 116, 45, 76, 101, 110, 103, 116, 104, 58, 32, 51, 13, 10]⟩ : ByteArray), (⟨#[99, 111, 110, 116, 101, 110, 116, 45, 108, 101, 110, 103, 116, 104, 58, 32, 54, 13, 10]⟩ : ByteArray), (⟨#[98, 97, 100, 13, 10]⟩ : ByteArray), (⟨#[69, 84, 97, 103, 58, 32, 34, 97, 34, 13, 10]⟩ : ByteArray)] : List ByteArray))).bind fun t339 => (if (rdOf ByteArray.empty y332 (Int.tmod (wrap64 (a0)) (y332.length : Int))).size + t339.size ≤ 9223372036854775807 then (if ((rdOf ByteArray.empty y332 (Int.tmod (wrap64 (a0)) (y332.length : Int))) ++ t339).size + 2 ≤ 9223372036854775807 then ((broadsheetlaw05_Pieces.f k l2 (([(⟨#[97, 98, 99]⟩ : ByteArray), (⟨#[]⟩ : ByteArray), (⟨#[120]⟩ : ByteArray)] : List ByteArray))).bind fun t343 => (if (((rdOf ByteArray.empty y332 (Int.tmod (wrap64 (a0)) (y332.length : Int))) ++ t339) ++ (⟨#[13, 10]⟩ : ByteArray)).size + t343.size ≤ 9223372036854775807 then ((response_Parse.f k ((((rdOf ByteArray.empty y332 (Int.tmod (wrap64 (a0)) (y332.length : Int))) ++ t339) ++ (⟨#[13, 10]⟩ : ByteArray)) ++ t343)).bind fun bt344 => ((broadsheetref21_Parse.f k ((((rdOf ByteArray.empty y332 (Int.tmod (wrap64 (a0)) (y332.length : Int))) ++ t339) ++ (⟨#[13, 10]⟩ : ByteArray)) ++ t343)).bind fun bt351 => ((broadsheetlaw21_awake.f k).bind fun t358 => (if t358 = true then ((broadsheetref21_Same.f k bt344.1 bt344.2.1 bt344.2.2.1 bt351.1 bt351.2.1 bt351.2.2.1).bind fun t359 => (if t359 = true then (some (bt344.2.2.2 == bt351.2.2.2)) else (some false))) else (some false))))) else (none))) else (none)) else (none))) else (none)) else (none)))) = some r := h
 clear h
 obtain ⟨y332, hy332⟩ : ∃ y_ : List ByteArray, y_ = (([(⟨#[72, 84, 84, 80, 47, 49, 46, 49, 32, 50, 48, 48, 32, 79, 75, 13, 10]⟩ : ByteArray), (⟨#[72, 84, 84, 80, 47, 49, 46, 49, 32, 50, 48, 52, 32, 78, 111, 32, 67, 111, 110, 116, 101, 110, 116, 13, 10]⟩ : ByteArray), (⟨#[72, 84, 84, 80, 47, 49, 46, 49, 32, 51, 48, 52, 32, 78, 111, 116, 32, 77, 111, 100, 105, 102, 105, 101, 100, 13, 10]⟩ : ByteArray), (⟨#[72, 84, 84, 80, 47, 49, 46, 49, 32, 52, 48, 52, 32, 78, 111, 116, 32, 102, 111, 117, 110, 100, 13, 10]⟩ : ByteArray), (⟨#[72, 84, 84, 80, 47, 49, 46, 49, 32, 50, 48, 48, 32, 32, 79, 75, 13, 10]⟩ : ByteArray)] : List ByteArray)) := ⟨_, rfl⟩
 replace H : (if (y332.length : Int) = 0 then (none) else (if 0 ≤ (Int.tmod (wrap64 (a0)) (y332.length : Int)) then (if (Int.tmod (wrap64 (a0)) (y332.length : Int)) < (y332.length : Int) then ((broadsheetlaw05_Pieces.f k l1 (([(⟨#[88, 58, 32, 121, 13, 10]⟩ : ByteArray), (⟨#[67, 111, 110, 116, 101, 110, 116, 45, 76, 101, 110, 103, 116, 104, 58, 32, 48, 13, 10]⟩ : ByteArray), (⟨#[67, 111, 110, 116, 101, 110, 116, 45, 76, 101, 110, 103, 116, 104, 58, 32, 51, 13, 10]⟩ : ByteArray), (⟨#[99, 111, 110, 116, 101, 110, 116, 45, 108, 101, 110, 103, 116, 104, 58, 32, 54, 13, 10]⟩ : ByteArray), (⟨#[98, 97, 100, 13, 10]⟩ : ByteArray), (⟨#[69, 84, 97, 103, 58, 32, 34, 97, 34, 13, 10]⟩ : ByteArray)] : List ByteArray))).bind fun t339 => (if (rdOf ByteArray.empty y332 (Int.tmod (wrap64 (a0)) (y332.length : Int))).size + t339.size ≤ 9223372036854775807 then (if ((rdOf ByteArray.empty y332 (Int.tmod (wrap64 (a0)) (y332.length : Int))) ++ t339).size + 2 ≤ 9223372036854775807 then ((broadsheetlaw05_Pieces.f k l2 (([(⟨#[97, 98, 99]⟩ : ByteArray), (⟨#[]⟩ : ByteArray), (⟨#[120]⟩ : ByteArray)] : List ByteArray))).bind fun t343 => (if (((rdOf ByteArray.empty y332 (Int.tmod (wrap64 (a0)) (y332.length : Int))) ++ t339) ++ (⟨#[13, 10]⟩ : ByteArray)).size + t343.size ≤ 9223372036854775807 then ((response_Parse.f k ((((rdOf ByteArray.empty y332 (Int.tmod (wrap64 (a0)) (y332.length : Int))) ++ t339) ++ (⟨#[13, 10]⟩ : ByteArray)) ++ t343)).bind fun bt344 => ((broadsheetref21_Parse.f k ((((rdOf ByteArray.empty y332 (Int.tmod (wrap64 (a0)) (y332.length : Int))) ++ t339) ++ (⟨#[13, 10]⟩ : ByteArray)) ++ t343)).bind fun bt351 => ((broadsheetlaw21_awake.f k).bind fun t358 => (if t358 = true then ((broadsheetref21_Same.f k bt344.1 bt344.2.1 bt344.2.2.1 bt351.1 bt351.2.1 bt351.2.2.1).bind fun t359 => (if t359 = true then (some (bt344.2.2.2 == bt351.2.2.2)) else (some false))) else (some false))))) else (none))) else (none)) else (none))) else (none)) else (none))) = some r := by first | (rw [hy332]; with_reducible exact H) | (have H2_ := (Option.bind_some _ _).symm.trans H; rw [hy332]; with_reducible exact H2_) | (have H2_ := (Option.bind_some _ _).symm.trans H; with_reducible exact H2_) | with_reducible exact H | (rw [hy332]; exact H) | exact H
 have Ny332 := Aside0.mk hy332
 clear hy332
 by_cases c4 : (y332.length : Int) = 0
 ·rw [if_pos c4] at H
  exact absurd H zb46
 ·rw [if_neg c4] at H
  have c4b0 : ((y332.length : Int) == 0) = false := beq_eq_false_iff_ne.mpr c4
  have c4b1 : ((y332.length : Int) != 0) = true := bne_iff_ne.mpr c4
  have c4b2 : ¬ (y332 = []) := fun h_ => c4 (by rw [h_]; rfl)
  obtain ⟨ji5, hji5⟩ : ∃ j_ : Int, (Int.tmod (wrap64 (a0)) (y332.length : Int)) = j_ := ⟨_, rfl⟩
  replace H : (if 0 ≤ (ji5) then (if (ji5) < (y332.length : Int) then ((broadsheetlaw05_Pieces.f k l1 (([(⟨#[88, 58, 32, 121, 13, 10]⟩ : ByteArray), (⟨#[67, 111, 110, 116, 101, 110, 116, 45, 76, 101, 110, 103, 116, 104, 58, 32, 48, 13, 10]⟩ : ByteArray), (⟨#[67, 111, 110, 116, 101, 110, 116, 45, 76, 101, 110, 103, 116, 104, 58, 32, 51, 13, 10]⟩ : ByteArray), (⟨#[99, 111, 110, 116, 101, 110, 116, 45, 108, 101, 110, 103, 116, 104, 58, 32, 54, 13, 10]⟩ : ByteArray), (⟨#[98, 97, 100, 13, 10]⟩ : ByteArray), (⟨#[69, 84, 97, 103, 58, 32, 34, 97, 34, 13, 10]⟩ : ByteArray)] : List ByteArray))).bind fun t339 => (if (rdOf ByteArray.empty y332 (ji5)).size + t339.size ≤ 9223372036854775807 then (if ((rdOf ByteArray.empty y332 (ji5)) ++ t339).size + 2 ≤ 9223372036854775807 then ((broadsheetlaw05_Pieces.f k l2 (([(⟨#[97, 98, 99]⟩ : ByteArray), (⟨#[]⟩ : ByteArray), (⟨#[120]⟩ : ByteArray)] : List ByteArray))).bind fun t343 => (if (((rdOf ByteArray.empty y332 (ji5)) ++ t339) ++ (⟨#[13, 10]⟩ : ByteArray)).size + t343.size ≤ 9223372036854775807 then ((response_Parse.f k ((((rdOf ByteArray.empty y332 (ji5)) ++ t339) ++ (⟨#[13, 10]⟩ : ByteArray)) ++ t343)).bind fun bt344 => ((broadsheetref21_Parse.f k ((((rdOf ByteArray.empty y332 (ji5)) ++ t339) ++ (⟨#[13, 10]⟩ : ByteArray)) ++ t343)).bind fun bt351 => ((broadsheetlaw21_awake.f k).bind fun t358 => (if t358 = true then ((broadsheetref21_Same.f k bt344.1 bt344.2.1 bt344.2.2.1 bt351.1 bt351.2.1 bt351.2.2.1).bind fun t359 => (if t359 = true then (some (bt344.2.2.2 == bt351.2.2.2)) else (some false))) else (some false))))) else (none))) else (none)) else (none))) else (none)) else (none)) = some r := by first | (rw [hji5] at H; exact H) | (simp only [hji5] at H ⊢; exact H)
  by_cases c6 : 0 ≤ (ji5)
  ·rw [if_pos c6] at H
   have c6b0 : decide (0 ≤ (ji5)) = true := decide_eq_true c6
   clear c6
   by_cases c7 : (ji5) < (y332.length : Int)
   ·rw [if_pos c7] at H
    have c7b0 : decide ((ji5) < (y332.length : Int)) = true := decide_eq_true c7
    clear c7
    obtain ⟨y336, hy336⟩ : ∃ y_ : List ByteArray, y_ = (([(⟨#[88, 58, 32, 121, 13, 10]⟩ : ByteArray), (⟨#[67, 111, 110, 116, 101, 110, 116, 45, 76, 101, 110, 103, 116, 104, 58, 32, 48, 13, 10]⟩ : ByteArray), (⟨#[67, 111, 110, 116, 101, 110, 116, 45, 76, 101, 110, 103, 116, 104, 58, 32, 51, 13, 10]⟩ : ByteArray), (⟨#[99, 111, 110, 116, 101, 110, 116, 45, 108, 101, 110, 103, 116, 104, 58, 32, 54, 13, 10]⟩ : ByteArray), (⟨#[98, 97, 100, 13, 10]⟩ : ByteArray), (⟨#[69, 84, 97, 103, 58, 32, 34, 97, 34, 13, 10]⟩ : ByteArray)] : List ByteArray)) := ⟨_, rfl⟩
    replace H : ((broadsheetlaw05_Pieces.f k l1 y336).bind fun t339 => (if (rdOf ByteArray.empty y332 (ji5)).size + t339.size ≤ 9223372036854775807 then (if ((rdOf ByteArray.empty y332 (ji5)) ++ t339).size + 2 ≤ 9223372036854775807 then ((broadsheetlaw05_Pieces.f k l2 (([(⟨#[97, 98, 99]⟩ : ByteArray), (⟨#[]⟩ : ByteArray), (⟨#[120]⟩ : ByteArray)] : List ByteArray))).bind fun t343 => (if (((rdOf ByteArray.empty y332 (ji5)) ++ t339) ++ (⟨#[13, 10]⟩ : ByteArray)).size + t343.size ≤ 9223372036854775807 then ((response_Parse.f k ((((rdOf ByteArray.empty y332 (ji5)) ++ t339) ++ (⟨#[13, 10]⟩ : ByteArray)) ++ t343)).bind fun bt344 => ((broadsheetref21_Parse.f k ((((rdOf ByteArray.empty y332 (ji5)) ++ t339) ++ (⟨#[13, 10]⟩ : ByteArray)) ++ t343)).bind fun bt351 => ((broadsheetlaw21_awake.f k).bind fun t358 => (if t358 = true then ((broadsheetref21_Same.f k bt344.1 bt344.2.1 bt344.2.2.1 bt351.1 bt351.2.1 bt351.2.2.1).bind fun t359 => (if t359 = true then (some (bt344.2.2.2 == bt351.2.2.2)) else (some false))) else (some false))))) else (none))) else (none)) else (none))) = some r := by first | (rw [hy336]; with_reducible exact H) | (have H2_ := (Option.bind_some _ _).symm.trans H; rw [hy336]; with_reducible exact H2_) | (have H2_ := (Option.bind_some _ _).symm.trans H; with_reducible exact H2_) | with_reducible exact H | (rw [hy336]; exact H) | exact H
    have Ny336 := Aside0.mk hy336
    clear hy336
    replace H := Option.bind_eq_some_iff.mp H
    obtain ⟨t339, A80, H⟩ := H
    replace H : (if (rdOf ByteArray.empty y332 (ji5)).size + t339.size ≤ 9223372036854775807 then (if ((rdOf ByteArray.empty y332 (ji5)) ++ t339).size + 2 ≤ 9223372036854775807 then ((broadsheetlaw05_Pieces.f k l2 (([(⟨#[97, 98, 99]⟩ : ByteArray), (⟨#[]⟩ : ByteArray), (⟨#[120]⟩ : ByteArray)] : List ByteArray))).bind fun t343 => (if (((rdOf ByteArray.empty y332 (ji5)) ++ t339) ++ (⟨#[13, 10]⟩ : ByteArray)).size + t343.size ≤ 9223372036854775807 then ((response_Parse.f k ((((rdOf ByteArray.empty y332 (ji5)) ++ t339) ++ (⟨#[13, 10]⟩ : ByteArray)) ++ t343)).bind fun bt344 => ((broadsheetref21_Parse.f k ((((rdOf ByteArray.empty y332 (ji5)) ++ t339) ++ (⟨#[13, 10]⟩ : ByteArray)) ++ t343)).bind fun bt351 => ((broadsheetlaw21_awake.f k).bind fun t358 => (if t358 = true then ((broadsheetref21_Same.f k bt344.1 bt344.2.1 bt344.2.2.1 bt351.1 bt351.2.1 bt351.2.2.1).bind fun t359 => (if t359 = true then (some (bt344.2.2.2 == bt351.2.2.2)) else (some false))) else (some false))))) else (none))) else (none)) else (none)) = some r := H
    have A8 := Aside0.mk A80
    clear A80
    by_cases c9 : (rdOf ByteArray.empty y332 (ji5)).size + t339.size ≤ 9223372036854775807
    ·rw [if_pos c9] at H
     have c9b0 := eq_true c9
     have c9b1 : decide ((rdOf ByteArray.empty y332 (ji5)).size + t339.size ≤ 9223372036854775807) = true := decide_eq_true c9
     try have c9b2 : (9223372036854775807 < (rdOf ByteArray.empty y332 (ji5)).size + t339.size) = False := eq_false (Nat.not_lt.2 c9)
     by_cases c10 : ((rdOf ByteArray.empty y332 (ji5)) ++ t339).size + 2 ≤ 9223372036854775807
     ·rw [if_pos c10] at H
      have c10b0 := eq_true c10
      have c10b1 : decide (((rdOf ByteArray.empty y332 (ji5)) ++ t339).size + 2 ≤ 9223372036854775807) = true := decide_eq_true c10
      try have c10b2 : (9223372036854775807 < ((rdOf ByteArray.empty y332 (ji5)) ++ t339).size + 2) = False := eq_false (Nat.not_lt.2 c10)
      obtain ⟨nc10, hc10⟩ : ∃ n_ : Nat, n_ = ((rdOf ByteArray.empty y332 (ji5)) ++ t339).size + 2 := ⟨_, rfl⟩
      have c10m0 : nc10 ≤ 9223372036854775807 := by rw [hc10]; exact c10
      (first | simp [go_sem, c9b0] at hc10 | simp [go_sem] at hc10 | skip)
      rw [hc10] at c10m0
      have c10m1 := eq_false (Nat.not_lt.2 c10m0)
      have c10m2 := decide_eq_true c10m0
      clear hc10 c10m0
      obtain ⟨y340, hy340⟩ : ∃ y_ : List ByteArray, y_ = (([(⟨#[97, 98, 99]⟩ : ByteArray), (⟨#[]⟩ : ByteArray), (⟨#[120]⟩ : ByteArray)] : List ByteArray)) := ⟨_, rfl⟩
      replace H : ((broadsheetlaw05_Pieces.f k l2 y340).bind fun t343 => (if (((rdOf ByteArray.empty y332 (ji5)) ++ t339) ++ (⟨#[13, 10]⟩ : ByteArray)).size + t343.size ≤ 9223372036854775807 then ((response_Parse.f k ((((rdOf ByteArray.empty y332 (ji5)) ++ t339) ++ (⟨#[13, 10]⟩ : ByteArray)) ++ t343)).bind fun bt344 => ((broadsheetref21_Parse.f k ((((rdOf ByteArray.empty y332 (ji5)) ++ t339) ++ (⟨#[13, 10]⟩ : ByteArray)) ++ t343)).bind fun bt351 => ((broadsheetlaw21_awake.f k).bind fun t358 => (if t358 = true then ((broadsheetref21_Same.f k bt344.1 bt344.2.1 bt344.2.2.1 bt351.1 bt351.2.1 bt351.2.2.1).bind fun t359 => (if t359 = true then (some (bt344.2.2.2 == bt351.2.2.2)) else (some false))) else (some false))))) else (none))) = some r := by first | (rw [hy340]; with_reducible exact H) | (have H2_ := (Option.bind_some _ _).symm.trans H; rw [hy340]; with_reducible exact H2_) | (have H2_ := (Option.bind_some _ _).symm.trans H; with_reducible exact H2_) | with_reducible exact H | (rw [hy340]; exact H) | exact H
      have Ny340 := Aside0.mk hy340
      clear hy340
      replace H := Option.bind_eq_some_iff.mp H
      obtain ⟨t343, A110, H⟩ := H
      replace H : (if (((rdOf ByteArray.empty y332 (ji5)) ++ t339) ++ (⟨#[13, 10]⟩ : ByteArray)).size + t343.size ≤ 9223372036854775807 then ((response_Parse.f k ((((rdOf ByteArray.empty y332 (ji5)) ++ t339) ++ (⟨#[13, 10]⟩ : ByteArray)) ++ t343)).bind fun bt344 => ((broadsheetref21_Parse.f k ((((rdOf ByteArray.empty y332 (ji5)) ++ t339) ++ (⟨#[13, 10]⟩ : ByteArray)) ++ t343)).bind fun bt351 => ((broadsheetlaw21_awake.f k).bind fun t358 => (if t358 = true then ((broadsheetref21_Same.f k bt344.1 bt344.2.1 bt344.2.2.1 bt351.1 bt351.2.1 bt351.2.2.1).bind fun t359 => (if t359 = true then (some (bt344.2.2.2 == bt351.2.2.2)) else (some false))) else (some false))))) else (none)) = some r := H
      have A11 := Aside0.mk A110
      clear A110
      by_cases c12 : (((rdOf ByteArray.empty y332 (ji5)) ++ t339) ++ (⟨#[13, 10]⟩ : ByteArray)).size + t343.size ≤ 9223372036854775807
      ·rw [if_pos c12] at H
       have c12b0 := eq_true c12
       have c12b1 : decide ((((rdOf ByteArray.empty y332 (ji5)) ++ t339) ++ (⟨#[13, 10]⟩ : ByteArray)).size + t343.size ≤ 9223372036854775807) = true := decide_eq_true c12
       try have c12b2 : (9223372036854775807 < (((rdOf ByteArray.empty y332 (ji5)) ++ t339) ++ (⟨#[13, 10]⟩ : ByteArray)).size + t343.size) = False := eq_false (Nat.not_lt.2 c12)
       obtain ⟨nc12, hc12⟩ : ∃ n_ : Nat, n_ = (((rdOf ByteArray.empty y332 (ji5)) ++ t339) ++ (⟨#[13, 10]⟩ : ByteArray)).size + t343.size := ⟨_, rfl⟩
       have c12m0 : nc12 ≤ 9223372036854775807 := by rw [hc12]; exact c12
       (first | simp [go_sem, c9b0, c10b0] at hc12 | simp [go_sem] at hc12 | skip)
       rw [hc12] at c12m0
       have c12m1 := eq_false (Nat.not_lt.2 c12m0)
       have c12m2 := decide_eq_true c12m0
       clear hc12 c12m0
       replace H := Option.bind_eq_some_iff.mp H
       obtain ⟨⟨t344, t345, t348, t349⟩, A130, H⟩ := H
       replace H : ((broadsheetref21_Parse.f k ((((rdOf ByteArray.empty y332 (ji5)) ++ t339) ++ (⟨#[13, 10]⟩ : ByteArray)) ++ t343)).bind fun bt351 => ((broadsheetlaw21_awake.f k).bind fun t358 => (if t358 = true then ((broadsheetref21_Same.f k t344 t345 t348 bt351.1 bt351.2.1 bt351.2.2.1).bind fun t359 => (if t359 = true then (some (t349 == bt351.2.2.2)) else (some false))) else (some false)))) = some r := H
       have A13 := Aside0.mk A130
       clear A130
       replace H := Option.bind_eq_some_iff.mp H
       obtain ⟨⟨t351, t352, t355, t356⟩, A140, H⟩ := H
       replace H : ((broadsheetlaw21_awake.f k).bind fun t358 => (if t358 = true then ((broadsheetref21_Same.f k t344 t345 t348 t351 t352 t355).bind fun t359 => (if t359 = true then (some (t349 == t356)) else (some false))) else (some false))) = some r := H
       have A14 := Aside0.mk A140
       clear A140
       replace H := Option.bind_eq_some_iff.mp H
       obtain ⟨t358, A150, H⟩ := H
       replace H : (if t358 = true then ((broadsheetref21_Same.f k t344 t345 t348 t351 t352 t355).bind fun t359 => (if t359 = true then (some (t349 == t356)) else (some false))) else (some false)) = some r := H
       have A15 := Aside0.mk A150
       clear A150
       by_cases c16 : t358 = true
       ·subst c16
        replace H : ((broadsheetref21_Same.f k t344 t345 t348 t351 t352 t355).bind fun t359 => (if t359 = true then (some (t349 == t356)) else (some false))) = some r := by rw [if_pos rfl] at H; exact H
        replace H := Option.bind_eq_some_iff.mp H
        obtain ⟨t359, A170, H⟩ := H
        replace H : (if t359 = true then (some (t349 == t356)) else (some false)) = some r := H
        have A17 := Aside0.mk A170
        clear A170
        by_cases c18 : t359 = true
        ·subst c18
         replace H : (some (t349 == t356)) = some r := by rw [if_pos rfl] at H; exact H
         obtain rfl := Option.some.inj H
         go_enter Tryz.func6, Tryz.ntmps6
         try go_wp2_with (first | ((with_reducible refine gate_dst (N := 13) rfl ?_); refine Kd.R_lit Kd.string _ 9 ?hg (N := 13) ?hd (xs := ([(⟨#[72, 84, 84, 80, 47, 49, 46, 49, 32, 50, 48, 48, 32, 79, 75, 13, 10]⟩ : ByteArray), (⟨#[72, 84, 84, 80, 47, 49, 46, 49, 32, 50, 48, 52, 32, 78, 111, 32, 67, 111, 110, 116, 101, 110, 116, 13, 10]⟩ : ByteArray), (⟨#[72, 84, 84, 80, 47, 49, 46, 49, 32, 51, 48, 52, 32, 78, 111, 116, 32, 77, 111, 100, 105, 102, 105, 101, 100, 13, 10]⟩ : ByteArray), (⟨#[72, 84, 84, 80, 47, 49, 46, 49, 32, 52, 48, 52, 32, 78, 111, 116, 32, 102, 111, 117, 110, 100, 13, 10]⟩ : ByteArray), (⟨#[72, 84, 84, 80, 47, 49, 46, 49, 32, 50, 48, 48, 32, 32, 79, 75, 13, 10]⟩ : ByteArray)] : List ByteArray)) (inner := [.string (⟨#[72, 84, 84, 80, 47, 49, 46, 49, 32, 50, 48, 48, 32, 79, 75, 13, 10]⟩ : ByteArray), .string (⟨#[72, 84, 84, 80, 47, 49, 46, 49, 32, 50, 48, 52, 32, 78, 111, 32, 67, 111, 110, 116, 101, 110, 116, 13, 10]⟩ : ByteArray), .string (⟨#[72, 84, 84, 80, 47, 49, 46, 49, 32, 51, 48, 52, 32, 78, 111, 116, 32, 77, 111, 100, 105, 102, 105, 101, 100, 13, 10]⟩ : ByteArray), .string (⟨#[72, 84, 84, 80, 47, 49, 46, 49, 32, 52, 48, 52, 32, 78, 111, 116, 32, 102, 111, 117, 110, 100, 13, 10]⟩ : ByteArray), .string (⟨#[72, 84, 84, 80, 47, 49, 46, 49, 32, 50, 48, 48, 32, 32, 79, 75, 13, 10]⟩ : ByteArray)]) (ok := fun _ => True) (okp := fun _ => True) ?hr ?hp (fun _ hk => hk) trivial (Below.refl _ _) (Nat.le_refl _) zb46 ?_; (case hd => rfl); (case hg => rfl); (case hr => first | (go_simp; done) | (go_simp; rfl)); (case hp => exact (Reps.one (show Kd.M Kd.string _ _ _ (⟨#[72, 84, 84, 80, 47, 49, 46, 49, 32, 50, 48, 48, 32, 79, 75, 13, 10]⟩ : ByteArray) [.string (⟨#[72, 84, 84, 80, 47, 49, 46, 49, 32, 50, 48, 48, 32, 79, 75, 13, 10]⟩ : ByteArray)] from rfl) (Reps.one (show Kd.M Kd.string _ _ _ (⟨#[72, 84, 84, 80, 47, 49, 46, 49, 32, 50, 48, 52, 32, 78, 111, 32, 67, 111, 110, 116, 101, 110, 116, 13, 10]⟩ : ByteArray) [.string (⟨#[72, 84, 84, 80, 47, 49, 46, 49, 32, 50, 48, 52, 32, 78, 111, 32, 67, 111, 110, 116, 101, 110, 116, 13, 10]⟩ : ByteArray)] from rfl) (Reps.one (show Kd.M Kd.string _ _ _ (⟨#[72, 84, 84, 80, 47, 49, 46, 49, 32, 51, 48, 52, 32, 78, 111, 116, 32, 77, 111, 100, 105, 102, 105, 101, 100, 13, 10]⟩ : ByteArray) [.string (⟨#[72, 84, 84, 80, 47, 49, 46, 49, 32, 51, 48, 52, 32, 78, 111, 116, 32, 77, 111, 100, 105, 102, 105, 101, 100, 13, 10]⟩ : ByteArray)] from rfl) (Reps.one (show Kd.M Kd.string _ _ _ (⟨#[72, 84, 84, 80, 47, 49, 46, 49, 32, 52, 48, 52, 32, 78, 111, 116, 32, 102, 111, 117, 110, 100, 13, 10]⟩ : ByteArray) [.string (⟨#[72, 84, 84, 80, 47, 49, 46, 49, 32, 52, 48, 52, 32, 78, 111, 116, 32, 102, 111, 117, 110, 100, 13, 10]⟩ : ByteArray)] from rfl) (Reps.one (show Kd.M Kd.string _ _ _ (⟨#[72, 84, 84, 80, 47, 49, 46, 49, 32, 50, 48, 48, 32, 32, 79, 75, 13, 10]⟩ : ByteArray) [.string (⟨#[72, 84, 84, 80, 47, 49, 46, 49, 32, 50, 48, 48, 32, 32, 79, 75, 13, 10]⟩ : ByteArray)] from rfl) (Reps.none _ _))))))); intro v333 w19 ho20 hb hg_ hnew_; clear hg_ hnew_; (first | rw [← Ny332.out] at ho20 | (simp only [Int.reduceToNat] at ho20; rw [← Ny332.out] at ho20)); have n0_ := Aside0.mk (Kd.R_lower ho20 (below_size zb0)); have n1_ := Aside0.mk (below_step zb0 hb); clear HB; have HO334 := n0_; have HB := n1_; clear n0_ n1_; clear hb ho20))
         have n0_ := Aside0.mk (Kd.R_drew HO334.out)
         have n1_ := Aside0.mk (below_drew1 HB.out)
         clear HO334
         clear HB
         have HO334 := n0_
         have HB := n1_
         clear n0_ n1_
         obtain ⟨Ao22, co22, eo22⟩ := Kd.R_slice HO334.out
         (first | subst eo22 | (injection eo22 with f1_ f2_ f3_; have f4_ := f1_.symm; have f5_ := f3_.symm; clear f1_ f2_ f3_; subst f4_; subst f5_))
         have p335 : 0 ≤ ((ji5) : Int) := of_decide_eq_true zb4
         have q335 : (ji5) < (y332.length : Int) := of_decide_eq_true zb4
         obtain ⟨ad335, e335, hx335_0⟩ := Kd.at_string (Kd.R_reads' HO334.out).2.2 (ji5) p335 q335
         cases e335
         replace p335 := eq_true p335
         replace q335 := eq_true q335
         refine start_ (n := 18) (S := fun w' => w'.cell? (ad335.add ((ji5)).toNat) = some (.string (rdOf ByteArray.empty y332 (ji5)))) (ds := []) #[false, false, false, false, false, false, false, false, false, false, false, false, false, false, false, false, false, false] zb10 rfl rfl (hx335_0) (fun hHeld => ?_); refine with_tabW broadsheetlaw21_ResponseSmall.tab2 broadsheetlaw21_ResponseSmall.bits2 (fun HT_ HW_ => ?_)
         generalize w19.drew = w21 at HO334 HB hx335_0 hHeld ⊢
         refine pure_ (i := 0) (N := some 14) (v := ?_) (a' := ?_) #[true, false, false, false, false, false, false, false, false, false, false, false, false, false, false, false, false, false] rfl rfl (any_of HT_.out zb10) (fun _ _ _ h => h) (Or.inl ⟨by rfl, ?_⟩) ?_ ?_
         rotate_left
         ·intro w'
          go_simp
          first | with_reducible rfl | (rw [if_neg zb2])
         rotate_left
         ·simp only [Act.put, List.setIfInBounds_toArray, List.set_cons_zero, List.set_cons_succ, i64_w, i32_w]
          rfl
         refine pure_ (i := 1) (N := some 15) (v := ?_) (a' := ?_) #[true, true, false, false, false, false, false, false, false, false, false, false, false, false, false, false, false, false] rfl rfl (any_of HT_.out zb10) (fun _ _ _ h => h) (Or.inl ⟨by rfl, ?_⟩) ?_ ?_
         rotate_left
         ·intro w'
          go_simp
          first | with_reducible rfl | (rw [if_neg zb2])
         rotate_left
         ·simp only [Act.put, List.setIfInBounds_toArray, List.set_cons_zero, List.set_cons_succ, i64_w, i32_w]
          rfl
         refine pure_ (i := 2) (N := some 16) (v := ?_) (a' := ?_) #[true, true, true, false, false, false, false, false, false, false, false, false, false, false, false, false, false, false] rfl rfl (any_of HT_.out zb10) (fun _ _ _ h => h) (Or.inl ⟨by rfl, ?_⟩) ?_ ?_
         rotate_left
         ·intro w'
          go_simp
          first | with_reducible rfl | (rw [if_neg zb2])
         rotate_left
         ·simp only [Act.put, List.setIfInBounds_toArray, List.set_cons_zero, List.set_cons_succ, i64_w, i32_w]
          rfl
         refine pure_ (i := 3) (N := some 17) (v := ?_) (a' := ?_) #[true, true, true, true, false, false, false, false, false, false, false, false, false, false, false, false, false, false] rfl rfl (any_of HT_.out zb10) (fun _ _ _ h => h) (Or.inl ⟨by rfl, ?_⟩) ?_ ?_
         rotate_left
         ·intro w'
          go_simp
          first | with_reducible rfl | (rw [if_neg zb2])
         rotate_left
         ·simp only [Act.put, List.setIfInBounds_toArray, List.set_cons_zero, List.set_cons_succ, i64_w, i32_w]
          rfl
         refine pure_ (i := 4) (N := some 18) (v := ?_) (a' := ?_) #[true, true, true, true, true, false, false, false, false, false, false, false, false, false, false, false, false, false] rfl rfl (any_of HT_.out zb10) (fun _ _ _ h => h) (Or.inl ⟨by rfl, ?_⟩) ?_ ?_
         rotate_left
         ·intro w'
          go_simp
          first | with_reducible rfl | (rw [if_neg zb2])
         rotate_left
         ·simp only [Act.put, List.setIfInBounds_toArray, List.set_cons_zero, List.set_cons_succ, i64_w, i32_w]
          rfl
         refine pure_ (i := 5) (N := some 19) (v := ?_) (a' := ?_) #[true, true, true, true, true, true, false, false, false, false, false, false, false, false, false, false, false, false] rfl rfl (any_of HT_.out zb10) (fun _ _ _ h => h) (Or.inl ⟨by rfl, ?_⟩) ?_ ?_
         rotate_left
         ·intro w'
          go_simp
          first | with_reducible rfl | (rw [if_neg zb2])
         rotate_left
         ·simp only [Act.put, List.setIfInBounds_toArray, List.set_cons_zero, List.set_cons_succ, i64_w, i32_w]
          rfl
         refine pure_ (i := 6) (N := some 20) (v := ?_) (a' := ?_) #[true, true, true, true, true, true, true, false, false, false, false, false, false, false, false, false, false, false] rfl rfl (any_of HT_.out zb10) (fun _ _ _ h => h) (Or.inl ⟨by rfl, ?_⟩) ?_ ?_
         rotate_left
         ·intro w'
          go_simp
          first | with_reducible rfl | (rw [if_neg zb2])
         rotate_left
         ·simp only [Act.put, List.setIfInBounds_toArray, List.set_cons_zero, List.set_cons_succ, i64_w, i32_w]
          rfl
         refine pure_ (i := 8) (N := some 22) (v := ?_) (a' := ?_) #[true, true, true, true, true, true, true, false, true, false, false, false, false, false, false, false, false, false] rfl rfl (any_of HT_.out zb10) (fun _ _ _ h => h) (Or.inl ⟨by rfl, ?_⟩) ?_ ?_
         rotate_left
         ·intro w'
          go_simp
          first | with_reducible rfl | (rw [if_neg zb2])
         rotate_left
         ·simp only [Act.put, List.setIfInBounds_toArray, List.set_cons_zero, List.set_cons_succ, i64_w, i32_w]
          rfl
         refine pure_ (i := 13) (N := some 27) (v := ?_) (a' := ?_) #[true, true, true, true, true, true, true, false, true, false, false, false, false, true, false, false, false, false] rfl rfl (any_of HT_.out zb10) (fun _ _ _ h => h) (Or.inl ⟨by rfl, ?_⟩) ?_ ?_
         rotate_left
         ·intro w'
          go_simp
          first | with_reducible rfl | (rw [if_neg zb2])
         rotate_left
         ·simp only [Act.put, List.setIfInBounds_toArray, List.set_cons_zero, List.set_cons_succ, i64_w, i32_w]
          rfl
         refine take_ (i := 7) (N := some 21) (v := ?_) (a' := ?_) #[true, true, true, true, true, true, true, true, true, false, false, false, false, true, false, false, false, false] rfl rfl (take_ofW HT_.out HW_.out zb10) (fun _ _ _ h => h) (Or.inl ⟨by rfl, ?_⟩) hHeld ?_ ?_
         rotate_left
         ·intro w' s0
          go_simp
          first | with_reducible rfl | (rw [if_neg zb2])
         rotate_left
         ·simp only [Act.put, List.setIfInBounds_toArray, List.set_cons_zero, List.set_cons_succ, i64_w, i32_w]
          rfl
         refine join_ (σ := Value × Value) 3 #[true, true, true, true, true, true, true, true, true, true, true, true, true, true, true, false, false, false] (fun s_ => [(23, s_.1), (24, .string t339), (28, s_.2), (25, .string ((rdOf ByteArray.empty y332 (ji5)) ++ t339)), (26, .string (((rdOf ByteArray.empty y332 (ji5)) ++ t339) ++ (⟨#[13, 10]⟩ : ByteArray)))]) (fun s_ w' => (w'.cell? (ad335.add ((ji5)).toNat) = some (.string (rdOf ByteArray.empty y332 (ji5)))) ∧ (Kd.R Kd.string 9 w' w.heap.size (fun k_ => some k_ ≠ (s_.1 : Value).ownBlock ∧ some k_ ≠ (s_.2 : Value).ownBlock) (.slice (some ad335) y332.length co22) y332) ∧ (Kd.R Kd.string 9 w' w.heap.size (fun k_ => some k_ ≠ (.slice (some ad335) y332.length co22 : Value).ownBlock ∧ some k_ ≠ (s_.2 : Value).ownBlock) s_.1 y336) ∧ (Kd.R Kd.string 9 w' w.heap.size (fun k_ => some k_ ≠ (.slice (some ad335) y332.length co22 : Value).ownBlock ∧ some k_ ≠ (s_.1 : Value).ownBlock) s_.2 y340) ∧ (Below w.heap.size w w')) ?_ ?_
         rotate_left
         ·intro hCont
          refine two_ (i := 9) (j := 14) (Ni := some 23) (Nj := some 28) #[true, true, true, true, true, true, true, true, true, true, false, false, false, true, false, false, false, false] #[true, true, true, true, true, true, true, true, true, false, false, false, false, true, true, false, false, false] rfl rfl rfl rfl (two_of HT_.out zb10) zb33 zb33 (fun K hK => ?_) (fun K hK => ?_)
          ·skip
           refine Kd.R_lit_step Kd.string _ 9 ?hg (N := 23) ?hd (xs := ([(⟨#[88, 58, 32, 121, 13, 10]⟩ : ByteArray), (⟨#[67, 111, 110, 116, 101, 110, 116, 45, 76, 101, 110, 103, 116, 104, 58, 32, 48, 13, 10]⟩ : ByteArray), (⟨#[67, 111, 110, 116, 101, 110, 116, 45, 76, 101, 110, 103, 116, 104, 58, 32, 51, 13, 10]⟩ : ByteArray), (⟨#[99, 111, 110, 116, 101, 110, 116, 45, 108, 101, 110, 103, 116, 104, 58, 32, 54, 13, 10]⟩ : ByteArray), (⟨#[98, 97, 100, 13, 10]⟩ : ByteArray), (⟨#[69, 84, 97, 103, 58, 32, 34, 97, 34, 13, 10]⟩ : ByteArray)] : List ByteArray)) (inner := [.string (⟨#[88, 58, 32, 121, 13, 10]⟩ : ByteArray), .string (⟨#[67, 111, 110, 116, 101, 110, 116, 45, 76, 101, 110, 103, 116, 104, 58, 32, 48, 13, 10]⟩ : ByteArray), .string (⟨#[67, 111, 110, 116, 101, 110, 116, 45, 76, 101, 110, 103, 116, 104, 58, 32, 51, 13, 10]⟩ : ByteArray), .string (⟨#[99, 111, 110, 116, 101, 110, 116, 45, 108, 101, 110, 103, 116, 104, 58, 32, 54, 13, 10]⟩ : ByteArray), .string (⟨#[98, 97, 100, 13, 10]⟩ : ByteArray), .string (⟨#[69, 84, 97, 103, 58, 32, 34, 97, 34, 13, 10]⟩ : ByteArray)]) (ok := fun _ => True) (okp := fun _ => True) ?hr ?hp (fun _ hk => hk) trivial (Below.refl _ _) (Nat.le_refl _) zb46 ?_; (case hd => rfl); (case hg => rfl); (case hr => first | (go_simp; done) | (go_simp; rfl)); (case hp => exact (Reps.one (show Kd.M Kd.string _ _ _ (⟨#[88, 58, 32, 121, 13, 10]⟩ : ByteArray) [.string (⟨#[88, 58, 32, 121, 13, 10]⟩ : ByteArray)] from rfl) (Reps.one (show Kd.M Kd.string _ _ _ (⟨#[67, 111, 110, 116, 101, 110, 116, 45, 76, 101, 110, 103, 116, 104, 58, 32, 48, 13, 10]⟩ : ByteArray) [.string (⟨#[67, 111, 110, 116, 101, 110, 116, 45, 76, 101, 110, 103, 116, 104, 58, 32, 48, 13, 10]⟩ : ByteArray)] from rfl) (Reps.one (show Kd.M Kd.string _ _ _ (⟨#[67, 111, 110, 116, 101, 110, 116, 45, 76, 101, 110, 103, 116, 104, 58, 32, 51, 13, 10]⟩ : ByteArray) [.string (⟨#[67, 111, 110, 116, 101, 110, 116, 45, 76, 101, 110, 103, 116, 104, 58, 32, 51, 13, 10]⟩ : ByteArray)] from rfl) (Reps.one (show Kd.M Kd.string _ _ _ (⟨#[99, 111, 110, 116, 101, 110, 116, 45, 108, 101, 110, 103, 116, 104, 58, 32, 54, 13, 10]⟩ : ByteArray) [.string (⟨#[99, 111, 110, 116, 101, 110, 116, 45, 108, 101, 110, 103, 116, 104, 58, 32, 54, 13, 10]⟩ : ByteArray)] from rfl) (Reps.one (show Kd.M Kd.string _ _ _ (⟨#[98, 97, 100, 13, 10]⟩ : ByteArray) [.string (⟨#[98, 97, 100, 13, 10]⟩ : ByteArray)] from rfl) (Reps.one (show Kd.M Kd.string _ _ _ (⟨#[69, 84, 97, 103, 58, 32, 34, 97, 34, 13, 10]⟩ : ByteArray) [.string (⟨#[69, 84, 97, 103, 58, 32, 34, 97, 34, 13, 10]⟩ : ByteArray)] from rfl) (Reps.none _ _))))))))
           intro v337 w23 ho24 hb hg_ hnew_
           have HS0_ := (hb.cell (World.block_lt_of_cell? _ _ (hHeld))).trans (hHeld)
           clear hg_ hnew_
           (first | rw [← Ny336.out] at ho24 | (simp only [Int.reduceToNat] at ho24; rw [← Ny336.out] at ho24))
           have n0_ := Aside0.mk (Kd.R_elder' zb19 (Kd.R_base ho24) hb)
           have n1_ := Aside0.mk (Kd.R_lower (Kd.R_new' ho24 (Kd.R_lt zb19)) (below_size zb0))
           have n2_ := Aside0.mk (below_step zb0 hb)
           clear HO334
           clear HB
           have HO334 := n0_
           have HO338 := n1_
           have HB := n2_
           clear n0_ n1_ n2_
           clear hb ho24
           obtain ⟨Ao25, co25, eo25⟩ := Kd.R_slice HO338.out
           (first | subst eo25 | (injection eo25 with f1_ f2_ f3_; have f4_ := f1_.symm; have f5_ := f3_.symm; clear f1_ f2_ f3_; subst f4_; subst f5_))
           refine hK.out _ _ (HS0_) (fun hHeld => ?_)
           clear hK K
           refine norm_ (a' := ?_) ?_ ?_
           rotate_left
           ·show Act.put _ (some 23) _ = _
            simp only [Act.put, List.setIfInBounds_toArray, List.set_cons_zero, List.set_cons_succ, i64_w, i32_w]
            rfl
           refine two_ (i := 10) (j := 14) (Ni := some 24) (Nj := some 28) #[true, true, true, true, true, true, true, true, true, true, true, false, false, true, false, false, false, false] #[true, true, true, true, true, true, true, true, true, true, false, false, false, true, true, false, false, false] rfl rfl rfl rfl (two_of HT_.out zb10) zb33 zb33 (fun K hK => ?_) (fun K hK => ?_)
           ·skip
            refine goes_ Tryz.func16 zb10 rfl #[.slice A1 l1.length c1, .slice Ao25 y336.length co25] (by rfl) rfl rfl zb1 ?_
            with_reducible refine (broadsheetlaw05_Pieces.calls k _ _ l1 _ _ y336 t339 _ ?side1 ?side2 ?side3 ?side4 A8.out).mono ?_
            (case side1 => repeat (first | exact (Kd.C_below HR1.out HB.out) | (with_reducible refine Kd.C_alloc ?_ _) | (with_reducible refine Kd.C_drewN ?_ _) | (with_reducible refine Kd.C_drew ?_)))
            (case side2 => exact HC1.out)
            (case side3 => repeat (first | exact (Kd.R_reads' HO338.out).2.2 | (with_reducible refine Kd.C_alloc ?_ _) | (with_reducible refine Kd.C_drewN ?_ _) | (with_reducible refine Kd.C_drew ?_)))
            (case side4 => exact (Kd.R_reads' HO338.out).2.1)
            rintro e w' ⟨rfl, ⟨nd, rfl⟩⟩
            refine ⟨_, rfl, ?_⟩
            refine hK.out _ _ (hHeld) (fun hHeld => ?_)
            clear hK K
            refine norm_ (a' := ?_) ?_ ?_
            rotate_left
            ·show Act.put _ (some 24) _ = _
             simp only [Act.put, List.setIfInBounds_toArray, List.set_cons_zero, List.set_cons_succ, i64_w, i32_w]
             rfl
            refine pure_ (i := 11) (N := some 25) (v := ?_) (a' := ?_) #[true, true, true, true, true, true, true, true, true, true, true, true, false, true, false, false, false, false] rfl rfl (any_of HT_.out zb10) (fun _ _ _ h => h) (Or.inl ⟨by rfl, ?_⟩) ?_ ?_
            rotate_left
            ·intro w'
             go_simp
             first | with_reducible rfl | (rw [if_neg zb2])
            rotate_left
            ·simp only [Act.put, List.setIfInBounds_toArray, List.set_cons_zero, List.set_cons_succ, i64_w, i32_w]
             rfl
            refine pure_ (i := 12) (N := some 26) (v := ?_) (a' := ?_) #[true, true, true, true, true, true, true, true, true, true, true, true, true, true, false, false, false, false] rfl rfl (any_of HT_.out zb10) (fun _ _ _ h => h) (Or.inl ⟨by rfl, ?_⟩) ?_ ?_
            rotate_left
            ·intro w'
             go_simp
             first | with_reducible rfl | (rw [if_neg zb2])
            rotate_left
            ·simp only [Act.put, List.setIfInBounds_toArray, List.set_cons_zero, List.set_cons_succ, i64_w, i32_w]
             rfl
            refine one_ (i := 14) (N := some 28) #[true, true, true, true, true, true, true, true, true, true, true, true, true, true, true, false, false, false] rfl rfl (one_of HT_.out zb10) zb33 (fun K hK => ?_)
            refine Kd.R_lit_step Kd.string _ 9 ?hg (N := 28) ?hd (xs := ([(⟨#[97, 98, 99]⟩ : ByteArray), (⟨#[]⟩ : ByteArray), (⟨#[120]⟩ : ByteArray)] : List ByteArray)) (inner := [.string (⟨#[97, 98, 99]⟩ : ByteArray), .string (⟨#[]⟩ : ByteArray), .string (⟨#[120]⟩ : ByteArray)]) (ok := fun _ => True) (okp := fun _ => True) ?hr ?hp (fun _ hk => hk) trivial (Below.refl _ _) (Nat.le_refl _) zb46 ?_; (case hd => rfl); (case hg => rfl); (case hr => first | (go_simp; done) | (go_simp; rfl)); (case hp => exact (Reps.one (show Kd.M Kd.string _ _ _ (⟨#[97, 98, 99]⟩ : ByteArray) [.string (⟨#[97, 98, 99]⟩ : ByteArray)] from rfl) (Reps.one (show Kd.M Kd.string _ _ _ (⟨#[]⟩ : ByteArray) [.string (⟨#[]⟩ : ByteArray)] from rfl) (Reps.one (show Kd.M Kd.string _ _ _ (⟨#[120]⟩ : ByteArray) [.string (⟨#[120]⟩ : ByteArray)] from rfl) (Reps.none _ _)))))
            intro v341 w26 ho27 hb hg_ hnew_
            have HS0_ := (hb.cell (World.block_lt_of_cell? _ _ (hHeld))).trans (hHeld)
            clear hg_ hnew_
            (first | rw [← Ny340.out] at ho27 | (simp only [Int.reduceToNat] at ho27; rw [← Ny340.out] at ho27))
            have n0_ := Aside0.mk (Kd.R_elder' zb19 (Kd.R_base ho27) hb)
            have n1_ := Aside0.mk (Kd.R_elder' zb31 (Kd.R_base ho27) hb)
            have n2_ := Aside0.mk (Kd.R_lower (Kd.R_new' (Kd.R_new' ho27 (Kd.R_lt zb19)) (Kd.R_lt zb31)) (below_size zb0))
            have n3_ := Aside0.mk (below_step zb0 hb)
            clear HO334
            clear HO338
            clear HB
            have HO334 := n0_
            have HO338 := n1_
            have HO342 := n2_
            have HB := n3_
            clear n0_ n1_ n2_ n3_
            clear hb ho27
            refine hK.out _ _ (HS0_) (fun hHeld => ?_)
            clear hK K
            refine norm_ (a' := ?_) ?_ ?_
            rotate_left
            ·show Act.put _ (some 28) _ = _
             simp only [Act.put, List.setIfInBounds_toArray, List.set_cons_zero, List.set_cons_succ, i64_w, i32_w]
             rfl
            exact norm_ (by simp only [putAll, Act.put, List.setIfInBounds_toArray, List.set_cons_zero, List.set_cons_succ]) (hCont (.slice Ao25 y336.length co25, v341) _ ⟨hHeld, (by (with_reducible repeat (first | apply Kd.R_alloc | apply Kd.R_drewN | apply Kd.R_drew)); exact Kd.R_mono HO334.out (fun _ hk => ⟨hk.1.2, hk.2⟩)), zb61, zb60, zb0⟩)
           ·skip
            refine Kd.R_lit_step Kd.string _ 9 ?hg (N := 28) ?hd (xs := ([(⟨#[97, 98, 99]⟩ : ByteArray), (⟨#[]⟩ : ByteArray), (⟨#[120]⟩ : ByteArray)] : List ByteArray)) (inner := [.string (⟨#[97, 98, 99]⟩ : ByteArray), .string (⟨#[]⟩ : ByteArray), .string (⟨#[120]⟩ : ByteArray)]) (ok := fun _ => True) (okp := fun _ => True) ?hr ?hp (fun _ hk => hk) trivial (Below.refl _ _) (Nat.le_refl _) zb46 ?_; (case hd => rfl); (case hg => rfl); (case hr => first | (go_simp; done) | (go_simp; rfl)); (case hp => exact (Reps.one (show Kd.M Kd.string _ _ _ (⟨#[97, 98, 99]⟩ : ByteArray) [.string (⟨#[97, 98, 99]⟩ : ByteArray)] from rfl) (Reps.one (show Kd.M Kd.string _ _ _ (⟨#[]⟩ : ByteArray) [.string (⟨#[]⟩ : ByteArray)] from rfl) (Reps.one (show Kd.M Kd.string _ _ _ (⟨#[120]⟩ : ByteArray) [.string (⟨#[120]⟩ : ByteArray)] from rfl) (Reps.none _ _)))))
            intro v341 w25 ho26 hb hg_ hnew_
            have HS0_ := (hb.cell (World.block_lt_of_cell? _ _ (hHeld))).trans (hHeld)
            clear hg_ hnew_
            (first | rw [← Ny340.out] at ho26 | (simp only [Int.reduceToNat] at ho26; rw [← Ny340.out] at ho26))
            have n0_ := Aside0.mk (Kd.R_elder' zb19 (Kd.R_base ho26) hb)
            have n1_ := Aside0.mk (Kd.R_elder' zb31 (Kd.R_base ho26) hb)
            have n2_ := Aside0.mk (Kd.R_lower (Kd.R_new' (Kd.R_new' ho26 (Kd.R_lt zb19)) (Kd.R_lt zb31)) (below_size zb0))
            have n3_ := Aside0.mk (below_step zb0 hb)
            clear HO334
            clear HO338
            clear HB
            have HO334 := n0_
            have HO338 := n1_
            have HO342 := n2_
            have HB := n3_
            clear n0_ n1_ n2_ n3_
            clear hb ho26
            obtain ⟨Ao27, co27, eo27⟩ := Kd.R_slice HO338.out
            (first | subst eo27 | (injection eo27 with f1_ f2_ f3_; have f4_ := f1_.symm; have f5_ := f3_.symm; clear f1_ f2_ f3_; subst f4_; subst f5_))
            refine hK.out _ _ (HS0_) (fun hHeld => ?_)
            clear hK K
            refine norm_ (a' := ?_) ?_ ?_
            rotate_left
            ·show Act.put _ (some 28) _ = _
             simp only [Act.put, List.setIfInBounds_toArray, List.set_cons_zero, List.set_cons_succ, i64_w, i32_w]
             rfl
            refine one_ (i := 10) (N := some 24) #[true, true, true, true, true, true, true, true, true, true, true, false, false, true, true, false, false, false] rfl rfl (one_of HT_.out zb10) zb33 (fun K hK => ?_)
            refine goes_ Tryz.func16 zb10 rfl #[.slice A1 l1.length c1, .slice Ao27 y336.length co27] (by rfl) rfl rfl zb1 ?_
            with_reducible refine (broadsheetlaw05_Pieces.calls k _ _ l1 _ _ y336 t339 _ ?side1 ?side2 ?side3 ?side4 A8.out).mono ?_
            (case side1 => repeat (first | exact (Kd.C_below HR1.out HB.out) | (with_reducible refine Kd.C_alloc ?_ _) | (with_reducible refine Kd.C_drewN ?_ _) | (with_reducible refine Kd.C_drew ?_)))
            (case side2 => exact HC1.out)
            (case side3 => repeat (first | exact (Kd.R_reads' HO338.out).2.2 | (with_reducible refine Kd.C_alloc ?_ _) | (with_reducible refine Kd.C_drewN ?_ _) | (with_reducible refine Kd.C_drew ?_)))
            (case side4 => exact (Kd.R_reads' HO338.out).2.1)
            rintro e w' ⟨rfl, ⟨nd, rfl⟩⟩
            refine ⟨_, rfl, ?_⟩
            refine hK.out _ _ (hHeld) (fun hHeld => ?_)
            clear hK K
            refine norm_ (a' := ?_) ?_ ?_
            rotate_left
            ·show Act.put _ (some 24) _ = _
             simp only [Act.put, List.setIfInBounds_toArray, List.set_cons_zero, List.set_cons_succ, i64_w, i32_w]
             rfl
            refine pure_ (i := 11) (N := some 25) (v := ?_) (a' := ?_) #[true, true, true, true, true, true, true, true, true, true, true, true, false, true, true, false, false, false] rfl rfl (any_of HT_.out zb10) (fun _ _ _ h => h) (Or.inl ⟨by rfl, ?_⟩) ?_ ?_
            rotate_left
            ·intro w'
             go_simp
             first | with_reducible rfl | (rw [if_neg zb2])
            rotate_left
            ·simp only [Act.put, List.setIfInBounds_toArray, List.set_cons_zero, List.set_cons_succ, i64_w, i32_w]
             rfl
            refine pure_ (i := 12) (N := some 26) (v := ?_) (a' := ?_) #[true, true, true, true, true, true, true, true, true, true, true, true, true, true, true, false, false, false] rfl rfl (any_of HT_.out zb10) (fun _ _ _ h => h) (Or.inl ⟨by rfl, ?_⟩) ?_ ?_
            rotate_left
            ·intro w'
             go_simp
             first | with_reducible rfl | (rw [if_neg zb2])
            rotate_left
            ·simp only [Act.put, List.setIfInBounds_toArray, List.set_cons_zero, List.set_cons_succ, i64_w, i32_w]
             rfl
            exact norm_ (by simp only [putAll, Act.put, List.setIfInBounds_toArray, List.set_cons_zero, List.set_cons_succ]) (hCont (.slice Ao27 y336.length co27, v341) _ ⟨hHeld, (by (with_reducible repeat (first | apply Kd.R_alloc | apply Kd.R_drewN | apply Kd.R_drew)); exact Kd.R_mono HO334.out (fun _ hk => ⟨hk.1.2, hk.2⟩)), zb61, zb60, zb0⟩)
          ·skip
           refine Kd.R_lit_step Kd.string _ 9 ?hg (N := 28) ?hd (xs := ([(⟨#[97, 98, 99]⟩ : ByteArray), (⟨#[]⟩ : ByteArray), (⟨#[120]⟩ : ByteArray)] : List ByteArray)) (inner := [.string (⟨#[97, 98, 99]⟩ : ByteArray), .string (⟨#[]⟩ : ByteArray), .string (⟨#[120]⟩ : ByteArray)]) (ok := fun _ => True) (okp := fun _ => True) ?hr ?hp (fun _ hk => hk) trivial (Below.refl _ _) (Nat.le_refl _) zb46 ?_; (case hd => rfl); (case hg => rfl); (case hr => first | (go_simp; done) | (go_simp; rfl)); (case hp => exact (Reps.one (show Kd.M Kd.string _ _ _ (⟨#[97, 98, 99]⟩ : ByteArray) [.string (⟨#[97, 98, 99]⟩ : ByteArray)] from rfl) (Reps.one (show Kd.M Kd.string _ _ _ (⟨#[]⟩ : ByteArray) [.string (⟨#[]⟩ : ByteArray)] from rfl) (Reps.one (show Kd.M Kd.string _ _ _ (⟨#[120]⟩ : ByteArray) [.string (⟨#[120]⟩ : ByteArray)] from rfl) (Reps.none _ _)))))
           intro v341 w23 ho24 hb hg_ hnew_
           have HS0_ := (hb.cell (World.block_lt_of_cell? _ _ (hHeld))).trans (hHeld)
           clear hg_ hnew_
           (first | rw [← Ny340.out] at ho24 | (simp only [Int.reduceToNat] at ho24; rw [← Ny340.out] at ho24))
           have n0_ := Aside0.mk (Kd.R_elder' zb19 (Kd.R_base ho24) hb)
           have n1_ := Aside0.mk (Kd.R_lower (Kd.R_new' ho24 (Kd.R_lt zb19)) (below_size zb0))
           have n2_ := Aside0.mk (below_step zb0 hb)
           clear HO334
           clear HB
           have HO334 := n0_
           have HO342 := n1_
           have HB := n2_
           clear n0_ n1_ n2_
           clear hb ho24
           refine hK.out _ _ (HS0_) (fun hHeld => ?_)
           clear hK K
           refine norm_ (a' := ?_) ?_ ?_
           rotate_left
           ·show Act.put _ (some 28) _ = _
            simp only [Act.put, List.setIfInBounds_toArray, List.set_cons_zero, List.set_cons_succ, i64_w, i32_w]
            rfl
           refine one_ (i := 9) (N := some 23) #[true, true, true, true, true, true, true, true, true, true, false, false, false, true, true, false, false, false] rfl rfl (one_of HT_.out zb10) zb33 (fun K hK => ?_)
           refine Kd.R_lit_step Kd.string _ 9 ?hg (N := 23) ?hd (xs := ([(⟨#[88, 58, 32, 121, 13, 10]⟩ : ByteArray), (⟨#[67, 111, 110, 116, 101, 110, 116, 45, 76, 101, 110, 103, 116, 104, 58, 32, 48, 13, 10]⟩ : ByteArray), (⟨#[67, 111, 110, 116, 101, 110, 116, 45, 76, 101, 110, 103, 116, 104, 58, 32, 51, 13, 10]⟩ : ByteArray), (⟨#[99, 111, 110, 116, 101, 110, 116, 45, 108, 101, 110, 103, 116, 104, 58, 32, 54, 13, 10]⟩ : ByteArray), (⟨#[98, 97, 100, 13, 10]⟩ : ByteArray), (⟨#[69, 84, 97, 103, 58, 32, 34, 97, 34, 13, 10]⟩ : ByteArray)] : List ByteArray)) (inner := [.string (⟨#[88, 58, 32, 121, 13, 10]⟩ : ByteArray), .string (⟨#[67, 111, 110, 116, 101, 110, 116, 45, 76, 101, 110, 103, 116, 104, 58, 32, 48, 13, 10]⟩ : ByteArray), .string (⟨#[67, 111, 110, 116, 101, 110, 116, 45, 76, 101, 110, 103, 116, 104, 58, 32, 51, 13, 10]⟩ : ByteArray), .string (⟨#[99, 111, 110, 116, 101, 110, 116, 45, 108, 101, 110, 103, 116, 104, 58, 32, 54, 13, 10]⟩ : ByteArray), .string (⟨#[98, 97, 100, 13, 10]⟩ : ByteArray), .string (⟨#[69, 84, 97, 103, 58, 32, 34, 97, 34, 13, 10]⟩ : ByteArray)]) (ok := fun _ => True) (okp := fun _ => True) ?hr ?hp (fun _ hk => hk) trivial (Below.refl _ _) (Nat.le_refl _) zb46 ?_; (case hd => rfl); (case hg => rfl); (case hr => first | (go_simp; done) | (go_simp; rfl)); (case hp => exact (Reps.one (show Kd.M Kd.string _ _ _ (⟨#[88, 58, 32, 121, 13, 10]⟩ : ByteArray) [.string (⟨#[88, 58, 32, 121, 13, 10]⟩ : ByteArray)] from rfl) (Reps.one (show Kd.M Kd.string _ _ _ (⟨#[67, 111, 110, 116, 101, 110, 116, 45, 76, 101, 110, 103, 116, 104, 58, 32, 48, 13, 10]⟩ : ByteArray) [.string (⟨#[67, 111, 110, 116, 101, 110, 116, 45, 76, 101, 110, 103, 116, 104, 58, 32, 48, 13, 10]⟩ : ByteArray)] from rfl) (Reps.one (show Kd.M Kd.string _ _ _ (⟨#[67, 111, 110, 116, 101, 110, 116, 45, 76, 101, 110, 103, 116, 104, 58, 32, 51, 13, 10]⟩ : ByteArray) [.string (⟨#[67, 111, 110, 116, 101, 110, 116, 45, 76, 101, 110, 103, 116, 104, 58, 32, 51, 13, 10]⟩ : ByteArray)] from rfl) (Reps.one (show Kd.M Kd.string _ _ _ (⟨#[99, 111, 110, 116, 101, 110, 116, 45, 108, 101, 110, 103, 116, 104, 58, 32, 54, 13, 10]⟩ : ByteArray) [.string (⟨#[99, 111, 110, 116, 101, 110, 116, 45, 108, 101, 110, 103, 116, 104, 58, 32, 54, 13, 10]⟩ : ByteArray)] from rfl) (Reps.one (show Kd.M Kd.string _ _ _ (⟨#[98, 97, 100, 13, 10]⟩ : ByteArray) [.string (⟨#[98, 97, 100, 13, 10]⟩ : ByteArray)] from rfl) (Reps.one (show Kd.M Kd.string _ _ _ (⟨#[69, 84, 97, 103, 58, 32, 34, 97, 34, 13, 10]⟩ : ByteArray) [.string (⟨#[69, 84, 97, 103, 58, 32, 34, 97, 34, 13, 10]⟩ : ByteArray)] from rfl) (Reps.none _ _))))))))
           intro v337 w25 ho26 hb hg_ hnew_
           have HS0_ := (hb.cell (World.block_lt_of_cell? _ _ (hHeld))).trans (hHeld)
           clear hg_ hnew_
           (first | rw [← Ny336.out] at ho26 | (simp only [Int.reduceToNat] at ho26; rw [← Ny336.out] at ho26))
           have n0_ := Aside0.mk (Kd.R_elder' zb19 (Kd.R_base ho26) hb)
           have n1_ := Aside0.mk (Kd.R_elder' zb40 (Kd.R_base ho26) hb)
           have n2_ := Aside0.mk (Kd.R_lower (Kd.R_new' (Kd.R_new' ho26 (Kd.R_lt zb19)) (Kd.R_lt zb40)) (below_size zb0))
           have n3_ := Aside0.mk (below_step zb0 hb)
           clear HO334
           clear HO342
           clear HB
           have HO334 := n0_
           have HO342 := n1_
           have HO338 := n2_
           have HB := n3_
           clear n0_ n1_ n2_ n3_
           clear hb ho26
           obtain ⟨Ao27, co27, eo27⟩ := Kd.R_slice HO338.out
           (first | subst eo27 | (injection eo27 with f1_ f2_ f3_; have f4_ := f1_.symm; have f5_ := f3_.symm; clear f1_ f2_ f3_; subst f4_; subst f5_))
           refine hK.out _ _ (HS0_) (fun hHeld => ?_)
           clear hK K
           refine norm_ (a' := ?_) ?_ ?_
           rotate_left
           ·show Act.put _ (some 23) _ = _
            simp only [Act.put, List.setIfInBounds_toArray, List.set_cons_zero, List.set_cons_succ, i64_w, i32_w]
            rfl
           refine one_ (i := 10) (N := some 24) #[true, true, true, true, true, true, true, true, true, true, true, false, false, true, true, false, false, false] rfl rfl (one_of HT_.out zb10) zb33 (fun K hK => ?_)
           refine goes_ Tryz.func16 zb10 rfl #[.slice A1 l1.length c1, .slice Ao27 y336.length co27] (by rfl) rfl rfl zb1 ?_
           with_reducible refine (broadsheetlaw05_Pieces.calls k _ _ l1 _ _ y336 t339 _ ?side1 ?side2 ?side3 ?side4 A8.out).mono ?_
           (case side1 => repeat (first | exact (Kd.C_below HR1.out HB.out) | (with_reducible refine Kd.C_alloc ?_ _) | (with_reducible refine Kd.C_drewN ?_ _) | (with_reducible refine Kd.C_drew ?_)))
           (case side2 => exact HC1.out)
           (case side3 => repeat (first | exact (Kd.R_reads' HO338.out).2.2 | (with_reducible refine Kd.C_alloc ?_ _) | (with_reducible refine Kd.C_drewN ?_ _) | (with_reducible refine Kd.C_drew ?_)))
           (case side4 => exact (Kd.R_reads' HO338.out).2.1)
           rintro e w' ⟨rfl, ⟨nd, rfl⟩⟩
           refine ⟨_, rfl, ?_⟩
           refine hK.out _ _ (hHeld) (fun hHeld => ?_)
           clear hK K
           refine norm_ (a' := ?_) ?_ ?_
           rotate_left
           ·show Act.put _ (some 24) _ = _
            simp only [Act.put, List.setIfInBounds_toArray, List.set_cons_zero, List.set_cons_succ, i64_w, i32_w]
            rfl
           refine pure_ (i := 11) (N := some 25) (v := ?_) (a' := ?_) #[true, true, true, true, true, true, true, true, true, true, true, true, false, true, true, false, false, false] rfl rfl (any_of HT_.out zb10) (fun _ _ _ h => h) (Or.inl ⟨by rfl, ?_⟩) ?_ ?_
           rotate_left
           ·intro w'
            go_simp
            first | with_reducible rfl | (rw [if_neg zb2])
           rotate_left
           ·simp only [Act.put, List.setIfInBounds_toArray, List.set_cons_zero, List.set_cons_succ, i64_w, i32_w]
            rfl
           refine pure_ (i := 12) (N := some 26) (v := ?_) (a' := ?_) #[true, true, true, true, true, true, true, true, true, true, true, true, true, true, true, false, false, false] rfl rfl (any_of HT_.out zb10) (fun _ _ _ h => h) (Or.inl ⟨by rfl, ?_⟩) ?_ ?_
           rotate_left
           ·intro w'
            go_simp
            first | with_reducible rfl | (rw [if_neg zb2])
           rotate_left
           ·simp only [Act.put, List.setIfInBounds_toArray, List.set_cons_zero, List.set_cons_succ, i64_w, i32_w]
            rfl
           exact norm_ (by simp only [putAll, Act.put, List.setIfInBounds_toArray, List.set_cons_zero, List.set_cons_succ]) (hCont (.slice Ao27 y336.length co27, v341) _ ⟨hHeld, (by (with_reducible repeat (first | apply Kd.R_alloc | apply Kd.R_drewN | apply Kd.R_drew)); exact Kd.R_mono HO334.out (fun _ hk => ⟨hk.2, hk.1.2⟩)), zb61, zb60, zb0⟩)
         rintro ⟨v337, v341⟩ w28 ⟨hS_, h0_, h1_, h2_, h3_⟩
         have n0_ : Aside0 (Kd.R Kd.string 9 w28 w.heap.size (fun k_ => some k_ ≠ (v337 : Value).ownBlock ∧ some k_ ≠ (v341 : Value).ownBlock) (.slice (some ad335) y332.length co22) y332) := ⟨h0_⟩
         have n1_ : Aside0 (Kd.R Kd.string 9 w28 w.heap.size (fun k_ => some k_ ≠ (.slice (some ad335) y332.length co22 : Value).ownBlock ∧ some k_ ≠ (v341 : Value).ownBlock) v337 y336) := ⟨h1_⟩
         have n2_ : Aside0 (Kd.R Kd.string 9 w28 w.heap.size (fun k_ => some k_ ≠ (.slice (some ad335) y332.length co22 : Value).ownBlock ∧ some k_ ≠ (v337 : Value).ownBlock) v341 y340) := ⟨h2_⟩
         have n3_ : Aside0 (Below w.heap.size w w28) := ⟨h3_⟩
         clear HO334
         clear HB
         clear h0_ h1_ h2_ h3_
         have HO334 := n0_
         have HO338 := n1_
         have HO342 := n2_
         have HB := n3_
         clear n0_ n1_ n2_ n3_
         have hHeld : w28.cell? (ad335.add ((ji5)).toNat) = some (.string (rdOf ByteArray.empty y332 (ji5))) := hS_
         obtain ⟨Ao29, co29, eo29⟩ := Kd.R_slice HO342.out
         (first | subst eo29 | (injection eo29 with f1_ f2_ f3_; have f4_ := f1_.symm; have f5_ := f3_.symm; clear f1_ f2_ f3_; subst f4_; subst f5_))
         refine norm_ (a' := ?_) ?_ ?_
         rotate_left
         ·simp only [putAll, Act.put, List.setIfInBounds_toArray, List.set_cons_zero, List.set_cons_succ]
          rfl
         refine one_ (i := 15) (N := some 29) #[true, true, true, true, true, true, true, true, true, true, true, true, true, true, true, true, false, false] rfl rfl (one_of HT_.out zb10) zb33 (fun K hK => ?_)
         refine goes_ Tryz.func16 zb10 rfl #[.slice A2 l2.length c2, .slice Ao29 y340.length co29] (by rfl) rfl rfl zb1 ?_
         with_reducible refine (broadsheetlaw05_Pieces.calls k _ _ l2 _ _ y340 t343 _ ?side1 ?side2 ?side3 ?side4 A11.out).mono ?_
         (case side1 => repeat (first | exact (Kd.C_below HR2.out HB.out) | (with_reducible refine Kd.C_alloc ?_ _) | (with_reducible refine Kd.C_drewN ?_ _) | (with_reducible refine Kd.C_drew ?_)))
         (case side2 => exact HC2.out)
         (case side3 => repeat (first | exact (Kd.R_reads' HO342.out).2.2 | (with_reducible refine Kd.C_alloc ?_ _) | (with_reducible refine Kd.C_drewN ?_ _) | (with_reducible refine Kd.C_drew ?_)))
         (case side4 => exact (Kd.R_reads' HO342.out).2.1)
         rintro e w' ⟨rfl, ⟨nd, rfl⟩⟩
         refine ⟨_, rfl, ?_⟩
         refine hK.out _ _ (hHeld) (fun hHeld => ?_)
         clear hK K
         refine norm_ (a' := ?_) ?_ ?_
         rotate_left
         ·show Act.put _ (some 29) _ = _
          simp only [Act.put, List.setIfInBounds_toArray, List.set_cons_zero, List.set_cons_succ, i64_w, i32_w]
          rfl
         refine pure_ (i := 16) (N := some 30) (v := ?_) (a' := ?_) #[true, true, true, true, true, true, true, true, true, true, true, true, true, true, true, true, true, false] rfl rfl (any_of HT_.out zb10) (fun _ _ _ h => h) (Or.inl ⟨by rfl, ?_⟩) ?_ ?_
         rotate_left
         ·intro w'
          go_simp
          first | with_reducible rfl | (rw [if_neg zb2])
         rotate_left
         ·simp only [Act.put, List.setIfInBounds_toArray, List.set_cons_zero, List.set_cons_succ, i64_w, i32_w]
          rfl
         refine pure_ (i := 17) (N := some 8) (v := ?_) (a' := ?_) #[true, true, true, true, true, true, true, true, true, true, true, true, true, true, true, true, true, true] rfl rfl (any_of HT_.out zb10) (fun _ _ _ h => h) (Or.inl ⟨by rfl, ?_⟩) ?_ ?_
         rotate_left
         ·intro w'
          go_simp
          first | with_reducible rfl | (rw [if_neg zb2])
         rotate_left
         ·simp only [Act.put, List.setIfInBounds_toArray, List.set_cons_zero, List.set_cons_succ, i64_w, i32_w]
          rfl
         refine done_ (done_of HT_.out zb10) ?_
         try go_wp2_with (first | ((with_reducible refine gate_callee (f := 13) rfl ?_); refine goesL_ (some 33) rfl rfl Tryz.func13 zb10 rfl #[.string ((((rdOf ByteArray.empty y332 (ji5)) ++ t339) ++ (⟨#[13, 10]⟩ : ByteArray)) ++ t343)] rfl (by (try simp only [List.map_toArray, List.map_cons, List.map_nil]); first | done | (simp only [hji5]; rfl) | rfl | (simp only [List.length_drop, List.length_take]; rfl)) ?_; (with_reducible refine (response_Parse.calls k ((((rdOf ByteArray.empty y332 (ji5)) ++ t339) ++ (⟨#[13, 10]⟩ : ByteArray)) ++ t343) t344 t345 t348 t349 _ ?side1 A13.out).mono ?_); (case side1 => exact Glob.below hGA.out zb0); rintro e w30 ⟨v346, rfl, ho0, hb⟩; refine ⟨_, rfl, ?_⟩; have n0_ := Aside0.mk (Kd.R_below zb19 hb); have n1_ := Aside0.mk (Kd.R_below zb31 hb); have n2_ := Aside0.mk (Kd.R_below zb40 hb); have n3_ := Aside0.mk (Kd.R_lower ho0 (below_size zb0)); have n4_ := Aside0.mk (below_step zb0 hb); clear HO334; clear HO338; clear HO342; clear HB; have HO334 := n0_; have HO338 := n1_; have HO342 := n2_; have HO347 := n3_; have HB := n4_; clear n0_ n1_ n2_ n3_ n4_; (try clear hb); (try clear hb2); (try clear hk); (try clear hi); (try clear ho0)) | ((with_reducible refine gate_dst (N := 9) rfl ?_); refine box_event ?hg (N := 9) ?hd (cs := #[.int .i64 0, .slice none 0 0, .string (⟨#[]⟩ : ByteArray)]) (t := 24) ?hr ?_; (case hd => rfl); (case hg => rfl); (case hr => first | (go_simp; done) | (go_simp; rfl)); intro gb350 hg w31 hbox hb; have n0_ := Aside0.mk (Kd.R_below zb19 hb); have n1_ := Aside0.mk (Kd.R_below zb31 hb); have n2_ := Aside0.mk (Kd.R_below zb40 hb); have n3_ := Aside0.mk (Kd.R_below (by (with_reducible repeat (first | apply Kd.R_alloc | apply Kd.R_drewN | apply Kd.R_drew)); exact HO347.out) hb); have n4_ := Aside0.mk (below_step zb0 hb); have n5_ := Aside0.mk (hbox); have n6_ := Aside0.mk ((by rw [hg]; exact (below_size zb0) : w.heap.size ≤ gb350)); have n7_ := Aside0.mk ((by rw [hg]; exact (below_size zb0) : w.heap.size ≤ gb350)); clear HO334; clear HO338; clear HO342; clear HO347; clear HB; have HO334 := n0_; have HO338 := n1_; have HO342 := n2_; have HO347 := n3_; have HB := n4_; have BK350 := n5_; have GW350 := n6_; have GE350 := n7_; clear n0_ n1_ n2_ n3_ n4_ n5_ n6_ n7_; clear hb hbox hg; have hcz32_0 : w31.cell? ⟨gb350, 0, none⟩ = some (.int .i64 0) := (blk_cell BK350.out 0).trans rfl; have hcz32_1 : w31.cell? ⟨gb350, 1, none⟩ = some (.slice none 0 0) := (blk_cell BK350.out 1).trans rfl; have hcz32_2 : w31.cell? ⟨gb350, 2, none⟩ = some (.string (⟨#[]⟩ : ByteArray)) := (blk_cell BK350.out 2).trans rfl; have hfz32_0 := blk_frozen BK350.out 0; have hfz32_1 := blk_frozen BK350.out 1; have hfz32_2 := blk_frozen BK350.out 2; obtain ⟨Ao33, co33, eo33⟩ := Kd.R_slice HO347.out; subst eo33) | ((with_reducible refine gate_callee (f := 14) rfl ?_); refine goesL_ (some 38) rfl rfl Tryz.func14 zb10 rfl #[.string ((((rdOf ByteArray.empty y332 (ji5)) ++ t339) ++ (⟨#[13, 10]⟩ : ByteArray)) ++ t343)] rfl (by (try simp only [List.map_toArray, List.map_cons, List.map_nil]); first | done | (simp only [hji5]; rfl) | rfl | (simp only [List.length_drop, List.length_take]; rfl)) ?_; (with_reducible refine (broadsheetref21_Parse.calls k ((((rdOf ByteArray.empty y332 (ji5)) ++ t339) ++ (⟨#[13, 10]⟩ : ByteArray)) ++ t343) t351 t352 t355 t356 _ A14.out).mono ?_); rintro e w34 ⟨v353, rfl, ho0, hb⟩; refine ⟨_, rfl, ?_⟩; have n0_ := Aside0.mk (Kd.R_below (by (with_reducible repeat (first | apply Kd.R_alloc | apply Kd.R_drewN | apply Kd.R_drew)); exact (Kd.R_mono (Kd.R_far (p := ⟨gb350, 2, none⟩) (Kd.R_far (p := ⟨gb350, 1, none⟩) (Kd.R_far (p := ⟨gb350, 0, none⟩) (Kd.R_types HO334.out BK350.out zb33) (fun _ hk => hk.2) (.int .i64 t344)) (fun _ hk => hk.2) (.slice Ao33 t345.length co33)) (fun _ hk => hk.2) (.string t348)) (fun _ h_ => h_.1))) hb); have n1_ := Aside0.mk (Kd.R_below (by (with_reducible repeat (first | apply Kd.R_alloc | apply Kd.R_drewN | apply Kd.R_drew)); exact (Kd.R_mono (Kd.R_far (p := ⟨gb350, 2, none⟩) (Kd.R_far (p := ⟨gb350, 1, none⟩) (Kd.R_far (p := ⟨gb350, 0, none⟩) (Kd.R_types HO338.out BK350.out zb33) (fun _ hk => hk.2) (.int .i64 t344)) (fun _ hk => hk.2) (.slice Ao33 t345.length co33)) (fun _ hk => hk.2) (.string t348)) (fun _ h_ => h_.1))) hb); have n2_ := Aside0.mk (Kd.R_below (by (with_reducible repeat (first | apply Kd.R_alloc | apply Kd.R_drewN | apply Kd.R_drew)); exact (Kd.R_mono (Kd.R_far (p := ⟨gb350, 2, none⟩) (Kd.R_far (p := ⟨gb350, 1, none⟩) (Kd.R_far (p := ⟨gb350, 0, none⟩) (Kd.R_types HO342.out BK350.out zb33) (fun _ hk => hk.2) (.int .i64 t344)) (fun _ hk => hk.2) (.slice Ao33 t345.length co33)) (fun _ hk => hk.2) (.string t348)) (fun _ h_ => h_.1))) hb); have n3_ := Aside0.mk (Kd.R_elder' zb47 (Kd.R_base ho0) hb); have n4_ := Aside0.mk (Kd.R_lower (Kd.R_new' ho0 (Kd.R_lt zb47)) (below_size zb34)); have n5_ := Aside0.mk (blk_below (g := gb350) (o := .cells #[.int .i64 t344, .slice Ao33 t345.length co33, .string t348] 24 (0, 0)) (by (with_reducible repeat (first | refine blk_drewN ?_ _ | refine blk_drew ?_ | refine blk_alloc ?_ _)); refine blk_put (cs := #[.int .i64 t344, .slice Ao33 t345.length co33, .string (⟨#[]⟩ : ByteArray)]) ?_ 2 _ rfl; (with_reducible repeat (first | refine blk_drewN ?_ _ | refine blk_drew ?_ | refine blk_alloc ?_ _)); refine blk_put (cs := #[.int .i64 t344, .slice none 0 0, .string (⟨#[]⟩ : ByteArray)]) ?_ 1 _ rfl; (with_reducible repeat (first | refine blk_drewN ?_ _ | refine blk_drew ?_ | refine blk_alloc ?_ _)); refine blk_put (cs := #[.int .i64 0, .slice none 0 0, .string (⟨#[]⟩ : ByteArray)]) ?_ 0 _ rfl; (with_reducible repeat (first | refine blk_drewN ?_ _ | refine blk_drew ?_ | refine blk_alloc ?_ _)); exact BK350.out) hb); have n6_ := Aside0.mk (below_step zb34 hb); clear HO334; clear HO338; clear HO342; clear HO347; clear BK350; clear HB; have HO334 := n0_; have HO338 := n1_; have HO342 := n2_; have HO347 := n3_; have HO354 := n4_; have BK350 := n5_; have HB := n6_; clear n0_ n1_ n2_ n3_ n4_ n5_ n6_; (try clear hb); (try clear hb2); (try clear hk); (try clear hi); (try clear ho0)) | ((with_reducible refine gate_dst (N := 11) rfl ?_); refine box_event ?hg (N := 11) ?hd (cs := #[.int .i64 0, .slice none 0 0, .string (⟨#[]⟩ : ByteArray)]) (t := 24) ?hr ?_; (case hd => rfl); (case hg => rfl); (case hr => first | (go_simp; done) | (go_simp; rfl)); intro gb357 hg w35 hbox hb; have n0_ := Aside0.mk (Kd.R_below zb19 hb); have n1_ := Aside0.mk (Kd.R_below zb31 hb); have n2_ := Aside0.mk (Kd.R_below zb40 hb); have n3_ := Aside0.mk (Kd.R_below (by (with_reducible repeat (first | apply Kd.R_alloc | apply Kd.R_drewN | apply Kd.R_drew)); exact HO347.out) hb); have n4_ := Aside0.mk (Kd.R_below (by (with_reducible repeat (first | apply Kd.R_alloc | apply Kd.R_drewN | apply Kd.R_drew)); exact HO354.out) hb); have n5_ := Aside0.mk (blk_below (g := gb350) (o := .cells #[.int .i64 t344, .slice Ao33 t345.length co33, .string t348] 24 (0, 0)) zb55 hb); have n6_ := Aside0.mk (below_step zb34 hb); have n7_ := Aside0.mk (hbox); have n8_ := Aside0.mk ((by rw [hg]; exact (below_size zb34) : w.heap.size ≤ gb357)); have n9_ := Aside0.mk ((by rw [hg]; exact (below_size zb34) : w.heap.size ≤ gb357)); have n10_ := Aside0.mk ((by rw [hg]; exact Nat.ne_of_lt (blk_lt (g := gb350) (o := .cells #[.int .i64 t344, .slice Ao33 t345.length co33, .string t348] 24 (0, 0)) zb55) : gb350 ≠ gb357)); have n11_ := Aside0.mk ((by rw [hg]; exact Nat.ne_of_gt (blk_lt (g := gb350) (o := .cells #[.int .i64 t344, .slice Ao33 t345.length co33, .string t348] 24 (0, 0)) zb55) : gb357 ≠ gb350)); clear HO334; clear HO338; clear HO342; clear HO347; clear HO354; clear BK350; clear HB; have HO334 := n0_; have HO338 := n1_; have HO342 := n2_; have HO347 := n3_; have HO354 := n4_; have BK350 := n5_; have HB := n6_; have BK357 := n7_; have GW357 := n8_; have GE357 := n9_; have NB350_357 := n10_; have NB357_350 := n11_; clear n0_ n1_ n2_ n3_ n4_ n5_ n6_ n7_ n8_ n9_ n10_ n11_; clear hb hbox hg; have hnb36 := NB357_350.out; have hnc36 := NB350_357.out; have hcz37_0 : w35.cell? ⟨gb357, 0, none⟩ = some (.int .i64 0) := (blk_cell BK357.out 0).trans rfl; have hcz37_1 : w35.cell? ⟨gb357, 1, none⟩ = some (.slice none 0 0) := (blk_cell BK357.out 1).trans rfl; have hcz37_2 : w35.cell? ⟨gb357, 2, none⟩ = some (.string (⟨#[]⟩ : ByteArray)) := (blk_cell BK357.out 2).trans rfl; have hfz37_0 := blk_frozen BK357.out 0; have hfz37_1 := blk_frozen BK357.out 1; have hfz37_2 := blk_frozen BK357.out 2; obtain ⟨Ao38, co38, eo38⟩ := Kd.R_slice HO354.out; subst eo38) | ((with_reducible refine gate_callee (f := 8) rfl ?_); refine goesL_ (some 41) rfl rfl Tryz.func8 zb10 rfl #[] rfl zb1 ?_; (with_reducible refine (broadsheetlaw21_awake.calls k  true _ ?side1 A15.out (by first | rfl | exact hr)).mono ?_); (case side1 => exact Glob.below hGA.out zb37); rintro e w39 ⟨rfl, hb⟩; refine ⟨_, rfl, ?_⟩; have n0_ := Aside0.mk (Kd.R_below (by (with_reducible repeat (first | apply Kd.R_alloc | apply Kd.R_drewN | apply Kd.R_drew)); exact (Kd.R_mono (Kd.R_far (p := ⟨gb357, 2, none⟩) (Kd.R_far (p := ⟨gb357, 1, none⟩) (Kd.R_far (p := ⟨gb357, 0, none⟩) (Kd.R_types HO334.out BK357.out zb33) (fun _ hk => hk.2) (.int .i64 t351)) (fun _ hk => hk.2) (.slice Ao38 t352.length co38)) (fun _ hk => hk.2) (.string t355)) (fun _ h_ => h_.1))) hb); have n1_ := Aside0.mk (Kd.R_below (by (with_reducible repeat (first | apply Kd.R_alloc | apply Kd.R_drewN | apply Kd.R_drew)); exact (Kd.R_mono (Kd.R_far (p := ⟨gb357, 2, none⟩) (Kd.R_far (p := ⟨gb357, 1, none⟩) (Kd.R_far (p := ⟨gb357, 0, none⟩) (Kd.R_types HO338.out BK357.out zb33) (fun _ hk => hk.2) (.int .i64 t351)) (fun _ hk => hk.2) (.slice Ao38 t352.length co38)) (fun _ hk => hk.2) (.string t355)) (fun _ h_ => h_.1))) hb); have n2_ := Aside0.mk (Kd.R_below (by (with_reducible repeat (first | apply Kd.R_alloc | apply Kd.R_drewN | apply Kd.R_drew)); exact (Kd.R_mono (Kd.R_far (p := ⟨gb357, 2, none⟩) (Kd.R_far (p := ⟨gb357, 1, none⟩) (Kd.R_far (p := ⟨gb357, 0, none⟩) (Kd.R_types HO342.out BK357.out zb33) (fun _ hk => hk.2) (.int .i64 t351)) (fun _ hk => hk.2) (.slice Ao38 t352.length co38)) (fun _ hk => hk.2) (.string t355)) (fun _ h_ => h_.1))) hb); have n3_ := Aside0.mk (Kd.R_below (by (with_reducible repeat (first | apply Kd.R_alloc | apply Kd.R_drewN | apply Kd.R_drew)); exact (Kd.R_mono (Kd.R_far (p := ⟨gb357, 2, none⟩) (Kd.R_far (p := ⟨gb357, 1, none⟩) (Kd.R_far (p := ⟨gb357, 0, none⟩) (Kd.R_types HO347.out BK357.out zb33) (fun _ hk => hk.2) (.int .i64 t351)) (fun _ hk => hk.2) (.slice Ao38 t352.length co38)) (fun _ hk => hk.2) (.string t355)) (fun _ h_ => h_.1))) hb); have n4_ := Aside0.mk (Kd.R_below (by (with_reducible repeat (first | apply Kd.R_alloc | apply Kd.R_drewN | apply Kd.R_drew)); exact (Kd.R_mono (Kd.R_far (p := ⟨gb357, 2, none⟩) (Kd.R_far (p := ⟨gb357, 1, none⟩) (Kd.R_far (p := ⟨gb357, 0, none⟩) (Kd.R_types HO354.out BK357.out zb33) (fun _ hk => hk.2) (.int .i64 t351)) (fun _ hk => hk.2) (.slice Ao38 t352.length co38)) (fun _ hk => hk.2) (.string t355)) (fun _ h_ => h_.1))) hb); have n5_ := Aside0.mk (blk_below (g := gb350) (o := .cells #[.int .i64 t344, .slice Ao33 t345.length co33, .string t348] 24 (0, 0)) (by (with_reducible repeat (first | refine blk_drewN ?_ _ | refine blk_drew ?_ | refine blk_alloc ?_ _)); refine blk_far ?_ NB350_357.out _; (with_reducible repeat (first | refine blk_drewN ?_ _ | refine blk_drew ?_ | refine blk_alloc ?_ _)); refine blk_far ?_ NB350_357.out _; (with_reducible repeat (first | refine blk_drewN ?_ _ | refine blk_drew ?_ | refine blk_alloc ?_ _)); refine blk_far ?_ NB350_357.out _; (with_reducible repeat (first | refine blk_drewN ?_ _ | refine blk_drew ?_ | refine blk_alloc ?_ _)); exact BK350.out) hb); have n6_ := Aside0.mk (blk_below (g := gb357) (o := .cells #[.int .i64 t351, .slice Ao38 t352.length co38, .string t355] 24 (0, 0)) (by (with_reducible repeat (first | refine blk_drewN ?_ _ | refine blk_drew ?_ | refine blk_alloc ?_ _)); refine blk_put (cs := #[.int .i64 t351, .slice Ao38 t352.length co38, .string (⟨#[]⟩ : ByteArray)]) ?_ 2 _ rfl; (with_reducible repeat (first | refine blk_drewN ?_ _ | refine blk_drew ?_ | refine blk_alloc ?_ _)); refine blk_put (cs := #[.int .i64 t351, .slice none 0 0, .string (⟨#[]⟩ : ByteArray)]) ?_ 1 _ rfl; (with_reducible repeat (first | refine blk_drewN ?_ _ | refine blk_drew ?_ | refine blk_alloc ?_ _)); refine blk_put (cs := #[.int .i64 0, .slice none 0 0, .string (⟨#[]⟩ : ByteArray)]) ?_ 0 _ rfl; (with_reducible repeat (first | refine blk_drewN ?_ _ | refine blk_drew ?_ | refine blk_alloc ?_ _)); exact BK357.out) hb); have n7_ := Aside0.mk (below_step zb37 hb); clear HO334; clear HO338; clear HO342; clear HO347; clear HO354; clear BK350; clear BK357; clear HB; have HO334 := n0_; have HO338 := n1_; have HO342 := n2_; have HO347 := n3_; have HO354 := n4_; have BK350 := n5_; have BK357 := n6_; have HB := n7_; clear n0_ n1_ n2_ n3_ n4_ n5_ n6_ n7_; (try clear hb); (try clear hb2); (try clear hk); (try clear hi); have hcz40_0 : w39.cell? ⟨gb350, 0, none⟩ = some (.int .i64 t344) := (blk_cell BK350.out 0).trans rfl; have hcz40_1 : w39.cell? ⟨gb350, 1, none⟩ = some (.slice Ao33 t345.length co33) := (blk_cell BK350.out 1).trans rfl; have hcz40_2 : w39.cell? ⟨gb350, 2, none⟩ = some (.string t348) := (blk_cell BK350.out 2).trans rfl; have hfz40_0 := blk_frozen BK350.out 0; have hfz40_1 := blk_frozen BK350.out 1; have hfz40_2 := blk_frozen BK350.out 2; have hcz41_0 : w39.cell? ⟨gb357, 0, none⟩ = some (.int .i64 t351) := (blk_cell BK357.out 0).trans rfl; have hcz41_1 : w39.cell? ⟨gb357, 1, none⟩ = some (.slice Ao38 t352.length co38) := (blk_cell BK357.out 1).trans rfl; have hcz41_2 : w39.cell? ⟨gb357, 2, none⟩ = some (.string t355) := (blk_cell BK357.out 2).trans rfl; have hfz41_0 := blk_frozen BK357.out 0; have hfz41_1 := blk_frozen BK357.out 1; have hfz41_2 := blk_frozen BK357.out 2) | (go_at_call 15; (with_reducible refine (broadsheetref21_Same.calls k t344 _ _ t345 t348 t351 _ _ t352 t355 true _ ?side1 ?side2 ?side3 ?side4 A17.out (by first | rfl | exact hr)).mono ?_); (case side1 => repeat (first | exact (Kd.R_reads' HO347.out).2.2 | (with_reducible refine Kd.C_alloc ?_ _) | (with_reducible refine Kd.C_drewN ?_ _) | (with_reducible refine Kd.C_drew ?_))); (case side2 => exact (Kd.R_reads' HO347.out).2.1); (case side3 => repeat (first | exact (Kd.R_reads' HO354.out).2.2 | (with_reducible refine Kd.C_alloc ?_ _) | (with_reducible refine Kd.C_drewN ?_ _) | (with_reducible refine Kd.C_drew ?_))); (case side4 => exact (Kd.R_reads' HO354.out).2.1); rintro e w42 ⟨rfl, hb⟩; have n0_ := Aside0.mk (Kd.R_below zb19 hb); have n1_ := Aside0.mk (Kd.R_below zb31 hb); have n2_ := Aside0.mk (Kd.R_below zb40 hb); have n3_ := Aside0.mk (Kd.R_below (by (with_reducible repeat (first | apply Kd.R_alloc | apply Kd.R_drewN | apply Kd.R_drew)); exact HO347.out) hb); have n4_ := Aside0.mk (Kd.R_below (by (with_reducible repeat (first | apply Kd.R_alloc | apply Kd.R_drewN | apply Kd.R_drew)); exact HO354.out) hb); have n5_ := Aside0.mk (blk_below (g := gb350) (o := .cells #[.int .i64 t344, .slice Ao33 t345.length co33, .string t348] 24 (0, 0)) zb55 hb); have n6_ := Aside0.mk (blk_below (g := gb357) (o := .cells #[.int .i64 t351, .slice Ao38 t352.length co38, .string t355] 24 (0, 0)) (by (with_reducible repeat (first | refine blk_drewN ?_ _ | refine blk_drew ?_ | refine blk_alloc ?_ _)); exact BK357.out) hb); have n7_ := Aside0.mk (below_step zb37 hb); clear HO334; clear HO338; clear HO342; clear HO347; clear HO354; clear BK350; clear BK357; clear HB; have HO334 := n0_; have HO338 := n1_; have HO342 := n2_; have HO347 := n3_; have HO354 := n4_; have BK350 := n5_; have BK357 := n6_; have HB := n7_; clear n0_ n1_ n2_ n3_ n4_ n5_ n6_ n7_; (try clear hb); (try clear hb2); (try clear hk); (try clear hi)))
         go_ret
         exact ⟨by first | rfl | (simp [errW_none, errW_some, bne_nil_] <;> rfl) | (simp only [← hji5]; first | rfl | (simp [errW_none, errW_some, bne_nil_] <;> rfl)) | (simp [*, errW_none, errW_some] <;> rfl), zb37⟩
        ·replace c18 := Bool.eq_false_iff.mpr c18
         subst c18
         replace H : (some false) = some r := by rw [if_neg (show ¬ (false = true) by decide)] at H; exact H
         exact absurd ((Option.some.inj H).trans hr) zb33
       ·replace c16 := Bool.eq_false_iff.mpr c16
        subst c16
        replace H : (some false) = some r := by rw [if_neg (show ¬ (false = true) by decide)] at H; exact H
        exact absurd ((Option.some.inj H).trans hr) zb33
      ·rw [if_neg c12] at H
       exact absurd H zb46
     ·rw [if_neg c10] at H
      exact absurd H zb46
    ·rw [if_neg c9] at H
     exact absurd H zb46
   ·rw [if_neg c7] at H
    exact absurd H zb46
  ·rw [if_neg c6] at H
   exact absurd H zb46
end Go.Proofs.YtaopopnlnohnpaaGreatDoor.P
/- SpPieces -/
namespace Go.Proofs.YtaopopnlnohnpaaGreatDoor.Sp
open Go Go.RowKit Go.Proofs.YtaopopnlnohnpaaGreatDoorW.PrintWords Go.Proofs.YtaopopnlnohnpaaGreatDoorW.PrintLast Go.Proofs.YtaopopnlnohnpaaGreatDoor.O Go.Proofs.YtaopopnlnohnpaaGreatDoor.P
set_option linter.unusedVariables false
theorem pieces_l0 (l : List Int) (hl : ∀ x ∈ l, 0 ≤ x ∧ x < 256) (pcs : List ByteArray) (hp : pcs ≠ []) (hn : pcs.length ≤ 1000) (hb : ∀ p ∈ pcs, p.size ≤ 1000) : ∀ (d k i : Nat) (acc : ByteArray), i + d = 12 → d < k → acc.size ≤ 1000 * i →
    ∃ t, broadsheetlaw05_Pieces.l0 k l pcs acc i = some t ∧ t.size ≤ 12000 := by
  intro d
  induction d with
  | zero =>
    intro k i acc hi hk ha
    obtain ⟨k, rfl⟩ : ∃ k', k = k' + 1 := ⟨k - 1, by omega⟩
    rw [broadsheetlaw05_Pieces.l0]
    by_cases h : (i : Int) < (l.length : Int)
    · rw [if_pos h, if_neg (by omega)]
      exact ⟨_, rfl, by omega⟩
    · rw [if_neg h]
      exact ⟨_, rfl, by omega⟩
  | succ d ih =>
    intro k i acc hi hk ha
    obtain ⟨k, rfl⟩ : ∃ k', k = k' + 1 := ⟨k - 1, by omega⟩
    rw [broadsheetlaw05_Pieces.l0]
    by_cases h : (i : Int) < (l.length : Int)
    · have hil : i < l.length := by omega
      have hpl : 0 < pcs.length := List.length_pos_iff.2 hp
      have hr : rd l (i : Int) = l[i] := by simp [rd, List.getD_eq_getElem?_getD, List.getElem?_eq_getElem hil]
      have hx := hl l[i] (List.getElem_mem hil)
      obtain ⟨x, hx2⟩ := Int.eq_ofNat_of_zero_le hx.1
      rw [if_pos h, if_pos (by omega), if_pos (by omega), if_neg (by omega), hr, hx2, wrap_id (by omega) (by omega)]
      have hm : Int.tmod (x : Int) ((pcs.length : Nat) : Int) = ((x % pcs.length : Nat) : Int) := by rw [Int.tmod_eq_emod_of_nonneg (by omega)]; rfl
      have hlt : x % pcs.length < pcs.length := Nat.mod_lt _ hpl
      obtain ⟨j, hj⟩ : ∃ j, j = x % pcs.length := ⟨_, rfl⟩
      rw [← hj] at hm hlt
      clear hj hx2 hr hx hl
      have hq : (rdOf ByteArray.empty pcs ((j : Nat) : Int)).size ≤ 1000 := by
        have e : rdOf ByteArray.empty pcs ((j : Nat) : Int) = pcs[j] := by
          unfold rdOf
          rw [Int.toNat_natCast, List.getD_eq_getElem?_getD, List.getElem?_eq_getElem hlt]
          rfl
        rw [e]
        exact hb _ (List.getElem_mem hlt)
      have hw : wrap64 ((i : Int) + 1) = ((i + 1 : Nat) : Int) := by rw [wrap_id (by omega) (by omega)]; omega
      rw [hm, if_pos (by omega), if_pos (by omega), if_pos (by omega), hw]
      exact ih k (i + 1) _ (by omega) (by omega) (by rw [ByteArray.size_append]; omega)
    · rw [if_neg h]
      exact ⟨_, rfl, by omega⟩
theorem piecesF (l : List Int) (hl : ∀ x ∈ l, 0 ≤ x ∧ x < 256) (pcs : List ByteArray) (hp : pcs ≠ []) (hn : pcs.length ≤ 1000) (hb : ∀ p ∈ pcs, p.size ≤ 1000) (k : Nat) (hk : 13 ≤ k) : ∃ t, broadsheetlaw05_Pieces.f k l pcs = some t ∧ t.size ≤ 12000 :=
  pieces_l0 l hl pcs hp hn hb 12 k 0 _ (by omega) (by omega) (Nat.zero_le _)
theorem rsp_small_end (t : ByteArray) (ht : t.size ≤ 30000) (k : Nat) (hk : 5000000 ≤ k) : ((response_Parse.f k t).bind fun bt344 => ((broadsheetref21_Parse.f k t).bind fun bt351 => ((broadsheetlaw21_awake.f k).bind fun t358 => (if t358 = true then ((broadsheetref21_Same.f k bt344.1 bt344.2.1 bt344.2.2.1 bt351.1 bt351.2.1 bt351.2.2.1).bind fun t359 => (if t359 = true then (some (bt344.2.2.2 == bt351.2.2.2)) else (some false))) else (some false))))) = some true := by
  rw [← mk_self t]
  have hl : t.data.toList.length ≤ 30000 := by rw [← Lib.size_eq]; exact ht
  generalize t.data.toList = l at *
  have hp := parse_short l hl
  rw [awake21 _ (by omega), parseRF l _ (by omega) (by omega), rparseRF l _ (by omega) (by omega)]
  simp only [Option.bind_some, if_true, txt4]
  rw [resp_same _ _ _ _ (by omega) (by omega)]
  simp
theorem rsp_small_all (a : Int) (l m : List Int) (ha : (Lit.int .u8 a).wf = true) (hl : ∀ x ∈ l, (Lit.int .u8 x).wf = true) (hm : ∀ x ∈ m, (Lit.int .u8 x).wf = true) : ∃ k, broadsheetlaw21_ResponseSmall.f k a l m = some true := by
  refine ⟨5000000, ?_⟩
  have ga := wf_u8 ha
  have htm : Int.tmod (wrap64 a) 5 = a % 5 := by rw [wrap_id (by omega) (by omega), Int.tmod_eq_emod_of_nonneg ga.1]
  have k1 := piecesF l (fun x hx => wf_u8 (hl x hx)) ([(⟨#[88, 58, 32, 121, 13, 10]⟩ : ByteArray), (⟨#[67, 111, 110, 116, 101, 110, 116, 45, 76, 101, 110, 103, 116, 104, 58, 32, 48, 13, 10]⟩ : ByteArray), (⟨#[67, 111, 110, 116, 101, 110, 116, 45, 76, 101, 110, 103, 116, 104, 58, 32, 51, 13, 10]⟩ : ByteArray), (⟨#[99, 111, 110, 116, 101, 110, 116, 45, 108, 101, 110, 103, 116, 104, 58, 32, 54, 13, 10]⟩ : ByteArray), (⟨#[98, 97, 100, 13, 10]⟩ : ByteArray), (⟨#[69, 84, 97, 103, 58, 32, 34, 97, 34, 13, 10]⟩ : ByteArray)] : List ByteArray) (by simp) (by decide) (by decide) 5000000 (by omega)
  have k2 := piecesF m (fun x hx => wf_u8 (hm x hx)) ([(⟨#[97, 98, 99]⟩ : ByteArray), (⟨#[]⟩ : ByteArray), (⟨#[120]⟩ : ByteArray)] : List ByteArray) (by simp) (by decide) (by decide) 5000000 (by omega)
  obtain ⟨t1, h1, s1⟩ := k1
  obtain ⟨t2, h2, s2⟩ := k2
  have hb : ∀ p ∈ ([(⟨#[72, 84, 84, 80, 47, 49, 46, 49, 32, 50, 48, 48, 32, 79, 75, 13, 10]⟩ : ByteArray), (⟨#[72, 84, 84, 80, 47, 49, 46, 49, 32, 50, 48, 52, 32, 78, 111, 32, 67, 111, 110, 116, 101, 110, 116, 13, 10]⟩ : ByteArray), (⟨#[72, 84, 84, 80, 47, 49, 46, 49, 32, 51, 48, 52, 32, 78, 111, 116, 32, 77, 111, 100, 105, 102, 105, 101, 100, 13, 10]⟩ : ByteArray), (⟨#[72, 84, 84, 80, 47, 49, 46, 49, 32, 52, 48, 52, 32, 78, 111, 116, 32, 102, 111, 117, 110, 100, 13, 10]⟩ : ByteArray), (⟨#[72, 84, 84, 80, 47, 49, 46, 49, 32, 50, 48, 48, 32, 32, 79, 75, 13, 10]⟩ : ByteArray)] : List ByteArray), p.size ≤ 100 := by decide
  unfold broadsheetlaw21_ResponseSmall.f
  rw [h1, h2]
  simp only [Option.bind_some]
  generalize he : ([(⟨#[72, 84, 84, 80, 47, 49, 46, 49, 32, 50, 48, 48, 32, 79, 75, 13, 10]⟩ : ByteArray), (⟨#[72, 84, 84, 80, 47, 49, 46, 49, 32, 50, 48, 52, 32, 78, 111, 32, 67, 111, 110, 116, 101, 110, 116, 13, 10]⟩ : ByteArray), (⟨#[72, 84, 84, 80, 47, 49, 46, 49, 32, 51, 48, 52, 32, 78, 111, 116, 32, 77, 111, 100, 105, 102, 105, 101, 100, 13, 10]⟩ : ByteArray), (⟨#[72, 84, 84, 80, 47, 49, 46, 49, 32, 52, 48, 52, 32, 78, 111, 116, 32, 102, 111, 117, 110, 100, 13, 10]⟩ : ByteArray), (⟨#[72, 84, 84, 80, 47, 49, 46, 49, 32, 50, 48, 48, 32, 32, 79, 75, 13, 10]⟩ : ByteArray)] : List ByteArray) = ys at hb ⊢
  have hlen : ys.length = 5 := by rw [← he]; rfl
  have hlen' : (ys.length : Int) = 5 := by omega
  clear he
  rw [hlen', htm, if_neg (by omega), if_pos (by omega), if_pos (by omega)]
  obtain ⟨j, hj⟩ := Int.eq_ofNat_of_zero_le (show 0 ≤ a % 5 by omega)
  have hq : (rdOf ByteArray.empty ys (a % 5)).size ≤ 100 := by
    rw [hj]
    have hlt : j < ys.length := by omega
    have e : rdOf ByteArray.empty ys ((j : Nat) : Int) = ys[j] := by
      unfold rdOf
      rw [Int.toNat_natCast, List.getD_eq_getElem?_getD, List.getElem?_eq_getElem hlt]
      rfl
    rw [e]
    exact hb _ (List.getElem_mem hlt)
  generalize rdOf ByteArray.empty ys (a % 5) = q at *
  have e2 : (⟨#[13, 10]⟩ : ByteArray).size = 2 := rfl
  rw [if_pos (by omega), if_pos (by rw [ByteArray.size_append]; omega), if_pos (by simp only [ByteArray.size_append, e2]; omega)]
  exact rsp_small_end _ (by simp only [ByteArray.size_append, e2]; omega) _ (Nat.le_refl _)
end Go.Proofs.YtaopopnlnohnpaaGreatDoor.Sp
/- CardU -/
namespace Go.Proofs.YtaopopnlnohnpaaGreatDoor.Cg
open Go.RowKit Go.Proofs.YtaopopnlnohnpaaGreatDoor.P Go.Proofs.YtaopopnlnohnpaaGreatDoorW.PrintWords Go.Proofs.YtaopopnlnohnpaaGreatDoorW.PrintLast Go.Proofs.YtaopopnlnohnpaaGreatDoor.O
open Go.ChangeShapes Go.WideShapes Go.Deep
set_option linter.unusedVariables false
theorem u8s_of {H : Type} {enc : TypeId × Value → H} {W : World} {v : Value} {d : DataW H} {p : List MemPlace} (h : DataW.Trod enc Tryz.prog W 0 (fun _ => true) true 36 v d p) (hv : ∃ a len cap, v = .slice a len cap) :
    ∃ A c l, v = .slice A l.length c ∧ l.length ≤ c ∧ Kd.C (Kd.int .u8) W A l.length l ∧ ∀ x ∈ l, (Lit.int .u8 x).wf = true := by
  obtain ⟨a, len, cap, rfl⟩ := hv
  obtain ⟨fuel, hf⟩ := h
  rcases open_ints Tryz.underlying36 Tryz.underlying5 (by kernel_rfl) hf with ⟨hcs, _⟩ | ⟨x, l, c, zs, hcs, _, hl, hm, hz, _, hcell, hwz⟩
  · simp [Value.cells] at hcs
    obtain ⟨rfl, rfl, rfl⟩ := hcs
    exact ⟨none, 0, [], rfl, Nat.le_refl _, ⟨rfl, by simp, fun h => absurd h (by simp)⟩, by simp⟩
  · simp [Value.cells] at hcs
    obtain ⟨rfl, rfl, rfl⟩ := hcs
    have hz' : zs.length = cap := by simpa using hz
    have hlen : (zs.take len).length = len := by rw [List.length_take]; omega
    refine ⟨some x, cap, zs.take len, by rw [hlen], by rw [hlen]; exact hl, ⟨rfl, by rw [hlen]; unfold maxLen at hm; omega, fun _ => ⟨x, rfl, fun j q hj => ?_⟩⟩, fun y hy => hwz y (List.mem_of_mem_take hy)⟩
    have hjl := (List.getElem?_eq_some_iff.1 hj).1
    rw [hlen] at hjl
    have hq : zs.getD j 0 = q := by
      rw [List.getElem?_take_of_lt hjl] at hj
      rw [List.getD_eq_getElem?_getD, hj]
      rfl
    refine ⟨[.int .u8 q], rfl, rfl, fun i u hu => ?_⟩
    match i, hu with
    | 0, hu =>
      simp at hu
      subst hu
      have hc := hcell j (by omega)
      rw [hq] at hc
      simpa [Kd.int, Kd.scalar] using hc
end Go.Proofs.YtaopopnlnohnpaaGreatDoor.Cg
