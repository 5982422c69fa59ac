/- Texts of this seat, joined: lemmas and walks that its statements' proofs use. -/
import Derived.Test.YteonhdfjfjpbjaaGreatDoorK1
import Derived.Test.YteonhdfjfjpbjaaGreatDoorK2
/- Px24 -/
namespace Go.Proofs.YteonhdfjfjpbjaaGreatDoor.P
open Go.Proofs.YteonhdfjfjpbjaaGreatDoor.B
open Go.RowKit Go.Proofs.YteonhdfjfjpbjaaGreatDoorW.PrintWords Go.Proofs.YteonhdfjfjpbjaaGreatDoorW.PrintLast Go.Proofs.YteonhdfjfjpbjaaGreatDoorW.PrintMore
attribute [local go_sem] str_leq str_gtr str_geq max2_int min2_int max_two min_two max_three min_three max_four min_four
set_option linter.unusedVariables false
set_option linter.unusedSimpArgs false
def broadsheetref13_Token.l0 : Nat → ByteArray → Int → Option (ByteArray × ByteArray)
  | 0, _, _ => none
  | k + 1, x0, x4 => if x4 < (x0.size : Int) then (if 0 ≤ x4 then ((broadsheetref13_TokenByte.f k (bt x0 x4)).bind fun t236 => (if t236 = true then (broadsheetref13_Token.l0 k x0 (wrap64 (x4 + 1))) else (if x4 ≤ (x0.size : Int) then (some (x0.extract 0 (x4 : Int).toNat, x0.extract (x4 : Int).toNat x0.size)) else (none)))) else (none)) else (if 0 ≤ x4 then (if x4 ≤ (x0.size : Int) then (some (x0.extract 0 (x4 : Int).toNat, x0.extract (x4 : Int).toNat x0.size)) else (none)) else (none))
def broadsheetref13_Token.f (k : Nat) (a0 : ByteArray) : Option (ByteArray × ByteArray) := broadsheetref13_Token.l0 k a0 0
set_option maxHeartbeats 8000000 in
set_option maxRecDepth 100000 in
theorem broadsheetref13_Token.calls (k : Nat) (a0 : ByteArray) (r1 : ByteArray) (r2 : ByteArray) (w : World) (h : broadsheetref13_Token.f k a0 = some (r1, r2)) :
  Calls Tryz.prog 51 #[.string a0] w fun e w' => e = .returned (.tuple #[.string r1, .string r2]) ∧ Drawn0 w w' := by
 have H : (broadsheetref13_Token.l0 k a0 0) = some (r1, r2) := h
 clear h
 have H' := Aside0.mk H
 clear H
 go_enter Tryz.func51, Tryz.ntmps51
 go_wp2
 repeat (go_quiet (fail); try go_wp2)
 first | go_loopg [4] k (fun kq v4 w' => ∃ (x4_1 : Int), v4 = .int .i64 x4_1 ∧ Aside0 (broadsheetref13_Token.l0 kq a0 x4_1 = some (r1, r2)) ∧ Aside0 (kq ≤ k) ∧ Drawn0 w w') | (go_simp; go_loopg [4] k (fun kq v4 w' => ∃ (x4_1 : Int), v4 = .int .i64 x4_1 ∧ Aside0 (broadsheetref13_Token.l0 kq a0 x4_1 = some (r1, r2)) ∧ Aside0 (kq ≤ k) ∧ Drawn0 w w'))
 case atStart => exact ⟨(0), zb5, H', ⟨Nat.le_refl _⟩, by repeat (first | exact Drawn0.refl _ | apply Drawn0.step)⟩
 case round =>
  clear H'
  obtain ⟨x4_1, rfl, HA, HK1, ⟨m1, rfl⟩⟩ := hrel
  cases gk with
  | zero => exact absurd HA.out (by simp [broadsheetref13_Token.l0])
  | succ k1 =>
   have H := HA.out
   clear HA
   simp only [broadsheetref13_Token.l0] at H
   by_cases c2 : x4_1 < (a0.size : Int)
   ·rw [if_pos c2] at H
    have c2b0 : decide (x4_1 < (a0.size : Int)) = true := decide_eq_true c2
    clear c2
    by_cases c3 : 0 ≤ x4_1
    ·rw [if_pos c3] at H
     have c3b0 : decide (0 ≤ x4_1) = true := decide_eq_true c3
     clear c3
     replace H := Option.bind_eq_some_iff.mp H
     obtain ⟨t236, A50, H⟩ := H
     replace H : (if t236 = true then (broadsheetref13_Token.l0 k1 a0 (wrap64 (x4_1 + 1))) else (if x4_1 ≤ (a0.size : Int) then (some (a0.extract 0 (x4_1 : Int).toNat, a0.extract (x4_1 : Int).toNat a0.size)) else (none))) = some (r1, r2) := H
     have A5 := Aside0.mk A50
     clear A50
     by_cases c6 : t236 = true
     ·subst c6
      replace H : (broadsheetref13_Token.l0 k1 a0 (wrap64 (x4_1 + 1))) = some (r1, r2) := by rw [if_pos rfl] at H; exact H
      have H' := Aside0.mk H
      clear H
      have p4 : 0 ≤ (x4_1 : Int) := of_decide_eq_true zb2
      have q4 : x4_1 < (a0.size : Int) := of_decide_eq_true zb2
      have hx4 := bt_at a0 x4_1
      replace p4 := eq_true p4
      replace q4 := eq_true q4
      go_wp2_with (first | (go_at_call 86; (with_reducible refine (broadsheetref13_TokenByte.calls k1 (bt a0 x4_1) true _ A5.out).mono ?_); rintro e w' ⟨rfl, ⟨nd, rfl⟩⟩; (try first | exact ⟨rfl, _, World.drewN_drewN _ _ _⟩ | exact ⟨rfl, _, Eq.trans (World.drewN_drewN _ _ _) (congrArg (World.drewN _) (Nat.add_assoc _ _ _))⟩)))
      repeat (go_quiet (first | (go_at_call 86; (with_reducible refine (broadsheetref13_TokenByte.calls k1 (bt a0 x4_1) true _ A5.out).mono ?_); rintro e w' ⟨rfl, ⟨nd, rfl⟩⟩; (try first | exact ⟨rfl, _, World.drewN_drewN _ _ _⟩ | exact ⟨rfl, _, Eq.trans (World.drewN_drewN _ _ _) (congrArg (World.drewN _) (Nat.add_assoc _ _ _))⟩))); try go_wp2_with (first | (go_at_call 86; (with_reducible refine (broadsheetref13_TokenByte.calls k1 (bt a0 x4_1) true _ A5.out).mono ?_); rintro e w' ⟨rfl, ⟨nd, rfl⟩⟩; (try first | exact ⟨rfl, _, World.drewN_drewN _ _ _⟩ | exact ⟨rfl, _, Eq.trans (World.drewN_drewN _ _ _) (congrArg (World.drewN _) (Nat.add_assoc _ _ _))⟩))))
      go_roundg k1
      case measure => have := HK1.out; omega
      case rel => exact ⟨(wrap64 (x4_1 + 1)), zb5, H', ⟨by have := HK1.out; omega⟩, by repeat (first | exact Drawn0.refl _ | apply Drawn0.step)⟩
     ·replace c6 := Bool.eq_false_iff.mpr c6
      subst c6
      replace H : (if x4_1 ≤ (a0.size : Int) then (some (a0.extract 0 (x4_1 : Int).toNat, a0.extract (x4_1 : Int).toNat a0.size)) else (none)) = some (r1, r2) := by rw [if_neg (show ¬ (false = true) by decide)] at H; exact H
      have c7b0 := eq_true (of_decide_eq_true zb2 : 0 ≤ x4_1)
      by_cases c8 : x4_1 ≤ (a0.size : Int)
      ·rw [if_pos c8] at H
       have c8b0 := eq_true c8
       have c8b1 : decide (x4_1 ≤ (a0.size : Int)) = true := decide_eq_true c8
       clear c8
       have c9b0 := eq_true (of_decide_eq_true zb2 : 0 ≤ x4_1)
       have c10b0 := eq_true (of_decide_eq_true zb2 : x4_1 ≤ (a0.size : Int))
       simp only [Option.some.injEq, Prod.mk.injEq] at H
       obtain ⟨rfl, rfl⟩ := H
       have p4 : 0 ≤ (x4_1 : Int) := of_decide_eq_true zb2
       have q4 : x4_1 < (a0.size : Int) := of_decide_eq_true zb2
       have hx4 := bt_at a0 x4_1
       replace p4 := eq_true p4
       replace q4 := eq_true q4
       go_wp2_with (first | (go_at_call 86; (with_reducible refine (broadsheetref13_TokenByte.calls k1 (bt a0 x4_1) false _ A5.out).mono ?_); rintro e w' ⟨rfl, ⟨nd, rfl⟩⟩; (try first | exact ⟨rfl, _, World.drewN_drewN _ _ _⟩ | exact ⟨rfl, _, Eq.trans (World.drewN_drewN _ _ _) (congrArg (World.drewN _) (Nat.add_assoc _ _ _))⟩)))
       repeat (go_quiet (first | (go_at_call 86; (with_reducible refine (broadsheetref13_TokenByte.calls k1 (bt a0 x4_1) false _ A5.out).mono ?_); rintro e w' ⟨rfl, ⟨nd, rfl⟩⟩; (try first | exact ⟨rfl, _, World.drewN_drewN _ _ _⟩ | exact ⟨rfl, _, Eq.trans (World.drewN_drewN _ _ _) (congrArg (World.drewN _) (Nat.add_assoc _ _ _))⟩))); try go_wp2_with (first | (go_at_call 86; (with_reducible refine (broadsheetref13_TokenByte.calls k1 (bt a0 x4_1) false _ A5.out).mono ?_); rintro e w' ⟨rfl, ⟨nd, rfl⟩⟩; (try first | exact ⟨rfl, _, World.drewN_drewN _ _ _⟩ | exact ⟨rfl, _, Eq.trans (World.drewN_drewN _ _ _) (congrArg (World.drewN _) (Nat.add_assoc _ _ _))⟩))))
       go_ret2
       exact ⟨by first | rfl | (simp; done) | (simp [*]; done), by repeat (first | exact Drawn0.refl _ | apply Drawn0.step)⟩
      ·rw [if_neg c8] at H
       exact absurd H zb26
    ·rw [if_neg c3] at H
     exact absurd H zb26
   ·rw [if_neg c2] at H
    have c2b0 : decide (x4_1 < (a0.size : Int)) = false := decide_eq_false c2
    clear c2
    by_cases c11 : 0 ≤ x4_1
    ·rw [if_pos c11] at H
     have c11b0 := eq_true c11
     have c11b1 : decide (0 ≤ x4_1) = true := decide_eq_true c11
     clear c11
     by_cases c12 : x4_1 ≤ (a0.size : Int)
     ·rw [if_pos c12] at H
      have c12b0 := eq_true c12
      have c12b1 : decide (x4_1 ≤ (a0.size : Int)) = true := decide_eq_true c12
      clear c12
      have c13b0 := eq_true (of_decide_eq_true zb2 : 0 ≤ x4_1)
      have c14b0 := eq_true (of_decide_eq_true zb2 : x4_1 ≤ (a0.size : Int))
      simp only [Option.some.injEq, Prod.mk.injEq] at H
      obtain ⟨rfl, rfl⟩ := H
      go_wp2
      repeat (go_quiet (fail); try go_wp2)
      go_ret2
      exact ⟨by first | rfl | (simp; done) | (simp [*]; done), by repeat (first | exact Drawn0.refl _ | apply Drawn0.step)⟩
     ·rw [if_neg c12] at H
      exact absurd H zb26
    ·rw [if_neg c11] at H
     exact absurd H zb26
def broadsheetref13_Skip.l0 : Nat → ByteArray → Option (ByteArray)
  | 0, _ => none
  | k + 1, x0 => if (x0.size : Int) > 0 then (if 0 < (x0.size : Int) then (if (bt x0 0) = 32 then (if 1 ≤ (x0.size : Int) then (broadsheetref13_Skip.l0 k (x0.extract 1 x0.size)) else (none)) else (if (bt x0 0) = 9 then (if 1 ≤ (x0.size : Int) then (broadsheetref13_Skip.l0 k (x0.extract 1 x0.size)) else (none)) else (some x0))) else (none)) else (some x0)
def broadsheetref13_Skip.f (k : Nat) (a0 : ByteArray) : Option (ByteArray) := broadsheetref13_Skip.l0 k a0
set_option maxHeartbeats 8000000 in
set_option maxRecDepth 100000 in
theorem broadsheetref13_Skip.calls (k : Nat) (a0 : ByteArray) (r : ByteArray) (w : World) (h : broadsheetref13_Skip.f k a0 = some r) :
  Calls Tryz.prog 65 #[.string a0] w fun e w' => e = .returned (.string r) ∧ Drawn0 w w' := by
 have H : (broadsheetref13_Skip.l0 k a0) = some r := h
 clear h
 have H' := Aside0.mk H
 clear H
 go_enter Tryz.func65, Tryz.ntmps65
 go_wp2
 first | go_loopg [0] k (fun kq v0 w' => ∃ (x0_1 : ByteArray), v0 = .string x0_1 ∧ Aside0 (broadsheetref13_Skip.l0 kq x0_1 = some r) ∧ Aside0 (kq ≤ k) ∧ Drawn0 w w') | (go_simp; go_loopg [0] k (fun kq v0 w' => ∃ (x0_1 : ByteArray), v0 = .string x0_1 ∧ Aside0 (broadsheetref13_Skip.l0 kq x0_1 = some r) ∧ Aside0 (kq ≤ k) ∧ Drawn0 w w'))
 case atStart => exact ⟨(a0), zb5, H', ⟨Nat.le_refl _⟩, by repeat (first | exact Drawn0.refl _ | apply Drawn0.step)⟩
 case round =>
  clear H'
  obtain ⟨x0_1, rfl, HA, HK1, ⟨m1, rfl⟩⟩ := hrel
  cases gk with
  | zero => exact absurd HA.out (by simp [broadsheetref13_Skip.l0])
  | succ k1 =>
   have H := HA.out
   clear HA
   simp only [broadsheetref13_Skip.l0] at H
   by_cases c2 : (x0_1.size : Int) > 0
   ·rw [if_pos c2] at H
    have c2b0 : decide (0 < (x0_1.size : Int)) = true := decide_eq_true c2
    have c2b1 : decide (0 < x0_1.size) = true := decide_eq_true zb16
    clear c2
    by_cases c3 : 0 < (x0_1.size : Int)
    ·rw [if_pos c3] at H
     have c3b0 : decide (0 < (x0_1.size : Int)) = true := decide_eq_true c3
     have c3b1 : decide (0 < x0_1.size) = true := decide_eq_true zb16
     clear c3
     by_cases c5 : (bt x0_1 0) = 32
     ·rw [if_pos c5] at H
      have c5b0 : ((bt x0_1 0) == 32) = true := beq_iff_eq.mpr c5
      have c5b1 : ((bt x0_1 0) != 32) = false := bne_eq_false_iff_eq.mpr c5
      clear c5
      by_cases c6 : 1 ≤ (x0_1.size : Int)
      ·rw [if_pos c6] at H
       have c6b0 := eq_true c6
       have c6b1 : decide (1 ≤ (x0_1.size : Int)) = true := decide_eq_true c6
       clear c6
       have H' := Aside0.mk H
       clear H
       have p4 : 0 ≤ (0 : Int) := zb16
       have q4 : 0 < x0_1.size := (by have : (0 : Int) < (x0_1.size : Int) := of_decide_eq_true zb2; omega)
       have hx4 : ∀ h : 0 < x0_1.size, ((x0_1[0]'h).toNat : Int) = bt x0_1 0 := bt_at x0_1 0
       clear p4
       have qi4 : (0 < (x0_1.size : Int)) = True := eq_true (of_decide_eq_true zb2)
       replace q4 := eq_true q4
       go_wp2
       go_roundg k1
       case measure => have := HK1.out; omega
       case rel => exact ⟨(x0_1.extract 1 x0_1.size), zb5, H', ⟨by have := HK1.out; omega⟩, by repeat (first | exact Drawn0.refl _ | apply Drawn0.step)⟩
      ·rw [if_neg c6] at H
       exact absurd H zb26
     ·rw [if_neg c5] at H
      have c5b0 : ((bt x0_1 0) == 32) = false := beq_eq_false_iff_ne.mpr c5
      have c5b1 : ((bt x0_1 0) != 32) = true := bne_iff_ne.mpr c5
      by_cases c8 : (bt x0_1 0) = 9
      ·rw [if_pos c8] at H
       have c8b0 : ((bt x0_1 0) == 9) = true := beq_iff_eq.mpr c8
       have c8b1 : ((bt x0_1 0) != 9) = false := bne_eq_false_iff_eq.mpr c8
       clear c8
       by_cases c9 : 1 ≤ (x0_1.size : Int)
       ·rw [if_pos c9] at H
        have c9b0 := eq_true c9
        have c9b1 : decide (1 ≤ (x0_1.size : Int)) = true := decide_eq_true c9
        clear c9
        have H' := Aside0.mk H
        clear H
        have p4 : 0 ≤ (0 : Int) := zb16
        have q4 : 0 < x0_1.size := (by have : (0 : Int) < (x0_1.size : Int) := of_decide_eq_true zb2; omega)
        have hx4 : ∀ h : 0 < x0_1.size, ((x0_1[0]'h).toNat : Int) = bt x0_1 0 := bt_at x0_1 0
        clear p4
        have qi4 : (0 < (x0_1.size : Int)) = True := eq_true (of_decide_eq_true zb2)
        replace q4 := eq_true q4
        have p7 : 0 ≤ (0 : Int) := zb16
        have q7 : 0 < x0_1.size := (by have : (0 : Int) < (x0_1.size : Int) := of_decide_eq_true zb2; omega)
        have hx7 : ∀ h : 0 < x0_1.size, ((x0_1[0]'h).toNat : Int) = bt x0_1 0 := bt_at x0_1 0
        clear p7
        have qi7 : (0 < (x0_1.size : Int)) = True := eq_true (of_decide_eq_true zb2)
        replace q7 := eq_true q7
        go_wp2
        go_roundg k1
        case measure => have := HK1.out; omega
        case rel => exact ⟨(x0_1.extract 1 x0_1.size), zb5, H', ⟨by have := HK1.out; omega⟩, by repeat (first | exact Drawn0.refl _ | apply Drawn0.step)⟩
       ·rw [if_neg c9] at H
        exact absurd H zb26
      ·rw [if_neg c8] at H
       have c8b0 : ((bt x0_1 0) == 9) = false := beq_eq_false_iff_ne.mpr c8
       have c8b1 : ((bt x0_1 0) != 9) = true := bne_iff_ne.mpr c8
       obtain rfl := Option.some.inj H
       have p4 : 0 ≤ (0 : Int) := zb16
       have q4 : 0 < x0_1.size := (by have : (0 : Int) < (x0_1.size : Int) := of_decide_eq_true zb2; omega)
       have hx4 : ∀ h : 0 < x0_1.size, ((x0_1[0]'h).toNat : Int) = bt x0_1 0 := bt_at x0_1 0
       clear p4
       have qi4 : (0 < (x0_1.size : Int)) = True := eq_true (of_decide_eq_true zb2)
       replace q4 := eq_true q4
       have p7 : 0 ≤ (0 : Int) := zb16
       have q7 : 0 < x0_1.size := (by have : (0 : Int) < (x0_1.size : Int) := of_decide_eq_true zb2; omega)
       have hx7 : ∀ h : 0 < x0_1.size, ((x0_1[0]'h).toNat : Int) = bt x0_1 0 := bt_at x0_1 0
       clear p7
       have qi7 : (0 < (x0_1.size : Int)) = True := eq_true (of_decide_eq_true zb2)
       replace q7 := eq_true q7
       go_wp2
       go_ret
       exact ⟨by first | rfl | (simp; done) | (simp [*]; done), by repeat (first | exact Drawn0.refl _ | apply Drawn0.step)⟩
    ·rw [if_neg c3] at H
     exact absurd H zb26
   ·rw [if_neg c2] at H
    have c2b0 : decide (0 < (x0_1.size : Int)) = false := decide_eq_false c2
    have c2b1 : decide (0 < x0_1.size) = false := decide_eq_false zb16
    clear c2
    obtain rfl := Option.some.inj H
    go_wp2
    go_ret
    exact ⟨by first | rfl | (simp; done) | (simp [*]; done), by repeat (first | exact Drawn0.refl _ | apply Drawn0.step)⟩
def broadsheetref13_Quoted.l0 : Nat → ByteArray → List Int → Int → Option (ByteArray × ByteArray × Bool)
  | 0, _, _, _ => none
  | k + 1, x0, x5, x6 => if x6 < (x0.size : Int) then (if 0 ≤ x6 then (if (bt x0 x6) = 34 then (if 0 ≤ (wrap64 (x6 + 1)) then (if (wrap64 (x6 + 1)) ≤ (x0.size : Int) then (some (strOfNums x5, x0.extract ((wrap64 (x6 + 1)) : Int).toNat x0.size, true)) else (none)) else (none)) else (if (bt x0 x6) = 92 then (if (wrap64 (x6 + 1)) = (x0.size : Int) then (some ((⟨#[]⟩ : ByteArray), (⟨#[]⟩ : ByteArray), false)) else (if 0 ≤ (wrap64 (x6 + 1)) then (if (wrap64 (x6 + 1)) < (x0.size : Int) then (if (bt x0 (wrap64 (x6 + 1))) < 32 then (if (bt x0 (wrap64 (x6 + 1))) = 9 then (if (bt x0 (wrap64 (x6 + 1))) = 127 then (some ((⟨#[]⟩ : ByteArray), (⟨#[]⟩ : ByteArray), false)) else (if x5.length < 140737488355328 then (broadsheetref13_Quoted.l0 k x0 (x5 ++ [bt x0 (wrap64 (x6 + 1))]) (wrap64 ((wrap64 (x6 + 1)) + 1))) else (none))) else (some ((⟨#[]⟩ : ByteArray), (⟨#[]⟩ : ByteArray), false))) else (if (bt x0 (wrap64 (x6 + 1))) = 127 then (some ((⟨#[]⟩ : ByteArray), (⟨#[]⟩ : ByteArray), false)) else (if x5.length < 140737488355328 then (broadsheetref13_Quoted.l0 k x0 (x5 ++ [bt x0 (wrap64 (x6 + 1))]) (wrap64 ((wrap64 (x6 + 1)) + 1))) else (none)))) else (none)) else (none))) else (if (bt x0 x6) < 32 then (if (bt x0 x6) = 9 then (if (bt x0 x6) = 127 then (some ((⟨#[]⟩ : ByteArray), (⟨#[]⟩ : ByteArray), false)) else (if x5.length < 140737488355328 then (broadsheetref13_Quoted.l0 k x0 (x5 ++ [bt x0 x6]) (wrap64 (x6 + 1))) else (none))) else (some ((⟨#[]⟩ : ByteArray), (⟨#[]⟩ : ByteArray), false))) else (if (bt x0 x6) = 127 then (some ((⟨#[]⟩ : ByteArray), (⟨#[]⟩ : ByteArray), false)) else (if x5.length < 140737488355328 then (broadsheetref13_Quoted.l0 k x0 (x5 ++ [bt x0 x6]) (wrap64 (x6 + 1))) else (none)))))) else (none)) else (some ((⟨#[]⟩ : ByteArray), (⟨#[]⟩ : ByteArray), false))
def broadsheetref13_Quoted.f (k : Nat) (a0 : ByteArray) : Option (ByteArray × ByteArray × Bool) := broadsheetref13_Quoted.l0 k a0 ([] : List Int) 0
set_option maxHeartbeats 8000000 in
set_option maxRecDepth 100000 in
theorem broadsheetref13_Quoted.calls (k : Nat) (a0 : ByteArray) (r1 : ByteArray) (r2 : ByteArray) (r3 : Bool) (w : World) (h : broadsheetref13_Quoted.f k a0 = some (r1, r2, r3)) :
  Calls Tryz.prog 100 #[.string a0] w fun e w' => e = .returned (.tuple #[.string r1, .string r2, .bool r3]) ∧ Below w.heap.size w w' := by
 have HB := Aside0.mk (Below.refl w.heap.size w)
 have H : (broadsheetref13_Quoted.l0 k a0 ([] : List Int) 0) = some (r1, r2, r3) := h
 clear h
 have H' := Aside0.mk H
 clear H
 go_enter Tryz.func100, Tryz.ntmps100
 go_wp2
 repeat (go_quiet (fail); try go_wp2)
 first | go_loopg [5, 6] k (fun kq v5 v6 w' => ∃ (x5_1 : List Int) (x6_1 : Int), v6 = .int .i64 x6_1 ∧ Aside0 (broadsheetref13_Quoted.l0 kq a0 x5_1 x6_1 = some (r1, r2, r3)) ∧ Aside0 (kq ≤ k) ∧ Aside0 (Kd.R (Kd.int .u8) 5 w' w.heap.size (fun _ => True) v5 x5_1) ∧ Aside0 (Below w.heap.size w w')) | (go_simp; go_loopg [5, 6] k (fun kq v5 v6 w' => ∃ (x5_1 : List Int) (x6_1 : Int), v6 = .int .i64 x6_1 ∧ Aside0 (broadsheetref13_Quoted.l0 kq a0 x5_1 x6_1 = some (r1, r2, r3)) ∧ Aside0 (kq ≤ k) ∧ Aside0 (Kd.R (Kd.int .u8) 5 w' w.heap.size (fun _ => True) v5 x5_1) ∧ Aside0 (Below w.heap.size w w')))
 case atStart => exact ⟨(([] : List Int)), (0), zb5, H', ⟨Nat.le_refl _⟩, ⟨by first | exact Kd.R_nil _ _ _ _ _ | exact Kd.N_nil _ _ _ _ _ | exact Kd.V_nil _ _ _ _ _ | exact Kd.Q_nil _ _ _ _ _ | exact Kd.S_nil _ _ _ _ _⟩, ⟨by repeat (first | (with_reducible first | exact HB.out | apply below_alloc | apply pw_below_drewN | apply below_drew1) | exact HB.out)⟩⟩
 case round =>
  clear H'
  try clear c1
  obtain ⟨x5_1, x6_1, rfl, HA, HK1, HO_5, HB⟩ := hrel
  cases gk with
  | zero => exact absurd HA.out (by simp [broadsheetref13_Quoted.l0])
  | succ k1 =>
   have H := HA.out
   clear HA
   simp only [broadsheetref13_Quoted.l0] at H
   by_cases c2 : x6_1 < (a0.size : Int)
   ·rw [if_pos c2] at H
    have c2b0 : decide (x6_1 < (a0.size : Int)) = true := decide_eq_true c2
    clear c2
    by_cases c3 : 0 ≤ x6_1
    ·rw [if_pos c3] at H
     have c3b0 : decide (0 ≤ x6_1) = true := decide_eq_true c3
     clear c3
     by_cases c5 : (bt a0 x6_1) = 34
     ·rw [if_pos c5] at H
      have c5b0 : ((bt a0 x6_1) == 34) = true := beq_iff_eq.mpr c5
      have c5b1 : ((bt a0 x6_1) != 34) = false := bne_eq_false_iff_eq.mpr c5
      clear c5
      obtain ⟨ji6, hji6⟩ : ∃ j_ : Int, (wrap64 (x6_1 + 1)) = j_ := ⟨_, rfl⟩
      replace H : (if 0 ≤ (ji6) then (if (ji6) ≤ (a0.size : Int) then (some (strOfNums x5_1, a0.extract ((ji6) : Int).toNat a0.size, true)) else (none)) else (none)) = some (r1, r2, r3) := by first | (rw [hji6] at H; exact H) | (simp only [hji6] at H ⊢; exact H)
      have hji6w : (IntKind.i64.wrap (x6_1 + 1)) = ji6 := (i64_w _).trans hji6
      by_cases c7 : 0 ≤ (ji6)
      ·rw [if_pos c7] at H
       have c7b0 := eq_true c7
       have c7b1 : decide (0 ≤ (ji6)) = true := decide_eq_true c7
       clear c7
       by_cases c8 : (ji6) ≤ (a0.size : Int)
       ·rw [if_pos c8] at H
        have c8b0 := eq_true c8
        have c8b1 : decide ((ji6) ≤ (a0.size : Int)) = true := decide_eq_true c8
        clear c8
        simp only [Option.some.injEq, Prod.mk.injEq] at H
        obtain ⟨rfl, rfl, rfl⟩ := H
        have p4 : 0 ≤ (x6_1 : Int) := of_decide_eq_true zb2
        have q4 : x6_1 < (a0.size : Int) := of_decide_eq_true zb2
        have hx4 := bt_at a0 x6_1
        replace p4 := eq_true p4
        replace q4 := eq_true q4
        have hcv9 := own_string (P := Tryz.prog) Tryz.underlying23 Tryz.underlying5 Tryz.underlying9 (Kd.own_of_R HO_5.out)
        have hcvq9 := fun n_ => own_string (P := Tryz.prog) Tryz.underlying23 Tryz.underlying5 Tryz.underlying9 (Kd.own_of_R (Kd.R_drewN HO_5.out n_))
        go_wp2
        repeat (go_quiet (fail); try go_wp2)
        go_ret3
        exact ⟨by first | rfl | (simp [errW_none, errW_some, bne_nil_] <;> rfl) | (simp only [← hji6]; first | rfl | (simp [errW_none, errW_some, bne_nil_] <;> rfl)) | (simp [*, errW_none, errW_some] <;> rfl), zb0⟩
       ·rw [if_neg c8] at H
        exact absurd H zb26
      ·rw [if_neg c7] at H
       exact absurd H zb26
     ·rw [if_neg c5] at H
      have c5b0 : ((bt a0 x6_1) == 34) = false := beq_eq_false_iff_ne.mpr c5
      have c5b1 : ((bt a0 x6_1) != 34) = true := bne_iff_ne.mpr c5
      by_cases c11 : (bt a0 x6_1) = 92
      ·rw [if_pos c11] at H
       have c11b0 : ((bt a0 x6_1) == 92) = true := beq_iff_eq.mpr c11
       have c11b1 : ((bt a0 x6_1) != 92) = false := bne_eq_false_iff_eq.mpr c11
       clear c11
       by_cases c12 : (wrap64 (x6_1 + 1)) = (a0.size : Int)
       ·rw [if_pos c12] at H
        have c12b0 : ((wrap64 (x6_1 + 1)) == (a0.size : Int)) = true := beq_iff_eq.mpr c12
        have c12b1 : ((wrap64 (x6_1 + 1)) != (a0.size : Int)) = false := bne_eq_false_iff_eq.mpr c12
        clear c12
        simp only [Option.some.injEq, Prod.mk.injEq] at H
        obtain ⟨rfl, rfl, rfl⟩ := H
        have p4 : 0 ≤ (x6_1 : Int) := of_decide_eq_true zb2
        have q4 : x6_1 < (a0.size : Int) := of_decide_eq_true zb2
        have hx4 := bt_at a0 x6_1
        replace p4 := eq_true p4
        replace q4 := eq_true q4
        have p10 : 0 ≤ (x6_1 : Int) := of_decide_eq_true zb2
        have q10 : x6_1 < (a0.size : Int) := of_decide_eq_true zb2
        have hx10 := bt_at a0 x6_1
        replace p10 := eq_true p10
        replace q10 := eq_true q10
        go_wp2
        repeat (go_quiet (fail); try go_wp2)
        go_ret3
        exact ⟨zb4, zb0⟩
       ·rw [if_neg c12] at H
        have c12b0 : ((wrap64 (x6_1 + 1)) == (a0.size : Int)) = false := beq_eq_false_iff_ne.mpr c12
        have c12b1 : ((wrap64 (x6_1 + 1)) != (a0.size : Int)) = true := bne_iff_ne.mpr c12
        obtain ⟨ji13, hji13⟩ : ∃ j_ : Int, (wrap64 (x6_1 + 1)) = j_ := ⟨_, rfl⟩
        replace H : (if 0 ≤ (ji13) then (if (ji13) < (a0.size : Int) then (if (bt a0 (ji13)) < 32 then (if (bt a0 (ji13)) = 9 then (if (bt a0 (ji13)) = 127 then (some ((⟨#[]⟩ : ByteArray), (⟨#[]⟩ : ByteArray), false)) else (if x5_1.length < 140737488355328 then (broadsheetref13_Quoted.l0 k1 a0 (x5_1 ++ [bt a0 (ji13)]) (wrap64 ((ji13) + 1))) else (none))) else (some ((⟨#[]⟩ : ByteArray), (⟨#[]⟩ : ByteArray), false))) else (if (bt a0 (ji13)) = 127 then (some ((⟨#[]⟩ : ByteArray), (⟨#[]⟩ : ByteArray), false)) else (if x5_1.length < 140737488355328 then (broadsheetref13_Quoted.l0 k1 a0 (x5_1 ++ [bt a0 (ji13)]) (wrap64 ((ji13) + 1))) else (none)))) else (none)) else (none)) = some (r1, r2, r3) := by first | (rw [hji13] at H; exact H) | (simp only [hji13] at H ⊢; exact H)
        (try rw [hji13] at c12b0)
        (try rw [hji13] at c12b1)
        have hji13w : (IntKind.i64.wrap (x6_1 + 1)) = ji13 := (i64_w _).trans hji13
        by_cases c14 : 0 ≤ (ji13)
        ·rw [if_pos c14] at H
         have c14b0 : decide (0 ≤ (ji13)) = true := decide_eq_true c14
         clear c14
         by_cases c15 : (ji13) < (a0.size : Int)
         ·rw [if_pos c15] at H
          have c15b0 : decide ((ji13) < (a0.size : Int)) = true := decide_eq_true c15
          clear c15
          by_cases c17 : (bt a0 (ji13)) < 32
          ·rw [if_pos c17] at H
           have c17b0 : decide ((bt a0 (ji13)) < 32) = true := decide_eq_true c17
           clear c17
           by_cases c19 : (bt a0 (ji13)) = 9
           ·rw [if_pos c19] at H
            have c19b0 : ((bt a0 (ji13)) == 9) = true := beq_iff_eq.mpr c19
            have c19b1 : ((bt a0 (ji13)) != 9) = false := bne_eq_false_iff_eq.mpr c19
            clear c19
            by_cases c21 : (bt a0 (ji13)) = 127
            ·rw [if_pos c21] at H
             have c21b0 : ((bt a0 (ji13)) == 127) = true := beq_iff_eq.mpr c21
             have c21b1 : ((bt a0 (ji13)) != 127) = false := bne_eq_false_iff_eq.mpr c21
             clear c21
             simp only [Option.some.injEq, Prod.mk.injEq] at H
             obtain ⟨rfl, rfl, rfl⟩ := H
             have p4 : 0 ≤ (x6_1 : Int) := of_decide_eq_true zb2
             have q4 : x6_1 < (a0.size : Int) := of_decide_eq_true zb2
             have hx4 := bt_at a0 x6_1
             replace p4 := eq_true p4
             replace q4 := eq_true q4
             have p10 : 0 ≤ (x6_1 : Int) := of_decide_eq_true zb2
             have q10 : x6_1 < (a0.size : Int) := of_decide_eq_true zb2
             have hx10 := bt_at a0 x6_1
             replace p10 := eq_true p10
             replace q10 := eq_true q10
             have p16 : 0 ≤ ((ji13) : Int) := of_decide_eq_true zb2
             have q16 : (ji13) < (a0.size : Int) := of_decide_eq_true zb2
             have hx16 := bt_at a0 (ji13)
             replace p16 := eq_true p16
             replace q16 := eq_true q16
             have p18 : 0 ≤ ((ji13) : Int) := of_decide_eq_true zb2
             have q18 : (ji13) < (a0.size : Int) := of_decide_eq_true zb2
             have hx18 := bt_at a0 (ji13)
             replace p18 := eq_true p18
             replace q18 := eq_true q18
             have p20 : 0 ≤ ((ji13) : Int) := of_decide_eq_true zb2
             have q20 : (ji13) < (a0.size : Int) := of_decide_eq_true zb2
             have hx20 := bt_at a0 (ji13)
             replace p20 := eq_true p20
             replace q20 := eq_true q20
             go_wp2
             repeat (go_quiet (fail); try go_wp2)
             go_ret3
             exact ⟨by first | rfl | (simp [errW_none, errW_some, bne_nil_] <;> rfl) | (simp only [← hji13]; first | rfl | (simp [errW_none, errW_some, bne_nil_] <;> rfl)) | (simp [*, errW_none, errW_some] <;> rfl), zb0⟩
            ·rw [if_neg c21] at H
             have c21b0 : ((bt a0 (ji13)) == 127) = false := beq_eq_false_iff_ne.mpr c21
             have c21b1 : ((bt a0 (ji13)) != 127) = true := bne_iff_ne.mpr c21
             by_cases c23 : x5_1.length < 140737488355328
             ·rw [if_pos c23] at H
              have LMc23 := Aside0.mk c23
              clear c23
              obtain ⟨y269, hy269⟩ : ∃ y_ : List Int, y_ = (x5_1 ++ [bt a0 (ji13)]) := ⟨_, rfl⟩
              replace H : (broadsheetref13_Quoted.l0 k1 a0 y269 (wrap64 ((ji13) + 1))) = some (r1, r2, r3) := by first | (rw [hy269]; with_reducible exact H) | (have H2_ := (Option.bind_some _ _).symm.trans H; rw [hy269]; with_reducible exact H2_) | (have H2_ := (Option.bind_some _ _).symm.trans H; with_reducible exact H2_) | with_reducible exact H | (rw [hy269]; exact H) | exact H
              have Ny269 := Aside0.mk hy269
              clear hy269
              have H' := Aside0.mk H
              clear H
              have p4 : 0 ≤ (x6_1 : Int) := of_decide_eq_true zb2
              have q4 : x6_1 < (a0.size : Int) := of_decide_eq_true zb2
              have hx4 := bt_at a0 x6_1
              replace p4 := eq_true p4
              replace q4 := eq_true q4
              have p10 : 0 ≤ (x6_1 : Int) := of_decide_eq_true zb2
              have q10 : x6_1 < (a0.size : Int) := of_decide_eq_true zb2
              have hx10 := bt_at a0 x6_1
              replace p10 := eq_true p10
              replace q10 := eq_true q10
              have p16 : 0 ≤ ((ji13) : Int) := of_decide_eq_true zb2
              have q16 : (ji13) < (a0.size : Int) := of_decide_eq_true zb2
              have hx16 := bt_at a0 (ji13)
              replace p16 := eq_true p16
              replace q16 := eq_true q16
              have p18 : 0 ≤ ((ji13) : Int) := of_decide_eq_true zb2
              have q18 : (ji13) < (a0.size : Int) := of_decide_eq_true zb2
              have hx18 := bt_at a0 (ji13)
              replace p18 := eq_true p18
              replace q18 := eq_true q18
              have p20 : 0 ≤ ((ji13) : Int) := of_decide_eq_true zb2
              have q20 : (ji13) < (a0.size : Int) := of_decide_eq_true zb2
              have hx20 := bt_at a0 (ji13)
              replace p20 := eq_true p20
              replace q20 := eq_true q20
              have p22 : 0 ≤ ((ji13) : Int) := of_decide_eq_true zb2
              have q22 : (ji13) < (a0.size : Int) := of_decide_eq_true zb2
              have hx22 := bt_at a0 (ji13)
              replace p22 := eq_true p22
              replace q22 := eq_true q22
              go_wp2_with (first | ((with_reducible refine gate_builtin (b := .append) (xs := #[.tmp 59, .tmp 63]) rfl ?_); at_builtin; refine Kd.R_append (Kd.int .u8) (w0 := w) w.heap.size rfl (.tmp 59) (.tmp 63) 23 5 (.int .u8 0) 1 rfl Tryz.underlying23 info5 rfl zb20 zb16 u5 x5_1 (bt a0 (ji13)) [.int .u8 (bt a0 (ji13))] (fun _ => True) (fun _ => False) rfl rfl ?aP (fun _ hk => hk.elim) ?aF ?aO ?aB ?aS ?aL ?_; (case aP => exact rfl); (case aB => exact zb0); (case aF => exact (fun _ _ => trivial)); (case aO => exact zb14); (case aS => exact (below_size zb0)); (case aL => have := LMc23.out; omega); intro v270 w24 ho hb hg hat; rw [← Ny269.out] at ho; have n0_ := Aside0.mk (hb); have n1_ := Aside0.mk (ho); clear HB; clear HO_5; have HB := n0_; have HO271 := n1_; clear n0_ n1_; clear ho hb hg hat))
              repeat (go_quiet (first | ((with_reducible refine gate_builtin (b := .append) (xs := #[.tmp 59, .tmp 63]) rfl ?_); at_builtin; refine Kd.R_append (Kd.int .u8) (w0 := w) w.heap.size rfl (.tmp 59) (.tmp 63) 23 5 (.int .u8 0) 1 rfl Tryz.underlying23 info5 rfl zb20 zb16 u5 x5_1 (bt a0 (ji13)) [.int .u8 (bt a0 (ji13))] (fun _ => True) (fun _ => False) rfl rfl ?aP (fun _ hk => hk.elim) ?aF ?aO ?aB ?aS ?aL ?_; (case aP => exact rfl); (case aB => exact zb0); (case aF => exact (fun _ _ => trivial)); (case aO => exact zb14); (case aS => exact (below_size zb0)); (case aL => have := LMc23.out; omega); intro v270 w24 ho hb hg hat; rw [← Ny269.out] at ho; have n0_ := Aside0.mk (hb); have n1_ := Aside0.mk (ho); clear HB; clear HO_5; have HB := n0_; have HO271 := n1_; clear n0_ n1_; clear ho hb hg hat)); try go_wp2_with (first | ((with_reducible refine gate_builtin (b := .append) (xs := #[.tmp 59, .tmp 63]) rfl ?_); at_builtin; refine Kd.R_append (Kd.int .u8) (w0 := w) w.heap.size rfl (.tmp 59) (.tmp 63) 23 5 (.int .u8 0) 1 rfl Tryz.underlying23 info5 rfl zb20 zb16 u5 x5_1 (bt a0 (ji13)) [.int .u8 (bt a0 (ji13))] (fun _ => True) (fun _ => False) rfl rfl ?aP (fun _ hk => hk.elim) ?aF ?aO ?aB ?aS ?aL ?_; (case aP => exact rfl); (case aB => exact zb0); (case aF => exact (fun _ _ => trivial)); (case aO => exact zb14); (case aS => exact (below_size zb0)); (case aL => have := LMc23.out; omega); intro v270 w24 ho hb hg hat; rw [← Ny269.out] at ho; have n0_ := Aside0.mk (hb); have n1_ := Aside0.mk (ho); clear HB; clear HO_5; have HB := n0_; have HO271 := n1_; clear n0_ n1_; clear ho hb hg hat)))
              go_roundg k1
              case measure => have := HK1.out; omega
              case rel => exact ⟨(y269), (wrap64 ((ji13) + 1)), (by first | rfl | (simp; done) | (simp only [← hji13] <;> (first | rfl | simp)) | (simp [*]; done)), H', ⟨by have := HK1.out; omega⟩, ⟨by (with_reducible repeat (first | apply Kd.R_alloc | apply Kd.R_drewN | apply Kd.R_drew)); exact HO271.out⟩, ⟨by repeat (first | (with_reducible first | exact HB.out | apply below_alloc | apply pw_below_drewN | apply below_drew1) | exact HB.out)⟩⟩
             ·rw [if_neg c23] at H
              exact absurd H zb26
           ·rw [if_neg c19] at H
            have c19b0 : ((bt a0 (ji13)) == 9) = false := beq_eq_false_iff_ne.mpr c19
            have c19b1 : ((bt a0 (ji13)) != 9) = true := bne_iff_ne.mpr c19
            simp only [Option.some.injEq, Prod.mk.injEq] at H
            obtain ⟨rfl, rfl, rfl⟩ := H
            have p4 : 0 ≤ (x6_1 : Int) := of_decide_eq_true zb2
            have q4 : x6_1 < (a0.size : Int) := of_decide_eq_true zb2
            have hx4 := bt_at a0 x6_1
            replace p4 := eq_true p4
            replace q4 := eq_true q4
            have p10 : 0 ≤ (x6_1 : Int) := of_decide_eq_true zb2
            have q10 : x6_1 < (a0.size : Int) := of_decide_eq_true zb2
            have hx10 := bt_at a0 x6_1
            replace p10 := eq_true p10
            replace q10 := eq_true q10
            have p16 : 0 ≤ ((ji13) : Int) := of_decide_eq_true zb2
            have q16 : (ji13) < (a0.size : Int) := of_decide_eq_true zb2
            have hx16 := bt_at a0 (ji13)
            replace p16 := eq_true p16
            replace q16 := eq_true q16
            have p18 : 0 ≤ ((ji13) : Int) := of_decide_eq_true zb2
            have q18 : (ji13) < (a0.size : Int) := of_decide_eq_true zb2
            have hx18 := bt_at a0 (ji13)
            replace p18 := eq_true p18
            replace q18 := eq_true q18
            go_wp2
            repeat (go_quiet (fail); try go_wp2)
            go_ret3
            exact ⟨by first | rfl | (simp [errW_none, errW_some, bne_nil_] <;> rfl) | (simp only [← hji13]; first | rfl | (simp [errW_none, errW_some, bne_nil_] <;> rfl)) | (simp [*, errW_none, errW_some] <;> rfl), zb0⟩
          ·rw [if_neg c17] at H
           have c17b0 : decide ((bt a0 (ji13)) < 32) = false := decide_eq_false c17
           clear c17
           by_cases c26 : (bt a0 (ji13)) = 127
           ·rw [if_pos c26] at H
            have c26b0 : ((bt a0 (ji13)) == 127) = true := beq_iff_eq.mpr c26
            have c26b1 : ((bt a0 (ji13)) != 127) = false := bne_eq_false_iff_eq.mpr c26
            clear c26
            simp only [Option.some.injEq, Prod.mk.injEq] at H
            obtain ⟨rfl, rfl, rfl⟩ := H
            have p4 : 0 ≤ (x6_1 : Int) := of_decide_eq_true zb2
            have q4 : x6_1 < (a0.size : Int) := of_decide_eq_true zb2
            have hx4 := bt_at a0 x6_1
            replace p4 := eq_true p4
            replace q4 := eq_true q4
            have p10 : 0 ≤ (x6_1 : Int) := of_decide_eq_true zb2
            have q10 : x6_1 < (a0.size : Int) := of_decide_eq_true zb2
            have hx10 := bt_at a0 x6_1
            replace p10 := eq_true p10
            replace q10 := eq_true q10
            have p16 : 0 ≤ ((ji13) : Int) := of_decide_eq_true zb2
            have q16 : (ji13) < (a0.size : Int) := of_decide_eq_true zb2
            have hx16 := bt_at a0 (ji13)
            replace p16 := eq_true p16
            replace q16 := eq_true q16
            have p25 : 0 ≤ ((ji13) : Int) := of_decide_eq_true zb2
            have q25 : (ji13) < (a0.size : Int) := of_decide_eq_true zb2
            have hx25 := bt_at a0 (ji13)
            replace p25 := eq_true p25
            replace q25 := eq_true q25
            go_wp2
            repeat (go_quiet (fail); try go_wp2)
            go_ret3
            exact ⟨by first | rfl | (simp [errW_none, errW_some, bne_nil_] <;> rfl) | (simp only [← hji13]; first | rfl | (simp [errW_none, errW_some, bne_nil_] <;> rfl)) | (simp [*, errW_none, errW_some] <;> rfl), zb0⟩
           ·rw [if_neg c26] at H
            have c26b0 : ((bt a0 (ji13)) == 127) = false := beq_eq_false_iff_ne.mpr c26
            have c26b1 : ((bt a0 (ji13)) != 127) = true := bne_iff_ne.mpr c26
            by_cases c28 : x5_1.length < 140737488355328
            ·rw [if_pos c28] at H
             have LMc28 := Aside0.mk c28
             clear c28
             obtain ⟨y272, hy272⟩ : ∃ y_ : List Int, y_ = (x5_1 ++ [bt a0 (ji13)]) := ⟨_, rfl⟩
             replace H : (broadsheetref13_Quoted.l0 k1 a0 y272 (wrap64 ((ji13) + 1))) = some (r1, r2, r3) := by first | (rw [hy272]; with_reducible exact H) | (have H2_ := (Option.bind_some _ _).symm.trans H; rw [hy272]; with_reducible exact H2_) | (have H2_ := (Option.bind_some _ _).symm.trans H; with_reducible exact H2_) | with_reducible exact H | (rw [hy272]; exact H) | exact H
             have Ny272 := Aside0.mk hy272
             clear hy272
             have H' := Aside0.mk H
             clear H
             have p4 : 0 ≤ (x6_1 : Int) := of_decide_eq_true zb2
             have q4 : x6_1 < (a0.size : Int) := of_decide_eq_true zb2
             have hx4 := bt_at a0 x6_1
             replace p4 := eq_true p4
             replace q4 := eq_true q4
             have p10 : 0 ≤ (x6_1 : Int) := of_decide_eq_true zb2
             have q10 : x6_1 < (a0.size : Int) := of_decide_eq_true zb2
             have hx10 := bt_at a0 x6_1
             replace p10 := eq_true p10
             replace q10 := eq_true q10
             have p16 : 0 ≤ ((ji13) : Int) := of_decide_eq_true zb2
             have q16 : (ji13) < (a0.size : Int) := of_decide_eq_true zb2
             have hx16 := bt_at a0 (ji13)
             replace p16 := eq_true p16
             replace q16 := eq_true q16
             have p25 : 0 ≤ ((ji13) : Int) := of_decide_eq_true zb2
             have q25 : (ji13) < (a0.size : Int) := of_decide_eq_true zb2
             have hx25 := bt_at a0 (ji13)
             replace p25 := eq_true p25
             replace q25 := eq_true q25
             have p27 : 0 ≤ ((ji13) : Int) := of_decide_eq_true zb2
             have q27 : (ji13) < (a0.size : Int) := of_decide_eq_true zb2
             have hx27 := bt_at a0 (ji13)
             replace p27 := eq_true p27
             replace q27 := eq_true q27
             go_wp2_with (first | ((with_reducible refine gate_builtin (b := .append) (xs := #[.tmp 59, .tmp 63]) rfl ?_); at_builtin; refine Kd.R_append (Kd.int .u8) (w0 := w) w.heap.size rfl (.tmp 59) (.tmp 63) 23 5 (.int .u8 0) 1 rfl Tryz.underlying23 info5 rfl zb20 zb16 u5 x5_1 (bt a0 (ji13)) [.int .u8 (bt a0 (ji13))] (fun _ => True) (fun _ => False) rfl rfl ?aP (fun _ hk => hk.elim) ?aF ?aO ?aB ?aS ?aL ?_; (case aP => exact rfl); (case aB => exact zb0); (case aF => exact (fun _ _ => trivial)); (case aO => exact zb14); (case aS => exact (below_size zb0)); (case aL => have := LMc28.out; omega); intro v273 w29 ho hb hg hat; rw [← Ny272.out] at ho; have n0_ := Aside0.mk (hb); have n1_ := Aside0.mk (ho); clear HB; clear HO_5; have HB := n0_; have HO274 := n1_; clear n0_ n1_; clear ho hb hg hat))
             repeat (go_quiet (first | ((with_reducible refine gate_builtin (b := .append) (xs := #[.tmp 59, .tmp 63]) rfl ?_); at_builtin; refine Kd.R_append (Kd.int .u8) (w0 := w) w.heap.size rfl (.tmp 59) (.tmp 63) 23 5 (.int .u8 0) 1 rfl Tryz.underlying23 info5 rfl zb20 zb16 u5 x5_1 (bt a0 (ji13)) [.int .u8 (bt a0 (ji13))] (fun _ => True) (fun _ => False) rfl rfl ?aP (fun _ hk => hk.elim) ?aF ?aO ?aB ?aS ?aL ?_; (case aP => exact rfl); (case aB => exact zb0); (case aF => exact (fun _ _ => trivial)); (case aO => exact zb14); (case aS => exact (below_size zb0)); (case aL => have := LMc28.out; omega); intro v273 w29 ho hb hg hat; rw [← Ny272.out] at ho; have n0_ := Aside0.mk (hb); have n1_ := Aside0.mk (ho); clear HB; clear HO_5; have HB := n0_; have HO274 := n1_; clear n0_ n1_; clear ho hb hg hat)); try go_wp2_with (first | ((with_reducible refine gate_builtin (b := .append) (xs := #[.tmp 59, .tmp 63]) rfl ?_); at_builtin; refine Kd.R_append (Kd.int .u8) (w0 := w) w.heap.size rfl (.tmp 59) (.tmp 63) 23 5 (.int .u8 0) 1 rfl Tryz.underlying23 info5 rfl zb20 zb16 u5 x5_1 (bt a0 (ji13)) [.int .u8 (bt a0 (ji13))] (fun _ => True) (fun _ => False) rfl rfl ?aP (fun _ hk => hk.elim) ?aF ?aO ?aB ?aS ?aL ?_; (case aP => exact rfl); (case aB => exact zb0); (case aF => exact (fun _ _ => trivial)); (case aO => exact zb14); (case aS => exact (below_size zb0)); (case aL => have := LMc28.out; omega); intro v273 w29 ho hb hg hat; rw [← Ny272.out] at ho; have n0_ := Aside0.mk (hb); have n1_ := Aside0.mk (ho); clear HB; clear HO_5; have HB := n0_; have HO274 := n1_; clear n0_ n1_; clear ho hb hg hat)))
             go_roundg k1
             case measure => have := HK1.out; omega
             case rel => exact ⟨(y272), (wrap64 ((ji13) + 1)), (by first | rfl | (simp; done) | (simp only [← hji13] <;> (first | rfl | simp)) | (simp [*]; done)), H', ⟨by have := HK1.out; omega⟩, ⟨by (with_reducible repeat (first | apply Kd.R_alloc | apply Kd.R_drewN | apply Kd.R_drew)); exact HO274.out⟩, ⟨by repeat (first | (with_reducible first | exact HB.out | apply below_alloc | apply pw_below_drewN | apply below_drew1) | exact HB.out)⟩⟩
            ·rw [if_neg c28] at H
             exact absurd H zb26
         ·rw [if_neg c15] at H
          exact absurd H zb26
        ·rw [if_neg c14] at H
         exact absurd H zb26
      ·rw [if_neg c11] at H
       have c11b0 : ((bt a0 x6_1) == 92) = false := beq_eq_false_iff_ne.mpr c11
       have c11b1 : ((bt a0 x6_1) != 92) = true := bne_iff_ne.mpr c11
       by_cases c31 : (bt a0 x6_1) < 32
       ·rw [if_pos c31] at H
        have c31b0 : decide ((bt a0 x6_1) < 32) = true := decide_eq_true c31
        clear c31
        by_cases c33 : (bt a0 x6_1) = 9
        ·rw [if_pos c33] at H
         have c33b0 : ((bt a0 x6_1) == 9) = true := beq_iff_eq.mpr c33
         have c33b1 : ((bt a0 x6_1) != 9) = false := bne_eq_false_iff_eq.mpr c33
         clear c33
         by_cases c35 : (bt a0 x6_1) = 127
         ·rw [if_pos c35] at H
          have c35b0 : ((bt a0 x6_1) == 127) = true := beq_iff_eq.mpr c35
          have c35b1 : ((bt a0 x6_1) != 127) = false := bne_eq_false_iff_eq.mpr c35
          clear c35
          simp only [Option.some.injEq, Prod.mk.injEq] at H
          obtain ⟨rfl, rfl, rfl⟩ := H
          have p4 : 0 ≤ (x6_1 : Int) := of_decide_eq_true zb2
          have q4 : x6_1 < (a0.size : Int) := of_decide_eq_true zb2
          have hx4 := bt_at a0 x6_1
          replace p4 := eq_true p4
          replace q4 := eq_true q4
          have p10 : 0 ≤ (x6_1 : Int) := of_decide_eq_true zb2
          have q10 : x6_1 < (a0.size : Int) := of_decide_eq_true zb2
          have hx10 := bt_at a0 x6_1
          replace p10 := eq_true p10
          replace q10 := eq_true q10
          have p30 : 0 ≤ (x6_1 : Int) := of_decide_eq_true zb2
          have q30 : x6_1 < (a0.size : Int) := of_decide_eq_true zb2
          have hx30 := bt_at a0 x6_1
          replace p30 := eq_true p30
          replace q30 := eq_true q30
          have p32 : 0 ≤ (x6_1 : Int) := of_decide_eq_true zb2
          have q32 : x6_1 < (a0.size : Int) := of_decide_eq_true zb2
          have hx32 := bt_at a0 x6_1
          replace p32 := eq_true p32
          replace q32 := eq_true q32
          have p34 : 0 ≤ (x6_1 : Int) := of_decide_eq_true zb2
          have q34 : x6_1 < (a0.size : Int) := of_decide_eq_true zb2
          have hx34 := bt_at a0 x6_1
          replace p34 := eq_true p34
          replace q34 := eq_true q34
          go_wp2
          repeat (go_quiet (fail); try go_wp2)
          go_ret3
          exact ⟨zb4, zb0⟩
         ·rw [if_neg c35] at H
          have c35b0 : ((bt a0 x6_1) == 127) = false := beq_eq_false_iff_ne.mpr c35
          have c35b1 : ((bt a0 x6_1) != 127) = true := bne_iff_ne.mpr c35
          by_cases c37 : x5_1.length < 140737488355328
          ·rw [if_pos c37] at H
           have LMc37 := Aside0.mk c37
           clear c37
           obtain ⟨y275, hy275⟩ : ∃ y_ : List Int, y_ = (x5_1 ++ [bt a0 x6_1]) := ⟨_, rfl⟩
           replace H : (broadsheetref13_Quoted.l0 k1 a0 y275 (wrap64 (x6_1 + 1))) = some (r1, r2, r3) := by first | (rw [hy275]; with_reducible exact H) | (have H2_ := (Option.bind_some _ _).symm.trans H; rw [hy275]; with_reducible exact H2_) | (have H2_ := (Option.bind_some _ _).symm.trans H; with_reducible exact H2_) | with_reducible exact H | (rw [hy275]; exact H) | exact H
           have Ny275 := Aside0.mk hy275
           clear hy275
           have H' := Aside0.mk H
           clear H
           have p4 : 0 ≤ (x6_1 : Int) := of_decide_eq_true zb2
           have q4 : x6_1 < (a0.size : Int) := of_decide_eq_true zb2
           have hx4 := bt_at a0 x6_1
           replace p4 := eq_true p4
           replace q4 := eq_true q4
           have p10 : 0 ≤ (x6_1 : Int) := of_decide_eq_true zb2
           have q10 : x6_1 < (a0.size : Int) := of_decide_eq_true zb2
           have hx10 := bt_at a0 x6_1
           replace p10 := eq_true p10
           replace q10 := eq_true q10
           have p30 : 0 ≤ (x6_1 : Int) := of_decide_eq_true zb2
           have q30 : x6_1 < (a0.size : Int) := of_decide_eq_true zb2
           have hx30 := bt_at a0 x6_1
           replace p30 := eq_true p30
           replace q30 := eq_true q30
           have p32 : 0 ≤ (x6_1 : Int) := of_decide_eq_true zb2
           have q32 : x6_1 < (a0.size : Int) := of_decide_eq_true zb2
           have hx32 := bt_at a0 x6_1
           replace p32 := eq_true p32
           replace q32 := eq_true q32
           have p34 : 0 ≤ (x6_1 : Int) := of_decide_eq_true zb2
           have q34 : x6_1 < (a0.size : Int) := of_decide_eq_true zb2
           have hx34 := bt_at a0 x6_1
           replace p34 := eq_true p34
           replace q34 := eq_true q34
           have p36 : 0 ≤ (x6_1 : Int) := of_decide_eq_true zb2
           have q36 : x6_1 < (a0.size : Int) := of_decide_eq_true zb2
           have hx36 := bt_at a0 x6_1
           replace p36 := eq_true p36
           replace q36 := eq_true q36
           go_wp2_with (first | ((with_reducible refine gate_builtin (b := .append) (xs := #[.tmp 13, .tmp 17]) rfl ?_); at_builtin; refine Kd.R_append (Kd.int .u8) (w0 := w) w.heap.size rfl (.tmp 13) (.tmp 17) 23 5 (.int .u8 0) 1 rfl Tryz.underlying23 info5 rfl zb20 zb16 u5 x5_1 (bt a0 x6_1) [.int .u8 (bt a0 x6_1)] (fun _ => True) (fun _ => False) rfl rfl ?aP (fun _ hk => hk.elim) ?aF ?aO ?aB ?aS ?aL ?_; (case aP => exact rfl); (case aB => exact zb0); (case aF => exact (fun _ _ => trivial)); (case aO => exact zb14); (case aS => exact (below_size zb0)); (case aL => have := LMc37.out; omega); intro v276 w38 ho hb hg hat; rw [← Ny275.out] at ho; have n0_ := Aside0.mk (hb); have n1_ := Aside0.mk (ho); clear HB; clear HO_5; have HB := n0_; have HO277 := n1_; clear n0_ n1_; clear ho hb hg hat))
           repeat (go_quiet (first | ((with_reducible refine gate_builtin (b := .append) (xs := #[.tmp 13, .tmp 17]) rfl ?_); at_builtin; refine Kd.R_append (Kd.int .u8) (w0 := w) w.heap.size rfl (.tmp 13) (.tmp 17) 23 5 (.int .u8 0) 1 rfl Tryz.underlying23 info5 rfl zb20 zb16 u5 x5_1 (bt a0 x6_1) [.int .u8 (bt a0 x6_1)] (fun _ => True) (fun _ => False) rfl rfl ?aP (fun _ hk => hk.elim) ?aF ?aO ?aB ?aS ?aL ?_; (case aP => exact rfl); (case aB => exact zb0); (case aF => exact (fun _ _ => trivial)); (case aO => exact zb14); (case aS => exact (below_size zb0)); (case aL => have := LMc37.out; omega); intro v276 w38 ho hb hg hat; rw [← Ny275.out] at ho; have n0_ := Aside0.mk (hb); have n1_ := Aside0.mk (ho); clear HB; clear HO_5; have HB := n0_; have HO277 := n1_; clear n0_ n1_; clear ho hb hg hat)); try go_wp2_with (first | ((with_reducible refine gate_builtin (b := .append) (xs := #[.tmp 13, .tmp 17]) rfl ?_); at_builtin; refine Kd.R_append (Kd.int .u8) (w0 := w) w.heap.size rfl (.tmp 13) (.tmp 17) 23 5 (.int .u8 0) 1 rfl Tryz.underlying23 info5 rfl zb20 zb16 u5 x5_1 (bt a0 x6_1) [.int .u8 (bt a0 x6_1)] (fun _ => True) (fun _ => False) rfl rfl ?aP (fun _ hk => hk.elim) ?aF ?aO ?aB ?aS ?aL ?_; (case aP => exact rfl); (case aB => exact zb0); (case aF => exact (fun _ _ => trivial)); (case aO => exact zb14); (case aS => exact (below_size zb0)); (case aL => have := LMc37.out; omega); intro v276 w38 ho hb hg hat; rw [← Ny275.out] at ho; have n0_ := Aside0.mk (hb); have n1_ := Aside0.mk (ho); clear HB; clear HO_5; have HB := n0_; have HO277 := n1_; clear n0_ n1_; clear ho hb hg hat)))
           go_roundg k1
           case measure => have := HK1.out; omega
           case rel => exact ⟨(y275), (wrap64 (x6_1 + 1)), zb5, H', ⟨by have := HK1.out; omega⟩, ⟨by (with_reducible repeat (first | apply Kd.R_alloc | apply Kd.R_drewN | apply Kd.R_drew)); exact HO277.out⟩, ⟨by repeat (first | (with_reducible first | exact HB.out | apply below_alloc | apply pw_below_drewN | apply below_drew1) | exact HB.out)⟩⟩
          ·rw [if_neg c37] at H
           exact absurd H zb26
        ·rw [if_neg c33] at H
         have c33b0 : ((bt a0 x6_1) == 9) = false := beq_eq_false_iff_ne.mpr c33
         have c33b1 : ((bt a0 x6_1) != 9) = true := bne_iff_ne.mpr c33
         simp only [Option.some.injEq, Prod.mk.injEq] at H
         obtain ⟨rfl, rfl, rfl⟩ := H
         have p4 : 0 ≤ (x6_1 : Int) := of_decide_eq_true zb2
         have q4 : x6_1 < (a0.size : Int) := of_decide_eq_true zb2
         have hx4 := bt_at a0 x6_1
         replace p4 := eq_true p4
         replace q4 := eq_true q4
         have p10 : 0 ≤ (x6_1 : Int) := of_decide_eq_true zb2
         have q10 : x6_1 < (a0.size : Int) := of_decide_eq_true zb2
         have hx10 := bt_at a0 x6_1
         replace p10 := eq_true p10
         replace q10 := eq_true q10
         have p30 : 0 ≤ (x6_1 : Int) := of_decide_eq_true zb2
         have q30 : x6_1 < (a0.size : Int) := of_decide_eq_true zb2
         have hx30 := bt_at a0 x6_1
         replace p30 := eq_true p30
         replace q30 := eq_true q30
         have p32 : 0 ≤ (x6_1 : Int) := of_decide_eq_true zb2
         have q32 : x6_1 < (a0.size : Int) := of_decide_eq_true zb2
         have hx32 := bt_at a0 x6_1
         replace p32 := eq_true p32
         replace q32 := eq_true q32
         go_wp2
         repeat (go_quiet (fail); try go_wp2)
         go_ret3
         exact ⟨zb4, zb0⟩
       ·rw [if_neg c31] at H
        have c31b0 : decide ((bt a0 x6_1) < 32) = false := decide_eq_false c31
        clear c31
        by_cases c40 : (bt a0 x6_1) = 127
        ·rw [if_pos c40] at H
         have c40b0 : ((bt a0 x6_1) == 127) = true := beq_iff_eq.mpr c40
         have c40b1 : ((bt a0 x6_1) != 127) = false := bne_eq_false_iff_eq.mpr c40
         clear c40
         simp only [Option.some.injEq, Prod.mk.injEq] at H
         obtain ⟨rfl, rfl, rfl⟩ := H
         have p4 : 0 ≤ (x6_1 : Int) := of_decide_eq_true zb2
         have q4 : x6_1 < (a0.size : Int) := of_decide_eq_true zb2
         have hx4 := bt_at a0 x6_1
         replace p4 := eq_true p4
         replace q4 := eq_true q4
         have p10 : 0 ≤ (x6_1 : Int) := of_decide_eq_true zb2
         have q10 : x6_1 < (a0.size : Int) := of_decide_eq_true zb2
         have hx10 := bt_at a0 x6_1
         replace p10 := eq_true p10
         replace q10 := eq_true q10
         have p30 : 0 ≤ (x6_1 : Int) := of_decide_eq_true zb2
         have q30 : x6_1 < (a0.size : Int) := of_decide_eq_true zb2
         have hx30 := bt_at a0 x6_1
         replace p30 := eq_true p30
         replace q30 := eq_true q30
         have p39 : 0 ≤ (x6_1 : Int) := of_decide_eq_true zb2
         have q39 : x6_1 < (a0.size : Int) := of_decide_eq_true zb2
         have hx39 := bt_at a0 x6_1
         replace p39 := eq_true p39
         replace q39 := eq_true q39
         go_wp2
         repeat (go_quiet (fail); try go_wp2)
         go_ret3
         exact ⟨zb4, zb0⟩
        ·rw [if_neg c40] at H
         have c40b0 : ((bt a0 x6_1) == 127) = false := beq_eq_false_iff_ne.mpr c40
         have c40b1 : ((bt a0 x6_1) != 127) = true := bne_iff_ne.mpr c40
         by_cases c42 : x5_1.length < 140737488355328
         ·rw [if_pos c42] at H
          have LMc42 := Aside0.mk c42
          clear c42
          obtain ⟨y278, hy278⟩ : ∃ y_ : List Int, y_ = (x5_1 ++ [bt a0 x6_1]) := ⟨_, rfl⟩
          replace H : (broadsheetref13_Quoted.l0 k1 a0 y278 (wrap64 (x6_1 + 1))) = some (r1, r2, r3) := by first | (rw [hy278]; with_reducible exact H) | (have H2_ := (Option.bind_some _ _).symm.trans H; rw [hy278]; with_reducible exact H2_) | (have H2_ := (Option.bind_some _ _).symm.trans H; with_reducible exact H2_) | with_reducible exact H | (rw [hy278]; exact H) | exact H
          have Ny278 := Aside0.mk hy278
          clear hy278
          have H' := Aside0.mk H
          clear H
          have p4 : 0 ≤ (x6_1 : Int) := of_decide_eq_true zb2
          have q4 : x6_1 < (a0.size : Int) := of_decide_eq_true zb2
          have hx4 := bt_at a0 x6_1
          replace p4 := eq_true p4
          replace q4 := eq_true q4
          have p10 : 0 ≤ (x6_1 : Int) := of_decide_eq_true zb2
          have q10 : x6_1 < (a0.size : Int) := of_decide_eq_true zb2
          have hx10 := bt_at a0 x6_1
          replace p10 := eq_true p10
          replace q10 := eq_true q10
          have p30 : 0 ≤ (x6_1 : Int) := of_decide_eq_true zb2
          have q30 : x6_1 < (a0.size : Int) := of_decide_eq_true zb2
          have hx30 := bt_at a0 x6_1
          replace p30 := eq_true p30
          replace q30 := eq_true q30
          have p39 : 0 ≤ (x6_1 : Int) := of_decide_eq_true zb2
          have q39 : x6_1 < (a0.size : Int) := of_decide_eq_true zb2
          have hx39 := bt_at a0 x6_1
          replace p39 := eq_true p39
          replace q39 := eq_true q39
          have p41 : 0 ≤ (x6_1 : Int) := of_decide_eq_true zb2
          have q41 : x6_1 < (a0.size : Int) := of_decide_eq_true zb2
          have hx41 := bt_at a0 x6_1
          replace p41 := eq_true p41
          replace q41 := eq_true q41
          go_wp2_with (first | ((with_reducible refine gate_builtin (b := .append) (xs := #[.tmp 13, .tmp 17]) rfl ?_); at_builtin; refine Kd.R_append (Kd.int .u8) (w0 := w) w.heap.size rfl (.tmp 13) (.tmp 17) 23 5 (.int .u8 0) 1 rfl Tryz.underlying23 info5 rfl zb20 zb16 u5 x5_1 (bt a0 x6_1) [.int .u8 (bt a0 x6_1)] (fun _ => True) (fun _ => False) rfl rfl ?aP (fun _ hk => hk.elim) ?aF ?aO ?aB ?aS ?aL ?_; (case aP => exact rfl); (case aB => exact zb0); (case aF => exact (fun _ _ => trivial)); (case aO => exact zb14); (case aS => exact (below_size zb0)); (case aL => have := LMc42.out; omega); intro v279 w43 ho hb hg hat; rw [← Ny278.out] at ho; have n0_ := Aside0.mk (hb); have n1_ := Aside0.mk (ho); clear HB; clear HO_5; have HB := n0_; have HO280 := n1_; clear n0_ n1_; clear ho hb hg hat))
          repeat (go_quiet (first | ((with_reducible refine gate_builtin (b := .append) (xs := #[.tmp 13, .tmp 17]) rfl ?_); at_builtin; refine Kd.R_append (Kd.int .u8) (w0 := w) w.heap.size rfl (.tmp 13) (.tmp 17) 23 5 (.int .u8 0) 1 rfl Tryz.underlying23 info5 rfl zb20 zb16 u5 x5_1 (bt a0 x6_1) [.int .u8 (bt a0 x6_1)] (fun _ => True) (fun _ => False) rfl rfl ?aP (fun _ hk => hk.elim) ?aF ?aO ?aB ?aS ?aL ?_; (case aP => exact rfl); (case aB => exact zb0); (case aF => exact (fun _ _ => trivial)); (case aO => exact zb14); (case aS => exact (below_size zb0)); (case aL => have := LMc42.out; omega); intro v279 w43 ho hb hg hat; rw [← Ny278.out] at ho; have n0_ := Aside0.mk (hb); have n1_ := Aside0.mk (ho); clear HB; clear HO_5; have HB := n0_; have HO280 := n1_; clear n0_ n1_; clear ho hb hg hat)); try go_wp2_with (first | ((with_reducible refine gate_builtin (b := .append) (xs := #[.tmp 13, .tmp 17]) rfl ?_); at_builtin; refine Kd.R_append (Kd.int .u8) (w0 := w) w.heap.size rfl (.tmp 13) (.tmp 17) 23 5 (.int .u8 0) 1 rfl Tryz.underlying23 info5 rfl zb20 zb16 u5 x5_1 (bt a0 x6_1) [.int .u8 (bt a0 x6_1)] (fun _ => True) (fun _ => False) rfl rfl ?aP (fun _ hk => hk.elim) ?aF ?aO ?aB ?aS ?aL ?_; (case aP => exact rfl); (case aB => exact zb0); (case aF => exact (fun _ _ => trivial)); (case aO => exact zb14); (case aS => exact (below_size zb0)); (case aL => have := LMc42.out; omega); intro v279 w43 ho hb hg hat; rw [← Ny278.out] at ho; have n0_ := Aside0.mk (hb); have n1_ := Aside0.mk (ho); clear HB; clear HO_5; have HB := n0_; have HO280 := n1_; clear n0_ n1_; clear ho hb hg hat)))
          go_roundg k1
          case measure => have := HK1.out; omega
          case rel => exact ⟨(y278), (wrap64 (x6_1 + 1)), zb5, H', ⟨by have := HK1.out; omega⟩, ⟨by (with_reducible repeat (first | apply Kd.R_alloc | apply Kd.R_drewN | apply Kd.R_drew)); exact HO280.out⟩, ⟨by repeat (first | (with_reducible first | exact HB.out | apply below_alloc | apply pw_below_drewN | apply below_drew1) | exact HB.out)⟩⟩
         ·rw [if_neg c42] at H
          exact absurd H zb26
    ·rw [if_neg c3] at H
     exact absurd H zb26
   ·rw [if_neg c2] at H
    have c2b0 : decide (x6_1 < (a0.size : Int)) = false := decide_eq_false c2
    clear c2
    simp only [Option.some.injEq, Prod.mk.injEq] at H
    obtain ⟨rfl, rfl, rfl⟩ := H
    go_wp2
    repeat (go_quiet (fail); try go_wp2)
    go_ret3
    exact ⟨zb4, zb0⟩
def broadsheetref13_value.j0 : Nat → ByteArray → Bool → Option (ByteArray × ByteArray × Bool)
  | 0, _, _ => none
  | k + 1, x0, x13 => if x13 = true then (if 1 ≤ (x0.size : Int) then ((broadsheetref13_Quoted.f k (x0.extract 1 x0.size)).bind fun bt281 => (some (bt281.1, bt281.2.1, bt281.2.2))) else (none)) else ((broadsheetref13_Token.f k x0).bind fun bt284 => (some (bt284.1, bt284.2, (bt284.1.toList != ([] : List UInt8)))))
def broadsheetref13_value.f (k : Nat) (a0 : ByteArray) : Option (ByteArray × ByteArray × Bool) := if a0.toList = ([] : List UInt8) then (broadsheetref13_value.j0 k a0 false) else (if 0 < (a0.size : Int) then (broadsheetref13_value.j0 k a0 ((bt a0 0) == 34)) else (none))
set_option maxHeartbeats 8000000 in
set_option maxRecDepth 100000 in
theorem broadsheetref13_value.calls (k : Nat) (a0 : ByteArray) (r1 : ByteArray) (r2 : ByteArray) (r3 : Bool) (w : World) (h : broadsheetref13_value.f k a0 = some (r1, r2, r3)) :
  Calls Tryz.prog 66 #[.string a0] w fun e w' => e = .returned (.tuple #[.string r1, .string r2, .bool r3]) ∧ Below w.heap.size w w' := by
 have HB := Aside0.mk (Below.refl w.heap.size w)
 have H : (if a0.toList = ([] : List UInt8) then (broadsheetref13_value.j0 k a0 false) else (if 0 < (a0.size : Int) then (broadsheetref13_value.j0 k a0 ((bt a0 0) == 34)) else (none))) = some (r1, r2, r3) := h
 clear h
 have HC2 := Aside0.mk H
 clear H
 go_enter Tryz.func66, Tryz.ntmps66
 go_upto_region 1 with (fail)
 go_cut [13] (fun v13 wc => ∃ (kq : Nat) (x13_1 : Bool), v13 = .bool x13_1 ∧ Aside0 (broadsheetref13_value.j0 kq a0 x13_1 = some (r1, r2, r3)) ∧ Aside0 (kq ≤ k) ∧ Aside0 (Below w.heap.size w wc))
 case first =>
  have H := HC2.out
  clear HC2
  by_cases c3 : a0.toList = ([] : List UInt8)
  ·rw [if_pos c3] at H
   have c3b0 : (a0.toList == ([] : List UInt8)) = true := beq_iff_eq.mpr c3
   have c3b1 : (a0.toList != ([] : List UInt8)) = false := bne_eq_false_iff_eq.mpr c3
   clear c3
   (first | rw [c3b0] | (simp only [i64_w, i32_w]; rw [c3b0]) | skip)
   have H' := Aside0.mk H
   clear H
   go_wp2
   go_meet
   case rel => exact ⟨_, (false), zb5, H', ⟨by first | omega | exact Nat.le_refl _⟩, ⟨by repeat (first | (with_reducible first | exact HB.out | apply below_alloc | apply pw_below_drewN | apply below_drew1) | exact HB.out)⟩⟩
  ·rw [if_neg c3] at H
   have c3b0 : (a0.toList == ([] : List UInt8)) = false := beq_eq_false_iff_ne.mpr c3
   have c3b1 : (a0.toList != ([] : List UInt8)) = true := bne_iff_ne.mpr c3
   (first | rw [c3b0] | (simp only [i64_w, i32_w]; rw [c3b0]) | skip)
   by_cases c4 : 0 < (a0.size : Int)
   ·rw [if_pos c4] at H
    have c4b0 : decide (0 < (a0.size : Int)) = true := decide_eq_true c4
    have c4b1 : decide (0 < a0.size) = true := decide_eq_true zb16
    clear c4
    have H' := Aside0.mk H
    clear H
    have p5 : 0 ≤ (0 : Int) := zb16
    have q5 : 0 < a0.size := (by have : (0 : Int) < (a0.size : Int) := of_decide_eq_true zb2; omega)
    have hx5 : ∀ h : 0 < a0.size, ((a0[0]'h).toNat : Int) = bt a0 0 := bt_at a0 0
    clear p5
    have qi5 : (0 < (a0.size : Int)) = True := eq_true (of_decide_eq_true zb2)
    replace q5 := eq_true q5
    go_wp2
    go_meet
    case rel => exact ⟨_, (((bt a0 0) == 34)), zb5, H', ⟨by first | omega | exact Nat.le_refl _⟩, ⟨by repeat (first | (with_reducible first | exact HB.out | apply below_alloc | apply pw_below_drewN | apply below_drew1) | exact HB.out)⟩⟩
   ·rw [if_neg c4] at H
    exact absurd H zb26
 case rest =>
  clear HC2
  try clear p2
  try clear c3
  try clear c3b0
  try clear c3b1
  try clear c4
  try clear c4b0
  try clear c4b1
  try clear p5
  try clear q5
  try clear hx5
  try clear qi5
  try clear p5
  try clear q5
  obtain ⟨kq, x13_1, rfl, HA, HJ1, HB⟩ := hcut
  cases kq with
  | zero => exact absurd HA.out (by simp [broadsheetref13_value.j0])
  | succ kj1 =>
   have H := HA.out
   clear HA
   simp only [broadsheetref13_value.j0] at H
   by_cases c6 : x13_1 = true
   ·subst c6
    replace H : (if 1 ≤ (a0.size : Int) then ((broadsheetref13_Quoted.f kj1 (a0.extract 1 a0.size)).bind fun bt281 => (some (bt281.1, bt281.2.1, bt281.2.2))) else (none)) = some (r1, r2, r3) := by rw [if_pos rfl] at H; exact H
    by_cases c7 : 1 ≤ (a0.size : Int)
    ·rw [if_pos c7] at H
     have c7b0 := eq_true c7
     have c7b1 : decide (1 ≤ (a0.size : Int)) = true := decide_eq_true c7
     clear c7
     replace H := Option.bind_eq_some_iff.mp H
     obtain ⟨⟨t281, t282, t283⟩, A80, H⟩ := H
     replace H : (some (t281, t282, t283)) = some (r1, r2, r3) := H
     have A8 := Aside0.mk A80
     clear A80
     simp only [Option.some.injEq, Prod.mk.injEq] at H
     obtain ⟨rfl, rfl, rfl⟩ := H
     go_wp2_with (first | ((with_reducible refine gate_callee (f := 100) rfl ?_); refine goesL_ (some 16) rfl rfl Tryz.func100 zb12 rfl #[.string (a0.extract 1 a0.size)] rfl zb1 ?_; (with_reducible refine (broadsheetref13_Quoted.calls kj1 (a0.extract 1 a0.size) t281 t282 t283 _ A8.out).mono ?_); rintro e w9 ⟨rfl, hb⟩; refine ⟨_, rfl, ?_⟩; have n0_ := Aside0.mk (below_step zb0 hb); clear HB; have HB := n0_; clear n0_; (try clear hb); (try clear hb2); (try clear hk); (try clear hi)))
     go_ret3
     exact ⟨zb4, zb0⟩
    ·rw [if_neg c7] at H
     exact absurd H zb26
   ·replace c6 := Bool.eq_false_iff.mpr c6
    subst c6
    replace H : ((broadsheetref13_Token.f kj1 a0).bind fun bt284 => (some (bt284.1, bt284.2, (bt284.1.toList != ([] : List UInt8))))) = some (r1, r2, r3) := by rw [if_neg (show ¬ (false = true) by decide)] at H; exact H
    replace H := Option.bind_eq_some_iff.mp H
    obtain ⟨⟨t284, t285⟩, A100, H⟩ := H
    replace H : (some (t284, t285, (t284.toList != ([] : List UInt8)))) = some (r1, r2, r3) := H
    have A10 := Aside0.mk A100
    clear A100
    simp only [Option.some.injEq, Prod.mk.injEq] at H
    obtain ⟨rfl, rfl, rfl⟩ := H
    go_wp2_with (first | ((with_reducible refine gate_callee (f := 51) rfl ?_); refine goesL_ (some 22) rfl rfl Tryz.func51 zb12 rfl #[.string a0] rfl zb1 ?_; (with_reducible refine (broadsheetref13_Token.calls kj1 a0 t284 t285 _ A10.out).mono ?_); rintro e w' ⟨rfl, ⟨nd, rfl⟩⟩; refine ⟨_, rfl, ?_⟩))
    go_ret3
    exact ⟨zb4, zb0⟩
mutual
def broadsheetref13_Params.l0 : Nat → ByteArray → List (S49) → Option ((List (S49)) × Bool)
  | 0, _, _ => none
  | k + 1, x0, x4 => (broadsheetref13_Skip.f k x0).bind fun t286 => (if t286.toList = ([] : List UInt8) then (some (x4, true)) else (if 0 < (t286.size : Int) then (if (bt t286 0) = 59 then (if 1 ≤ (t286.size : Int) then ((broadsheetref13_Skip.f k (t286.extract 1 t286.size)).bind fun t287 => ((broadsheetref13_Token.f k t287).bind fun bt288 => (if bt288.1.toList = ([] : List UInt8) then (broadsheetref13_Params.j1 k x4 bt288.1 bt288.2 true) else (if bt288.2.toList = ([] : List UInt8) then (broadsheetref13_Params.j1 k x4 bt288.1 bt288.2 true) else (if 0 < (bt288.2.size : Int) then (broadsheetref13_Params.j1 k x4 bt288.1 bt288.2 ((bt bt288.2 0) != 61)) else (none)))))) else (none)) else (some (([] : List (S49)), false))) else (none)))
def broadsheetref13_Params.j1 : Nat → List (S49) → ByteArray → ByteArray → Bool → Option ((List (S49)) × Bool)
  | 0, _, _, _, _ => none
  | k + 1, x4, x5, x6, x34 => if x34 = true then (some (([] : List (S49)), false)) else (if 1 ≤ (x6.size : Int) then ((broadsheetref13_value.f k (x6.extract 1 x6.size)).bind fun bt290 => (if bt290.2.2 = true then ((broadsheetref07_Lower.f k x5).bind fun t293 => (if x4.length < 4398046511104 then (broadsheetref13_Params.l0 k bt290.2.1 (x4 ++ [(⟨t293, bt290.1⟩ : S49)])) else (none))) else (some (([] : List (S49)), false)))) else (none))
end
def broadsheetref13_Params.f (k : Nat) (a0 : ByteArray) : Option ((List (S49)) × Bool) := broadsheetref13_Params.l0 k a0 ([] : List (S49))
set_option maxHeartbeats 8000000 in
set_option maxRecDepth 100000 in
theorem broadsheetref13_Params.calls (k : Nat) (a0 : ByteArray) (r1 : List (S49)) (r2 : Bool) (w : World) (h : broadsheetref13_Params.f k a0 = some (r1, r2)) :
  Calls Tryz.prog 38 #[.string a0] w fun e w' => ∃ v0_ : Value, e = .returned (.tuple #[v0_, .bool r2]) ∧ Kd.R k49 49 w' w.heap.size (fun _ => True) v0_ r1 ∧ Below w.heap.size w w' := by
 have hu49 := Tryz.underlying49
 have HB := Aside0.mk (Below.refl w.heap.size w)
 have H : (broadsheetref13_Params.l0 k a0 ([] : List (S49))) = some (r1, r2) := h
 clear h
 have H' := Aside0.mk H
 clear H
 go_enter Tryz.func38, Tryz.ntmps38
 go_wp2
 first | go_loopg [0, 4] k (fun kq v0 v4 w' => ∃ (x0_1 : ByteArray) (x4_1 : List (S49)), v0 = .string x0_1 ∧ Aside0 (broadsheetref13_Params.l0 kq x0_1 x4_1 = some (r1, r2)) ∧ Aside0 (kq ≤ k) ∧ Aside0 (Kd.R k49 49 w' w.heap.size (fun _ => True) v4 x4_1) ∧ Aside0 (Below w.heap.size w w')) | (go_simp; go_loopg [0, 4] k (fun kq v0 v4 w' => ∃ (x0_1 : ByteArray) (x4_1 : List (S49)), v0 = .string x0_1 ∧ Aside0 (broadsheetref13_Params.l0 kq x0_1 x4_1 = some (r1, r2)) ∧ Aside0 (kq ≤ k) ∧ Aside0 (Kd.R k49 49 w' w.heap.size (fun _ => True) v4 x4_1) ∧ Aside0 (Below w.heap.size w w')))
 case atStart => exact ⟨(a0), (([] : List (S49))), zb5, H', ⟨Nat.le_refl _⟩, ⟨by first | exact Kd.R_nil _ _ _ _ _ | exact Kd.N_nil _ _ _ _ _ | exact Kd.V_nil _ _ _ _ _ | exact Kd.Q_nil _ _ _ _ _ | exact Kd.S_nil _ _ _ _ _⟩, ⟨by repeat (first | (with_reducible first | exact HB.out | apply below_alloc | apply pw_below_drewN | apply below_drew1) | exact HB.out)⟩⟩
 case round =>
  clear H'
  obtain ⟨x0_1, x4_1, rfl, HA, HK1, HO_4, HB⟩ := hrel
  cases gk with
  | zero => exact absurd HA.out (by simp [broadsheetref13_Params.l0])
  | succ k1 =>
   have H := HA.out
   clear HA
   simp only [broadsheetref13_Params.l0] at H
   replace H := Option.bind_eq_some_iff.mp H
   obtain ⟨t286, A20, H⟩ := H
   replace H : (if t286.toList = ([] : List UInt8) then (some (x4_1, true)) else (if 0 < (t286.size : Int) then (if (bt t286 0) = 59 then (if 1 ≤ (t286.size : Int) then ((broadsheetref13_Skip.f k1 (t286.extract 1 t286.size)).bind fun t287 => ((broadsheetref13_Token.f k1 t287).bind fun bt288 => (if bt288.1.toList = ([] : List UInt8) then (broadsheetref13_Params.j1 k1 x4_1 bt288.1 bt288.2 true) else (if bt288.2.toList = ([] : List UInt8) then (broadsheetref13_Params.j1 k1 x4_1 bt288.1 bt288.2 true) else (if 0 < (bt288.2.size : Int) then (broadsheetref13_Params.j1 k1 x4_1 bt288.1 bt288.2 ((bt bt288.2 0) != 61)) else (none)))))) else (none)) else (some (([] : List (S49)), false))) else (none))) = some (r1, r2) := H
   have A2 := Aside0.mk A20
   clear A20
   by_cases c3 : t286.toList = ([] : List UInt8)
   ·rw [if_pos c3] at H
    have c3b0 : (t286.toList == ([] : List UInt8)) = true := beq_iff_eq.mpr c3
    have c3b1 : (t286.toList != ([] : List UInt8)) = false := bne_eq_false_iff_eq.mpr c3
    clear c3
    simp only [Option.some.injEq, Prod.mk.injEq] at H
    obtain ⟨rfl, rfl⟩ := H
    go_wp2_with (first | ((with_reducible refine gate_callee (f := 65) rfl ?_); refine goesL_ (some 10) rfl rfl Tryz.func65 zb12 rfl #[.string x0_1] rfl zb1 ?_; (with_reducible refine (broadsheetref13_Skip.calls k1 x0_1 t286 _ A2.out).mono ?_); rintro e w' ⟨rfl, ⟨nd, rfl⟩⟩; refine ⟨_, rfl, ?_⟩))
    go_ret2
    exact ⟨_, by first | rfl | (simp [errW_none, errW_some, bne_nil_] <;> rfl) | (simp [*, errW_none, errW_some] <;> rfl), by (with_reducible repeat (first | apply Kd.R_alloc | apply Kd.R_drewN | apply Kd.R_drew)); exact HO_4.out, zb0⟩
   ·rw [if_neg c3] at H
    have c3b0 : (t286.toList == ([] : List UInt8)) = false := beq_eq_false_iff_ne.mpr c3
    have c3b1 : (t286.toList != ([] : List UInt8)) = true := bne_iff_ne.mpr c3
    by_cases c4 : 0 < (t286.size : Int)
    ·rw [if_pos c4] at H
     have c4b0 : decide (0 < (t286.size : Int)) = true := decide_eq_true c4
     have c4b1 : decide (0 < t286.size) = true := decide_eq_true zb16
     clear c4
     by_cases c6 : (bt t286 0) = 59
     ·rw [if_pos c6] at H
      have c6b0 : ((bt t286 0) == 59) = true := beq_iff_eq.mpr c6
      have c6b1 : ((bt t286 0) != 59) = false := bne_eq_false_iff_eq.mpr c6
      clear c6
      by_cases c7 : 1 ≤ (t286.size : Int)
      ·rw [if_pos c7] at H
       have c7b0 := eq_true c7
       have c7b1 : decide (1 ≤ (t286.size : Int)) = true := decide_eq_true c7
       clear c7
       replace H := Option.bind_eq_some_iff.mp H
       obtain ⟨t287, A80, H⟩ := H
       replace H : ((broadsheetref13_Token.f k1 t287).bind fun bt288 => (if bt288.1.toList = ([] : List UInt8) then (broadsheetref13_Params.j1 k1 x4_1 bt288.1 bt288.2 true) else (if bt288.2.toList = ([] : List UInt8) then (broadsheetref13_Params.j1 k1 x4_1 bt288.1 bt288.2 true) else (if 0 < (bt288.2.size : Int) then (broadsheetref13_Params.j1 k1 x4_1 bt288.1 bt288.2 ((bt bt288.2 0) != 61)) else (none))))) = some (r1, r2) := H
       have A8 := Aside0.mk A80
       clear A80
       replace H := Option.bind_eq_some_iff.mp H
       obtain ⟨⟨t288, t289⟩, A90, H⟩ := H
       replace H : (if t288.toList = ([] : List UInt8) then (broadsheetref13_Params.j1 k1 x4_1 t288 t289 true) else (if t289.toList = ([] : List UInt8) then (broadsheetref13_Params.j1 k1 x4_1 t288 t289 true) else (if 0 < (t289.size : Int) then (broadsheetref13_Params.j1 k1 x4_1 t288 t289 ((bt t289 0) != 61)) else (none)))) = some (r1, r2) := H
       have A9 := Aside0.mk A90
       clear A90
       have HC10 := Aside0.mk H
       clear H
       go_upto_region 8 with (first | ((with_reducible refine gate_callee (f := 65) rfl ?_); refine goesL_ (some 10) rfl rfl Tryz.func65 zb12 rfl #[.string x0_1] rfl zb1 ?_; (with_reducible refine (broadsheetref13_Skip.calls k1 x0_1 t286 _ A2.out).mono ?_); rintro e w' ⟨rfl, ⟨nd, rfl⟩⟩; refine ⟨_, rfl, ?_⟩; have p5 : 0 ≤ (0 : Int) := zb16; have q5 : 0 < t286.size := (by have : (0 : Int) < (t286.size : Int) := of_decide_eq_true zb2; omega); have hx5 : ∀ h : 0 < t286.size, ((t286[0]'h).toNat : Int) = bt t286 0 := bt_at t286 0; clear p5; have qi5 : (0 < (t286.size : Int)) = True := eq_true (of_decide_eq_true zb2); replace q5 := eq_true q5) | ((with_reducible refine gate_callee (f := 65) rfl ?_); refine goesL_ (some 20) rfl rfl Tryz.func65 zb12 rfl #[.string (t286.extract 1 t286.size)] rfl zb1 ?_; (with_reducible refine (broadsheetref13_Skip.calls k1 (t286.extract 1 t286.size) t287 _ A8.out).mono ?_); rintro e w' ⟨rfl, ⟨nd, rfl⟩⟩; refine ⟨_, rfl, ?_⟩) | ((with_reducible refine gate_callee (f := 51) rfl ?_); refine goesL_ (some 21) rfl rfl Tryz.func51 zb12 rfl #[.string t287] rfl zb1 ?_; (with_reducible refine (broadsheetref13_Token.calls k1 t287 t288 t289 _ A9.out).mono ?_); rintro e w' ⟨rfl, ⟨nd, rfl⟩⟩; refine ⟨_, rfl, ?_⟩))
       (try simp only [Act.put, List.setIfInBounds_toArray, List.set_cons_zero, List.set_cons_succ])
       go_cut [34] (fun v34 wc => ∃ (kq : Nat) (x34_9 : Bool), v34 = .bool x34_9 ∧ Aside0 (broadsheetref13_Params.j1 kq x4_1 t288 t289 x34_9 = some (r1, r2)) ∧ Aside0 (kq ≤ k1) ∧ Aside0 (Kd.R k49 49 wc w.heap.size (fun _ => True) u4 x4_1) ∧ Aside0 (Below w.heap.size w wc))
       case first =>
        have H := HC10.out
        clear HC10
        by_cases c11 : t288.toList = ([] : List UInt8)
        ·rw [if_pos c11] at H
         have c11b0 : (t288.toList == ([] : List UInt8)) = true := beq_iff_eq.mpr c11
         have c11b1 : (t288.toList != ([] : List UInt8)) = false := bne_eq_false_iff_eq.mpr c11
         clear c11
         (first | rw [c11b0] | (simp only [i64_w, i32_w]; rw [c11b0]) | skip)
         have H' := Aside0.mk H
         clear H
         go_wp2
         go_meet
         case rel => exact ⟨_, (true), zb5, H', ⟨by have := HK1.out; first | omega | exact Nat.le_refl _⟩, ⟨by (with_reducible repeat (first | apply Kd.R_alloc | apply Kd.R_drewN | apply Kd.R_drew)); exact HO_4.out⟩, ⟨by repeat (first | (with_reducible first | exact HB.out | apply below_alloc | apply pw_below_drewN | apply below_drew1) | exact HB.out)⟩⟩
        ·rw [if_neg c11] at H
         have c11b0 : (t288.toList == ([] : List UInt8)) = false := beq_eq_false_iff_ne.mpr c11
         have c11b1 : (t288.toList != ([] : List UInt8)) = true := bne_iff_ne.mpr c11
         (first | rw [c11b0] | (simp only [i64_w, i32_w]; rw [c11b0]) | skip)
         by_cases c12 : t289.toList = ([] : List UInt8)
         ·rw [if_pos c12] at H
          have c12b0 : (t289.toList == ([] : List UInt8)) = true := beq_iff_eq.mpr c12
          have c12b1 : (t289.toList != ([] : List UInt8)) = false := bne_eq_false_iff_eq.mpr c12
          clear c12
          have H' := Aside0.mk H
          clear H
          go_wp2
          go_meet
          case rel => exact ⟨_, (true), zb5, H', ⟨by have := HK1.out; first | omega | exact Nat.le_refl _⟩, ⟨by (with_reducible repeat (first | apply Kd.R_alloc | apply Kd.R_drewN | apply Kd.R_drew)); exact HO_4.out⟩, ⟨by repeat (first | (with_reducible first | exact HB.out | apply below_alloc | apply pw_below_drewN | apply below_drew1) | exact HB.out)⟩⟩
         ·rw [if_neg c12] at H
          have c12b0 : (t289.toList == ([] : List UInt8)) = false := beq_eq_false_iff_ne.mpr c12
          have c12b1 : (t289.toList != ([] : List UInt8)) = true := bne_iff_ne.mpr c12
          by_cases c13 : 0 < (t289.size : Int)
          ·rw [if_pos c13] at H
           have c13b0 : decide (0 < (t289.size : Int)) = true := decide_eq_true c13
           have c13b1 : decide (0 < t289.size) = true := decide_eq_true zb16
           clear c13
           have H' := Aside0.mk H
           clear H
           have p14 : 0 ≤ (0 : Int) := zb16
           have q14 : 0 < t289.size := (by have : (0 : Int) < (t289.size : Int) := of_decide_eq_true zb2; omega)
           have hx14 : ∀ h : 0 < t289.size, ((t289[0]'h).toNat : Int) = bt t289 0 := bt_at t289 0
           clear p14
           have qi14 : (0 < (t289.size : Int)) = True := eq_true (of_decide_eq_true zb2)
           replace q14 := eq_true q14
           go_wp2
           go_meet
           case rel => exact ⟨_, (((bt t289 0) != 61)), zb5, H', ⟨by have := HK1.out; first | omega | exact Nat.le_refl _⟩, ⟨by (with_reducible repeat (first | apply Kd.R_alloc | apply Kd.R_drewN | apply Kd.R_drew)); exact HO_4.out⟩, ⟨by repeat (first | (with_reducible first | exact HB.out | apply below_alloc | apply pw_below_drewN | apply below_drew1) | exact HB.out)⟩⟩
          ·rw [if_neg c13] at H
           exact absurd H zb26
       case rest =>
        clear HC10
        try clear c1
        try clear p1
        try clear q1
        try clear hx1
        try clear qi1
        try clear p2
        try clear c3
        try clear c3b0
        try clear c3b1
        try clear c4
        try clear c4b0
        try clear c4b1
        try clear c5
        try clear p5
        try clear q5
        try clear hx5
        try clear qi5
        try clear c6
        try clear c6b0
        try clear c6b1
        try clear c7
        try clear c7b0
        try clear c7b1
        try clear c11
        try clear c11b0
        try clear c11b1
        try clear c12
        try clear c12b0
        try clear c12b1
        try clear c13
        try clear c13b0
        try clear c13b1
        try clear p14
        try clear q14
        try clear hx14
        try clear qi14
        try clear p14
        try clear p5
        try clear q14
        try clear q5
        obtain ⟨kq, x34_9, rfl, HA, HJ9, HO_4, HB⟩ := hcut
        cases kq with
        | zero => exact absurd HA.out (by simp [broadsheetref13_Params.j1])
        | succ kj9 =>
         have H := HA.out
         clear HA
         simp only [broadsheetref13_Params.j1] at H
         by_cases c15 : x34_9 = true
         ·subst c15
          replace H : (some (([] : List (S49)), false)) = some (r1, r2) := by rw [if_pos rfl] at H; exact H
          simp only [Option.some.injEq, Prod.mk.injEq] at H
          obtain ⟨rfl, rfl⟩ := H
          go_wp2
          go_ret2
          exact ⟨_, by first | rfl | (simp [errW_none, errW_some, bne_nil_] <;> rfl) | (simp [*, errW_none, errW_some] <;> rfl), by first | exact Kd.R_nil _ _ _ _ _ | exact Kd.N_nil _ _ _ _ _ | exact Kd.V_nil _ _ _ _ _ | exact Kd.Q_nil _ _ _ _ _ | exact Kd.S_nil _ _ _ _ _, zb0⟩
         ·replace c15 := Bool.eq_false_iff.mpr c15
          subst c15
          replace H : (if 1 ≤ (t289.size : Int) then ((broadsheetref13_value.f kj9 (t289.extract 1 t289.size)).bind fun bt290 => (if bt290.2.2 = true then ((broadsheetref07_Lower.f kj9 t288).bind fun t293 => (if x4_1.length < 4398046511104 then (broadsheetref13_Params.l0 kj9 bt290.2.1 (x4_1 ++ [(⟨t293, bt290.1⟩ : S49)])) else (none))) else (some (([] : List (S49)), false)))) else (none)) = some (r1, r2) := by rw [if_neg (show ¬ (false = true) by decide)] at H; exact H
          by_cases c16 : 1 ≤ (t289.size : Int)
          ·rw [if_pos c16] at H
           have c16b0 := eq_true c16
           have c16b1 : decide (1 ≤ (t289.size : Int)) = true := decide_eq_true c16
           clear c16
           replace H := Option.bind_eq_some_iff.mp H
           obtain ⟨⟨t290, t291, t292⟩, A170, H⟩ := H
           replace H : (if t292 = true then ((broadsheetref07_Lower.f kj9 t288).bind fun t293 => (if x4_1.length < 4398046511104 then (broadsheetref13_Params.l0 kj9 t291 (x4_1 ++ [(⟨t293, t290⟩ : S49)])) else (none))) else (some (([] : List (S49)), false))) = some (r1, r2) := H
           have A17 := Aside0.mk A170
           clear A170
           by_cases c18 : t292 = true
           ·subst c18
            replace H : ((broadsheetref07_Lower.f kj9 t288).bind fun t293 => (if x4_1.length < 4398046511104 then (broadsheetref13_Params.l0 kj9 t291 (x4_1 ++ [(⟨t293, t290⟩ : S49)])) else (none))) = some (r1, r2) := by rw [if_pos rfl] at H; exact H
            replace H := Option.bind_eq_some_iff.mp H
            obtain ⟨t293, A190, H⟩ := H
            replace H : (if x4_1.length < 4398046511104 then (broadsheetref13_Params.l0 kj9 t291 (x4_1 ++ [(⟨t293, t290⟩ : S49)])) else (none)) = some (r1, r2) := H
            have A19 := Aside0.mk A190
            clear A190
            by_cases c20 : x4_1.length < 4398046511104
            ·rw [if_pos c20] at H
             have LMc20 := Aside0.mk c20
             clear c20
             obtain ⟨y294, hy294⟩ : ∃ y_ : List (S49), y_ = (x4_1 ++ [(⟨t293, t290⟩ : S49)]) := ⟨_, rfl⟩
             replace H : (broadsheetref13_Params.l0 kj9 t291 y294) = some (r1, r2) := by first | (rw [hy294]; with_reducible exact H) | (have H2_ := (Option.bind_some _ _).symm.trans H; rw [hy294]; with_reducible exact H2_) | (have H2_ := (Option.bind_some _ _).symm.trans H; with_reducible exact H2_) | with_reducible exact H | (rw [hy294]; exact H) | exact H
             have Ny294 := Aside0.mk hy294
             clear hy294
             have H' := Aside0.mk H
             clear H
             go_wp2_with (first | ((with_reducible refine gate_callee (f := 66) rfl ?_); refine goesL_ (some 38) rfl rfl Tryz.func66 zb12 rfl #[.string (t289.extract 1 t289.size)] rfl zb1 ?_; (with_reducible refine (broadsheetref13_value.calls kj9 (t289.extract 1 t289.size) t290 t291 true _ A17.out).mono ?_); rintro e w21 ⟨rfl, hb⟩; refine ⟨_, rfl, ?_⟩; have n0_ := Aside0.mk (Kd.R_below zb48 hb); have n1_ := Aside0.mk (below_step zb0 hb); clear HO_4; clear HB; have HO_4 := n0_; have HB := n1_; clear n0_ n1_; (try clear hb); (try clear hb2); (try clear hk); (try clear hi)) | ((with_reducible refine gate_callee (f := 53) rfl ?_); refine goesL_ (some 46) rfl rfl Tryz.func53 zb12 rfl #[.string t288] rfl zb1 ?_; (with_reducible refine (broadsheetref07_Lower.calls kj9 t288 t293 _ A19.out).mono ?_); rintro e w22 ⟨rfl, hb⟩; refine ⟨_, rfl, ?_⟩; have n0_ := Aside0.mk (Kd.R_below zb48 hb); have n1_ := Aside0.mk (below_step zb0 hb); clear HO_4; clear HB; have HO_4 := n0_; have HB := n1_; clear n0_ n1_; (try clear hb); (try clear hb2); (try clear hk); (try clear hi)) | ((with_reducible refine gate_builtin (b := .append) (xs := #[.tmp 44, .tmp 49]) rfl ?_); at_builtin; refine Kd.R_append k49 (w0 := w) w.heap.size rfl (.tmp 44) (.tmp 49) 34 49 (.agg #[(.string ⟨#[]⟩), (.string ⟨#[]⟩)]) 32 rfl Tryz.underlying34 info49 rfl zb20 zb16 u4 x4_1 (⟨t293, t290⟩ : S49) [.string t293, .string t290] (fun _ => True) (fun _ => False) rfl rfl ?aP (fun _ hk => hk.elim) ?aF ?aO ?aB ?aS ?aL ?_; (case aP => exact k49_mkM _ _ _ (⟨t293, t290⟩ : S49)); (case aB => exact zb0); (case aF => exact (fun _ _ => trivial)); (case aO => exact zb48); (case aS => exact (below_size zb0)); (case aL => have := LMc20.out; omega); intro v295 w23 ho hb hg hat; rw [← Ny294.out] at ho; have n0_ := Aside0.mk (hb); have n1_ := Aside0.mk (ho); clear HB; clear HO_4; have HB := n0_; have HO296 := n1_; clear n0_ n1_; clear ho hb hg hat))
             go_roundg kj9
             case measure => have := HK1.out; have := HJ9.out; omega
             case rel => exact ⟨(t291), (y294), zb5, H', ⟨by have := HK1.out; have := HJ9.out; omega⟩, ⟨by (with_reducible repeat (first | apply Kd.R_alloc | apply Kd.R_drewN | apply Kd.R_drew)); exact HO296.out⟩, ⟨by repeat (first | (with_reducible first | exact HB.out | apply below_alloc | apply pw_below_drewN | apply below_drew1) | exact HB.out)⟩⟩
            ·rw [if_neg c20] at H
             exact absurd H zb26
           ·replace c18 := Bool.eq_false_iff.mpr c18
            subst c18
            replace H : (some (([] : List (S49)), false)) = some (r1, r2) := by rw [if_neg (show ¬ (false = true) by decide)] at H; exact H
            simp only [Option.some.injEq, Prod.mk.injEq] at H
            obtain ⟨rfl, rfl⟩ := H
            go_wp2_with (first | ((with_reducible refine gate_callee (f := 66) rfl ?_); refine goesL_ (some 38) rfl rfl Tryz.func66 zb12 rfl #[.string (t289.extract 1 t289.size)] rfl zb1 ?_; (with_reducible refine (broadsheetref13_value.calls kj9 (t289.extract 1 t289.size) t290 t291 false _ A17.out).mono ?_); rintro e w24 ⟨rfl, hb⟩; refine ⟨_, rfl, ?_⟩; have n0_ := Aside0.mk (Kd.R_below zb48 hb); have n1_ := Aside0.mk (below_step zb0 hb); clear HO_4; clear HB; have HO_4 := n0_; have HB := n1_; clear n0_ n1_; (try clear hb); (try clear hb2); (try clear hk); (try clear hi)))
            go_ret2
            exact ⟨_, by first | rfl | (simp [errW_none, errW_some, bne_nil_] <;> rfl) | (simp [*, errW_none, errW_some] <;> rfl), by first | exact Kd.R_nil _ _ _ _ _ | exact Kd.N_nil _ _ _ _ _ | exact Kd.V_nil _ _ _ _ _ | exact Kd.Q_nil _ _ _ _ _ | exact Kd.S_nil _ _ _ _ _, zb0⟩
          ·rw [if_neg c16] at H
           exact absurd H zb26
      ·rw [if_neg c7] at H
       exact absurd H zb26
     ·rw [if_neg c6] at H
      have c6b0 : ((bt t286 0) == 59) = false := beq_eq_false_iff_ne.mpr c6
      have c6b1 : ((bt t286 0) != 59) = true := bne_iff_ne.mpr c6
      simp only [Option.some.injEq, Prod.mk.injEq] at H
      obtain ⟨rfl, rfl⟩ := H
      go_wp2_with (first | ((with_reducible refine gate_callee (f := 65) rfl ?_); refine goesL_ (some 10) rfl rfl Tryz.func65 zb12 rfl #[.string x0_1] rfl zb1 ?_; (with_reducible refine (broadsheetref13_Skip.calls k1 x0_1 t286 _ A2.out).mono ?_); rintro e w' ⟨rfl, ⟨nd, rfl⟩⟩; refine ⟨_, rfl, ?_⟩; have p5 : 0 ≤ (0 : Int) := zb16; have q5 : 0 < t286.size := (by have : (0 : Int) < (t286.size : Int) := of_decide_eq_true zb2; omega); have hx5 : ∀ h : 0 < t286.size, ((t286[0]'h).toNat : Int) = bt t286 0 := bt_at t286 0; clear p5; have qi5 : (0 < (t286.size : Int)) = True := eq_true (of_decide_eq_true zb2); replace q5 := eq_true q5))
      go_ret2
      exact ⟨_, by first | rfl | (simp [errW_none, errW_some, bne_nil_] <;> rfl) | (simp [*, errW_none, errW_some] <;> rfl), by first | exact Kd.R_nil _ _ _ _ _ | exact Kd.N_nil _ _ _ _ _ | exact Kd.V_nil _ _ _ _ _ | exact Kd.Q_nil _ _ _ _ _ | exact Kd.S_nil _ _ _ _ _, zb0⟩
    ·rw [if_neg c4] at H
     exact absurd H zb26
def broadsheetref18_line.l0 : Nat → ByteArray → Int → Option (Int)
  | 0, _, _ => none
  | k + 1, x0, x3 => if (wrap64 (x3 + 1)) < (x0.size : Int) then (if 0 ≤ x3 then (if x3 < (x0.size : Int) then (if (bt x0 x3) = 13 then (if 0 ≤ (wrap64 (x3 + 1)) then (if (bt x0 (wrap64 (x3 + 1))) = 10 then (some x3) else (broadsheetref18_line.l0 k x0 (wrap64 (x3 + 1)))) else (none)) else (broadsheetref18_line.l0 k x0 (wrap64 (x3 + 1)))) else (none)) else (none)) else (some (-1))
def broadsheetref18_line.f (k : Nat) (a0 : ByteArray) : Option (Int) := broadsheetref18_line.l0 k a0 0
set_option maxHeartbeats 8000000 in
set_option maxRecDepth 100000 in
theorem broadsheetref18_line.calls (k : Nat) (a0 : ByteArray) (r : Int) (w : World) (h : broadsheetref18_line.f k a0 = some r) :
  Calls Tryz.prog 63 #[.string a0] w fun e w' => e = .returned (.int .i64 r) ∧ Drawn0 w w' := by
 have H : (broadsheetref18_line.l0 k a0 0) = some r := h
 clear h
 have H' := Aside0.mk H
 clear H
 go_enter Tryz.func63, Tryz.ntmps63
 go_wp2
 first | go_loopg [3] k (fun kq v3 w' => ∃ (x3_1 : Int), v3 = .int .i64 x3_1 ∧ Aside0 (broadsheetref18_line.l0 kq a0 x3_1 = some r) ∧ Aside0 (kq ≤ k) ∧ Drawn0 w w') | (go_simp; go_loopg [3] k (fun kq v3 w' => ∃ (x3_1 : Int), v3 = .int .i64 x3_1 ∧ Aside0 (broadsheetref18_line.l0 kq a0 x3_1 = some r) ∧ Aside0 (kq ≤ k) ∧ Drawn0 w w'))
 case atStart => exact ⟨(0), zb5, H', ⟨Nat.le_refl _⟩, by repeat (first | exact Drawn0.refl _ | apply Drawn0.step)⟩
 case round =>
  clear H'
  obtain ⟨x3_1, rfl, HA, HK1, ⟨m1, rfl⟩⟩ := hrel
  cases gk with
  | zero => exact absurd HA.out (by simp [broadsheetref18_line.l0])
  | succ k1 =>
   have H := HA.out
   clear HA
   simp only [broadsheetref18_line.l0] at H
   by_cases c2 : (wrap64 (x3_1 + 1)) < (a0.size : Int)
   ·rw [if_pos c2] at H
    have c2b0 : decide ((wrap64 (x3_1 + 1)) < (a0.size : Int)) = true := decide_eq_true c2
    clear c2
    by_cases c3 : 0 ≤ x3_1
    ·rw [if_pos c3] at H
     have c3b0 : decide (0 ≤ x3_1) = true := decide_eq_true c3
     clear c3
     by_cases c4 : x3_1 < (a0.size : Int)
     ·rw [if_pos c4] at H
      have c4b0 : decide (x3_1 < (a0.size : Int)) = true := decide_eq_true c4
      clear c4
      by_cases c6 : (bt a0 x3_1) = 13
      ·rw [if_pos c6] at H
       have c6b0 : ((bt a0 x3_1) == 13) = true := beq_iff_eq.mpr c6
       have c6b1 : ((bt a0 x3_1) != 13) = false := bne_eq_false_iff_eq.mpr c6
       clear c6
       obtain ⟨ji7, hji7⟩ : ∃ j_ : Int, (wrap64 (x3_1 + 1)) = j_ := ⟨_, rfl⟩
       replace H : (if 0 ≤ (ji7) then (if (bt a0 (ji7)) = 10 then (some x3_1) else (broadsheetref18_line.l0 k1 a0 ji7)) else (none)) = some r := by first | (rw [hji7] at H; exact H) | (simp only [hji7] at H ⊢; exact H)
       (try rw [hji7] at c2b0)
       have hji7w : (IntKind.i64.wrap (x3_1 + 1)) = ji7 := (i64_w _).trans hji7
       by_cases c8 : 0 ≤ (ji7)
       ·rw [if_pos c8] at H
        have c8b0 : decide (0 ≤ (ji7)) = true := decide_eq_true c8
        clear c8
        by_cases c10 : (bt a0 (ji7)) = 10
        ·rw [if_pos c10] at H
         have c10b0 : ((bt a0 (ji7)) == 10) = true := beq_iff_eq.mpr c10
         have c10b1 : ((bt a0 (ji7)) != 10) = false := bne_eq_false_iff_eq.mpr c10
         clear c10
         obtain rfl := Option.some.inj H
         have p5 : 0 ≤ (x3_1 : Int) := of_decide_eq_true zb2
         have q5 : x3_1 < (a0.size : Int) := of_decide_eq_true zb2
         have hx5 := bt_at a0 x3_1
         replace p5 := eq_true p5
         replace q5 := eq_true q5
         have p9 : 0 ≤ ((ji7) : Int) := of_decide_eq_true zb2
         have q9 : (ji7) < (a0.size : Int) := of_decide_eq_true zb2
         have hx9 := bt_at a0 (ji7)
         replace p9 := eq_true p9
         replace q9 := eq_true q9
         go_wp2
         go_ret
         exact ⟨by first | rfl | (simp; done) | (simp only [← hji7] <;> (first | rfl | simp)) | (simp [*]; done), by repeat (first | exact Drawn0.refl _ | apply Drawn0.step)⟩
        ·rw [if_neg c10] at H
         have c10b0 : ((bt a0 (ji7)) == 10) = false := beq_eq_false_iff_ne.mpr c10
         have c10b1 : ((bt a0 (ji7)) != 10) = true := bne_iff_ne.mpr c10
         have H' := Aside0.mk H
         clear H
         have p5 : 0 ≤ (x3_1 : Int) := of_decide_eq_true zb2
         have q5 : x3_1 < (a0.size : Int) := of_decide_eq_true zb2
         have hx5 := bt_at a0 x3_1
         replace p5 := eq_true p5
         replace q5 := eq_true q5
         have p9 : 0 ≤ ((ji7) : Int) := of_decide_eq_true zb2
         have q9 : (ji7) < (a0.size : Int) := of_decide_eq_true zb2
         have hx9 := bt_at a0 (ji7)
         replace p9 := eq_true p9
         replace q9 := eq_true q9
         go_wp2
         go_roundg k1
         case measure => have := HK1.out; omega
         case rel => exact ⟨(ji7), (by first | rfl | (simp; done) | (simp only [← hji7] <;> (first | rfl | simp)) | (simp [*]; done)), H', ⟨by have := HK1.out; omega⟩, by repeat (first | exact Drawn0.refl _ | apply Drawn0.step)⟩
       ·rw [if_neg c8] at H
        exact absurd H zb26
      ·rw [if_neg c6] at H
       have c6b0 : ((bt a0 x3_1) == 13) = false := beq_eq_false_iff_ne.mpr c6
       have c6b1 : ((bt a0 x3_1) != 13) = true := bne_iff_ne.mpr c6
       have H' := Aside0.mk H
       clear H
       have p5 : 0 ≤ (x3_1 : Int) := of_decide_eq_true zb2
       have q5 : x3_1 < (a0.size : Int) := of_decide_eq_true zb2
       have hx5 := bt_at a0 x3_1
       replace p5 := eq_true p5
       replace q5 := eq_true q5
       go_wp2
       go_roundg k1
       case measure => have := HK1.out; omega
       case rel => exact ⟨(wrap64 (x3_1 + 1)), zb5, H', ⟨by have := HK1.out; omega⟩, by repeat (first | exact Drawn0.refl _ | apply Drawn0.step)⟩
     ·rw [if_neg c4] at H
      exact absurd H zb26
    ·rw [if_neg c3] at H
     exact absurd H zb26
   ·rw [if_neg c2] at H
    have c2b0 : decide ((wrap64 (x3_1 + 1)) < (a0.size : Int)) = false := decide_eq_false c2
    clear c2
    obtain rfl := Option.some.inj H
    go_wp2
    go_ret
    exact ⟨by first | rfl | (simp; done) | (simp [*]; done), by repeat (first | exact Drawn0.refl _ | apply Drawn0.step)⟩
def broadsheetref18_Line.f (k : Nat) (a0 : ByteArray) : Option (ByteArray × ByteArray × Bool) := (broadsheetref18_line.f k a0).bind fun t235 => (if t235 < 0 then (some ((⟨#[]⟩ : ByteArray), (⟨#[]⟩ : ByteArray), false)) else (if 0 ≤ t235 then (if t235 ≤ (a0.size : Int) then (if 0 ≤ (wrap64 (t235 + 2)) then (if (wrap64 (t235 + 2)) ≤ (a0.size : Int) then (some (a0.extract 0 (t235 : Int).toNat, a0.extract ((wrap64 (t235 + 2)) : Int).toNat a0.size, true)) else (none)) else (none)) else (none)) else (none)))
set_option maxHeartbeats 8000000 in
set_option maxRecDepth 100000 in
theorem broadsheetref18_Line.calls (k : Nat) (a0 : ByteArray) (r1 : ByteArray) (r2 : ByteArray) (r3 : Bool) (w : World) (h : broadsheetref18_Line.f k a0 = some (r1, r2, r3)) :
  Calls Tryz.prog 36 #[.string a0] w fun e w' => e = .returned (.tuple #[.string r1, .string r2, .bool r3]) ∧ Drawn0 w w' := by
 have H : ((broadsheetref18_line.f k a0).bind fun t235 => (if t235 < 0 then (some ((⟨#[]⟩ : ByteArray), (⟨#[]⟩ : ByteArray), false)) else (if 0 ≤ t235 then (if t235 ≤ (a0.size : Int) then (if 0 ≤ (wrap64 (t235 + 2)) then (if (wrap64 (t235 + 2)) ≤ (a0.size : Int) then (some (a0.extract 0 (t235 : Int).toNat, a0.extract ((wrap64 (t235 + 2)) : Int).toNat a0.size, true)) else (none)) else (none)) else (none)) else (none)))) = some (r1, r2, r3) := h
 clear h
 replace H := Option.bind_eq_some_iff.mp H
 obtain ⟨t235, A20, H⟩ := H
 replace H : (if t235 < 0 then (some ((⟨#[]⟩ : ByteArray), (⟨#[]⟩ : ByteArray), false)) else (if 0 ≤ t235 then (if t235 ≤ (a0.size : Int) then (if 0 ≤ (wrap64 (t235 + 2)) then (if (wrap64 (t235 + 2)) ≤ (a0.size : Int) then (some (a0.extract 0 (t235 : Int).toNat, a0.extract ((wrap64 (t235 + 2)) : Int).toNat a0.size, true)) else (none)) else (none)) else (none)) else (none))) = some (r1, r2, r3) := H
 have A2 := Aside0.mk A20
 clear A20
 by_cases c3 : t235 < 0
 ·rw [if_pos c3] at H
  have c3b0 : decide (t235 < 0) = true := decide_eq_true c3
  clear c3
  simp only [Option.some.injEq, Prod.mk.injEq] at H
  obtain ⟨rfl, rfl, rfl⟩ := H
  go_enter Tryz.func36, Tryz.ntmps36
  go_wp2_with (first | (go_at_call 63; (with_reducible refine (broadsheetref18_line.calls k a0 t235 _ A2.out).mono ?_); rintro e w' ⟨rfl, ⟨nd, rfl⟩⟩; (try first | exact ⟨rfl, _, World.drewN_drewN _ _ _⟩ | exact ⟨rfl, _, Eq.trans (World.drewN_drewN _ _ _) (congrArg (World.drewN _) (Nat.add_assoc _ _ _))⟩)))
  repeat (go_quiet (first | (go_at_call 63; (with_reducible refine (broadsheetref18_line.calls k a0 t235 _ A2.out).mono ?_); rintro e w' ⟨rfl, ⟨nd, rfl⟩⟩; (try first | exact ⟨rfl, _, World.drewN_drewN _ _ _⟩ | exact ⟨rfl, _, Eq.trans (World.drewN_drewN _ _ _) (congrArg (World.drewN _) (Nat.add_assoc _ _ _))⟩))); try go_wp2_with (first | (go_at_call 63; (with_reducible refine (broadsheetref18_line.calls k a0 t235 _ A2.out).mono ?_); rintro e w' ⟨rfl, ⟨nd, rfl⟩⟩; (try first | exact ⟨rfl, _, World.drewN_drewN _ _ _⟩ | exact ⟨rfl, _, Eq.trans (World.drewN_drewN _ _ _) (congrArg (World.drewN _) (Nat.add_assoc _ _ _))⟩))))
  go_ret3
  exact ⟨by first | rfl | (simp; done) | (simp [*]; done), by repeat (first | exact Drawn0.refl _ | apply Drawn0.step)⟩
 ·rw [if_neg c3] at H
  have c3b0 : decide (t235 < 0) = false := decide_eq_false c3
  clear c3
  by_cases c4 : 0 ≤ t235
  ·rw [if_pos c4] at H
   have c4b0 := eq_true c4
   have c4b1 : decide (0 ≤ t235) = true := decide_eq_true c4
   clear c4
   by_cases c5 : t235 ≤ (a0.size : Int)
   ·rw [if_pos c5] at H
    have c5b0 := eq_true c5
    have c5b1 : decide (t235 ≤ (a0.size : Int)) = true := decide_eq_true c5
    clear c5
    obtain ⟨ji6, hji6⟩ : ∃ j_ : Int, (wrap64 (t235 + 2)) = j_ := ⟨_, rfl⟩
    replace H : (if 0 ≤ (ji6) then (if (ji6) ≤ (a0.size : Int) then (some (a0.extract 0 (t235 : Int).toNat, a0.extract ((ji6) : Int).toNat a0.size, true)) else (none)) else (none)) = some (r1, r2, r3) := by first | (rw [hji6] at H; exact H) | (simp only [hji6] at H ⊢; exact H)
    (try rw [hji6] at A2)
    have hji6w : (IntKind.i64.wrap (t235 + 2)) = ji6 := (i64_w _).trans hji6
    by_cases c7 : 0 ≤ (ji6)
    ·rw [if_pos c7] at H
     have c7b0 := eq_true c7
     have c7b1 : decide (0 ≤ (ji6)) = true := decide_eq_true c7
     clear c7
     by_cases c8 : (ji6) ≤ (a0.size : Int)
     ·rw [if_pos c8] at H
      have c8b0 := eq_true c8
      have c8b1 : decide ((ji6) ≤ (a0.size : Int)) = true := decide_eq_true c8
      clear c8
      simp only [Option.some.injEq, Prod.mk.injEq] at H
      obtain ⟨rfl, rfl, rfl⟩ := H
      go_enter Tryz.func36, Tryz.ntmps36
      go_wp2_with (first | (go_at_call 63; (with_reducible refine (broadsheetref18_line.calls k a0 t235 _ A2.out).mono ?_); rintro e w' ⟨rfl, ⟨nd, rfl⟩⟩; (try first | exact ⟨rfl, _, World.drewN_drewN _ _ _⟩ | exact ⟨rfl, _, Eq.trans (World.drewN_drewN _ _ _) (congrArg (World.drewN _) (Nat.add_assoc _ _ _))⟩)))
      repeat (go_quiet (first | (go_at_call 63; (with_reducible refine (broadsheetref18_line.calls k a0 t235 _ A2.out).mono ?_); rintro e w' ⟨rfl, ⟨nd, rfl⟩⟩; (try first | exact ⟨rfl, _, World.drewN_drewN _ _ _⟩ | exact ⟨rfl, _, Eq.trans (World.drewN_drewN _ _ _) (congrArg (World.drewN _) (Nat.add_assoc _ _ _))⟩))); try go_wp2_with (first | (go_at_call 63; (with_reducible refine (broadsheetref18_line.calls k a0 t235 _ A2.out).mono ?_); rintro e w' ⟨rfl, ⟨nd, rfl⟩⟩; (try first | exact ⟨rfl, _, World.drewN_drewN _ _ _⟩ | exact ⟨rfl, _, Eq.trans (World.drewN_drewN _ _ _) (congrArg (World.drewN _) (Nat.add_assoc _ _ _))⟩))))
      go_ret3
      exact ⟨by first | rfl | (simp; done) | (simp only [← hji6] <;> (first | rfl | simp)) | (simp [*]; done), by repeat (first | exact Drawn0.refl _ | apply Drawn0.step)⟩
     ·rw [if_neg c8] at H
      exact absurd H zb26
    ·rw [if_neg c7] at H
     exact absurd H zb26
   ·rw [if_neg c5] at H
    exact absurd H zb26
  ·rw [if_neg c4] at H
   exact absurd H zb26
def broadsheetref18_Trim.l0 : Nat → ByteArray → Option (ByteArray)
  | 0, _ => none
  | k + 1, x0 => if (x0.size : Int) > 0 then (if 0 ≤ (wrap64 ((x0.size : Int) - 1)) then (if (wrap64 ((x0.size : Int) - 1)) < (x0.size : Int) then (if (bt x0 (wrap64 ((x0.size : Int) - 1))) = 32 then (if (wrap64 ((x0.size : Int) - 1)) ≤ (x0.size : Int) then (broadsheetref18_Trim.l0 k (x0.extract 0 ((wrap64 ((x0.size : Int) - 1)) : Int).toNat)) else (none)) else (if (bt x0 (wrap64 ((x0.size : Int) - 1))) = 9 then (if (wrap64 ((x0.size : Int) - 1)) ≤ (x0.size : Int) then (broadsheetref18_Trim.l0 k (x0.extract 0 ((wrap64 ((x0.size : Int) - 1)) : Int).toNat)) else (none)) else (some x0))) else (none)) else (none)) else (some x0)
def broadsheetref18_Trim.f (k : Nat) (a0 : ByteArray) : Option (ByteArray) := (broadsheetref13_Skip.f k a0).bind fun t237 => (broadsheetref18_Trim.l0 k t237)
set_option maxHeartbeats 8000000 in
set_option maxRecDepth 100000 in
theorem broadsheetref18_Trim.calls (k : Nat) (a0 : ByteArray) (r : ByteArray) (w : World) (h : broadsheetref18_Trim.f k a0 = some r) :
  Calls Tryz.prog 67 #[.string a0] w fun e w' => e = .returned (.string r) ∧ Drawn0 w w' := by
 have H : ((broadsheetref13_Skip.f k a0).bind fun t237 => (broadsheetref18_Trim.l0 k t237)) = some r := h
 clear h
 replace H := Option.bind_eq_some_iff.mp H
 obtain ⟨t237, A20, H⟩ := H
 replace H : (broadsheetref18_Trim.l0 k t237) = some r := H
 have A2 := Aside0.mk A20
 clear A20
 have H' := Aside0.mk H
 clear H
 go_enter Tryz.func67, Tryz.ntmps67
 go_wp2_with (first | ((with_reducible refine gate_callee (f := 65) rfl ?_); refine goesL_ (some 4) rfl rfl Tryz.func65 zb12 rfl #[.string a0] rfl zb1 ?_; (with_reducible refine (broadsheetref13_Skip.calls k a0 t237 _ A2.out).mono ?_); rintro e w' ⟨rfl, ⟨nd, rfl⟩⟩; refine ⟨_, rfl, ?_⟩))
 first | go_loopg [0] k (fun kq v0 w' => ∃ (x0_1 : ByteArray), v0 = .string x0_1 ∧ Aside0 (broadsheetref18_Trim.l0 kq x0_1 = some r) ∧ Aside0 (kq ≤ k) ∧ Drawn0 w w') | (go_simp; go_loopg [0] k (fun kq v0 w' => ∃ (x0_1 : ByteArray), v0 = .string x0_1 ∧ Aside0 (broadsheetref18_Trim.l0 kq x0_1 = some r) ∧ Aside0 (kq ≤ k) ∧ Drawn0 w w'))
 case atStart => exact ⟨(t237), zb5, H', ⟨Nat.le_refl _⟩, by repeat (first | exact Drawn0.refl _ | apply Drawn0.step)⟩
 case round =>
  clear H'
  try clear p2
  obtain ⟨x0_1, rfl, HA, HK1, ⟨m1, rfl⟩⟩ := hrel
  cases gk with
  | zero => exact absurd HA.out (by simp [broadsheetref18_Trim.l0])
  | succ k1 =>
   have H := HA.out
   clear HA
   simp only [broadsheetref18_Trim.l0] at H
   by_cases c3 : (x0_1.size : Int) > 0
   ·rw [if_pos c3] at H
    have c3b0 : decide (0 < (x0_1.size : Int)) = true := decide_eq_true c3
    have c3b1 : decide (0 < x0_1.size) = true := decide_eq_true zb16
    clear c3
    obtain ⟨ji4, hji4⟩ : ∃ j_ : Int, (wrap64 ((x0_1.size : Int) - 1)) = j_ := ⟨_, rfl⟩
    replace H : (if 0 ≤ (ji4) then (if (ji4) < (x0_1.size : Int) then (if (bt x0_1 (ji4)) = 32 then (if (ji4) ≤ (x0_1.size : Int) then (broadsheetref18_Trim.l0 k1 (x0_1.extract 0 ((ji4) : Int).toNat)) else (none)) else (if (bt x0_1 (ji4)) = 9 then (if (ji4) ≤ (x0_1.size : Int) then (broadsheetref18_Trim.l0 k1 (x0_1.extract 0 ((ji4) : Int).toNat)) else (none)) else (some x0_1))) else (none)) else (none)) = some r := by first | (rw [hji4] at H; exact H) | (simp only [hji4] at H ⊢; exact H)
    have hji4w : (IntKind.i64.wrap ((x0_1.size : Int) - 1)) = ji4 := (i64_w _).trans hji4
    by_cases c5 : 0 ≤ (ji4)
    ·rw [if_pos c5] at H
     have c5b0 : decide (0 ≤ (ji4)) = true := decide_eq_true c5
     clear c5
     by_cases c6 : (ji4) < (x0_1.size : Int)
     ·rw [if_pos c6] at H
      have c6b0 : decide ((ji4) < (x0_1.size : Int)) = true := decide_eq_true c6
      clear c6
      by_cases c8 : (bt x0_1 (ji4)) = 32
      ·rw [if_pos c8] at H
       have c8b0 : ((bt x0_1 (ji4)) == 32) = true := beq_iff_eq.mpr c8
       have c8b1 : ((bt x0_1 (ji4)) != 32) = false := bne_eq_false_iff_eq.mpr c8
       clear c8
       have c9b0 := eq_true (of_decide_eq_true zb2 : 0 ≤ (ji4))
       by_cases c10 : (ji4) ≤ (x0_1.size : Int)
       ·rw [if_pos c10] at H
        have c10b0 := eq_true c10
        have c10b1 : decide ((ji4) ≤ (x0_1.size : Int)) = true := decide_eq_true c10
        clear c10
        have H' := Aside0.mk H
        clear H
        have p7 : 0 ≤ ((ji4) : Int) := of_decide_eq_true zb2
        have q7 : (ji4) < (x0_1.size : Int) := of_decide_eq_true zb2
        have hx7 := bt_at x0_1 (ji4)
        replace p7 := eq_true p7
        replace q7 := eq_true q7
        go_wp2
        go_roundg k1
        case measure => have := HK1.out; omega
        case rel => exact ⟨(x0_1.extract 0 ((ji4) : Int).toNat), (by first | rfl | (simp; done) | (simp only [← hji4] <;> (first | rfl | simp)) | (simp [*]; done)), H', ⟨by have := HK1.out; omega⟩, by repeat (first | exact Drawn0.refl _ | apply Drawn0.step)⟩
       ·rw [if_neg c10] at H
        exact absurd H zb26
      ·rw [if_neg c8] at H
       have c8b0 : ((bt x0_1 (ji4)) == 32) = false := beq_eq_false_iff_ne.mpr c8
       have c8b1 : ((bt x0_1 (ji4)) != 32) = true := bne_iff_ne.mpr c8
       by_cases c12 : (bt x0_1 (ji4)) = 9
       ·rw [if_pos c12] at H
        have c12b0 : ((bt x0_1 (ji4)) == 9) = true := beq_iff_eq.mpr c12
        have c12b1 : ((bt x0_1 (ji4)) != 9) = false := bne_eq_false_iff_eq.mpr c12
        clear c12
        have c13b0 := eq_true (of_decide_eq_true zb2 : 0 ≤ (ji4))
        by_cases c14 : (ji4) ≤ (x0_1.size : Int)
        ·rw [if_pos c14] at H
         have c14b0 := eq_true c14
         have c14b1 : decide ((ji4) ≤ (x0_1.size : Int)) = true := decide_eq_true c14
         clear c14
         have H' := Aside0.mk H
         clear H
         have p7 : 0 ≤ ((ji4) : Int) := of_decide_eq_true zb2
         have q7 : (ji4) < (x0_1.size : Int) := of_decide_eq_true zb2
         have hx7 := bt_at x0_1 (ji4)
         replace p7 := eq_true p7
         replace q7 := eq_true q7
         have p11 : 0 ≤ ((ji4) : Int) := of_decide_eq_true zb2
         have q11 : (ji4) < (x0_1.size : Int) := of_decide_eq_true zb2
         have hx11 := bt_at x0_1 (ji4)
         replace p11 := eq_true p11
         replace q11 := eq_true q11
         go_wp2
         go_roundg k1
         case measure => have := HK1.out; omega
         case rel => exact ⟨(x0_1.extract 0 ((ji4) : Int).toNat), (by first | rfl | (simp; done) | (simp only [← hji4] <;> (first | rfl | simp)) | (simp [*]; done)), H', ⟨by have := HK1.out; omega⟩, by repeat (first | exact Drawn0.refl _ | apply Drawn0.step)⟩
        ·rw [if_neg c14] at H
         exact absurd H zb26
       ·rw [if_neg c12] at H
        have c12b0 : ((bt x0_1 (ji4)) == 9) = false := beq_eq_false_iff_ne.mpr c12
        have c12b1 : ((bt x0_1 (ji4)) != 9) = true := bne_iff_ne.mpr c12
        obtain rfl := Option.some.inj H
        have p7 : 0 ≤ ((ji4) : Int) := of_decide_eq_true zb2
        have q7 : (ji4) < (x0_1.size : Int) := of_decide_eq_true zb2
        have hx7 := bt_at x0_1 (ji4)
        replace p7 := eq_true p7
        replace q7 := eq_true q7
        have p11 : 0 ≤ ((ji4) : Int) := of_decide_eq_true zb2
        have q11 : (ji4) < (x0_1.size : Int) := of_decide_eq_true zb2
        have hx11 := bt_at x0_1 (ji4)
        replace p11 := eq_true p11
        replace q11 := eq_true q11
        go_wp2
        go_ret
        exact ⟨by first | rfl | (simp; done) | (simp only [← hji4] <;> (first | rfl | simp)) | (simp [*]; done), by repeat (first | exact Drawn0.refl _ | apply Drawn0.step)⟩
     ·rw [if_neg c6] at H
      exact absurd H zb26
    ·rw [if_neg c5] at H
     exact absurd H zb26
   ·rw [if_neg c3] at H
    have c3b0 : decide (0 < (x0_1.size : Int)) = false := decide_eq_false c3
    have c3b1 : decide (0 < x0_1.size) = false := decide_eq_false zb16
    clear c3
    obtain rfl := Option.some.inj H
    go_wp2
    go_ret
    exact ⟨by first | rfl | (simp; done) | (simp [*]; done), by repeat (first | exact Drawn0.refl _ | apply Drawn0.step)⟩
def broadsheetref18_Value.l0 : Nat → ByteArray → Int → Option (Bool)
  | 0, _, _ => none
  | k + 1, x0, x3 => if x3 < (x0.size : Int) then (if 0 ≤ x3 then (if (bt x0 x3) < 32 then (if (bt x0 x3) = 9 then (if (bt x0 x3) = 127 then (some false) else (broadsheetref18_Value.l0 k x0 (wrap64 (x3 + 1)))) else (some false)) else (if (bt x0 x3) = 127 then (some false) else (broadsheetref18_Value.l0 k x0 (wrap64 (x3 + 1))))) else (none)) else ((broadsheetref18_Trim.f k x0).bind fun t238 => (some (t238.toList == x0.toList)))
def broadsheetref18_Value.f (k : Nat) (a0 : ByteArray) : Option (Bool) := broadsheetref18_Value.l0 k a0 0
set_option maxHeartbeats 8000000 in
set_option maxRecDepth 100000 in
theorem broadsheetref18_Value.calls (k : Nat) (a0 : ByteArray) (r : Bool) (w : World) (h : broadsheetref18_Value.f k a0 = some r) :
  Calls Tryz.prog 52 #[.string a0] w fun e w' => e = .returned (.bool r) ∧ Drawn0 w w' := by
 have H : (broadsheetref18_Value.l0 k a0 0) = some r := h
 clear h
 have H' := Aside0.mk H
 clear H
 go_enter Tryz.func52, Tryz.ntmps52
 go_wp2
 first | go_loopg [3] k (fun kq v3 w' => ∃ (x3_1 : Int), v3 = .int .i64 x3_1 ∧ Aside0 (broadsheetref18_Value.l0 kq a0 x3_1 = some r) ∧ Aside0 (kq ≤ k) ∧ Drawn0 w w') | (go_simp; go_loopg [3] k (fun kq v3 w' => ∃ (x3_1 : Int), v3 = .int .i64 x3_1 ∧ Aside0 (broadsheetref18_Value.l0 kq a0 x3_1 = some r) ∧ Aside0 (kq ≤ k) ∧ Drawn0 w w'))
 case atStart => exact ⟨(0), zb5, H', ⟨Nat.le_refl _⟩, by repeat (first | exact Drawn0.refl _ | apply Drawn0.step)⟩
 case round =>
  clear H'
  obtain ⟨x3_1, rfl, HA, HK1, ⟨m1, rfl⟩⟩ := hrel
  cases gk with
  | zero => exact absurd HA.out (by simp [broadsheetref18_Value.l0])
  | succ k1 =>
   have H := HA.out
   clear HA
   simp only [broadsheetref18_Value.l0] at H
   by_cases c2 : x3_1 < (a0.size : Int)
   ·rw [if_pos c2] at H
    have c2b0 : decide (x3_1 < (a0.size : Int)) = true := decide_eq_true c2
    clear c2
    by_cases c3 : 0 ≤ x3_1
    ·rw [if_pos c3] at H
     have c3b0 : decide (0 ≤ x3_1) = true := decide_eq_true c3
     clear c3
     by_cases c5 : (bt a0 x3_1) < 32
     ·rw [if_pos c5] at H
      have c5b0 : decide ((bt a0 x3_1) < 32) = true := decide_eq_true c5
      clear c5
      by_cases c7 : (bt a0 x3_1) = 9
      ·rw [if_pos c7] at H
       have c7b0 : ((bt a0 x3_1) == 9) = true := beq_iff_eq.mpr c7
       have c7b1 : ((bt a0 x3_1) != 9) = false := bne_eq_false_iff_eq.mpr c7
       clear c7
       by_cases c9 : (bt a0 x3_1) = 127
       ·rw [if_pos c9] at H
        have c9b0 : ((bt a0 x3_1) == 127) = true := beq_iff_eq.mpr c9
        have c9b1 : ((bt a0 x3_1) != 127) = false := bne_eq_false_iff_eq.mpr c9
        clear c9
        obtain rfl := Option.some.inj H
        have p4 : 0 ≤ (x3_1 : Int) := of_decide_eq_true zb2
        have q4 : x3_1 < (a0.size : Int) := of_decide_eq_true zb2
        have hx4 := bt_at a0 x3_1
        replace p4 := eq_true p4
        replace q4 := eq_true q4
        have p6 : 0 ≤ (x3_1 : Int) := of_decide_eq_true zb2
        have q6 : x3_1 < (a0.size : Int) := of_decide_eq_true zb2
        have hx6 := bt_at a0 x3_1
        replace p6 := eq_true p6
        replace q6 := eq_true q6
        have p8 : 0 ≤ (x3_1 : Int) := of_decide_eq_true zb2
        have q8 : x3_1 < (a0.size : Int) := of_decide_eq_true zb2
        have hx8 := bt_at a0 x3_1
        replace p8 := eq_true p8
        replace q8 := eq_true q8
        go_wp2
        go_ret
        exact ⟨by first | rfl | (simp; done) | (simp [*]; done), by repeat (first | exact Drawn0.refl _ | apply Drawn0.step)⟩
       ·rw [if_neg c9] at H
        have c9b0 : ((bt a0 x3_1) == 127) = false := beq_eq_false_iff_ne.mpr c9
        have c9b1 : ((bt a0 x3_1) != 127) = true := bne_iff_ne.mpr c9
        have H' := Aside0.mk H
        clear H
        have p4 : 0 ≤ (x3_1 : Int) := of_decide_eq_true zb2
        have q4 : x3_1 < (a0.size : Int) := of_decide_eq_true zb2
        have hx4 := bt_at a0 x3_1
        replace p4 := eq_true p4
        replace q4 := eq_true q4
        have p6 : 0 ≤ (x3_1 : Int) := of_decide_eq_true zb2
        have q6 : x3_1 < (a0.size : Int) := of_decide_eq_true zb2
        have hx6 := bt_at a0 x3_1
        replace p6 := eq_true p6
        replace q6 := eq_true q6
        have p8 : 0 ≤ (x3_1 : Int) := of_decide_eq_true zb2
        have q8 : x3_1 < (a0.size : Int) := of_decide_eq_true zb2
        have hx8 := bt_at a0 x3_1
        replace p8 := eq_true p8
        replace q8 := eq_true q8
        go_wp2
        go_roundg k1
        case measure => have := HK1.out; omega
        case rel => exact ⟨(wrap64 (x3_1 + 1)), zb5, H', ⟨by have := HK1.out; omega⟩, by repeat (first | exact Drawn0.refl _ | apply Drawn0.step)⟩
      ·rw [if_neg c7] at H
       have c7b0 : ((bt a0 x3_1) == 9) = false := beq_eq_false_iff_ne.mpr c7
       have c7b1 : ((bt a0 x3_1) != 9) = true := bne_iff_ne.mpr c7
       obtain rfl := Option.some.inj H
       have p4 : 0 ≤ (x3_1 : Int) := of_decide_eq_true zb2
       have q4 : x3_1 < (a0.size : Int) := of_decide_eq_true zb2
       have hx4 := bt_at a0 x3_1
       replace p4 := eq_true p4
       replace q4 := eq_true q4
       have p6 : 0 ≤ (x3_1 : Int) := of_decide_eq_true zb2
       have q6 : x3_1 < (a0.size : Int) := of_decide_eq_true zb2
       have hx6 := bt_at a0 x3_1
       replace p6 := eq_true p6
       replace q6 := eq_true q6
       go_wp2
       go_ret
       exact ⟨by first | rfl | (simp; done) | (simp [*]; done), by repeat (first | exact Drawn0.refl _ | apply Drawn0.step)⟩
     ·rw [if_neg c5] at H
      have c5b0 : decide ((bt a0 x3_1) < 32) = false := decide_eq_false c5
      clear c5
      by_cases c11 : (bt a0 x3_1) = 127
      ·rw [if_pos c11] at H
       have c11b0 : ((bt a0 x3_1) == 127) = true := beq_iff_eq.mpr c11
       have c11b1 : ((bt a0 x3_1) != 127) = false := bne_eq_false_iff_eq.mpr c11
       clear c11
       obtain rfl := Option.some.inj H
       have p4 : 0 ≤ (x3_1 : Int) := of_decide_eq_true zb2
       have q4 : x3_1 < (a0.size : Int) := of_decide_eq_true zb2
       have hx4 := bt_at a0 x3_1
       replace p4 := eq_true p4
       replace q4 := eq_true q4
       have p10 : 0 ≤ (x3_1 : Int) := of_decide_eq_true zb2
       have q10 : x3_1 < (a0.size : Int) := of_decide_eq_true zb2
       have hx10 := bt_at a0 x3_1
       replace p10 := eq_true p10
       replace q10 := eq_true q10
       go_wp2
       go_ret
       exact ⟨by first | rfl | (simp; done) | (simp [*]; done), by repeat (first | exact Drawn0.refl _ | apply Drawn0.step)⟩
      ·rw [if_neg c11] at H
       have c11b0 : ((bt a0 x3_1) == 127) = false := beq_eq_false_iff_ne.mpr c11
       have c11b1 : ((bt a0 x3_1) != 127) = true := bne_iff_ne.mpr c11
       have H' := Aside0.mk H
       clear H
       have p4 : 0 ≤ (x3_1 : Int) := of_decide_eq_true zb2
       have q4 : x3_1 < (a0.size : Int) := of_decide_eq_true zb2
       have hx4 := bt_at a0 x3_1
       replace p4 := eq_true p4
       replace q4 := eq_true q4
       have p10 : 0 ≤ (x3_1 : Int) := of_decide_eq_true zb2
       have q10 : x3_1 < (a0.size : Int) := of_decide_eq_true zb2
       have hx10 := bt_at a0 x3_1
       replace p10 := eq_true p10
       replace q10 := eq_true q10
       go_wp2
       go_roundg k1
       case measure => have := HK1.out; omega
       case rel => exact ⟨(wrap64 (x3_1 + 1)), zb5, H', ⟨by have := HK1.out; omega⟩, by repeat (first | exact Drawn0.refl _ | apply Drawn0.step)⟩
    ·rw [if_neg c3] at H
     exact absurd H zb26
   ·rw [if_neg c2] at H
    have c2b0 : decide (x3_1 < (a0.size : Int)) = false := decide_eq_false c2
    clear c2
    replace H := Option.bind_eq_some_iff.mp H
    obtain ⟨t238, A120, H⟩ := H
    replace H : (some (t238.toList == a0.toList)) = some r := H
    have A12 := Aside0.mk A120
    clear A120
    obtain rfl := Option.some.inj H
    go_wp2_with (first | ((with_reducible refine gate_callee (f := 67) rfl ?_); refine goesL_ (some 27) rfl rfl Tryz.func67 zb12 rfl #[.string a0] rfl zb1 ?_; (with_reducible refine (broadsheetref18_Trim.calls k1 a0 t238 _ A12.out).mono ?_); rintro e w' ⟨rfl, ⟨nd, rfl⟩⟩; refine ⟨_, rfl, ?_⟩))
    go_ret
    exact ⟨by first | rfl | (simp; done) | (simp [*]; done), by repeat (first | exact Drawn0.refl _ | apply Drawn0.step)⟩
mutual
def broadsheetref18_Parse.l0 : Nat → ByteArray → List (S49) → ByteArray → Option ((List (S49)) × ByteArray × Int)
  | 0, _, _, _ => none
  | k + 1, x0, x5, x6 => (broadsheetref18_Line.f k x6).bind fun bt239 => (if bt239.2.2 = true then (broadsheetref18_Parse.j1 k x0 x5 bt239.1 bt239.2.1 (decide ((wrap64 ((x0.size : Int) - (bt239.2.1.size : Int))) > 8000))) else (broadsheetref18_Parse.j1 k x0 x5 bt239.1 bt239.2.1 true))
def broadsheetref18_Parse.j1 : Nat → ByteArray → List (S49) → ByteArray → ByteArray → Bool → Option ((List (S49)) × ByteArray × Int)
  | 0, _, _, _, _, _ => none
  | k + 1, x0, x5, x7, x8, x28 => if x28 = true then (if (x0.size : Int) > 8000 then (some (([] : List (S49)), (⟨#[]⟩ : ByteArray), 2)) else (some (([] : List (S49)), (⟨#[]⟩ : ByteArray), 180))) else (if x7.toList = ([] : List UInt8) then (some (x5, x8, 0)) else ((broadsheetref13_Token.f k x7).bind fun bt242 => (if bt242.1.toList = ([] : List UInt8) then (broadsheetref18_Parse.j2 k x0 x5 x8 bt242.1 bt242.2 true) else (if bt242.2.toList = ([] : List UInt8) then (broadsheetref18_Parse.j2 k x0 x5 x8 bt242.1 bt242.2 true) else (if 0 < (bt242.2.size : Int) then (if (bt bt242.2 0) = 58 then (if 1 ≤ (bt242.2.size : Int) then ((broadsheetref18_Trim.f k (bt242.2.extract 1 bt242.2.size)).bind fun t244 => ((broadsheetref18_Value.f k t244).bind fun t245 => (broadsheetref18_Parse.j2 k x0 x5 x8 bt242.1 bt242.2 (!t245)))) else (none)) else (broadsheetref18_Parse.j2 k x0 x5 x8 bt242.1 bt242.2 true)) else (none))))))
def broadsheetref18_Parse.j2 : Nat → ByteArray → List (S49) → ByteArray → ByteArray → ByteArray → Bool → Option ((List (S49)) × ByteArray × Int)
  | 0, _, _, _, _, _, _ => none
  | k + 1, x0, x5, x8, x10, x11, x58 => if x58 = true then (some (([] : List (S49)), (⟨#[]⟩ : ByteArray), 180)) else ((broadsheetref07_Lower.f k x10).bind fun t246 => (if 1 ≤ (x11.size : Int) then ((broadsheetref18_Trim.f k (x11.extract 1 x11.size)).bind fun t247 => (if x5.length < 4398046511104 then (broadsheetref18_Parse.l0 k x0 (x5 ++ [(⟨t246, t247⟩ : S49)]) x8) else (none))) else (none)))
end
def broadsheetref18_Parse.f (k : Nat) (a0 : ByteArray) : Option ((List (S49)) × ByteArray × Int) := broadsheetref18_Parse.l0 k a0 ([] : List (S49)) a0
def broadsheetref18_Parse.T13 : Bool × List (List Nat × List Nat) := (true, [([], []), ([], []), ([1], [1]), ([], []), ([3], [3]), ([4, 2], [4]), ([2, 5], [2, 5]), ([6], [6]), ([0, 7, 5], [0, 7]), ([8, 8, 0, 1, 2, 3, 4, 5, 6, 7, 8], [0, 8])])
def broadsheetref18_Parse.B13 : List Nat := [0, 0, 2, 0, 8, 30, 62, 126, 255, 511]
theorem broadsheetref18_Parse.tab13 : rtab .any (opsOf Tryz.f39 13) = broadsheetref18_Parse.T13 := by kernel_rfl
theorem broadsheetref18_Parse.bits13 : waitsOk broadsheetref18_Parse.T13.2 broadsheetref18_Parse.B13 = true := by kernel_rfl
set_option maxHeartbeats 8000000 in
set_option maxRecDepth 100000 in
theorem broadsheetref18_Parse.calls (k : Nat) (a0 : ByteArray) (r1 : List (S49)) (r2 : ByteArray) (r3 : Int) (w : World) (h : broadsheetref18_Parse.f k a0 = some (r1, r2, r3)) :
  Calls Tryz.prog 39 #[.string a0] w fun e w' => ∃ v0_ : Value, e = .returned (.tuple #[v0_, .string r2, .int .i64 r3]) ∧ Kd.R k49 49 w' w.heap.size (fun _ => True) v0_ r1 ∧ Below w.heap.size w w' := by
 have hu49 := Tryz.underlying49
 have HB := Aside0.mk (Below.refl w.heap.size w)
 have H : (broadsheetref18_Parse.l0 k a0 ([] : List (S49)) a0) = some (r1, r2, r3) := h
 clear h
 have H' := Aside0.mk H
 clear H
 go_enter Tryz.func39, Tryz.ntmps39
 go_wp2
 first | go_loopg [5, 6] k (fun kq v5 v6 w' => ∃ (x5_1 : List (S49)) (x6_1 : ByteArray), v6 = .string x6_1 ∧ Aside0 (broadsheetref18_Parse.l0 kq a0 x5_1 x6_1 = some (r1, r2, r3)) ∧ Aside0 (kq ≤ k) ∧ Aside0 (Kd.R k49 49 w' w.heap.size (fun _ => True) v5 x5_1) ∧ Aside0 (Below w.heap.size w w')) | (go_simp; go_loopg [5, 6] k (fun kq v5 v6 w' => ∃ (x5_1 : List (S49)) (x6_1 : ByteArray), v6 = .string x6_1 ∧ Aside0 (broadsheetref18_Parse.l0 kq a0 x5_1 x6_1 = some (r1, r2, r3)) ∧ Aside0 (kq ≤ k) ∧ Aside0 (Kd.R k49 49 w' w.heap.size (fun _ => True) v5 x5_1) ∧ Aside0 (Below w.heap.size w w')))
 case atStart => exact ⟨(([] : List (S49))), (a0), zb5, H', ⟨Nat.le_refl _⟩, ⟨by first | exact Kd.R_nil _ _ _ _ _ | exact Kd.N_nil _ _ _ _ _ | exact Kd.V_nil _ _ _ _ _ | exact Kd.Q_nil _ _ _ _ _ | exact Kd.S_nil _ _ _ _ _⟩, ⟨by repeat (first | (with_reducible first | exact HB.out | apply below_alloc | apply pw_below_drewN | apply below_drew1) | exact HB.out)⟩⟩
 case round =>
  clear H'
  obtain ⟨x5_1, x6_1, rfl, HA, HK1, HO_5, HB⟩ := hrel
  cases gk with
  | zero => exact absurd HA.out (by simp [broadsheetref18_Parse.l0])
  | succ k1 =>
   have H := HA.out
   clear HA
   simp only [broadsheetref18_Parse.l0] at H
   replace H := Option.bind_eq_some_iff.mp H
   obtain ⟨⟨t239, t240, t241⟩, A20, H⟩ := H
   replace H : (if t241 = true then (broadsheetref18_Parse.j1 k1 a0 x5_1 t239 t240 (decide ((wrap64 ((a0.size : Int) - (t240.size : Int))) > 8000))) else (broadsheetref18_Parse.j1 k1 a0 x5_1 t239 t240 true)) = some (r1, r2, r3) := H
   have A2 := Aside0.mk A20
   clear A20
   have HC3 := Aside0.mk H
   clear H
   go_upto_region 4 with (first | ((with_reducible refine gate_callee (f := 36) rfl ?_); refine goesL_ (some 15) rfl rfl Tryz.func36 zb12 rfl #[.string x6_1] rfl zb1 ?_; (with_reducible refine (broadsheetref18_Line.calls k1 x6_1 t239 t240 t241 _ A2.out).mono ?_); rintro e w' ⟨rfl, ⟨nd, rfl⟩⟩; refine ⟨_, rfl, ?_⟩))
   (try simp only [Act.put, List.setIfInBounds_toArray, List.set_cons_zero, List.set_cons_succ])
   go_cut [28] (fun v28 wc => ∃ (kq : Nat) (x28_2 : Bool), v28 = .bool x28_2 ∧ Aside0 (broadsheetref18_Parse.j1 kq a0 x5_1 t239 t240 x28_2 = some (r1, r2, r3)) ∧ Aside0 (kq ≤ k1) ∧ Aside0 (Kd.R k49 49 wc w.heap.size (fun _ => True) u5 x5_1) ∧ Aside0 (Below w.heap.size w wc))
   case first =>
    have H := HC3.out
    clear HC3
    by_cases c4 : t241 = true
    ·subst c4
     replace H : (broadsheetref18_Parse.j1 k1 a0 x5_1 t239 t240 (decide ((wrap64 ((a0.size : Int) - (t240.size : Int))) > 8000))) = some (r1, r2, r3) := by rw [if_pos rfl] at H; exact H
     have H' := Aside0.mk H
     clear H
     go_wp2
     go_meet
     case rel => exact ⟨_, (decide ((wrap64 ((a0.size : Int) - (t240.size : Int))) > 8000)), zb5, H', ⟨by have := HK1.out; first | omega | exact Nat.le_refl _⟩, ⟨by (with_reducible repeat (first | apply Kd.R_alloc | apply Kd.R_drewN | apply Kd.R_drew)); exact HO_5.out⟩, ⟨by repeat (first | (with_reducible first | exact HB.out | apply below_alloc | apply pw_below_drewN | apply below_drew1) | exact HB.out)⟩⟩
    ·replace c4 := Bool.eq_false_iff.mpr c4
     subst c4
     replace H : (broadsheetref18_Parse.j1 k1 a0 x5_1 t239 t240 true) = some (r1, r2, r3) := by rw [if_neg (show ¬ (false = true) by decide)] at H; exact H
     have H' := Aside0.mk H
     clear H
     go_wp2
     go_meet
     case rel => exact ⟨_, (true), zb5, H', ⟨by have := HK1.out; first | omega | exact Nat.le_refl _⟩, ⟨by (with_reducible repeat (first | apply Kd.R_alloc | apply Kd.R_drewN | apply Kd.R_drew)); exact HO_5.out⟩, ⟨by repeat (first | (with_reducible first | exact HB.out | apply below_alloc | apply pw_below_drewN | apply below_drew1) | exact HB.out)⟩⟩
   case rest =>
    clear HC3
    try clear p2
    try clear c3
    try clear c4
    obtain ⟨kq, x28_2, rfl, HA, HJ2, HO_5, HB⟩ := hcut
    cases kq with
    | zero => exact absurd HA.out (by simp [broadsheetref18_Parse.j1])
    | succ kj2 =>
     have H := HA.out
     clear HA
     simp only [broadsheetref18_Parse.j1] at H
     by_cases c5 : x28_2 = true
     ·subst c5
      replace H : (if (a0.size : Int) > 8000 then (some (([] : List (S49)), (⟨#[]⟩ : ByteArray), 2)) else (some (([] : List (S49)), (⟨#[]⟩ : ByteArray), 180))) = some (r1, r2, r3) := by rw [if_pos rfl] at H; exact H
      by_cases c6 : (a0.size : Int) > 8000
      ·rw [if_pos c6] at H
       have c6b0 : decide (8000 < (a0.size : Int)) = true := decide_eq_true c6
       have c6b1 : decide (8000 < a0.size) = true := decide_eq_true zb16
       clear c6
       simp only [Option.some.injEq, Prod.mk.injEq] at H
       obtain ⟨rfl, rfl, rfl⟩ := H
       go_wp2
       go_ret3
       exact ⟨_, by first | rfl | (simp [errW_none, errW_some, bne_nil_] <;> rfl) | (simp [*, errW_none, errW_some] <;> rfl), by first | exact Kd.R_nil _ _ _ _ _ | exact Kd.N_nil _ _ _ _ _ | exact Kd.V_nil _ _ _ _ _ | exact Kd.Q_nil _ _ _ _ _ | exact Kd.S_nil _ _ _ _ _, zb0⟩
      ·rw [if_neg c6] at H
       have c6b0 : decide (8000 < (a0.size : Int)) = false := decide_eq_false c6
       have c6b1 : decide (8000 < a0.size) = false := decide_eq_false zb16
       clear c6
       simp only [Option.some.injEq, Prod.mk.injEq] at H
       obtain ⟨rfl, rfl, rfl⟩ := H
       go_wp2
       go_ret3
       exact ⟨_, by first | rfl | (simp [errW_none, errW_some, bne_nil_] <;> rfl) | (simp [*, errW_none, errW_some] <;> rfl), by first | exact Kd.R_nil _ _ _ _ _ | exact Kd.N_nil _ _ _ _ _ | exact Kd.V_nil _ _ _ _ _ | exact Kd.Q_nil _ _ _ _ _ | exact Kd.S_nil _ _ _ _ _, zb0⟩
     ·replace c5 := Bool.eq_false_iff.mpr c5
      subst c5
      replace H : (if t239.toList = ([] : List UInt8) then (some (x5_1, t240, 0)) else ((broadsheetref13_Token.f kj2 t239).bind fun bt242 => (if bt242.1.toList = ([] : List UInt8) then (broadsheetref18_Parse.j2 kj2 a0 x5_1 t240 bt242.1 bt242.2 true) else (if bt242.2.toList = ([] : List UInt8) then (broadsheetref18_Parse.j2 kj2 a0 x5_1 t240 bt242.1 bt242.2 true) else (if 0 < (bt242.2.size : Int) then (if (bt bt242.2 0) = 58 then (if 1 ≤ (bt242.2.size : Int) then ((broadsheetref18_Trim.f kj2 (bt242.2.extract 1 bt242.2.size)).bind fun t244 => ((broadsheetref18_Value.f kj2 t244).bind fun t245 => (broadsheetref18_Parse.j2 kj2 a0 x5_1 t240 bt242.1 bt242.2 (!t245)))) else (none)) else (broadsheetref18_Parse.j2 kj2 a0 x5_1 t240 bt242.1 bt242.2 true)) else (none)))))) = some (r1, r2, r3) := by rw [if_neg (show ¬ (false = true) by decide)] at H; exact H
      by_cases c7 : t239.toList = ([] : List UInt8)
      ·rw [if_pos c7] at H
       have c7b0 : (t239.toList == ([] : List UInt8)) = true := beq_iff_eq.mpr c7
       have c7b1 : (t239.toList != ([] : List UInt8)) = false := bne_eq_false_iff_eq.mpr c7
       clear c7
       simp only [Option.some.injEq, Prod.mk.injEq] at H
       obtain ⟨rfl, rfl, rfl⟩ := H
       go_wp2
       go_ret3
       exact ⟨_, by first | rfl | (simp [errW_none, errW_some, bne_nil_] <;> rfl) | (simp [*, errW_none, errW_some] <;> rfl), by (with_reducible repeat (first | apply Kd.R_alloc | apply Kd.R_drewN | apply Kd.R_drew)); exact HO_5.out, zb0⟩
      ·rw [if_neg c7] at H
       have c7b0 : (t239.toList == ([] : List UInt8)) = false := beq_eq_false_iff_ne.mpr c7
       have c7b1 : (t239.toList != ([] : List UInt8)) = true := bne_iff_ne.mpr c7
       replace H := Option.bind_eq_some_iff.mp H
       obtain ⟨⟨t242, t243⟩, A80, H⟩ := H
       replace H : (if t242.toList = ([] : List UInt8) then (broadsheetref18_Parse.j2 kj2 a0 x5_1 t240 t242 t243 true) else (if t243.toList = ([] : List UInt8) then (broadsheetref18_Parse.j2 kj2 a0 x5_1 t240 t242 t243 true) else (if 0 < (t243.size : Int) then (if (bt t243 0) = 58 then (if 1 ≤ (t243.size : Int) then ((broadsheetref18_Trim.f kj2 (t243.extract 1 t243.size)).bind fun t244 => ((broadsheetref18_Value.f kj2 t244).bind fun t245 => (broadsheetref18_Parse.j2 kj2 a0 x5_1 t240 t242 t243 (!t245)))) else (none)) else (broadsheetref18_Parse.j2 kj2 a0 x5_1 t240 t242 t243 true)) else (none)))) = some (r1, r2, r3) := H
       have A8 := Aside0.mk A80
       clear A80
       have HC9 := Aside0.mk H
       clear H
       go_upto_region 11 with (first | ((with_reducible refine gate_callee (f := 51) rfl ?_); refine goesL_ (some 38) rfl rfl Tryz.func51 zb12 rfl #[.string t239] rfl zb1 ?_; (with_reducible refine (broadsheetref13_Token.calls kj2 t239 t242 t243 _ A8.out).mono ?_); rintro e w' ⟨rfl, ⟨nd, rfl⟩⟩; refine ⟨_, rfl, ?_⟩))
       (try simp only [Act.put, List.setIfInBounds_toArray, List.set_cons_zero, List.set_cons_succ])
       go_cut [58] (fun v58 wc => ∃ (kq : Nat) (x58_8 : Bool), v58 = .bool x58_8 ∧ Aside0 (broadsheetref18_Parse.j2 kq a0 x5_1 t240 t242 t243 x58_8 = some (r1, r2, r3)) ∧ Aside0 (kq ≤ kj2) ∧ Aside0 (Kd.R k49 49 wc w.heap.size (fun _ => True) u5 x5_1) ∧ Aside0 (Below w.heap.size w wc))
       case first =>
        have H := HC9.out
        clear HC9
        by_cases c10 : t242.toList = ([] : List UInt8)
        ·rw [if_pos c10] at H
         have c10b0 : (t242.toList == ([] : List UInt8)) = true := beq_iff_eq.mpr c10
         have c10b1 : (t242.toList != ([] : List UInt8)) = false := bne_eq_false_iff_eq.mpr c10
         clear c10
         (first | rw [c10b0] | (simp only [i64_w, i32_w]; rw [c10b0]) | skip)
         have H' := Aside0.mk H
         clear H
         go_wp2
         go_meet
         case rel => exact ⟨_, (true), zb5, H', ⟨by have := HK1.out; have := HJ2.out; first | omega | exact Nat.le_refl _⟩, ⟨by (with_reducible repeat (first | apply Kd.R_alloc | apply Kd.R_drewN | apply Kd.R_drew)); exact HO_5.out⟩, ⟨by repeat (first | (with_reducible first | exact HB.out | apply below_alloc | apply pw_below_drewN | apply below_drew1) | exact HB.out)⟩⟩
        ·rw [if_neg c10] at H
         have c10b0 : (t242.toList == ([] : List UInt8)) = false := beq_eq_false_iff_ne.mpr c10
         have c10b1 : (t242.toList != ([] : List UInt8)) = true := bne_iff_ne.mpr c10
         (first | rw [c10b0] | (simp only [i64_w, i32_w]; rw [c10b0]) | skip)
         by_cases c11 : t243.toList = ([] : List UInt8)
         ·rw [if_pos c11] at H
          have c11b0 : (t243.toList == ([] : List UInt8)) = true := beq_iff_eq.mpr c11
          have c11b1 : (t243.toList != ([] : List UInt8)) = false := bne_eq_false_iff_eq.mpr c11
          clear c11
          have H' := Aside0.mk H
          clear H
          go_wp2
          go_meet
          case rel => exact ⟨_, (true), zb5, H', ⟨by have := HK1.out; have := HJ2.out; first | omega | exact Nat.le_refl _⟩, ⟨by (with_reducible repeat (first | apply Kd.R_alloc | apply Kd.R_drewN | apply Kd.R_drew)); exact HO_5.out⟩, ⟨by repeat (first | (with_reducible first | exact HB.out | apply below_alloc | apply pw_below_drewN | apply below_drew1) | exact HB.out)⟩⟩
         ·rw [if_neg c11] at H
          have c11b0 : (t243.toList == ([] : List UInt8)) = false := beq_eq_false_iff_ne.mpr c11
          have c11b1 : (t243.toList != ([] : List UInt8)) = true := bne_iff_ne.mpr c11
          by_cases c12 : 0 < (t243.size : Int)
          ·rw [if_pos c12] at H
           have c12b0 : decide (0 < (t243.size : Int)) = true := decide_eq_true c12
           have c12b1 : decide (0 < t243.size) = true := decide_eq_true zb16
           clear c12
           by_cases c14 : (bt t243 0) = 58
           ·rw [if_pos c14] at H
            have c14b0 : ((bt t243 0) == 58) = true := beq_iff_eq.mpr c14
            have c14b1 : ((bt t243 0) != 58) = false := bne_eq_false_iff_eq.mpr c14
            clear c14
            by_cases c15 : 1 ≤ (t243.size : Int)
            ·rw [if_pos c15] at H
             have c15b0 := eq_true c15
             have c15b1 : decide (1 ≤ (t243.size : Int)) = true := decide_eq_true c15
             clear c15
             replace H := Option.bind_eq_some_iff.mp H
             obtain ⟨t244, A160, H⟩ := H
             replace H : ((broadsheetref18_Value.f kj2 t244).bind fun t245 => (broadsheetref18_Parse.j2 kj2 a0 x5_1 t240 t242 t243 (!t245))) = some (r1, r2, r3) := H
             have A16 := Aside0.mk A160
             clear A160
             replace H := Option.bind_eq_some_iff.mp H
             obtain ⟨t245, A170, H⟩ := H
             replace H : (broadsheetref18_Parse.j2 kj2 a0 x5_1 t240 t242 t243 (!t245)) = some (r1, r2, r3) := H
             have A17 := Aside0.mk A170
             clear A170
             have H' := Aside0.mk H
             clear H
             have p13 : 0 ≤ (0 : Int) := zb16
             have q13 : 0 < t243.size := (by have : (0 : Int) < (t243.size : Int) := of_decide_eq_true zb2; omega)
             have hx13 : ∀ h : 0 < t243.size, ((t243[0]'h).toNat : Int) = bt t243 0 := bt_at t243 0
             clear p13
             have qi13 : (0 < (t243.size : Int)) = True := eq_true (of_decide_eq_true zb2)
             replace q13 := eq_true q13
             go_wp2_with (first | (go_at_call 67; (with_reducible refine (broadsheetref18_Trim.calls kj2 (t243.extract 1 t243.size) t244 _ A16.out).mono ?_); rintro e w' ⟨rfl, ⟨nd, rfl⟩⟩) | (go_at_call 52; (with_reducible refine (broadsheetref18_Value.calls kj2 t244 t245 _ A17.out).mono ?_); rintro e w' ⟨rfl, ⟨nd, rfl⟩⟩))
             go_meet
             case rel => exact ⟨_, (!t245), zb5, H', ⟨by have := HK1.out; have := HJ2.out; first | omega | exact Nat.le_refl _⟩, ⟨by (with_reducible repeat (first | apply Kd.R_alloc | apply Kd.R_drewN | apply Kd.R_drew)); exact HO_5.out⟩, ⟨by repeat (first | (with_reducible first | exact HB.out | apply below_alloc | apply pw_below_drewN | apply below_drew1) | exact HB.out)⟩⟩
            ·rw [if_neg c15] at H
             exact absurd H zb26
           ·rw [if_neg c14] at H
            have c14b0 : ((bt t243 0) == 58) = false := beq_eq_false_iff_ne.mpr c14
            have c14b1 : ((bt t243 0) != 58) = true := bne_iff_ne.mpr c14
            have H' := Aside0.mk H
            clear H
            have p13 : 0 ≤ (0 : Int) := zb16
            have q13 : 0 < t243.size := (by have : (0 : Int) < (t243.size : Int) := of_decide_eq_true zb2; omega)
            have hx13 : ∀ h : 0 < t243.size, ((t243[0]'h).toNat : Int) = bt t243 0 := bt_at t243 0
            clear p13
            have qi13 : (0 < (t243.size : Int)) = True := eq_true (of_decide_eq_true zb2)
            replace q13 := eq_true q13
            go_wp2
            go_meet
            case rel => exact ⟨_, (true), zb5, H', ⟨by have := HK1.out; have := HJ2.out; first | omega | exact Nat.le_refl _⟩, ⟨by (with_reducible repeat (first | apply Kd.R_alloc | apply Kd.R_drewN | apply Kd.R_drew)); exact HO_5.out⟩, ⟨by repeat (first | (with_reducible first | exact HB.out | apply below_alloc | apply pw_below_drewN | apply below_drew1) | exact HB.out)⟩⟩
          ·rw [if_neg c12] at H
           exact absurd H zb26
       case rest =>
        clear HC9
        try clear c1
        try clear p1
        try clear q1
        try clear hx1
        try clear qi1
        try clear p2
        try clear c3
        try clear c4
        try clear c5
        try clear c6
        try clear c6b0
        try clear c6b1
        try clear p6
        try clear c7
        try clear c7b0
        try clear c7b1
        try clear c10
        try clear c10b0
        try clear c10b1
        try clear c11
        try clear c11b0
        try clear c11b1
        try clear c12
        try clear c12b0
        try clear c12b1
        try clear p13
        try clear q13
        try clear hx13
        try clear qi13
        try clear c14
        try clear c14b0
        try clear c14b1
        try clear c15
        try clear c15b0
        try clear c15b1
        try clear p13
        try clear p2
        try clear q13
        obtain ⟨kq, x58_8, rfl, HA, HJ8, HO_5, HB⟩ := hcut
        cases kq with
        | zero => exact absurd HA.out (by simp [broadsheetref18_Parse.j2])
        | succ kj8 =>
         have H := HA.out
         clear HA
         simp only [broadsheetref18_Parse.j2] at H
         by_cases c18 : x58_8 = true
         ·subst c18
          replace H : (some (([] : List (S49)), (⟨#[]⟩ : ByteArray), 180)) = some (r1, r2, r3) := by rw [if_pos rfl] at H; exact H
          simp only [Option.some.injEq, Prod.mk.injEq] at H
          obtain ⟨rfl, rfl, rfl⟩ := H
          go_wp2
          go_ret3
          exact ⟨_, by first | rfl | (simp [errW_none, errW_some, bne_nil_] <;> rfl) | (simp [*, errW_none, errW_some] <;> rfl), by first | exact Kd.R_nil _ _ _ _ _ | exact Kd.N_nil _ _ _ _ _ | exact Kd.V_nil _ _ _ _ _ | exact Kd.Q_nil _ _ _ _ _ | exact Kd.S_nil _ _ _ _ _, zb0⟩
         ·replace c18 := Bool.eq_false_iff.mpr c18
          subst c18
          replace H : ((broadsheetref07_Lower.f kj8 t242).bind fun t246 => (if 1 ≤ (t243.size : Int) then ((broadsheetref18_Trim.f kj8 (t243.extract 1 t243.size)).bind fun t247 => (if x5_1.length < 4398046511104 then (broadsheetref18_Parse.l0 kj8 a0 (x5_1 ++ [(⟨t246, t247⟩ : S49)]) t240) else (none))) else (none))) = some (r1, r2, r3) := by rw [if_neg (show ¬ (false = true) by decide)] at H; exact H
          replace H := Option.bind_eq_some_iff.mp H
          obtain ⟨t246, A190, H⟩ := H
          replace H : (if 1 ≤ (t243.size : Int) then ((broadsheetref18_Trim.f kj8 (t243.extract 1 t243.size)).bind fun t247 => (if x5_1.length < 4398046511104 then (broadsheetref18_Parse.l0 kj8 a0 (x5_1 ++ [(⟨t246, t247⟩ : S49)]) t240) else (none))) else (none)) = some (r1, r2, r3) := H
          have A19 := Aside0.mk A190
          clear A190
          by_cases c20 : 1 ≤ (t243.size : Int)
          ·rw [if_pos c20] at H
           have c20b0 := eq_true c20
           have c20b1 : decide (1 ≤ (t243.size : Int)) = true := decide_eq_true c20
           clear c20
           replace H := Option.bind_eq_some_iff.mp H
           obtain ⟨t247, A210, H⟩ := H
           replace H : (if x5_1.length < 4398046511104 then (broadsheetref18_Parse.l0 kj8 a0 (x5_1 ++ [(⟨t246, t247⟩ : S49)]) t240) else (none)) = some (r1, r2, r3) := H
           have A21 := Aside0.mk A210
           clear A210
           by_cases c22 : x5_1.length < 4398046511104
           ·rw [if_pos c22] at H
            have LMc22 := Aside0.mk c22
            clear c22
            obtain ⟨y248, hy248⟩ : ∃ y_ : List (S49), y_ = (x5_1 ++ [(⟨t246, t247⟩ : S49)]) := ⟨_, rfl⟩
            replace H : (broadsheetref18_Parse.l0 kj8 a0 y248 t240) = some (r1, r2, r3) := by first | (rw [hy248]; with_reducible exact H) | (have H2_ := (Option.bind_some _ _).symm.trans H; rw [hy248]; with_reducible exact H2_) | (have H2_ := (Option.bind_some _ _).symm.trans H; with_reducible exact H2_) | with_reducible exact H | (rw [hy248]; exact H) | exact H
            have Ny248 := Aside0.mk hy248
            clear hy248
            have H' := Aside0.mk H
            clear H
            try go_wp2
            have n0_ := Aside0.mk (Kd.R_drew HO_5.out)
            have n1_ := Aside0.mk (below_drew1 HB.out)
            clear HO_5
            clear HB
            have HO_5 := n0_
            have HB := n1_
            clear n0_ n1_
            refine start_ (n := 10) (S := fun w' => True) (ds := []) #[false, false, false, false, false, false, false, false, false, false] zb12 rfl rfl trivial (fun hHeld => ?_); refine with_tabW broadsheetref18_Parse.tab13 broadsheetref18_Parse.bits13 (fun HT_ HW_ => ?_)
            generalize wc.drew = w23 at HO_5 HB hHeld ⊢
            refine pure_ (i := 0) (N := some 59) (v := ?_) (a' := ?_) #[true, false, false, false, false, false, false, false, false, false] rfl rfl (any_of HT_.out zb12) (fun _ _ _ h => h) (Or.inl ⟨by rfl, ?_⟩) ?_ ?_
            rotate_left
            ·intro w'
             go_simp
             first | with_reducible rfl | (rw [if_neg zb8])
            rotate_left
            ·simp only [Act.put, List.setIfInBounds_toArray, List.set_cons_zero, List.set_cons_succ, i64_w, i32_w]
             rfl
            refine pure_ (i := 1) (N := some 60) (v := ?_) (a' := ?_) #[true, true, false, false, false, false, false, false, false, false] rfl rfl (any_of HT_.out zb12) (fun _ _ _ h => h) (Or.inl ⟨by rfl, ?_⟩) ?_ ?_
            rotate_left
            ·intro w'
             go_simp
             first | with_reducible rfl | (rw [if_neg zb8])
            rotate_left
            ·simp only [Act.put, List.setIfInBounds_toArray, List.set_cons_zero, List.set_cons_succ, i64_w, i32_w]
             rfl
            refine pure_ (i := 3) (N := some 62) (v := ?_) (a' := ?_) #[true, true, false, true, false, false, false, false, false, false] rfl rfl (any_of HT_.out zb12) (fun _ _ _ h => h) (Or.inl ⟨by rfl, ?_⟩) ?_ ?_
            rotate_left
            ·intro w'
             go_simp
             first | with_reducible rfl | (rw [if_neg zb8])
            rotate_left
            ·simp only [Act.put, List.setIfInBounds_toArray, List.set_cons_zero, List.set_cons_succ, i64_w, i32_w]
             rfl
            refine pure_ (i := 4) (N := some 63) (v := ?_) (a' := ?_) #[true, true, false, true, true, false, false, false, false, false] rfl rfl (any_of HT_.out zb12) (fun _ _ _ h => h) (Or.inl ⟨by rfl, ?_⟩) ?_ ?_
            rotate_left
            ·intro w'
             go_simp
             first | with_reducible rfl | (rw [if_neg zb8])
            rotate_left
            ·simp only [Act.put, List.setIfInBounds_toArray, List.set_cons_zero, List.set_cons_succ, i64_w, i32_w]
             rfl
            refine one_ (i := 2) (N := some 61) #[true, true, true, true, true, false, false, false, false, false] rfl rfl (one_of HT_.out zb12) zb20 (fun K hK => ?_)
            refine goes_ Tryz.func53 zb12 rfl #[.string t242] (by rfl) rfl rfl zb1 ?_
            with_reducible refine (broadsheetref07_Lower.calls kj8 t242 t246 _ A19.out).mono ?_
            rintro e w24 ⟨rfl, hb⟩
            refine ⟨_, rfl, ?_⟩
            have n0_ := Aside0.mk (Kd.R_below zb14 hb)
            have n1_ := Aside0.mk (below_step zb0 hb)
            clear HO_5
            clear HB
            have HO_5 := n0_
            have HB := n1_
            clear n0_ n1_
            (try clear hb)
            (try clear hb2)
            (try clear hk)
            (try clear hi)
            refine hK.out _ _ trivial (fun hHeld => ?_)
            clear hK K
            refine norm_ (a' := ?_) ?_ ?_
            rotate_left
            ·show Act.put _ (some 61) _ = _
             simp only [Act.put, List.setIfInBounds_toArray, List.set_cons_zero, List.set_cons_succ, i64_w, i32_w]
             rfl
            refine one_ (i := 5) (N := some 64) #[true, true, true, true, true, true, false, false, false, false] rfl rfl (one_of HT_.out zb12) zb20 (fun K hK => ?_)
            refine goes_ Tryz.func67 zb12 rfl #[.string (t243.extract 1 t243.size)] (by rfl) rfl rfl zb1 ?_
            with_reducible refine (broadsheetref18_Trim.calls kj8 (t243.extract 1 t243.size) t247 _ A21.out).mono ?_
            rintro e w' ⟨rfl, ⟨nd, rfl⟩⟩
            refine ⟨_, rfl, ?_⟩
            refine hK.out _ _ trivial (fun hHeld => ?_)
            clear hK K
            refine norm_ (a' := ?_) ?_ ?_
            rotate_left
            ·show Act.put _ (some 64) _ = _
             simp only [Act.put, List.setIfInBounds_toArray, List.set_cons_zero, List.set_cons_succ, i64_w, i32_w]
             rfl
            refine pure_ (i := 6) (N := some 65) (v := ?_) (a' := ?_) #[true, true, true, true, true, true, true, false, false, false] rfl rfl (any_of HT_.out zb12) (fun _ _ _ h => h) (Or.inl ⟨by rfl, ?_⟩) ?_ ?_
            rotate_left
            ·intro w'
             go_simp
             first | with_reducible rfl | (rw [if_neg zb8])
            rotate_left
            ·simp only [Act.put, List.setIfInBounds_toArray, List.set_cons_zero, List.set_cons_succ, i64_w, i32_w]
             rfl
            refine one_ (i := 7) (N := some 66) #[true, true, true, true, true, true, true, true, false, false] rfl rfl (one_of HT_.out zb12) zb20 (fun K hK => ?_)
            refine value_ (w1 := ?_) (v := ?_) (by rfl) rfl ?_ ?_
            rotate_left 2
            ·go_simp
             constructor
             ·rfl
             ·rfl
            refine hK.out _ _ trivial (fun hHeld => ?_)
            clear hK K
            refine norm_ (a' := ?_) ?_ ?_
            rotate_left
            ·show Act.put _ (some 66) _ = _
             simp only [Act.put, List.setIfInBounds_toArray, List.set_cons_zero, List.set_cons_succ, i64_w, i32_w]
             rfl
            refine one_ (i := 8) (N := some 67) #[true, true, true, true, true, true, true, true, true, false] rfl rfl (one_of HT_.out zb12) zb20 (fun K hK => ?_)
            refine Kd.R_append_step k49 (w0 := w) w.heap.size (by rfl) (.tmp 59) (.tmp 66) 34 49 (.agg #[(.string ⟨#[]⟩), (.string ⟨#[]⟩)]) 32 rfl Tryz.underlying34 info49 rfl zb20 zb16 u5 x5_1 (⟨t246, t247⟩ : S49) [.string t246, .string t247] (fun _ => True) (fun _ => False) rfl rfl ?aP (fun _ hk => hk.elim) ?aF ?aO ?aB ?aS ?aL ?_
            (case aP => exact k49_mkM _ _ _ (⟨t246, t247⟩ : S49))
            (case aB => exact zb0)
            (case aF => exact (fun _ _ => trivial))
            (case aO => exact zb14)
            (case aS => exact (below_size zb0))
            (case aL => have := LMc22.out; omega)
            intro v249 w25 ho hb hg hat
            rw [← Ny248.out] at ho
            have n0_ := Aside0.mk (hb)
            have n1_ := Aside0.mk (ho)
            clear HB
            clear HO_5
            have HB := n0_
            have HO250 := n1_
            clear n0_ n1_
            clear ho hb hg hat
            refine hK.out _ _ trivial (fun hHeld => ?_)
            clear hK K
            refine norm_ (a' := ?_) ?_ ?_
            rotate_left
            ·show Act.put _ (some 67) _ = _
             simp only [Act.put, List.setIfInBounds_toArray, List.set_cons_zero, List.set_cons_succ, i64_w, i32_w]
             rfl
            refine pure_ (i := 9) (N := some 5) (v := ?_) (a' := ?_) #[true, true, true, true, true, true, true, true, true, true] rfl rfl (any_of HT_.out zb12) (fun _ _ _ h => h) (Or.inl ⟨by rfl, ?_⟩) ?_ ?_
            rotate_left
            ·intro w'
             go_simp
             first | with_reducible rfl | (rw [if_neg zb8])
            rotate_left
            ·simp only [Act.put, List.setIfInBounds_toArray, List.set_cons_zero, List.set_cons_succ, i64_w, i32_w]
             rfl
            refine done_ (done_of HT_.out zb12) ?_
            try go_wp2
            go_roundg kj8
            case measure => have := HK1.out; have := HJ2.out; have := HJ8.out; omega
            case rel => exact ⟨(y248), (t240), zb5, H', ⟨by have := HK1.out; have := HJ2.out; have := HJ8.out; omega⟩, ⟨by (with_reducible repeat (first | apply Kd.R_alloc | apply Kd.R_drewN | apply Kd.R_drew)); exact HO250.out⟩, ⟨by repeat (first | (with_reducible first | exact HB.out | apply below_alloc | apply pw_below_drewN | apply below_drew1) | exact HB.out)⟩⟩
           ·rw [if_neg c22] at H
            exact absurd H zb26
          ·rw [if_neg c20] at H
           exact absurd H zb26
end Go.Proofs.YteonhdfjfjpbjaaGreatDoor.P
/- SpF -/
namespace Go.Proofs.YteonhdfjfjpbjaaGreatDoor.Sp
open Go Go.RowKit Go.Proofs.YteonhdfjfjpbjaaGreatDoorW.PrintWords Go.Proofs.YteonhdfjfjpbjaaGreatDoorW.PrintLast Go.Proofs.YteonhdfjfjpbjaaGreatDoor.O Go.Proofs.YteonhdfjfjpbjaaGreatDoor.P
set_option linter.unusedVariables false
set_option linter.unusedSimpArgs false
theorem w1 (i : Nat) (h : i ≤ 1000000000000) : wrap64 ((i : Int) + 1) = ((i + 1 : Nat) : Int) := by rw [wrap_id (by omega) (by omega)]; omega
theorem w2 (i : Nat) (h : i ≤ 1000000000000) : wrap64 ((i : Int) + 2) = ((i + 2 : Nat) : Int) := by rw [wrap_id (by omega) (by omega)]; omega
theorem ext1 (c : UInt8) (r : L) : (mk (c :: r)).extract 1 (mk (c :: r)).size = mk r := by rw [ext_from]; rfl
theorem rskip_l0 : ∀ (s : L) (k : Nat), s.length < k → broadsheetref13_Skip.l0 k (mk s) = some (mk (skip s))
  | [], k, hk => by
    obtain ⟨k, rfl⟩ : ∃ k', k = k' + 1 := ⟨k - 1, by omega⟩
    rw [broadsheetref13_Skip.l0, if_neg (by rw [mk_size]; simp)]
    rfl
  | c :: r, k, hk => by
    obtain ⟨k, rfl⟩ : ∃ k', k = k' + 1 := ⟨k - 1, by omega⟩
    simp only [List.length_cons] at hk
    have ih := rskip_l0 r k (by omega)
    rw [broadsheetref13_Skip.l0, if_pos (by rw [mk_size]; simp only [List.length_cons]; omega), if_pos (by rw [mk_size]; simp only [List.length_cons]; omega), bt_head]
    have h32 : ((c.toNat : Int) = 32) ↔ c = 32 := u8i c 32 (by omega)
    have h9 : ((c.toNat : Int) = 9) ↔ c = 9 := u8i c 9 (by omega)
    by_cases c32 : c = 32
    · rw [if_pos (h32.2 c32), if_pos (by rw [mk_size]; simp only [List.length_cons]; omega), ext1, ih]
      unfold skip
      rw [List.dropWhile_cons_of_pos (by simp [bl, c32])]
    · rw [if_neg (fun h => c32 (h32.1 h))]
      by_cases c9 : c = 9
      · rw [if_pos (h9.2 c9), if_pos (by rw [mk_size]; simp only [List.length_cons]; omega), ext1, ih]
        unfold skip
        rw [List.dropWhile_cons_of_pos (by simp [bl, c9])]
      · rw [if_neg (fun h => c9 (h9.1 h))]
        unfold skip
        rw [List.dropWhile_cons_of_neg (by simp [bl, c32, c9])]
theorem rskipF (s : L) (k : Nat) (hk : s.length < k) : broadsheetref13_Skip.f k (mk s) = some (mk (skip s)) := rskip_l0 s k hk
theorem rtb_all : ∀ a : Fin 256, broadsheetref13_TokenByte.f 1 ((UInt8.ofNat a.val).toNat : Int) = some (tokB (UInt8.ofNat a.val)) := by decide +kernel
theorem rtbF (c : UInt8) (k : Nat) (hk : 1 ≤ k) : broadsheetref13_TokenByte.f k (c.toNat : Int) = some (tokB c) := by
  obtain ⟨k, rfl⟩ : ∃ k', k = k' + 1 := ⟨k - 1, by omega⟩
  obtain ⟨a, rfl⟩ := u8_fin c
  rw [← rtb_all a]
  rfl
theorem rtok_l0 (s : L) (hs : s.length ≤ 1000000000000) : ∀ (d k i : Nat), i + d = s.length → d + 1 < k →
    broadsheetref13_Token.l0 k (mk s) i = some (mk (s.take (i + ((s.drop i).takeWhile tokB).length)), mk (s.drop (i + ((s.drop i).takeWhile tokB).length))) := by
  intro d
  induction d with
  | zero =>
    intro k i hi hk
    obtain ⟨k, rfl⟩ : ∃ k', k = k' + 1 := ⟨k - 1, by omega⟩
    rw [broadsheetref13_Token.l0, if_neg (by rw [mk_size]; omega), if_pos (by omega), if_pos (by rw [mk_size]; omega), List.drop_eq_nil_of_le (by omega)]
    simp only [Int.toNat_natCast, List.takeWhile_nil, List.length_nil, Nat.add_zero, ext_to, ext_from]
  | succ d ih =>
    intro k i hi hk
    obtain ⟨k, rfl⟩ : ∃ k', k = k' + 1 := ⟨k - 1, by omega⟩
    obtain ⟨b, e1, e2⟩ := mk_bt s i (by omega)
    rw [broadsheetref13_Token.l0, if_pos (by rw [mk_size]; omega), if_pos (by omega), e2, rtbF b k (by omega)]
    simp only [Option.bind_some]
    by_cases ht : tokB b = true
    · rw [if_pos ht, w1 i (by omega), ih k (i + 1) (by omega) (by omega), e1, List.takeWhile_cons_of_pos ht]
      simp only [List.length_cons]
      rw [show i + 1 + ((s.drop (i + 1)).takeWhile tokB).length = i + (((s.drop (i + 1)).takeWhile tokB).length + 1) by omega]
    · rw [if_neg ht, if_pos (by rw [mk_size]; omega), e1, List.takeWhile_cons_of_neg ht]
      simp only [Int.toNat_natCast, List.length_nil, Nat.add_zero, ext_to, ext_from]
theorem rtokF (s : L) (k : Nat) (hs : s.length ≤ 1000000000000) (hk : s.length + 1 < k) : broadsheetref13_Token.f k (mk s) = some (mk (tok s).1, mk (tok s).2) := by
  unfold broadsheetref13_Token.f
  have := rtok_l0 s hs s.length k 0 (by omega) hk
  simp only [List.drop_zero, Nat.zero_add] at this
  rw [show (0 : Int) = ((0 : Nat) : Int) from rfl, this, take_tw, drop_tw]
  rfl
def nums (l : L) : List Int := l.map fun b => (b.toNat : Int)
theorem nums_str (l : L) : strOfNums (nums l) = mk l := by
  unfold strOfNums nums mk
  rw [List.map_map]
  have e : ((fun n : Int => UInt8.ofNat n.toNat) ∘ fun b : UInt8 => (b.toNat : Int)) = id := by
    funext b
    simp
  rw [e, List.map_id]
theorem nums_snoc (l : L) (b : UInt8) : nums l ++ [(b.toNat : Int)] = nums (l ++ [b]) := by simp [nums]
theorem nums_len (l : L) : (nums l).length = l.length := by simp [nums]
theorem lowB_int (b : UInt8) (h : 65 ≤ b.toNat ∧ b.toNat ≤ 90) : (((b.toNat : Int) + 32) % 256) = ((lowB b).toNat : Int) := by
  unfold lowB
  rw [if_pos h, UInt8.toNat_ofNat']
  omega
theorem rlow_l0 (s : L) (hs : s.length ≤ 1000000000000) : ∀ (d k i : Nat) (acc : L), i + d = s.length → d < k → acc.length ≤ i → broadsheetref07_Lower.l0 k (mk s) (nums acc) i = some (mk (acc ++ low (s.drop i))) := by
  intro d
  induction d with
  | zero =>
    intro k i acc hi hk ha
    obtain ⟨k, rfl⟩ : ∃ k', k = k' + 1 := ⟨k - 1, by omega⟩
    rw [broadsheetref07_Lower.l0, if_neg (by rw [mk_size]; omega), List.drop_eq_nil_of_le (by omega), nums_str]
    simp [low]
  | succ d ih =>
    intro k i acc hi hk ha
    obtain ⟨k, rfl⟩ : ∃ k', k = k' + 1 := ⟨k - 1, by omega⟩
    obtain ⟨b, e1, e2⟩ := mk_bt s i (by omega)
    have hlen : (nums acc).length < 140737488355328 := by rw [nums_len]; omega
    rw [broadsheetref07_Lower.l0, if_pos (by rw [mk_size]; omega), if_pos (by omega), e2, w1 i (by omega)]
    have hfin : ∀ x : UInt8, x = lowB b → broadsheetref07_Lower.l0 k (mk s) (nums acc ++ [(x.toNat : Int)]) ((i + 1 : Nat) : Int) = some (mk (acc ++ low (s.drop i))) := fun x hx => by
      rw [nums_snoc, ih k (i + 1) (acc ++ [x]) (by omega) (by omega) (by simp; omega), e1, hx]
      simp [low]
    by_cases h1 : (b.toNat : Int) ≥ 65
    · rw [if_pos h1]
      by_cases h2 : (b.toNat : Int) ≤ 90
      · rw [if_pos h2, if_pos hlen, lowB_int b (by omega)]
        exact hfin _ rfl
      · rw [if_neg h2, if_pos hlen]
        exact hfin b (by unfold lowB; rw [if_neg (by omega)])
    · rw [if_neg h1, if_pos hlen]
      exact hfin b (by unfold lowB; rw [if_neg (by omega)])
theorem rlowF (s : L) (k : Nat) (hs : s.length ≤ 1000000000000) (hk : s.length < k) : broadsheetref07_Lower.f k (mk s) = some (mk (low s)) := by
  have := rlow_l0 s hs s.length k 0 [] (by omega) hk (by simp)
  rwa [List.nil_append, List.drop_zero] at this
theorem ctl_cases (b : UInt8) {α : Type} (x y : α) : (if (b.toNat : Int) < 32 then (if (b.toNat : Int) = 9 then (if (b.toNat : Int) = 127 then x else y) else x) else (if (b.toNat : Int) = 127 then x else y)) = if ctl b = true then x else y := by
  have h9 : ((b.toNat : Int) = 9) ↔ b = 9 := u8i b 9 (by omega)
  have h127 : ((b.toNat : Int) = 127) ↔ b = 127 := u8i b 127 (by omega)
  unfold ctl
  by_cases h1 : (b.toNat : Int) < 32
  · have h1' : b.toNat < 32 := by omega
    rw [if_pos h1]
    by_cases h2 : b = 9
    · rw [if_pos (h9.2 h2), if_neg (by rw [h9.2 h2]; decide), if_neg (by simp [h2])]
    · rw [if_neg (fun h => h2 (h9.1 h)), if_pos (by simp [h1', h2])]
  · have h1' : ¬ b.toNat < 32 := by omega
    rw [if_neg h1]
    by_cases h2 : b = 127
    · rw [if_pos (h127.2 h2), if_pos (by simp [h2])]
    · rw [if_neg (fun h => h2 (h127.1 h)), if_neg (by simp [h1', h2])]
theorem rquot_l0 (s : L) (hs : s.length ≤ 1000000000000) : ∀ (d k i : Nat) (acc : L), i + d = s.length → d < k → acc.length ≤ i →
    broadsheetref13_Quoted.l0 k (mk s) (nums acc) i = some (match quoted (s.drop i) with
      | some p => (mk (acc ++ p.1), mk p.2, true)
      | none => (mk [], mk [], false)) := by
  intro d
  induction d using Nat.strongRecOn with
  | _ d ih =>
    intro k i acc hi hk ha
    obtain ⟨k, rfl⟩ : ∃ k', k = k' + 1 := ⟨k - 1, by omega⟩
    by_cases hd : d = 0
    · rw [broadsheetref13_Quoted.l0, if_neg (by rw [mk_size]; omega), List.drop_eq_nil_of_le (by omega)]
      rfl
    obtain ⟨b, e1, e2⟩ := mk_bt s i (by omega)
    have hlen : (nums acc).length < 140737488355328 := by rw [nums_len]; omega
    have h34 : ((b.toNat : Int) = 34) ↔ b = 34 := u8i b 34 (by omega)
    have h92 : ((b.toNat : Int) = 92) ↔ b = 92 := u8i b 92 (by omega)
    rw [broadsheetref13_Quoted.l0, if_pos (by rw [mk_size]; omega), if_pos (by omega), e2, w1 i (by omega), e1, quoted_cons]
    by_cases c34 : b = 34
    · rw [if_pos (h34.2 c34), if_pos (by omega), if_pos (by rw [mk_size]; omega), if_pos c34, nums_str]
      simp only [Int.toNat_natCast, ext_from, List.append_nil]
    rw [if_neg (fun h => c34 (h34.1 h)), if_neg c34]
    by_cases c92 : b = 92
    · rw [if_pos (h92.2 c92), if_pos c92]
      by_cases hend : i + 1 = s.length
      · rw [if_pos (by rw [mk_size]; omega), List.drop_eq_nil_of_le (by omega)]
        rfl
      · rw [if_neg (by rw [mk_size]; omega), if_pos (by omega), if_pos (by rw [mk_size]; omega)]
        obtain ⟨b', e3, e4⟩ := mk_bt s (i + 1) (by omega)
        rw [e4, ctl_cases, e3]
        simp only
        by_cases hc : ctl b' = true
        · rw [if_pos hc, if_pos hc]
          rfl
        · rw [if_neg hc, if_neg hc, if_pos hlen, nums_snoc, w1 (i + 1) (by omega), ih (d - 2) (by omega) k (i + 1 + 1) (acc ++ [b']) (by omega) (by omega) (by simp; omega)]
          cases quoted (s.drop (i + 1 + 1)) with
          | none => rfl
          | some p => simp
    · rw [if_neg (fun h => c92 (h92.1 h)), if_neg c92, ctl_cases]
      by_cases hc : ctl b = true
      · rw [if_pos hc, if_pos hc]
        rfl
      · rw [if_neg hc, if_neg hc, if_pos hlen, nums_snoc, ih (d - 1) (by omega) k (i + 1) (acc ++ [b]) (by omega) (by omega) (by simp; omega)]
        cases quoted (s.drop (i + 1)) with
        | none => rfl
        | some p => simp
theorem rquotF (s : L) (k : Nat) (hs : s.length ≤ 1000000000000) (hk : s.length < k) : broadsheetref13_Quoted.f k (mk s) = some (match quoted s with
      | some p => (mk p.1, mk p.2, true)
      | none => (mk [], mk [], false)) := by
  have := rquot_l0 s hs s.length k 0 [] (by omega) hk (by simp)
  rw [List.drop_zero] at this
  exact this
theorem rvalueF (s : L) (k : Nat) (hs : s.length ≤ 1000000000000) (hk : s.length + 3 < k) : ∃ q, broadsheetref13_value.f k (mk s) = some q ∧ (∀ v r, value s = some (v, r) → q = (mk v, mk r, true)) ∧ (value s = none → q.2.2 = false) := by
  obtain ⟨k, rfl⟩ : ∃ k', k = k' + 1 := ⟨k - 1, by omega⟩
  have htok : ∀ (hv : value s = if (tok s).1 = [] then none else some (tok s)), ∃ q, broadsheetref13_value.j0 (k + 1) (mk s) false = some q ∧ (∀ v r, value s = some (v, r) → q = (mk v, mk r, true)) ∧ (value s = none → q.2.2 = false) := fun hv => by
    rw [broadsheetref13_value.j0, if_neg (by decide), rtokF s k hs (by omega), hv]
    simp only [Option.bind_some, tl_mk]
    by_cases h2 : (tok s).1 = []
    · rw [if_pos h2, h2]
      exact ⟨_, rfl, by simp, by simp⟩
    · rw [if_neg h2]
      refine ⟨_, rfl, ?_, by simp⟩
      rintro v r h
      have e := Option.some.inj h
      rw [e] at h2 ⊢
      simp at h2
      simp [h2]
  unfold broadsheetref13_value.f
  rw [tl_mk]
  cases s with
  | nil =>
    rw [if_pos rfl]
    exact htok (by unfold value; rw [if_neg (by simp)])
  | cons c r =>
    rw [if_neg (by simp), if_pos (by rw [mk_size]; simp only [List.length_cons]; omega), bt_head]
    have h34 : ((c.toNat : Int) = 34) ↔ c = 34 := u8i c 34 (by omega)
    by_cases c34 : c = 34
    · have hb : ((c.toNat : Int) == 34) = true := by rw [beq_iff_eq]; exact h34.2 c34
      have hv : value (c :: r) = quoted r := by unfold value; rw [if_pos (by simp [c34])]; rfl
      rw [hb, broadsheetref13_value.j0, if_pos rfl, if_pos (by rw [mk_size]; simp only [List.length_cons]; omega), ext1, hv]
      simp only [List.length_cons] at hs hk
      rw [rquotF r k (by omega) (by omega)]
      simp only [Option.bind_some]
      cases e : quoted r with
      | none => exact ⟨_, rfl, by simp, by simp⟩
      | some p => exact ⟨_, rfl, by rintro v r h; obtain rfl := Option.some.inj h; rfl, by simp⟩
    · have hb : ((c.toNat : Int) == 34) = false := by
        rw [Bool.eq_false_iff]
        intro h
        exact c34 (h34.1 (by simpa using h))
      rw [hb]
      exact htok (by unfold value; rw [if_neg (by simp [c34])])
theorem rparams_l0 : ∀ (d f k : Nat) (s : L) (acc : List (L × L)), s.length ≤ d → d < f → 3 * d + 10 ≤ k → acc.length + s.length ≤ 1000000000000 →
    ∃ q, broadsheetref13_Params.l0 k (mk s) (pairsB acc) = some q ∧ parsIs (params f s) acc q := by
  intro d
  induction d with
  | zero =>
    intro f k s acc hs hf hk ha
    obtain ⟨k, rfl⟩ : ∃ k', k = k' + 1 := ⟨k - 1, by omega⟩
    obtain ⟨f, rfl⟩ : ∃ f', f = f' + 1 := ⟨f - 1, by omega⟩
    obtain rfl : s = [] := List.eq_nil_of_length_eq_zero (by omega)
    rw [broadsheetref13_Params.l0, rskipF [] k (by simp; omega)]
    simp only [Option.bind_some, tl_mk]
    rw [if_pos (show skip [] = [] from rfl)]
    exact ⟨_, rfl, by simp [params, skip, parsIs]⟩
  | succ d ih =>
    intro f k s acc hs hf hk ha
    obtain ⟨k, rfl⟩ : ∃ k', k = k' + 2 := ⟨k - 2, by omega⟩
    obtain ⟨f, rfl⟩ : ∃ f', f = f' + 1 := ⟨f - 1, by omega⟩
    have hsk := skip_len s
    rw [broadsheetref13_Params.l0, params, rskipF s (k + 1) (by omega)]
    simp only [Option.bind_some, tl_mk]
    generalize skip s = u at *
    cases u with
    | nil =>
      rw [if_pos (show ([] : L) = [] from rfl), if_pos (show ([] : L) = [] from rfl)]
      exact ⟨_, rfl, by simp [parsIs]⟩
    | cons c r =>
      simp only [List.length_cons] at hsk
      have h59 : ((c.toNat : Int) = 59) ↔ c = 59 := u8i c 59 (by omega)
      rw [if_neg (show ¬ (c :: r = []) by simp), if_neg (show ¬ (c :: r = []) by simp), if_pos (by rw [mk_size]; simp only [List.length_cons]; omega), bt_head]
      by_cases c59 : c = 59
      · rw [if_pos (h59.2 c59), if_neg (show ¬ ((c :: r).head? ≠ some 59) by simp [c59]), if_pos (by rw [mk_size]; simp only [List.length_cons]; omega), ext1, rskipF r (k + 1) (by omega)]
        simp only [Option.bind_some, List.tail_cons]
        have l2 := skip_len r
        rw [rtokF (skip r) (k + 1) (by omega) (by omega)]
        simp only [Option.bind_some, tl_mk]
        have l3 := tok_len (skip r)
        obtain ⟨n, t, hnt⟩ : ∃ n t, tok (skip r) = (n, t) := ⟨_, _, rfl⟩
        simp only [hnt] at l3 ⊢
        by_cases h2 : n = []
        · rw [if_pos h2, if_pos h2, broadsheetref13_Params.j1, if_pos rfl]
          exact ⟨_, rfl, by simp [parsIs]⟩
        rw [if_neg h2, if_neg h2]
        cases t with
        | nil =>
          rw [if_pos rfl, broadsheetref13_Params.j1, if_pos rfl, if_pos (show ([] : L).head? ≠ some 61 by simp)]
          exact ⟨_, rfl, by simp [parsIs]⟩
        | cons e t =>
          simp only [List.length_cons] at l3
          have h61 : ((e.toNat : Int) = 61) ↔ e = 61 := u8i e 61 (by omega)
          rw [if_neg (show ¬ (e :: t = []) by simp), if_pos (by rw [mk_size]; simp only [List.length_cons]; omega), bt_head, broadsheetref13_Params.j1]
          by_cases c61 : e = 61
          · have hb : ((e.toNat : Int) != 61) = false := by simp [bne, h61.2 c61]
            rw [hb, if_neg (by decide), if_pos (by rw [mk_size]; simp only [List.length_cons]; omega), ext1, if_neg (show ¬ ((e :: t).head? ≠ some 61) by simp [c61])]
            simp only [List.tail_cons]
            obtain ⟨q, hq, hy, hn⟩ := rvalueF t k (by omega) (by omega)
            rw [hq]
            simp only [Option.bind_some]
            cases hv : value t with
            | none =>
              rw [hn hv, if_neg (by decide)]
              exact ⟨_, rfl, by simp [parsIs]⟩
            | some p =>
              obtain ⟨v, r'⟩ := p
              have hq2 := hy v r' hv
              subst hq2
              have l5 := value_len _ _ _ hv
              simp only [if_true]
              rw [rlowF n k (by omega) (by omega)]
              simp only [Option.bind_some]
              rw [if_pos (by rw [pairsB_len]; omega)]
              obtain ⟨q, hq, hp⟩ := ih f k r' (acc ++ [(low n, v)]) (by omega) (by omega) (by omega) (by simp only [List.length_append, List.length_singleton]; omega)
              refine ⟨q, ?_, ?_⟩
              · rw [pairsB_app] at hq
                exact hq
              · unfold parsIs at hp ⊢
                cases e : params f r' with
                | none => rw [e] at hp; exact hp
                | some l =>
                  rw [e] at hp
                  simp only [Option.map_some] at hp ⊢
                  rw [hp]
                  simp
          · have hb : ((e.toNat : Int) != 61) = true := by
              rw [bne_iff_ne]
              exact fun h => c61 (h61.1 h)
            rw [hb, if_pos rfl, if_pos (show (e :: t).head? ≠ some 61 by simpa using c61)]
            exact ⟨_, rfl, by simp [parsIs]⟩
      · rw [if_neg (fun h => c59 (h59.1 h)), if_pos (show (c :: r).head? ≠ some 59 by simpa using c59)]
        exact ⟨_, rfl, by simp [parsIs]⟩
theorem rparamsF (s : L) (k : Nat) (hs : s.length ≤ 100000000000) (hk : 3 * s.length + 10 ≤ k) : ∃ q, broadsheetref13_Params.f k (mk s) = some q ∧ parsIs (pars s) [] q := by
  unfold broadsheetref13_Params.f
  exact rparams_l0 s.length (s.length + 1) k s [] (Nat.le_refl _) (by omega) hk (by simp; omega)
theorem parsIs_ok {o : Option (List (L × L))} {acc : List (L × L)} {q : List S49 × Bool} (h : parsIs o acc q) : q.2 = o.isSome := by
  unfold parsIs at h
  cases o with
  | none => rw [h]; rfl
  | some l => simp only at h; rw [h]; rfl
theorem rline_l0 (s : L) (hs : s.length ≤ 1000000000000) : ∀ (d k i : Nat), i + d = s.length → d < k →
    broadsheetref18_line.l0 k (mk s) i = some (match line (s.drop i) with
      | some p => ((i + p.1.length : Nat) : Int)
      | none => -1) := by
  intro d
  induction d with
  | zero =>
    intro k i hi hk
    obtain ⟨k, rfl⟩ : ∃ k', k = k' + 1 := ⟨k - 1, by omega⟩
    rw [broadsheetref18_line.l0, w1 i (by omega), if_neg (by rw [mk_size]; omega), List.drop_eq_nil_of_le (by omega)]
    rfl
  | succ d ih =>
    intro k i hi hk
    obtain ⟨k, rfl⟩ : ∃ k', k = k' + 1 := ⟨k - 1, by omega⟩
    obtain ⟨b, e1, e2⟩ := mk_bt s i (by omega)
    rw [broadsheetref18_line.l0, w1 i (by omega), e1, line]
    by_cases hlt : i + 1 < s.length
    · obtain ⟨b', e3, e4⟩ := mk_bt s (i + 1) hlt
      have hI := ih k (i + 1) (by omega) (by omega)
      have hrest : (some (match line (s.drop (i + 1)) with
          | some p => ((i + 1 + p.1.length : Nat) : Int)
          | none => -1) : Option Int) = some (match (line (s.drop (i + 1))).map fun p => (b :: p.1, p.2) with
          | some p => ((i + p.1.length : Nat) : Int)
          | none => -1) := by
        cases line (s.drop (i + 1)) with
        | none => rfl
        | some p =>
          simp only [Option.map_some, List.length_cons]
          congr 2
          omega
      rw [if_pos (by rw [mk_size]; omega), if_pos (by omega), if_pos (by rw [mk_size]; omega), e2, e4]
      have h13 : ((b.toNat : Int) = 13) ↔ b = 13 := u8i b 13 (by omega)
      have h10 : ((b'.toNat : Int) = 10) ↔ b' = 10 := u8i b' 10 (by omega)
      by_cases c13 : b = 13
      · rw [if_pos (h13.2 c13), if_pos (by omega)]
        by_cases c10 : b' = 10
        · rw [if_pos (h10.2 c10), if_pos ⟨c13, by rw [e3]; simp [c10]⟩]
          simp
        · rw [if_neg (fun h => c10 (h10.1 h)), if_neg (by rw [e3]; simp [c10]), hI]
          exact hrest
      · rw [if_neg (fun h => c13 (h13.1 h)), if_neg (fun h => c13 h.1), hI]
        exact hrest
    · rw [if_neg (by rw [mk_size]; omega)]
      have hnil : s.drop (i + 1) = [] := List.drop_eq_nil_of_le (by omega)
      rw [hnil, if_neg (by simp)]
      rfl
theorem rLineF (s : L) (k : Nat) (hs : s.length ≤ 1000000000000) (hk : s.length < k) : broadsheetref18_Line.f k (mk s) = some (match line s with
      | some p => (mk p.1, mk p.2, true)
      | none => (mk [], mk [], false)) := by
  have h0 := rline_l0 s hs s.length k 0 (by omega) hk
  rw [List.drop_zero] at h0
  unfold broadsheetref18_Line.f broadsheetref18_line.f
  rw [show (0 : Int) = ((0 : Nat) : Int) from rfl, h0]
  simp only [Option.bind_some]
  cases e : line s with
  | none => rw [if_pos (by simp)]; rfl
  | some p =>
    have hl := line_len s p e
    have hl2 := congrArg List.length hl
    simp only [List.length_append, List.length_cons] at hl2
    simp only [Nat.zero_add]
    rw [if_neg (by omega), if_pos (by omega), if_pos (by rw [mk_size]; omega), w2 _ (by omega), if_pos (by omega), if_pos (by rw [mk_size]; omega)]
    simp only [Int.toNat_natCast, ext_to, ext_from]
    have t1 : (p.1 ++ 13 :: 10 :: p.2).take p.1.length = p.1 := List.take_left' rfl
    have t2 : (p.1 ++ 13 :: 10 :: p.2).drop (p.1.length + 2) = p.2 := by
      rw [← List.drop_drop, List.drop_left' rfl]
      rfl
    rw [← hl] at t1 t2
    rw [t1, t2]
theorem rtrim_l0 : ∀ (n : Nat) (s : L) (k : Nat), s.length ≤ n → n < k → s.length ≤ 1000000000000 → broadsheetref18_Trim.l0 k (mk s) = some (mk (skip s.reverse).reverse) := by
  intro n
  induction n with
  | zero =>
    intro s k hn hk hs
    obtain ⟨k, rfl⟩ : ∃ k', k = k' + 1 := ⟨k - 1, by omega⟩
    obtain rfl : s = [] := List.eq_nil_of_length_eq_zero (by omega)
    rw [broadsheetref18_Trim.l0, if_neg (by rw [mk_size]; simp)]
    rfl
  | succ n ih =>
    intro s k hn hk hs
    obtain ⟨k, rfl⟩ : ∃ k', k = k' + 1 := ⟨k - 1, by omega⟩
    rw [broadsheetref18_Trim.l0]
    by_cases h0 : s = []
    · subst h0
      rw [if_neg (by rw [mk_size]; simp)]
      rfl
    have hp : 0 < s.length := List.length_pos_iff.2 h0
    have hw : wrap64 ((((mk s).size : Nat) : Int) - 1) = ((s.length - 1 : Nat) : Int) := by rw [mk_size, wrap_id (by omega) (by omega)]; omega
    obtain ⟨b, e1, e2⟩ := mk_bt s (s.length - 1) (by omega)
    have e3 : s.drop (s.length - 1 + 1) = [] := List.drop_eq_nil_of_le (by omega)
    rw [e3] at e1
    have es : s = s.take (s.length - 1) ++ [b] := by rw [← e1, List.take_append_drop]
    rw [hw, if_pos (by rw [mk_size]; omega), if_pos (by omega), if_pos (by rw [mk_size]; omega), e2]
    have h32 : ((b.toNat : Int) = 32) ↔ b = 32 := u8i b 32 (by omega)
    have h9 : ((b.toNat : Int) = 9) ↔ b = 9 := u8i b 9 (by omega)
    simp only [Int.toNat_natCast, ext_to]
    have hI := ih (s.take (s.length - 1)) k (by rw [List.length_take]; omega) (by omega) (by rw [List.length_take]; omega)
    have hrev : s.reverse = b :: (s.take (s.length - 1)).reverse := by conv => lhs; rw [es]; simp
    have hgo : bl b = true → skip s.reverse = skip (s.take (s.length - 1)).reverse := fun h => by
      rw [hrev]
      unfold skip
      rw [List.dropWhile_cons_of_pos h]
    by_cases c32 : b = 32
    · rw [if_pos (h32.2 c32), if_pos (by rw [mk_size]; omega), hI, hgo (by simp [bl, c32])]
    · rw [if_neg (fun h => c32 (h32.1 h))]
      by_cases c9 : b = 9
      · rw [if_pos (h9.2 c9), if_pos (by rw [mk_size]; omega), hI, hgo (by simp [bl, c9])]
      · rw [if_neg (fun h => c9 (h9.1 h))]
        have : skip s.reverse = s.reverse := by
          rw [hrev]
          unfold skip
          rw [List.dropWhile_cons_of_neg (by simp [bl, c32, c9])]
        rw [this, List.reverse_reverse]
theorem rtrimF (s : L) (k : Nat) (hs : s.length ≤ 1000000000000) (hk : s.length < k) : broadsheetref18_Trim.f k (mk s) = some (mk (trim s)) := by
  have := skip_len s
  unfold broadsheetref18_Trim.f
  rw [rskipF s k hk]
  simp only [Option.bind_some]
  rw [rtrim_l0 s.length (skip s) k (by omega) hk (by omega)]
  rfl
theorem rvalue_l0 (s : L) (hs : s.length ≤ 1000000000000) : ∀ (d k i : Nat), i + d = s.length → d + s.length + 1 < k →
    broadsheetref18_Value.l0 k (mk s) i = some ((s.drop i).all (fun c => !ctl c) && decide (trim s = s)) := by
  intro d
  induction d with
  | zero =>
    intro k i hi hk
    obtain ⟨k, rfl⟩ : ∃ k', k = k' + 1 := ⟨k - 1, by omega⟩
    rw [broadsheetref18_Value.l0, if_neg (by rw [mk_size]; omega), rtrimF s k hs (by omega), List.drop_eq_nil_of_le (by omega)]
    simp only [Option.bind_some, tl_mk, List.all_nil, Bool.true_and]
    congr 1
    rw [Bool.eq_iff_iff]
    simp
  | succ d ih =>
    intro k i hi hk
    obtain ⟨k, rfl⟩ : ∃ k', k = k' + 1 := ⟨k - 1, by omega⟩
    obtain ⟨b, e1, e2⟩ := mk_bt s i (by omega)
    rw [broadsheetref18_Value.l0, if_pos (by rw [mk_size]; omega), if_pos (by omega), e2, w1 i (by omega), ctl_cases, e1, List.all_cons, ih k (i + 1) (by omega) (by omega)]
    cases hc : ctl b <;> simp
theorem rfvalF (s : L) (k : Nat) (hs : s.length ≤ 1000000000000) (hk : 2 * s.length + 2 < k) : broadsheetref18_Value.f k (mk s) = some (fval s) := by
  have := rvalue_l0 s hs s.length k 0 (by omega) (by omega)
  rw [List.drop_zero] at this
  exact this
theorem pairOf_of {l n t : L} (h : tok l = (n, t)) : pairOf l = if n = [] then none else if t.head? ≠ some 58 then none else if fval (trim t.tail) = true then some (low n, trim t.tail) else none := by
  unfold pairOf
  rw [h]
/-- What a reader of fields gives, as texts. -/
def fldB (r : List (L × L) × L × Int) : List S49 × ByteArray × Int := (pairsB r.1, mk r.2.1, r.2.2)
theorem rparse_l0 (s0 : L) (hs0 : s0.length ≤ 100000000000) : ∀ (d f k : Nat) (s : L) (acc : List (L × L)), s.length ≤ d → d < f → 6 * d + 20 ≤ k → s.length ≤ s0.length → acc.length + s.length ≤ s0.length →
    broadsheetref18_Parse.l0 k (mk s0) (pairsB acc) (mk s) = some (fldB (fparse s0.length f s acc)) := by
  intro d
  induction d with
  | zero =>
    intro f k s acc hs hf hk hl ha
    obtain ⟨k, rfl⟩ : ∃ k', k = k' + 2 := ⟨k - 2, by omega⟩
    obtain ⟨f, rfl⟩ : ∃ f', f = f' + 1 := ⟨f - 1, by omega⟩
    obtain rfl : s = [] := List.eq_nil_of_length_eq_zero (by omega)
    rw [broadsheetref18_Parse.l0, rLineF [] (k + 1) (by simp) (by simp), fparse]
    simp only [Option.bind_some, line]
    rw [if_neg (by decide), broadsheetref18_Parse.j1, if_pos rfl, mk_size]
    by_cases h8 : s0.length > 8000
    · rw [if_pos (by omega), if_pos h8]; rfl
    · rw [if_neg (by omega), if_neg h8]; rfl
  | succ d ih =>
    intro f k s acc hs hf hk hl ha
    obtain ⟨k, rfl⟩ : ∃ k', k = k' + 3 := ⟨k - 3, by omega⟩
    obtain ⟨f, rfl⟩ : ∃ f', f = f' + 1 := ⟨f - 1, by omega⟩
    rw [broadsheetref18_Parse.l0, rLineF s (k + 2) (by omega) (by omega), fparse]
    have hbad : (if (((mk s0).size : Nat) : Int) > 8000 then (some (([] : List S49), (⟨#[]⟩ : ByteArray), (2 : Int))) else (some (([] : List S49), (⟨#[]⟩ : ByteArray), (180 : Int)))) = some (fldB ([], [], if s0.length > 8000 then 2 else 180)) := by
      rw [mk_size]
      by_cases h8 : s0.length > 8000
      · rw [if_pos (by omega), if_pos h8]; rfl
      · rw [if_neg (by omega), if_neg h8]; rfl
    cases e : line s with
    | none =>
      simp only [Option.bind_some]
      rw [if_neg (by decide), broadsheetref18_Parse.j1, if_pos rfl, hbad]
    | some p =>
      obtain ⟨l, more⟩ := p
      have hll := congrArg List.length (line_len s _ e)
      simp only [List.length_append, List.length_cons] at hll
      simp only [Option.bind_some, if_true]
      have hw : wrap64 ((((mk s0).size : Nat) : Int) - (((mk more).size : Nat) : Int)) = ((s0.length - more.length : Nat) : Int) := by rw [mk_size, mk_size, wrap_id (by omega) (by omega)]; omega
      rw [hw]
      by_cases h8 : s0.length - more.length > 8000
      · rw [decide_eq_true (show ((s0.length - more.length : Nat) : Int) > 8000 by omega), if_pos h8, broadsheetref18_Parse.j1, if_pos rfl, hbad]
      rw [decide_eq_false (show ¬ ((s0.length - more.length : Nat) : Int) > 8000 by omega), if_neg h8, broadsheetref18_Parse.j1, if_neg (by decide), tl_mk]
      by_cases h0 : l = []
      · rw [if_pos h0, if_pos h0]; rfl
      rw [if_neg h0, if_neg h0, rtokF l (k + 1) (by omega) (by omega)]
      simp only [Option.bind_some, tl_mk]
      have l3 := tok_len l
      obtain ⟨n, t, hnt⟩ : ∃ n t, tok l = (n, t) := ⟨_, _, rfl⟩
      have hpo := pairOf_of hnt
      simp only [hnt] at l3 ⊢
      have hno : pairOf l = none → broadsheetref18_Parse.j2 (k + 1) (mk s0) (pairsB acc) (mk more) (mk n) (mk t) true = some (fldB (match pairOf l with
          | none => ([], [], 180)
          | some p => fparse s0.length f more (acc ++ [p]))) := fun h => by
        rw [h, broadsheetref18_Parse.j2, if_pos rfl]
        rfl
      by_cases h2 : n = []
      · rw [if_pos h2] at hpo ⊢
        exact hno hpo
      rw [if_neg h2] at hpo ⊢
      cases t with
      | nil =>
        rw [if_pos (show ([] : L).head? ≠ some 58 by simp)] at hpo
        rw [if_pos (show ([] : L) = [] from rfl)]
        exact hno hpo
      | cons c v =>
        simp only [List.length_cons] at l3
        have h58 : ((c.toNat : Int) = 58) ↔ c = 58 := u8i c 58 (by omega)
        rw [if_neg (show ¬ (c :: v = []) by simp), if_pos (by rw [mk_size]; simp only [List.length_cons]; omega), bt_head]
        by_cases c58 : c = 58
        · rw [if_neg (show ¬ ((c :: v).head? ≠ some 58) by simp [c58]), List.tail_cons] at hpo
          rw [if_pos (h58.2 c58), if_pos (by rw [mk_size]; simp only [List.length_cons]; omega), ext1]
          have lt := trim_len v
          rw [rtrimF v (k + 1) (by omega) (by omega)]
          simp only [Option.bind_some]
          rw [rfvalF (trim v) (k + 1) (by omega) (by omega)]
          simp only [Option.bind_some]
          by_cases hfv : fval (trim v) = true
          case neg =>
            have hfv2 : fval (trim v) = false := by simpa using hfv
            rw [if_neg hfv] at hpo
            rw [hfv2]
            exact hno hpo
          case pos =>
            rw [if_pos hfv] at hpo
            rw [broadsheetref18_Parse.j2, if_neg (show ¬ (!fval (trim v)) = true by rw [hfv]; decide), rlowF n k (by omega) (by omega)]
            simp only [Option.bind_some]
            rw [if_pos (by rw [mk_size]; simp only [List.length_cons]; omega), ext1, rtrimF v k (by omega) (by omega)]
            simp only [Option.bind_some]
            rw [if_pos (by rw [pairsB_len]; omega), hpo]
            have := ih f k more (acc ++ [(low n, trim v)]) (by omega) (by omega) (by omega) (by omega) (by simp only [List.length_append, List.length_singleton]; omega)
            rw [pairsB_app] at this
            exact this
        · rw [if_pos (show (c :: v).head? ≠ some 58 by simpa using c58)] at hpo
          rw [if_neg (fun h => c58 (h58.1 h))]
          exact hno hpo
theorem rparseF (s : L) (k : Nat) (hs : s.length ≤ 100000000000) (hk : 6 * s.length + 20 ≤ k) : broadsheetref18_Parse.f k (mk s) = some (fldB (fields s)) := by
  unfold broadsheetref18_Parse.f
  exact rparse_l0 s hs s.length (s.length + 1) k s [] (Nat.le_refl _) (by omega) hk (Nat.le_refl _) (by simp)
end Go.Proofs.YteonhdfjfjpbjaaGreatDoor.Sp
/- SpB -/
namespace Go.Proofs.YteonhdfjfjpbjaaGreatDoor.Sp
open Go
set_option linter.unusedVariables false
set_option linter.unusedSimpArgs false
theorem hexN_app (a b : L) : hexN (a ++ b) = b.foldl (fun n c => n * 16 + (hexV c).getD 0) (hexN a) := by unfold hexN; rw [List.foldl_append]
theorem takeWhile_all {p : UInt8 → Bool} : ∀ {l : L}, (∀ c ∈ l, p c = true) → l.takeWhile p = l ∧ l.dropWhile p = []
  | [], _ => ⟨rfl, rfl⟩
  | c :: r, h => by
    have hc := h c (by simp)
    obtain ⟨h1, h2⟩ := takeWhile_all (l := r) (fun x hx => h x (by simp [hx]))
    exact ⟨by rw [List.takeWhile_cons_of_pos hc, h1], by rw [List.dropWhile_cons_of_pos hc, h2]⟩
end Go.Proofs.YteonhdfjfjpbjaaGreatDoor.Sp
/- SpE -/
namespace Go.Proofs.YteonhdfjfjpbjaaGreatDoor.Sp
open Go Go.RowKit Go.Proofs.YteonhdfjfjpbjaaGreatDoorW.PrintWords Go.Proofs.YteonhdfjfjpbjaaGreatDoorW.PrintLast Go.Proofs.YteonhdfjfjpbjaaGreatDoor.O Go.Proofs.YteonhdfjfjpbjaaGreatDoor.P
set_option linter.unusedVariables false
set_option linter.unusedSimpArgs false
def hexS : L := [48, 49, 50, 51, 52, 53, 54, 55, 56, 57, 97, 98, 99, 100, 101, 102, 65, 66, 67, 68, 69, 70]
theorem hexS_all : ∀ a : Fin 256, hexS.contains (UInt8.ofNat a.val) = hexB (UInt8.ofNat a.val) ∧ isHex ((UInt8.ofNat a.val).toNat : Int) = hexB (UInt8.ofNat a.val) ∧ (hexB (UInt8.ofNat a.val) = true → hexI ((UInt8.ofNat a.val).toNat : Int) = (((hexV (UInt8.ofNat a.val)).getD 0 : Nat) : Int)) ∧ (hexV (UInt8.ofNat a.val)).getD 0 < 16 := by decide +kernel
theorem hex_eq : (hexS.contains · : UInt8 → Bool) = hexB := by
  funext c
  obtain ⟨a, rfl⟩ := u8_fin c
  exact (hexS_all a).1
theorem isHex_b (c : UInt8) : isHex (c.toNat : Int) = hexB c := by
  obtain ⟨a, rfl⟩ := u8_fin c
  exact (hexS_all a).2.1
theorem hexI_b (c : UInt8) (h : hexB c = true) : hexI (c.toNat : Int) = (((hexV c).getD 0 : Nat) : Int) := by
  obtain ⟨a, rfl⟩ := u8_fin c
  exact (hexS_all a).2.2.1 h
theorem hexV_lt (c : UInt8) : (hexV c).getD 0 < 16 := by
  obtain ⟨a, rfl⟩ := u8_fin c
  exact (hexS_all a).2.2.2
theorem trimHexF (l : L) : strings_TrimLeft.f (mk l) (mk hexS) = some (mk (l.dropWhile hexB)) := by
  unfold strings_TrimLeft.f
  rw [if_pos ⟨by decide, by decide⟩, mk_data, mk_data]
  unfold Lib.trimLeftS
  rw [hex_eq]
  rfl
theorem hexN_snoc (a : L) (c : UInt8) : hexN (a ++ [c]) = hexN a * 16 + (hexV c).getD 0 := by rw [hexN_app]; rfl
theorem hexN_lt (a : L) : hexN a < 16 ^ a.length := by
  suffices h : ∀ (n : Nat) (a : L), a.length = n → hexN a < 16 ^ n from h _ a rfl
  intro n
  induction n with
  | zero =>
    intro a ha
    rw [List.eq_nil_of_length_eq_zero ha]
    decide
  | succ n ih =>
    intro a ha
    have hne : a ≠ [] := by rintro rfl; simp at ha
    rw [← List.dropLast_concat_getLast hne, hexN_snoc, Nat.pow_succ]
    have h1 := ih a.dropLast (by rw [List.length_dropLast]; omega)
    have h2 := hexV_lt (a.getLast hne)
    omega
theorem puR_eq (s : L) (hs : s.length ≤ 8) (hx : ∀ c ∈ s, hexB c = true) : ∀ (f k : Nat), k + f = s.length → puR (mk s) f k ((hexN (s.take k) : Nat) : Int) = (((hexN s : Nat) : Int), none) := by
  intro f
  induction f with
  | zero =>
    intro k hk
    rw [puR, List.take_of_length_le (by omega)]
  | succ f ih =>
    intro k hk
    obtain ⟨b, e1, e2⟩ := mk_bt s k (by omega)
    have hb : b ∈ s := List.mem_of_mem_drop (by rw [e1]; simp)
    have hlt := hexN_lt (s.take k)
    have hk2 : (s.take k).length = k := by rw [List.length_take]; omega
    have h16 : 16 ^ k ≤ 16 ^ 8 := Nat.pow_le_pow_right (by decide) (by omega)
    rw [hk2] at hlt
    have hpow : (16 : Nat) ^ 8 = 4294967296 := by decide
    have et : s.take (k + 1) = s.take k ++ [b] := by
      have hd : s = s.take k ++ (b :: s.drop (k + 1)) := by rw [← e1, List.take_append_drop]
      have : (s.take k ++ (b :: s.drop (k + 1))).take (k + 1) = s.take k ++ [b] := by
        rw [List.take_append, hk2]
        simp
        rw [List.take_of_length_le (by omega)]
      rw [← hd] at this
      exact this
    rw [puR, if_neg (by omega), e2, hexI_b b (hx b hb)]
    have e3 : ((hexN (s.take k) : Nat) : Int) * 16 + (((hexV b).getD 0 : Nat) : Int) = ((hexN (s.take (k + 1)) : Nat) : Int) := by rw [et, hexN_snoc]; omega
    rw [e3]
    exact ih (k + 1) (by omega)
theorem puS_eq (s : L) (hs : s.length ≤ 8) (hx : ∀ c ∈ s, hexB c = true) (hne : s ≠ []) : puS (mk s) = (((hexN s : Nat) : Int), none) := by
  unfold puS
  rw [mk_size, if_neg (fun h => hne (List.eq_nil_of_length_eq_zero h))]
  have := puR_eq s hs hx s.length 0 (by omega)
  simpa [hexN] using this
theorem puF (s : L) (hs : s.length ≤ 100000000000) (hx : ∀ c ∈ s, hexB c = true) : strconv_ParseUint.f (mk s) 16 64 = some (puS (mk s)) := by
  have hh : allHex (mk s) = true := by
    unfold allHex
    rw [List.all_eq_true]
    intro j hj
    rw [List.mem_range, mk_size] at hj
    obtain ⟨b, e1, e2⟩ := mk_bt s j hj
    rw [e2, isHex_b]
    exact hx b (List.mem_of_mem_drop (by rw [e1]; simp))
  unfold strconv_ParseUint.f
  rw [if_pos ⟨rfl, rfl, hh, by rw [mk_size]; omega⟩]
theorem sizeF (l : L) (k : Nat) (hl : l.length ≤ 10000000000) (hk : 3 * l.length + 10 ≤ k) : ∃ n, chunk_size.f k (mk l) = some (n, (csize l).isSome) ∧ (∀ m, csize l = some m → n = (m : Int)) := by
  have hsum : (l.takeWhile hexB).length + (l.dropWhile hexB).length = l.length := by
    have := congrArg List.length (List.takeWhile_append_dropWhile (p := hexB) (l := l))
    rwa [List.length_append] at this
  have hx : ∀ c ∈ l.takeWhile hexB, hexB c = true := fun c hc => mem_tw hc
  have e0 : l.take (l.takeWhile hexB).length = l.takeWhile hexB := take_tw hexB l
  have e1 : l.drop (l.takeWhile hexB).length = l.dropWhile hexB := drop_tw hexB l
  have htw := puF (l.takeWhile hexB) (by omega) hx
  obtain ⟨q, hq, hp⟩ := paramsF (l.dropWhile hexB) k (by omega) (by omega)
  have hok := parsIs_ok hp
  unfold chunk_size.f
  rw [show (⟨#[48, 49, 50, 51, 52, 53, 54, 55, 56, 57, 97, 98, 99, 100, 101, 102, 65, 66, 67, 68, 69, 70]⟩ : ByteArray) = mk hexS from rfl, trimHexF]
  simp only [Option.bind_some, mk_size]
  have hw : wrap64 ((l.length : Int) - ((l.dropWhile hexB).length : Int)) = (((l.takeWhile hexB).length : Nat) : Int) := by rw [wrap_id (by omega) (by omega)]; omega
  rw [hw, if_pos (by omega), if_pos (by omega)]
  simp only [Int.toNat_natCast, ext_to, e0, mk_size]
  rw [if_pos (by omega), if_pos (by omega)]
  have e2 : (mk l).extract (l.takeWhile hexB).length l.length = mk (l.dropWhile hexB) := by
    have := ext_from l (l.takeWhile hexB).length
    rw [mk_size, e1] at this
    exact this
  rw [e2, hq]
  simp only [Option.bind_some]
  rw [htw]
  simp only [Option.bind_some]
  simp only at hok
  rw [hok]
  by_cases c1 : l.takeWhile hexB = []
  · have hc : csize l = none := by unfold csize; rw [if_pos (.inl c1)]
    have hz : puS (mk []) = (0, some 0) := by unfold puS; rw [if_pos (by rw [mk_size]; rfl)]
    rw [hc, c1, hz]
    simp only [Option.isNone_some, Bool.false_eq_true, if_false]
    cases (pars (l.dropWhile hexB)).isSome <;> exact ⟨_, rfl, by simp⟩
  by_cases c2 : 8 < (l.takeWhile hexB).length
  · have hc : csize l = none := by unfold csize; rw [if_pos (.inr (.inl c2))]
    rw [hc, decide_eq_false (by omega)]
    refine ⟨wrap64 (puS (mk (l.takeWhile hexB))).1, ?_, by simp⟩
    cases (pars (l.dropWhile hexB)).isSome <;> cases (puS (mk (l.takeWhile hexB))).2 <;> rfl
  rw [puS_eq _ (by omega) hx c1, decide_eq_true (by omega)]
  cases c3 : pars (l.dropWhile hexB) with
  | none =>
    have hc : csize l = none := by unfold csize; rw [if_pos (.inr (.inr c3))]
    rw [hc]
    exact ⟨_, rfl, by simp⟩
  | some ps =>
    have hc : csize l = some (hexN (l.takeWhile hexB)) := by unfold csize; rw [if_neg (by simp [c1, c2, c3])]
    have hlt := hexN_lt (l.takeWhile hexB)
    have h16 : 16 ^ (l.takeWhile hexB).length ≤ 16 ^ 8 := Nat.pow_le_pow_right (by decide) (by omega)
    have hpow : (16 : Nat) ^ 8 = 4294967296 := by decide
    refine ⟨((hexN (l.takeWhile hexB) : Nat) : Int), ?_, fun m hm => by rw [hc] at hm; obtain rfl := Option.some.inj hm; rfl⟩
    rw [hc]
    simp only [Option.isNone_none, Option.isSome_some, if_true]
    rw [wrap_id (by omega) (by omega)]
def txt3 (r : L × L × Int) : ByteArray × ByteArray × Int := (mk r.1, mk r.2.1, r.2.2)
theorem fldF (s : L) (hs : s.length < 4294967281) : field_Parse.f (mk s) = some (fldB (fields s)) := by
  unfold field_Parse.f fieldsB
  rw [if_pos (by rw [mk_size]; exact hs), mk_data]
  rfl
theorem partF (s : L) (n had : Nat) (hs : s.length ≤ 100000000000) (hn : n ≤ 100000000000) (hh : had ≤ 100000) : chunk_part.f (mk s) n had = some (txt3 (if n + had > 100000 then ([], [], 2) else if s.length < n then ([], [], 190) else if (s.drop n).take 2 ≠ [13, 10] then ([], [], 190) else (s.take n, s.drop (n + 2), 0))) := by
  unfold chunk_part.f
  have hw : wrap64 (100000 - (had : Int)) = ((100000 - had : Nat) : Int) := by rw [wrap_id (by omega) (by omega)]; omega
  rw [hw, mk_size]
  by_cases h1 : n + had > 100000
  · rw [if_pos (by omega), if_pos h1]; rfl
  rw [if_neg (by omega), if_neg h1]
  by_cases h2 : s.length < n
  · rw [if_pos (by omega), if_pos h2]; rfl
  rw [if_neg (by omega), if_neg h2, if_pos (by omega), if_pos (by omega)]
  have e2 : (mk s).extract (((n : Nat) : Int)).toNat s.length = mk (s.drop n) := by
    have := ext_from s n
    rw [mk_size] at this
    exact this
  rw [e2, show (⟨#[13, 10]⟩ : ByteArray) = mk [13, 10] from rfl, cutPF]
  simp only [Option.bind_some, Int.toNat_natCast, ext_to]
  by_cases h3 : (s.drop n).take 2 = [13, 10]
  · have hp : hasP (s.drop n) [13, 10] = true := by unfold hasP; exact decide_eq_true h3
    rw [if_pos hp, if_neg (show ¬ ((s.drop n).take 2 ≠ [13, 10]) from fun h => h h3)]
    simp only [if_true, List.length_cons, List.length_nil, List.drop_drop]
    rfl
  · have hp : ¬ hasP (s.drop n) [13, 10] = true := by unfold hasP; intro h; exact h3 (of_decide_eq_true h)
    rw [if_neg hp, if_pos h3]
    rfl
theorem csize_lt {l : L} {n : Nat} (h : csize l = some n) : n ≤ 4294967296 := by
  unfold csize at h
  split at h
  · simp at h
  · rename_i hc
    obtain rfl := Option.some.inj h
    have hlt := hexN_lt (l.takeWhile hexB)
    have h8 : ¬ 8 < (l.takeWhile hexB).length := fun h => hc (.inr (.inl h))
    have h16 : 16 ^ (l.takeWhile hexB).length ≤ 16 ^ 8 := Nat.pow_le_pow_right (by decide) (by omega)
    have hpow : (16 : Nat) ^ 8 = 4294967296 := by decide
    omega
theorem line_cut (s : L) : (line s = none ∧ Lib.cut s [13, 10] = (s, [], false)) ∨ (∃ p, line s = some p ∧ Lib.cut s [13, 10] = (p.1, p.2, true)) := by
  cases e : line s with
  | none =>
    have hb : lineB (mk s) = none := by unfold lineB; rw [mk_data, e]; rfl
    have := cut_none (mk s) hb
    rw [mk_data] at this
    exact .inl ⟨rfl, this⟩
  | some p =>
    have hb : lineB (mk s) = some (mk p.1, mk p.2) := by unfold lineB; rw [mk_data, e]; rfl
    have := cut_some (mk s) (mk p.1) (mk p.2) hb
    rw [mk_data, mk_data, mk_data] at this
    exact .inr ⟨p, rfl, this⟩
theorem decode_l0 : ∀ (d f k : Nat) (s acc : L), s.length ≤ d → d < f → 5 * d + 30 ≤ k → s.length < 4294967281 → acc.length ≤ 100000 →
    chunk_Decode.l0 k (mk s) (mk acc) = some (txt3 (decode f s acc)) := by
  intro d
  induction d with
  | zero =>
    intro f k s acc hs hf hk hl ha
    obtain ⟨k, rfl⟩ : ∃ k', k = k' + 2 := ⟨k - 2, by omega⟩
    obtain ⟨f, rfl⟩ : ∃ f', f = f' + 1 := ⟨f - 1, by omega⟩
    obtain rfl : s = [] := List.eq_nil_of_length_eq_zero (by omega)
    have e : Lib.cut ([] : L) [13, 10] = ([], [], false) := by decide
    rw [chunk_Decode.l0, show (⟨#[13, 10]⟩ : ByteArray) = mk [13, 10] from rfl, cut_l, if_pos (by simp), e]
    simp only [Option.bind_some]
    obtain ⟨n, hn, _⟩ := sizeF [] (k + 1) (by simp) (by simp; omega)
    rw [hn]
    simp only [Option.bind_some]
    rw [if_neg (by decide), chunk_Decode.j1, if_pos rfl]
    rfl
  | succ d ih =>
    intro f k s acc hs hf hk hl ha
    obtain ⟨k, rfl⟩ : ∃ k', k = k' + 2 := ⟨k - 2, by omega⟩
    obtain ⟨f, rfl⟩ : ∃ f', f = f' + 1 := ⟨f - 1, by omega⟩
    rw [chunk_Decode.l0, show (⟨#[13, 10]⟩ : ByteArray) = mk [13, 10] from rfl, cut_l, if_pos hl, decode]
    rcases line_cut s with ⟨e1, e2⟩ | ⟨p, e1, e2⟩
    · rw [e1, e2]
      simp only [Option.bind_some]
      obtain ⟨n, hn, _⟩ := sizeF s (k + 1) (by omega) (by omega)
      rw [hn]
      simp only [Option.bind_some]
      rw [if_neg (by decide), chunk_Decode.j1, if_pos rfl]
      rfl
    · obtain ⟨l, more⟩ := p
      rw [e1, e2]
      have hll := congrArg List.length (line_len s _ e1)
      simp only [List.length_append, List.length_cons] at hll
      simp only [Option.bind_some]
      obtain ⟨n, hn, hm⟩ := sizeF l (k + 1) (by omega) (by omega)
      rw [hn]
      simp only [Option.bind_some, if_true]
      rw [chunk_Decode.j1]
      cases ec : csize l with
      | none =>
        rw [if_pos (by rfl)]
        rfl
      | some m =>
        have hnm := hm m ec
        subst hnm
        have hmb := csize_lt ec
        rw [if_neg (by simp)]
        simp only
        by_cases h0 : m = 0
        · rw [if_pos (by omega), if_pos h0, fldF more (by omega)]
          simp only [Option.bind_some]
          by_cases hz : (fields more).2.2 = 0
          · rw [if_pos (show (fldB (fields more)).2.2 = 0 from hz), if_pos hz]
            rfl
          · rw [if_neg (show ¬ (fldB (fields more)).2.2 = 0 from hz), if_neg hz]
            rfl
        · rw [if_neg (by omega), if_neg h0]
          have eL : Builder_Len.f (mk acc) = some (((acc.length : Nat) : Int), mk acc) := by unfold Builder_Len.f; rw [mk_size]
          rw [eL]
          simp only [Option.bind_some]
          rw [partF more m acc.length (by omega) (by omega) ha]
          simp only [Option.bind_some]
          by_cases h1 : m + acc.length > 100000
          · rw [if_pos h1, if_pos h1, if_neg (by decide)]
            rfl
          rw [if_neg h1, if_neg h1]
          by_cases h2 : more.length < m
          · rw [if_pos h2, if_pos h2, if_neg (by decide)]
            rfl
          rw [if_neg h2, if_neg h2]
          by_cases h3 : (more.drop m).take 2 ≠ [13, 10]
          · rw [if_pos h3, if_pos h3, if_neg (by decide)]
            rfl
          rw [if_neg h3, if_neg h3, if_pos (by rfl)]
          have htl : (more.take m).length = m := by rw [List.length_take]; omega
          have eW : Builder_WriteString.f (mk acc) (txt3 (more.take m, more.drop (m + 2), 0)).1 = some ((((more.take m).length : Nat) : Int), none, mk (acc ++ more.take m)) := by
            unfold Builder_WriteString.f txt3
            simp only [mk_size]
            rw [if_pos (by omega), mk_append]
          rw [eW]
          simp only [Option.bind_some]
          exact ih f k (more.drop (m + 2)) (acc ++ more.take m) (by rw [List.length_drop]; omega) (by omega) (by omega) (by rw [List.length_drop]; omega) (by rw [List.length_append, htl]; omega)
theorem decodeF (s : L) (k : Nat) (hs : s.length < 4294967281) (hk : 5 * s.length + 30 ≤ k) : chunk_Decode.f k (mk s) = some (txt3 (dec s)) :=
  decode_l0 s.length (s.length + 1) k s [] (Nat.le_refl _) (by omega) hk hs (by simp)
/-- What is told of a body, and the error. -/
def encR (s : L) (n : Int) : L × Int := if n < 1 then ([], 1) else if s.length > 100000 then ([], 2) else (enc s n.toNat, 0)
end Go.Proofs.YteonhdfjfjpbjaaGreatDoor.Sp
/- Oreq -/
namespace Go.Proofs.YteonhdfjfjpbjaaGreatDoor.Sp
open Go.RowKit Go.Proofs.YteonhdfjfjpbjaaGreatDoorW.PrintWords Go.Proofs.YteonhdfjfjpbjaaGreatDoorW.PrintLast Go.Proofs.YteonhdfjfjpbjaaGreatDoor.O Go.Proofs.YteonhdfjfjpbjaaGreatDoor.P
set_option linter.unusedVariables false
set_option linter.unusedSimpArgs false
def hostL : L := [104, 111, 115, 116]
def clenL : L := [99, 111, 110, 116, 101, 110, 116, 45, 108, 101, 110, 103, 116, 104]
def tencL : L := [116, 114, 97, 110, 115, 102, 101, 114, 45, 101, 110, 99, 111, 100, 105, 110, 103]
def chunkedL : L := [99, 104, 117, 110, 107, 101, 100]
def httpL : L := [72, 84, 84, 80, 47, 49, 46, 49]
def bodyS (l : List (L × L)) (s : L) : L × Int :=
  if 1 < (get l clenL).2 ∨ (0 < (get l clenL).2 ∧ 0 < (get l tencL).2) then ([], 190)
  else if 0 < (get l tencL).2 then (if low (get l tencL).1 = chunkedL then (if (dec s).2.2 = 0 then (if (dec s).2.1 = [] then ((dec s).1, 0) else ([], 190)) else ([], (dec s).2.2)) else ([], 190))
  else if 0 < (get l clenL).2 then (s, sizeE s.length (get l clenL).1)
  else if s = [] then ([], 0) else ([], 190)
def firstS (a b c : L) : Bool := decide (c = httpL) && targetB (mk b) && decide ((tok a).1 ≠ []) && decide ((tok a).2 = [])
def zq (e : Int) : L × L × List (L × L) × L × Int := ([], [], [], [], e)
def restS (a b r : L) : L × L × List (L × L) × L × Int :=
  if (fields r).2.2 ≠ 0 then zq (fields r).2.2
  else if (get (fields r).1 hostL).2 ≠ 1 then zq 180
  else if (bodyS (fields r).1 (fields r).2.1).2 ≠ 0 then zq (bodyS (fields r).1 (fields r).2.1).2
  else (a, b, (fields r).1, (bodyS (fields r).1 (fields r).2.1).1, 0)
def reqS (s : L) : L × L × List (L × L) × L × Int :=
  match line s with
  | none => zq (if 8000 < s.length then 2 else 200)
  | some (l, r) => if 8000 < l.length then zq (if 8000 < s.length then 2 else 200) else match Mn.cut 32 l with
    | [a, b, c] => if firstS a b c = true then restS a b r else zq 200
    | _ => zq 200
theorem pairOf_len {l : L} {p : L × L} (h : pairOf l = some p) : p.1.length ≤ l.length ∧ p.2.length ≤ l.length := by
  have h1 : (tok l).1.length ≤ l.length := tw_len _ _
  have h2 : (tok l).2.length ≤ l.length := dw_len _ _
  unfold pairOf at h
  split at h
  · cases h
  · split at h
    · cases h
    · split at h
      · obtain rfl := Option.some.inj h
        have := trim_len (tok l).2.tail
        rw [List.length_tail] at this
        exact ⟨by rw [low_len]; exact h1, by simp only; omega⟩
      · cases h
theorem fparse_len (N M : Nat) : ∀ (f : Nat) (s : L) (acc : List (L × L)), s.length ≤ M → acc.length + s.length ≤ M → (∀ p ∈ acc, p.1.length ≤ M ∧ p.2.length ≤ M) →
    (fparse N f s acc).1.length ≤ M ∧ (∀ p ∈ (fparse N f s acc).1, p.1.length ≤ M ∧ p.2.length ≤ M) ∧ (fparse N f s acc).2.1.length ≤ M := by
  intro f
  induction f with
  | zero => intro s acc _ _ _; simp [fparse]
  | succ f ih =>
    intro s acc hs ha hp
    rw [fparse]
    cases e : line s with
    | none => simp
    | some p =>
      obtain ⟨l, more⟩ := p
      have hl := congrArg List.length (line_len s _ e)
      simp only [List.length_append, List.length_cons] at hl
      simp only
      split
      · simp
      · split
        · exact ⟨by simp only; omega, hp, by simp only; omega⟩
        · cases e2 : pairOf l with
          | none => simp
          | some q =>
            have hq := pairOf_len e2
            refine ih more (acc ++ [q]) zb16 (by rw [List.length_append, List.length_singleton]; omega) (fun p hpm => ?_)
            rcases List.mem_append.1 hpm with hpm | hpm
            · exact hp p hpm
            · obtain rfl := List.mem_singleton.1 hpm
              exact ⟨by omega, by omega⟩
theorem fields_len (s : L) : (fields s).1.length ≤ s.length ∧ (∀ p ∈ (fields s).1, p.1.length ≤ s.length ∧ p.2.length ≤ s.length) ∧ (fields s).2.1.length ≤ s.length :=
  fparse_len s.length s.length _ s [] (Nat.le_refl _) zb26 zb26
theorem joinTail_len (M : Nat) (r : List L) (h : ∀ x ∈ r, x.length ≤ M) : (Lib.joinTail [44, 32] r).length ≤ r.length * (M + 2) := by
  induction r with
  | nil => simp [Lib.joinTail]
  | cons x r ih =>
    have h1 := ih (fun y hy => h y (List.mem_cons_of_mem _ hy))
    have h2 := h x List.mem_cons_self
    have e : Lib.joinTail [44, 32] (x :: r) = [44, 32] ++ x ++ Lib.joinTail [44, 32] r := by simp [Lib.joinTail]
    rw [e]
    simp only [List.length_append, List.length_cons, List.length_nil]
    rw [Nat.add_mul, Nat.one_mul]
    omega
theorem join_len (M : Nat) (l : List L) (h : ∀ x ∈ l, x.length ≤ M) : (Lib.join l [44, 32]).length ≤ l.length * (M + 2) := by
  cases l with
  | nil => simp [Lib.join_nil]
  | cons x r =>
    have h1 := joinTail_len M r (fun y hy => h y (List.mem_cons_of_mem _ hy))
    have h2 := h x List.mem_cons_self
    rw [Lib.join_cons, List.length_append, List.length_cons, Nat.succ_mul]
    omega
theorem vals_len (l : List (L × L)) (n : L) : (vals l n).length ≤ l.length := by
  unfold vals
  rw [List.length_map]
  exact List.length_filter_le _ _
theorem get_len (l : List (L × L)) (n : L) (M : Nat) (h : ∀ p ∈ l, p.2.length ≤ M) : (get l n).1.length ≤ l.length * (M + 2) := by
  have h1 := join_len M (vals l n) (fun x hx => by
    unfold vals at hx
    obtain ⟨p, hp, rfl⟩ := List.mem_map.1 hx
    exact h p (List.mem_filter.1 hp).1)
  exact Nat.le_trans h1 (Nat.mul_le_mul_right _ (vals_len l n))
theorem split_l (l : L) (hl : l.length < 4294967281) : strings_Split.f (mk l) ⟨#[32]⟩ = some ((Mn.cut 32 l).map mk) := by
  unfold strings_Split.f
  rw [if_pos ⟨by rw [mk_size]; exact hl, by decide⟩]
  have h := Mn.split_cut 32 (mk l)
  rw [mk_data] at h
  rw [← h, List.map_map]
  congr 1
  conv => lhs; rw [← List.map_id (Lib.splitB ⟨#[32]⟩ 0 (Lib.countB (mk l) ⟨#[32]⟩) (mk l))]
  exact List.map_congr_left (fun x _ => (mk_self x).symm)
theorem line_does (s l r : L) (ok : Bool) (w : World) (hG : Glob w) (hs : s.length ≤ 1000000) (hl : l.length ≤ s.length) (hc : Lib.cut s [13, 10] = (l, r, ok)) :
    LineDoes w (mk s) (mk r) ((Mn.cut 32 l).map mk) (lnE (mk s) (mk l) ok ((Mn.cut 32 l).map mk) (mk (tok ((Mn.cut 32 l).headD [])).1) (mk (tok ((Mn.cut 32 l).headD [])).2)) := by
  intro g W hb hP
  refine line_in g (mk s) (mk l) (mk r) _ _ ok _ (l.length + 1) _ _ _ _ _ W (hG.below hb) hP ?_ (split_l l zb16) (fun a b c he => ?_) rfl
  · rw [show (⟨#[13, 10]⟩ : ByteArray) = mk [13, 10] from rfl, cut_l, if_pos zb16, hc]
  · match e : Mn.cut 32 l, he with
    | [x, y, z], he =>
      simp only [List.map_cons, List.map_nil, List.cons.injEq] at he
      obtain ⟨rfl, _⟩ := he
      have hx : x.length ≤ l.length := Mn.cut_part 32 l x (by rw [e]; exact List.mem_cons_self)
      exact tokF x _ zb16 zb16
theorem head_does (r : L) (w : World) (hG : Glob w) (hr : r.length ≤ 1000000) : HeadDoes w (mk r) (mk (fields r).2.1) (pairsB (fields r).1) (heE (get (fields r).1 hostL).2 (fields r).2.2) := by
  intro g m t W hb hP
  have hf := fields_len r
  refine head_in g (mk r) (mk (fields r).2.1) (mk (get (fields r).1 hostL).1) _ (fields r).2.2 (get (fields r).1 hostL).2 (r.length + 1) m t _ _ _ W (hG.below hb) hP (fldF r zb16) (fun _ => ?_) rfl
  refine getF _ hostL _ zb20 zb16 (fun p hp => by have := hf.2.1 p hp; omega) ?_ zb16
  exact Nat.le_trans (get_len _ _ r.length (fun p hp => (hf.2.1 p hp).2)) (Nat.le_trans (Nat.mul_le_mul hf.1 (Nat.le_refl _)) (Nat.le_trans (Nat.mul_le_mul (show r.length ≤ 1000000 from hr) (show r.length + 2 ≤ 1000002 by omega)) zb20))
def bodyE (l : List (L × L)) (r : L) : Int := boE (get l clenL).2 (get l tencL).2 (chE (mk (low (get l tencL).1)) (mk (dec r).2.1) (dec r).2.2) (sizedE (mk r) (mk (get l clenL).1)) (mk r)
def bodyB (l : List (L × L)) (r : L) : ByteArray := boB (get l clenL).2 (get l tencL).2 (mk r) (mk (dec r).1)
theorem body_does (l : List (L × L)) (r : L) (M : Nat) (w : World) (hG : Glob w) (hM : M ≤ 900000) (hr : r.length ≤ M) (hl : l.length ≤ M) (hp : ∀ p ∈ l, p.1.length ≤ M ∧ p.2.length ≤ M) : BodyDoes w (mk r) (bodyB l r) (pairsB l) (bodyE l r) := by
  intro g base m t v W hb hP hO
  have hj : ∀ n, (get l n).1.length ≤ 810001800000 := fun n => Nat.le_trans (get_len _ _ M (fun p h => (hp p h).2)) (Nat.le_trans (Nat.mul_le_mul (show l.length ≤ 900000 by omega) (show M + 2 ≤ 900002 by omega)) zb20)
  have h1 := hj clenL
  have h2 := hj tencL
  refine body_in g base (mk r) (mk (get l clenL).1) (mk (get l tencL).1) (mk (low (get l tencL).1)) (mk (dec r).1) (mk (dec r).2.1) _ _ _ (dec r).2.2 (5 * M + 40) m t v _ W (hG.below hb) hP hO
    (getF l clenL _ zb20 zb16 (fun p h => by have := hp p h; omega) zb16 zb16) (getF l tencL _ zb20 zb16 (fun p h => by have := hp p h; omega) zb16 zb16)
    (lowF _ zb16) (decodeF r _ zb16 zb16) (by rw [mk_size]; omega) (by rw [mk_size]; omega) rfl
def reqB (s : ByteArray) : ByteArray × ByteArray × List S49 × ByteArray × Int := (mk (reqS s.data.toList).1, mk (reqS s.data.toList).2.1, pairsB (reqS s.data.toList).2.2.1, mk (reqS s.data.toList).2.2.2.1, (reqS s.data.toList).2.2.2.2)
theorem body_E (l : List (L × L)) (r : L) : bodyE l r = (bodyS l r).2 ∧ ((bodyS l r).2 = 0 → bodyB l r = mk (bodyS l r).1) := by
  unfold bodyE bodyB bodyS boE boB chE
  rw [sizedE_eq, mk_size, mk_data]
  simp only [tl_mk]
  rw [show ([99, 104, 117, 110, 107, 101, 100] : List UInt8) = chunkedL from rfl]
  by_cases h1 : 1 < (get l clenL).2 ∨ (0 < (get l clenL).2 ∧ 0 < (get l tencL).2)
  · rw [if_pos h1, if_pos h1]
    exact ⟨rfl, fun h => absurd h zb20⟩
  · rw [if_neg h1, if_neg h1]
    by_cases h2 : 0 < (get l tencL).2
    · rw [if_pos h2, if_pos h2, if_pos h2]
      by_cases h3 : low (get l tencL).1 = chunkedL
      · rw [if_pos h3, if_pos h3]
        by_cases h4 : (dec r).2.2 = 0
        · rw [if_pos h4, if_pos h4]
          by_cases h5 : (dec r).2.1 = []
          · rw [if_pos h5, if_pos h5]
            exact ⟨rfl, fun _ => rfl⟩
          · rw [if_neg h5, if_neg h5]
            exact ⟨rfl, fun h => absurd h zb20⟩
        · rw [if_neg h4, if_neg h4]
          exact ⟨rfl, fun h => absurd h h4⟩
      · rw [if_neg h3, if_neg h3]
        exact ⟨rfl, fun h => absurd h zb20⟩
    · rw [if_neg h2, if_neg h2, if_neg h2]
      by_cases h3 : 0 < (get l clenL).2
      · rw [if_pos h3, if_pos h3, if_pos h3]
        exact ⟨rfl, fun _ => rfl⟩
      · rw [if_neg h3, if_neg h3, if_neg h3]
        by_cases h4 : r = []
        · rw [if_pos h4, if_pos h4]
          exact ⟨rfl, fun _ => rfl⟩
        · rw [if_neg h4, if_neg h4]
          exact ⟨rfl, fun h => absurd h zb20⟩
theorem head_E (n e : Int) : heE n e = if e ≠ 0 then e else if n ≠ 1 then 180 else 0 := by
  unfold heE
  by_cases h1 : e = 0 <;> by_cases h2 : n = 1 <;> simp [h1, h2]
def Told (s : ByteArray) (w : World) (q : L × L × List (L × L) × L × Int) : Prop :=
  Calls Tryz.prog 17 #[.string s] w fun e w' => ∃ v0_ : Value, e = .returned (.tuple #[.agg #[.string (mk q.1), .string (mk q.2.1), v0_, .string (mk q.2.2.2.1)], .int .i64 q.2.2.2.2]) ∧ Kd.R k49 49 w' w.heap.size (fun _ => True) v0_ (pairsB q.2.2.1) ∧ Below w.heap.size w w'
theorem told_z {s : ByteArray} {w : World} {E : Int} (h : Calls Tryz.prog 17 #[.string s] w fun e w' => e = .returned (.tuple #[.agg #[.string ⟨#[]⟩, .string ⟨#[]⟩, .slice none 0 0, .string ⟨#[]⟩], .int .i64 E]) ∧ Below w.heap.size w w') : Told s w (zq E) := by
  refine h.mono ?_
  rintro e w' ⟨rfl, hb⟩
  exact ⟨_, rfl, Kd.R_nil _ _ _ _ _, hb⟩
theorem rest_told (s a b c r : L) (w : World) (hG : Glob w) (hs : s.length ≤ 900000) (hr : r.length ≤ s.length) (hL : LineDoes w (mk s) (mk r) [mk a, mk b, mk c] 0) : Told (mk s) w (restS a b r) := by
  have hf := fields_len r
  have hH := head_does r w hG zb16
  have hB := body_does (fields r).1 (fields r).2.1 s.length w hG hs zb16 zb16 (fun p hp => by have := hf.2.1 p hp; omega)
  rw [head_E] at hH
  have hE := body_E (fields r).1 (fields r).2.1
  rw [hE.1] at hB
  unfold restS
  by_cases h1 : (fields r).2.2 = 0
  · rw [if_neg (by simpa using h1)] at hH ⊢
    by_cases h2 : (get (fields r).1 hostL).2 = 1
    · rw [if_neg (by simpa using h2)] at hH ⊢
      by_cases h3 : (bodyS (fields r).1 (fields r).2.1).2 = 0
      · rw [if_neg (by simpa using h3)]
        rw [h3] at hB
        rw [hE.2 h3] at hB
        refine (req_ok (mk s) (mk r) _ _ _ _ w hL hH hB).mono ?_
        rintro e w' ⟨a', b', c', v, hw, rfl, hR, hb⟩
        simp only [List.cons.injEq] at hw
        obtain ⟨rfl, rfl, rfl, _⟩ := hw
        exact ⟨v, rfl, hR, hb⟩
      · rw [if_pos h3]
        exact told_z (req_err3 (mk s) (mk r) _ _ _ _ _ w h3 hL hH hB)
    · rw [if_pos h2] at hH ⊢
      exact told_z (req_err2 (mk s) (mk r) _ _ _ _ w zb20 hL hH)
  · rw [if_pos h1] at hH ⊢
    exact told_z (req_err2 (mk s) (mk r) _ _ _ _ w h1 hL hH)
theorem req_told (s : L) (w : World) (hG : Glob w) (hs : s.length ≤ 900000) : Told (mk s) w (reqS s) := by
  unfold reqS
  rcases line_cut s with ⟨e1, e2⟩ | ⟨⟨l, r⟩, e1, e2⟩
  · rw [e1]
    have h := line_does s s [] false w hG zb16 (Nat.le_refl _) e2
    refine told_z (req_err1 (mk s) (mk []) _ _ w ?_ (by
      have : lnE (mk s) (mk s) false ((Mn.cut 32 s).map mk) (mk (tok ((Mn.cut 32 s).headD [])).1) (mk (tok ((Mn.cut 32 s).headD [])).2) = if 8000 < s.length then 2 else 200 := by
        unfold lnE
        rw [if_pos (Or.inl rfl), mk_size]
      rw [this] at h
      exact h))
    split <;> decide
  · rw [e1]
    have hll := congrArg List.length (line_len s _ e1)
    simp only [List.length_append, List.length_cons] at hll
    have h := line_does s l r true w hG zb16 zb16 e2
    simp only
    by_cases h8 : 8000 < l.length
    · rw [if_pos h8]
      refine told_z (req_err1 (mk s) (mk r) _ _ w ?_ (by
        have : lnE (mk s) (mk l) true ((Mn.cut 32 l).map mk) (mk (tok ((Mn.cut 32 l).headD [])).1) (mk (tok ((Mn.cut 32 l).headD [])).2) = if 8000 < s.length then 2 else 200 := by
          unfold lnE
          rw [if_pos (Or.inr (by rw [mk_size]; exact h8)), mk_size]
        rw [this] at h
        exact h))
      split <;> decide
    · rw [if_neg h8]
      have hE : lnE (mk s) (mk l) true ((Mn.cut 32 l).map mk) (mk (tok ((Mn.cut 32 l).headD [])).1) (mk (tok ((Mn.cut 32 l).headD [])).2) = match (Mn.cut 32 l).map mk with
        | [a, b, c] => if firstOk a b c (mk (tok ((Mn.cut 32 l).headD [])).1) (mk (tok ((Mn.cut 32 l).headD [])).2) = true then 0 else 200
        | _ => 200 := by
        unfold lnE
        rw [if_neg (by rw [mk_size]; simpa using h8)]
        rfl
      rw [hE] at h
      clear hE
      generalize Mn.cut 32 l = ws at *
      match ws, h with
      | [a, b, c], h =>
        simp only [List.map_cons, List.map_nil] at h ⊢
        have hf : firstOk (mk a) (mk b) (mk c) (mk (tok a).1) (mk (tok a).2) = firstS a b c := by
          unfold firstOk firstS
          rw [tl_mk, tl_mk, tl_mk]
          rfl
        have h' : LineDoes w (mk s) (mk r) [mk a, mk b, mk c] (if firstOk (mk a) (mk b) (mk c) (mk (tok a).1) (mk (tok a).2) = true then 0 else 200) := h
        have hfE : (if firstOk (mk a) (mk b) (mk c) (mk (tok a).1) (mk (tok a).2) = true then (0 : Int) else 200) = if firstS a b c = true then 0 else 200 := by simp only [hf]
        rw [hfE] at h'
        replace h := h'
        by_cases h1 : firstS a b c = true
        · rw [if_pos h1] at h ⊢
          exact rest_told s a b c r w hG hs zb16 h
        · rw [if_neg h1] at h ⊢
          exact told_z (req_err1 (mk s) (mk r) _ _ w zb20 h)
      | [], h => exact told_z (req_err1 (mk s) (mk r) _ _ w zb20 h)
      | [_], h => exact told_z (req_err1 (mk s) (mk r) _ _ w zb20 h)
      | [_, _], h => exact told_z (req_err1 (mk s) (mk r) _ _ w zb20 h)
      | _ :: _ :: _ :: _ :: _, h => exact told_z (req_err1 (mk s) (mk r) _ _ w zb20 h)
end Go.Proofs.YteonhdfjfjpbjaaGreatDoor.Sp
namespace Go.Proofs.YteonhdfjfjpbjaaGreatDoor.O
open Go.RowKit Go.Proofs.YteonhdfjfjpbjaaGreatDoorW.PrintWords Go.Proofs.YteonhdfjfjpbjaaGreatDoorW.PrintLast Go.Proofs.YteonhdfjfjpbjaaGreatDoorW.PrintMore Go.Proofs.YteonhdfjfjpbjaaGreatDoor.P
def request_Parse.f (a0 : ByteArray) : Option (ByteArray × ByteArray × List S49 × ByteArray × Int) := if a0.size ≤ 900000 then some (Sp.reqB a0) else none
theorem request_Parse.calls (a0 : ByteArray) (r1 r2 : ByteArray) (r3 : List S49) (r4 : ByteArray) (r5 : Int) (w : World) (hG : Glob w) (h : request_Parse.f a0 = some (r1, r2, r3, r4, r5)) :
    Calls Tryz.prog 17 #[.string a0] w fun e w' => ∃ v0_ : Value, e = .returned (.tuple #[.agg #[.string r1, .string r2, v0_, .string r4], .int .i64 r5]) ∧ Kd.R k49 49 w' w.heap.size (fun _ => True) v0_ r3 ∧ Below w.heap.size w w' := by
  unfold request_Parse.f at h
  split at h
  case isFalse => exact absurd h zb26
  rename_i hs
  have h2 := Option.some.inj h
  have := Sp.req_told a0.data.toList w hG (by rw [← Lib.size_eq]; exact hs)
  unfold Sp.Told at this
  rw [Sp.mk_self] at this
  unfold Sp.reqB at h2
  simp only [Prod.mk.injEq] at h2
  obtain ⟨rfl, rfl, rfl, rfl, rfl⟩ := h2
  exact this
end Go.Proofs.YteonhdfjfjpbjaaGreatDoor.O
/- Oput -/
namespace Go.Proofs.YteonhdfjfjpbjaaGreatDoor.O
open Go.RowKit Go.Proofs.YteonhdfjfjpbjaaGreatDoorW.PrintWords Go.Proofs.YteonhdfjfjpbjaaGreatDoorW.PrintLast Go.Proofs.YteonhdfjfjpbjaaGreatDoorW.PrintMore Go.Proofs.YteonhdfjfjpbjaaGreatDoor.P Go.Proofs.YteonhdfjfjpbjaaGreatDoor.B
set_option linter.unusedVariables false
set_option linter.unusedSimpArgs false
def Builder_PutByte.f (s0 : ByteArray) (a1 : Int) : Option (Option Int × ByteArray) := if 0 ≤ a1 ∧ a1 ≤ 255 ∧ s0.size + 1 ≤ 140737488355328 then some (none, s0 ++ oneB a1) else none
theorem Builder_PutByte.calls (g : Nat) (s0_0 : ByteArray) (a1 : Int) (r1 : Option Int) (r2 : ByteArray) (w0 w : World) (hI : IsS54 w0 w g s0_0) (hB : Below w0.heap.size w0 w) (h : Builder_PutByte.f s0_0 a1 = some (r1, r2)) :
    Calls Tryz.prog 48 #[.pointer (some ⟨g, 0, none⟩), .int .u8 a1] w fun e w' => e = .returned (errW r1) ∧ IsS54 w0 w' g r2 ∧ Below w0.heap.size w0 w' ∧ KeepB 5 w w' g := by
  unfold Builder_PutByte.f at h
  split at h
  case isFalse => exact absurd h zb26
  rename_i hb
  obtain ⟨rfl, rfl⟩ : none = r1 ∧ s0_0 ++ oneB a1 = r2 := by simpa using h
  refine (Tryz.Builder_WriteByte_k w0.heap.size g _ a1 w hI (by rw [cells_len]; exact hb.2.2) hB.size).mono ?_
  rintro e w' ⟨rfl, h2, h3, h4⟩
  rw [byte_cell s0_0 a1 hb.1 hb.2.1] at h2
  exact ⟨rfl, .inr h2, hB.trans h3, ⟨h4⟩⟩
end Go.Proofs.YteonhdfjfjpbjaaGreatDoor.O
/- Px17 -/
namespace Go.Proofs.YteonhdfjfjpbjaaGreatDoor.P
open Go.Proofs.YteonhdfjfjpbjaaGreatDoor.B
open Go.RowKit Go.Proofs.YteonhdfjfjpbjaaGreatDoorW.PrintWords Go.Proofs.YteonhdfjfjpbjaaGreatDoorW.PrintLast Go.Proofs.YteonhdfjfjpbjaaGreatDoorW.PrintMore
attribute [local go_sem] str_leq str_gtr str_geq max2_int min2_int max_two min_two max_three min_three max_four min_four
set_option linter.unusedVariables false
set_option linter.unusedSimpArgs false
open Go.Proofs.YteonhdfjfjpbjaaGreatDoor.O
mutual
def request_Percent.l0 : Nat → ByteArray → ByteArray → Option (ByteArray × Bool)
  | 0, _, _ => none
  | k + 1, x0, x188000 => (strings_Cut.f x0 (⟨#[37]⟩ : ByteArray)).bind fun bt188 => ((Builder_WriteString.f x188000 bt188.1).bind fun bt191 => (if bt188.2.2 = true then (if (bt188.2.1.size : Int) < 2 then (request_Percent.j1 k bt188.2.1 true bt191.2.2) else (if 0 ≤ 2 then (if 2 ≤ (bt188.2.1.size : Int) then ((strings_Trim.f (bt188.2.1.extract 0 2) (⟨#[48, 49, 50, 51, 52, 53, 54, 55, 56, 57, 97, 98, 99, 100, 101, 102, 65, 66, 67, 68, 69, 70]⟩ : ByteArray)).bind fun t196 => (request_Percent.j1 k bt188.2.1 (t196.toList != ([] : List UInt8)) bt191.2.2)) else (none)) else (none))) else ((Builder_String.f bt191.2.2).bind fun bt194 => (some (bt194.1, true)))))
def request_Percent.j1 : Nat → ByteArray → Bool → ByteArray → Option (ByteArray × Bool)
  | 0, _, _, _ => none
  | k + 1, x6, x29, x188000 => if x29 = true then (some ((⟨#[]⟩ : ByteArray), false)) else (if 0 ≤ 2 then (if 2 ≤ (x6.size : Int) then ((strconv_ParseUint.f (x6.extract 0 2) 16 64).bind fun bt197 => (if bt197.2.isNone = true then ((Builder_PutByte.f x188000 ((bt197.1) % 256)).bind fun bt200 => (request_Percent.l0 k (x6.extract 2 x6.size) bt200.2)) else ((Builder_PutByte.f x188000 ((bt197.1) % 256)).bind fun bt202 => (request_Percent.l0 k (x6.extract 2 x6.size) bt202.2)))) else (none)) else (none))
end
def request_Percent.f (k : Nat) (a0 : ByteArray) : Option (ByteArray × Bool) := request_Percent.l0 k a0 (⟨#[]⟩ : ByteArray)
set_option maxHeartbeats 8000000 in
set_option maxRecDepth 100000 in
theorem request_Percent.calls (k : Nat) (a0 : ByteArray) (r1 : ByteArray) (r2 : Bool) (w : World) (hG : Glob w) (h : request_Percent.f k a0 = some (r1, r2)) :
  Calls Tryz.prog 20 #[.string a0] w fun e w' => e = .returned (.tuple #[.string r1, .bool r2]) ∧ Below w.heap.size w w' := by
 have hu54 := Tryz.underlying54
 have HB := Aside0.mk (Below.refl w.heap.size w)
 have hGA := Aside0.mk hG
 clear hG
 have H : (request_Percent.l0 k a0 (⟨#[]⟩ : ByteArray)) = some (r1, r2) := h
 clear h
 have H' := Aside0.mk H
 clear H
 go_enter Tryz.func20, Tryz.ntmps20
 go_wp2_with (first | ((with_reducible refine gate_dst (N := 4) rfl ?_); refine box_event ?hg (N := 4) ?hd (cs := #[.pointer none, .slice none 0 0]) (t := 54) ?hr ?_; (case hd => rfl); (case hg => rfl); (case hr => first | (go_simp; done) | (go_simp; rfl)); intro gb187 hg w2 hbox hb; have n0_ := Aside0.mk (below_step zb0 hb); have n1_ := Aside0.mk ((by rw [hg]; exact (below_size zb0) : w.heap.size ≤ gb187)); have n2_ := Aside0.mk ((by rw [hg]; exact (below_size zb0) : w.heap.size ≤ gb187)); have n3_ := Aside0.mk ((show IsS54 w w2 gb187 (⟨#[]⟩ : ByteArray) from IsS54.new hbox zb52)); clear HB; have HB := n0_; have GW187 := n1_; have GE187 := n2_; have HI187 := n3_; clear n0_ n1_ n2_ n3_; clear hb hbox hg))
 first | go_loopg [0] k (fun kq v0 w' => ∃ (x0_1 : ByteArray) (x188000_1 : ByteArray), v0 = .string x0_1 ∧ Aside0 (request_Percent.l0 kq x0_1 x188000_1 = some (r1, r2)) ∧ Aside0 (kq ≤ k) ∧ Aside0 (IsS54 w w' gb187 x188000_1) ∧ Aside0 (Below w.heap.size w w')) | (go_simp; go_loopg [0] k (fun kq v0 w' => ∃ (x0_1 : ByteArray) (x188000_1 : ByteArray), v0 = .string x0_1 ∧ Aside0 (request_Percent.l0 kq x0_1 x188000_1 = some (r1, r2)) ∧ Aside0 (kq ≤ k) ∧ Aside0 (IsS54 w w' gb187 x188000_1) ∧ Aside0 (Below w.heap.size w w')))
 case atStart => exact ⟨(a0), ((⟨#[]⟩ : ByteArray)), zb51, H', ⟨Nat.le_refl _⟩, ⟨by repeat (first | (with_reducible first | exact HI187.out | apply IsS54.alloc | apply IsS54.drewN | apply IsS54.drew) | exact HI187.out)⟩, ⟨by repeat (first | (with_reducible first | exact HB.out | apply below_alloc | apply pw_below_drewN | apply below_drew1 | refine below_set ?_ (IsS54.ge HI187.out)) | exact HB.out)⟩⟩
 case round =>
  clear H'
  try clear c2
  try clear p2
  obtain ⟨x0_1, x188000_1, rfl, HA, HK1, HI187, HB⟩ := hrel
  cases gk with
  | zero => exact absurd HA.out (by simp [request_Percent.l0])
  | succ k1 =>
   have H := HA.out
   clear HA
   simp only [request_Percent.l0] at H
   replace H := Option.bind_eq_some_iff.mp H
   obtain ⟨⟨t188, t189, t190⟩, A30, H⟩ := H
   replace H : ((Builder_WriteString.f x188000_1 t188).bind fun bt191 => (if t190 = true then (if (t189.size : Int) < 2 then (request_Percent.j1 k1 t189 true bt191.2.2) else (if 0 ≤ 2 then (if 2 ≤ (t189.size : Int) then ((strings_Trim.f (t189.extract 0 2) (⟨#[48, 49, 50, 51, 52, 53, 54, 55, 56, 57, 97, 98, 99, 100, 101, 102, 65, 66, 67, 68, 69, 70]⟩ : ByteArray)).bind fun t196 => (request_Percent.j1 k1 t189 (t196.toList != ([] : List UInt8)) bt191.2.2)) else (none)) else (none))) else ((Builder_String.f bt191.2.2).bind fun bt194 => (some (bt194.1, true))))) = some (r1, r2) := H
   have A3 := Aside0.mk A30
   clear A30
   replace H := Option.bind_eq_some_iff.mp H
   obtain ⟨⟨t191, t192, t193⟩, A40, H⟩ := H
   replace H : (if t190 = true then (if (t189.size : Int) < 2 then (request_Percent.j1 k1 t189 true t193) else (if 0 ≤ 2 then (if 2 ≤ (t189.size : Int) then ((strings_Trim.f (t189.extract 0 2) (⟨#[48, 49, 50, 51, 52, 53, 54, 55, 56, 57, 97, 98, 99, 100, 101, 102, 65, 66, 67, 68, 69, 70]⟩ : ByteArray)).bind fun t196 => (request_Percent.j1 k1 t189 (t196.toList != ([] : List UInt8)) t193)) else (none)) else (none))) else ((Builder_String.f t193).bind fun bt194 => (some (bt194.1, true)))) = some (r1, r2) := H
   have A4 := Aside0.mk A40
   clear A40
   by_cases c5 : t190 = true
   ·subst c5
    replace H : (if (t189.size : Int) < 2 then (request_Percent.j1 k1 t189 true t193) else (if 0 ≤ 2 then (if 2 ≤ (t189.size : Int) then ((strings_Trim.f (t189.extract 0 2) (⟨#[48, 49, 50, 51, 52, 53, 54, 55, 56, 57, 97, 98, 99, 100, 101, 102, 65, 66, 67, 68, 69, 70]⟩ : ByteArray)).bind fun t196 => (request_Percent.j1 k1 t189 (t196.toList != ([] : List UInt8)) t193)) else (none)) else (none))) = some (r1, r2) := by rw [if_pos rfl] at H; exact H
    have HC6 := Aside0.mk H
    clear H
    go_upto_region 6 with (first | ((with_reducible refine gate_callee (f := 31) rfl ?_); refine goesL_ (some 12) rfl rfl Tryz.func31 zb12 rfl #[.string x0_1, .string (⟨#[37]⟩ : ByteArray)] rfl zb1 ?_; (with_reducible refine (strings_Cut.calls x0_1 (⟨#[37]⟩ : ByteArray) t188 t189 true _ ?side1 A3.out).mono ?_); (case side1 => exact Glob.below hGA.out zb13); rintro e w7 ⟨rfl, hb⟩; refine ⟨_, rfl, ?_⟩; have n0_ := Aside0.mk (IsS54.below zb30 hb); have n1_ := Aside0.mk (below_step zb13 hb); clear HI187; clear HB; have HI187 := n0_; have HB := n1_; clear n0_ n1_; (try clear hb); (try clear hb2); (try clear hk); (try clear hi)) | ((with_reducible refine gate_callee (f := 27) rfl ?_); refine goesL_ (some 17) rfl rfl Tryz.func27 zb12 rfl #[.pointer (some ⟨gb187, 0, none⟩), .string t188] rfl zb1 ?_; (with_reducible refine (Builder_WriteString.calls gb187 x188000_1 t188 t191 t192 t193 w _ ?side1 ?side2 A4.out).mono ?_); (case side1 => repeat (first | (with_reducible first | exact HI187.out | apply IsS54.alloc | apply IsS54.drewN | apply IsS54.drew) | exact HI187.out)); (case side2 => repeat (first | (with_reducible first | exact HB.out | apply below_alloc | apply pw_below_drewN | apply below_drew1 | refine below_set ?_ (IsS54.ge HI187.out)) | exact HB.out)); rintro e w8 ⟨rfl, hi, hb, hk⟩; refine ⟨_, rfl, ?_⟩; have n0_ := Aside0.mk (hb); have n1_ := Aside0.mk (hi); clear HB; clear HI187; have HB := n0_; have HI187 := n1_; clear n0_ n1_; (try clear hb); (try clear hk); (try clear hi); (try simp only [errW_none, errW_some])))
    (try simp only [Act.put, List.setIfInBounds_toArray, List.set_cons_zero, List.set_cons_succ])
    go_cut [29] (fun v29 wc => ∃ (kq : Nat) (x29_5 : Bool), v29 = .bool x29_5 ∧ Aside0 (request_Percent.j1 kq t189 x29_5 t193 = some (r1, r2)) ∧ Aside0 (kq ≤ k1) ∧ Aside0 (IsS54 w wc gb187 t193) ∧ Aside0 (Below w.heap.size w wc))
    case first =>
     have H := HC6.out
     clear HC6
     by_cases c9 : (t189.size : Int) < 2
     ·rw [if_pos c9] at H
      have c9b0 : decide ((t189.size : Int) < 2) = true := decide_eq_true c9
      have c9b1 : decide (t189.size < 2) = true := decide_eq_true zb16
      clear c9
      (first | rw [c9b0] | (simp only [i64_w, i32_w]; rw [c9b0]) | skip)
      have H' := Aside0.mk H
      clear H
      go_wp2
      go_meet
      case rel => exact ⟨_, (true), zb51, H', ⟨by have := HK1.out; first | omega | exact Nat.le_refl _⟩, ⟨by repeat (first | (with_reducible first | exact HI187.out | apply IsS54.alloc | apply IsS54.drewN | apply IsS54.drew) | exact HI187.out)⟩, ⟨by repeat (first | (with_reducible first | exact HB.out | apply below_alloc | apply pw_below_drewN | apply below_drew1 | refine below_set ?_ (IsS54.ge HI187.out)) | exact HB.out)⟩⟩
     ·rw [if_neg c9] at H
      have c9b0 : decide ((t189.size : Int) < 2) = false := decide_eq_false c9
      have c9b1 : decide (t189.size < 2) = false := decide_eq_false zb16
      clear c9
      (first | rw [c9b0] | (simp only [i64_w, i32_w]; rw [c9b0]) | skip)
      by_cases c10 : 0 ≤ 2
      ·rw [if_pos c10] at H
       have c10b0 := eq_true c10
       have c10b1 : decide (0 ≤ 2) = true := decide_eq_true c10
       clear c10
       by_cases c11 : 2 ≤ (t189.size : Int)
       ·rw [if_pos c11] at H
        have c11b0 := eq_true c11
        have c11b1 : decide (2 ≤ (t189.size : Int)) = true := decide_eq_true c11
        clear c11
        replace H := Option.bind_eq_some_iff.mp H
        obtain ⟨t196, A120, H⟩ := H
        replace H : (request_Percent.j1 k1 t189 (t196.toList != ([] : List UInt8)) t193) = some (r1, r2) := H
        have A12 := Aside0.mk A120
        clear A120
        have H' := Aside0.mk H
        clear H
        go_wp2_with (first | (go_at_call 46; (with_reducible refine (strings_Trim.calls (t189.extract 0 2) (⟨#[48, 49, 50, 51, 52, 53, 54, 55, 56, 57, 97, 98, 99, 100, 101, 102, 65, 66, 67, 68, 69, 70]⟩ : ByteArray) t196 _ A12.out).mono ?_); rintro e w13 ⟨rfl, hb⟩; have n0_ := Aside0.mk (IsS54.below zb30 hb); have n1_ := Aside0.mk (below_step zb13 hb); clear HI187; clear HB; have HI187 := n0_; have HB := n1_; clear n0_ n1_; (try clear hb); (try clear hb2); (try clear hk); (try clear hi)))
        go_meet
        case rel => exact ⟨_, ((t196.toList != ([] : List UInt8))), zb51, H', ⟨by have := HK1.out; first | omega | exact Nat.le_refl _⟩, ⟨by repeat (first | (with_reducible first | exact HI187.out | apply IsS54.alloc | apply IsS54.drewN | apply IsS54.drew) | exact HI187.out)⟩, ⟨by repeat (first | (with_reducible first | exact HB.out | apply below_alloc | apply pw_below_drewN | apply below_drew1 | refine below_set ?_ (IsS54.ge HI187.out)) | exact HB.out)⟩⟩
       ·rw [if_neg c11] at H
        exact absurd H zb26
      ·rw [if_neg c10] at H
       exact absurd H zb26
    case rest =>
     clear HC6
     try clear c1
     try clear c2
     try clear p2
     try clear c3
     try clear c5
     try clear c9
     try clear c9b0
     try clear c9b1
     try clear c10
     try clear c10b0
     try clear c10b1
     try clear c11
     try clear c11b0
     try clear c11b1
     try clear p2
     obtain ⟨kq, x29_5, rfl, HA, HJ5, HI187, HB⟩ := hcut
     cases kq with
     | zero => exact absurd HA.out (by simp [request_Percent.j1])
     | succ kj5 =>
      have H := HA.out
      clear HA
      simp only [request_Percent.j1] at H
      by_cases c14 : x29_5 = true
      ·subst c14
       replace H : (some ((⟨#[]⟩ : ByteArray), false)) = some (r1, r2) := by rw [if_pos rfl] at H; exact H
       simp only [Option.some.injEq, Prod.mk.injEq] at H
       obtain ⟨rfl, rfl⟩ := H
       go_wp2
       go_ret2
       exact ⟨zb4, zb13⟩
      ·replace c14 := Bool.eq_false_iff.mpr c14
       subst c14
       replace H : (if 0 ≤ 2 then (if 2 ≤ (t189.size : Int) then ((strconv_ParseUint.f (t189.extract 0 2) 16 64).bind fun bt197 => (if bt197.2.isNone = true then ((Builder_PutByte.f t193 ((bt197.1) % 256)).bind fun bt200 => (request_Percent.l0 kj5 (t189.extract 2 t189.size) bt200.2)) else ((Builder_PutByte.f t193 ((bt197.1) % 256)).bind fun bt202 => (request_Percent.l0 kj5 (t189.extract 2 t189.size) bt202.2)))) else (none)) else (none)) = some (r1, r2) := by rw [if_neg (show ¬ (false = true) by decide)] at H; exact H
       by_cases c15 : 0 ≤ 2
       ·rw [if_pos c15] at H
        have c15b0 := eq_true c15
        have c15b1 : decide (0 ≤ 2) = true := decide_eq_true c15
        clear c15
        by_cases c16 : 2 ≤ (t189.size : Int)
        ·rw [if_pos c16] at H
         have c16b0 := eq_true c16
         have c16b1 : decide (2 ≤ (t189.size : Int)) = true := decide_eq_true c16
         clear c16
         replace H := Option.bind_eq_some_iff.mp H
         obtain ⟨⟨t197, t198⟩, A170, H⟩ := H
         replace H : (if t198.isNone = true then ((Builder_PutByte.f t193 ((t197) % 256)).bind fun bt200 => (request_Percent.l0 kj5 (t189.extract 2 t189.size) bt200.2)) else ((Builder_PutByte.f t193 ((t197) % 256)).bind fun bt202 => (request_Percent.l0 kj5 (t189.extract 2 t189.size) bt202.2))) = some (r1, r2) := H
         have A17 := Aside0.mk A170
         clear A170
         rcases t198 with _ | q199
         ·have H1 : ((Builder_PutByte.f t193 ((t197) % 256)).bind fun bt200 => (request_Percent.l0 kj5 (t189.extract 2 t189.size) bt200.2)) = some (r1, r2) := by rw [if_pos (show (none : Option Int).isNone = true by rfl)] at H; exact H
          clear H
          have H := H1
          clear H1
          try simp only [errW_none, errW_some]
          replace H := Option.bind_eq_some_iff.mp H
          obtain ⟨⟨t200, t201⟩, A180, H⟩ := H
          replace H : (request_Percent.l0 kj5 (t189.extract 2 t189.size) t201) = some (r1, r2) := H
          have A18 := Aside0.mk A180
          clear A180
          have c19b0 := eq_true (of_decide_eq_true zb2 : 2 ≤ (t189.size : Int))
          have H' := Aside0.mk H
          clear H
          go_wp2_with (first | ((with_reducible refine gate_callee (f := 47) rfl ?_); refine goesL_ (some 33) rfl rfl Tryz.func47 zb12 rfl #[.string (t189.extract 0 2), .int .i64 16, .int .i64 64] rfl zb1 ?_; (with_reducible refine (strconv_ParseUint.calls (t189.extract 0 2) 16 64 t197 none _ ?side1 A17.out).mono ?_); (case side1 => exact Glob.below hGA.out zb13); rintro e w20 ⟨pv21, hpv21, rfl, hb⟩; refine ⟨_, rfl, ?_⟩; obtain rfl := ErrIs.none_ hpv21; have n0_ := Aside0.mk (IsS54.below zb30 hb); have n1_ := Aside0.mk (below_step zb13 hb); clear HI187; clear HB; have HI187 := n0_; have HB := n1_; clear n0_ n1_; (try clear hb); (try clear hb2); (try clear hk); (try clear hi); (try simp only [errW_none, errW_some])) | ((with_reducible refine gate_callee (f := 48) rfl ?_); refine goesL_ (some 38) rfl rfl Tryz.func48 zb12 rfl #[.pointer (some ⟨gb187, 0, none⟩), .int .u8 ((t197) % 256)] rfl zb1 ?_; (with_reducible refine (Builder_PutByte.calls gb187 t193 ((t197) % 256) t200 t201 w _ ?side1 ?side2 A18.out).mono ?_); (case side1 => repeat (first | (with_reducible first | exact HI187.out | apply IsS54.alloc | apply IsS54.drewN | apply IsS54.drew) | exact HI187.out)); (case side2 => repeat (first | (with_reducible first | exact HB.out | apply below_alloc | apply pw_below_drewN | apply below_drew1 | refine below_set ?_ (IsS54.ge HI187.out)) | exact HB.out)); rintro e w22 ⟨rfl, hi, hb, hk⟩; refine ⟨_, rfl, ?_⟩; have n0_ := Aside0.mk (hb); have n1_ := Aside0.mk (hi); clear HB; clear HI187; have HB := n0_; have HI187 := n1_; clear n0_ n1_; (try clear hb); (try clear hk); (try clear hi); (try simp only [errW_none, errW_some])))
          go_roundg kj5
          case measure => have := HK1.out; have := HJ5.out; omega
          case rel => exact ⟨(t189.extract 2 t189.size), (t201), zb51, H', ⟨by have := HK1.out; have := HJ5.out; omega⟩, ⟨by repeat (first | (with_reducible first | exact HI187.out | apply IsS54.alloc | apply IsS54.drewN | apply IsS54.drew) | exact HI187.out)⟩, ⟨by repeat (first | (with_reducible first | exact HB.out | apply below_alloc | apply pw_below_drewN | apply below_drew1 | refine below_set ?_ (IsS54.ge HI187.out)) | exact HB.out)⟩⟩
         ·have H1 : ((Builder_PutByte.f t193 ((t197) % 256)).bind fun bt202 => (request_Percent.l0 kj5 (t189.extract 2 t189.size) bt202.2)) = some (r1, r2) := by rw [if_neg (show ¬ (some q199).isNone = true by simp)] at H; exact H
          clear H
          have H := H1
          clear H1
          try simp only [errW_none, errW_some]
          replace H := Option.bind_eq_some_iff.mp H
          obtain ⟨⟨t202, t203⟩, A230, H⟩ := H
          replace H : (request_Percent.l0 kj5 (t189.extract 2 t189.size) t203) = some (r1, r2) := H
          have A23 := Aside0.mk A230
          clear A230
          have c24b0 := eq_true (of_decide_eq_true zb2 : 2 ≤ (t189.size : Int))
          have H' := Aside0.mk H
          clear H
          go_wp2_with (first | ((with_reducible refine gate_callee (f := 47) rfl ?_); refine goesL_ (some 33) rfl rfl Tryz.func47 zb12 rfl #[.string (t189.extract 0 2), .int .i64 16, .int .i64 64] rfl zb1 ?_; (with_reducible refine (strconv_ParseUint.calls (t189.extract 0 2) 16 64 t197 (some q199) _ ?side1 A17.out).mono ?_); (case side1 => exact Glob.below hGA.out zb13); rintro e w25 ⟨pv26, hpv26, rfl, hb⟩; refine ⟨_, rfl, ?_⟩; obtain ⟨tpv26, ppv26, rfl⟩ := ErrIs.some_ hpv26; have n0_ := Aside0.mk (IsS54.below zb30 hb); have n1_ := Aside0.mk (below_step zb13 hb); clear HI187; clear HB; have HI187 := n0_; have HB := n1_; clear n0_ n1_; (try clear hb); (try clear hb2); (try clear hk); (try clear hi); (try simp only [errW_none, errW_some])) | ((with_reducible refine gate_callee (f := 48) rfl ?_); refine goesL_ (some 38) rfl rfl Tryz.func48 zb12 rfl #[.pointer (some ⟨gb187, 0, none⟩), .int .u8 ((t197) % 256)] rfl zb1 ?_; (with_reducible refine (Builder_PutByte.calls gb187 t193 ((t197) % 256) t202 t203 w _ ?side1 ?side2 A23.out).mono ?_); (case side1 => repeat (first | (with_reducible first | exact HI187.out | apply IsS54.alloc | apply IsS54.drewN | apply IsS54.drew) | exact HI187.out)); (case side2 => repeat (first | (with_reducible first | exact HB.out | apply below_alloc | apply pw_below_drewN | apply below_drew1 | refine below_set ?_ (IsS54.ge HI187.out)) | exact HB.out)); rintro e w27 ⟨rfl, hi, hb, hk⟩; refine ⟨_, rfl, ?_⟩; have n0_ := Aside0.mk (hb); have n1_ := Aside0.mk (hi); clear HB; clear HI187; have HB := n0_; have HI187 := n1_; clear n0_ n1_; (try clear hb); (try clear hk); (try clear hi); (try simp only [errW_none, errW_some])))
          go_roundg kj5
          case measure => have := HK1.out; have := HJ5.out; omega
          case rel => exact ⟨(t189.extract 2 t189.size), (t203), zb51, H', ⟨by have := HK1.out; have := HJ5.out; omega⟩, ⟨by repeat (first | (with_reducible first | exact HI187.out | apply IsS54.alloc | apply IsS54.drewN | apply IsS54.drew) | exact HI187.out)⟩, ⟨by repeat (first | (with_reducible first | exact HB.out | apply below_alloc | apply pw_below_drewN | apply below_drew1 | refine below_set ?_ (IsS54.ge HI187.out)) | exact HB.out)⟩⟩
        ·rw [if_neg c16] at H
         exact absurd H zb26
       ·rw [if_neg c15] at H
        exact absurd H zb26
   ·replace c5 := Bool.eq_false_iff.mpr c5
    subst c5
    replace H : ((Builder_String.f t193).bind fun bt194 => (some (bt194.1, true))) = some (r1, r2) := by rw [if_neg (show ¬ (false = true) by decide)] at H; exact H
    replace H := Option.bind_eq_some_iff.mp H
    obtain ⟨⟨t194, t195⟩, A280, H⟩ := H
    replace H : (some (t194, true)) = some (r1, r2) := H
    have A28 := Aside0.mk A280
    clear A280
    simp only [Option.some.injEq, Prod.mk.injEq] at H
    obtain ⟨rfl, rfl⟩ := H
    go_wp2_with (first | ((with_reducible refine gate_callee (f := 31) rfl ?_); refine goesL_ (some 12) rfl rfl Tryz.func31 zb12 rfl #[.string x0_1, .string (⟨#[37]⟩ : ByteArray)] rfl zb1 ?_; (with_reducible refine (strings_Cut.calls x0_1 (⟨#[37]⟩ : ByteArray) t188 t189 false _ ?side1 A3.out).mono ?_); (case side1 => exact Glob.below hGA.out zb13); rintro e w29 ⟨rfl, hb⟩; refine ⟨_, rfl, ?_⟩; have n0_ := Aside0.mk (IsS54.below zb30 hb); have n1_ := Aside0.mk (below_step zb13 hb); clear HI187; clear HB; have HI187 := n0_; have HB := n1_; clear n0_ n1_; (try clear hb); (try clear hb2); (try clear hk); (try clear hi)) | ((with_reducible refine gate_callee (f := 27) rfl ?_); refine goesL_ (some 17) rfl rfl Tryz.func27 zb12 rfl #[.pointer (some ⟨gb187, 0, none⟩), .string t188] rfl zb1 ?_; (with_reducible refine (Builder_WriteString.calls gb187 x188000_1 t188 t191 t192 t193 w _ ?side1 ?side2 A4.out).mono ?_); (case side1 => repeat (first | (with_reducible first | exact HI187.out | apply IsS54.alloc | apply IsS54.drewN | apply IsS54.drew) | exact HI187.out)); (case side2 => repeat (first | (with_reducible first | exact HB.out | apply below_alloc | apply pw_below_drewN | apply below_drew1 | refine below_set ?_ (IsS54.ge HI187.out)) | exact HB.out)); rintro e w30 ⟨rfl, hi, hb, hk⟩; refine ⟨_, rfl, ?_⟩; have n0_ := Aside0.mk (hb); have n1_ := Aside0.mk (hi); clear HB; clear HI187; have HB := n0_; have HI187 := n1_; clear n0_ n1_; (try clear hb); (try clear hk); (try clear hi); (try simp only [errW_none, errW_some])) | ((with_reducible refine gate_callee (f := 29) rfl ?_); refine goesL_ (some 20) rfl rfl Tryz.func29 zb12 rfl #[.pointer (some ⟨gb187, 0, none⟩)] rfl zb1 ?_; (with_reducible refine (Builder_String.calls gb187 t193 t194 t195 w _ ?side1 ?side2 A28.out).mono ?_); (case side1 => repeat (first | (with_reducible first | exact HI187.out | apply IsS54.alloc | apply IsS54.drewN | apply IsS54.drew) | exact HI187.out)); (case side2 => repeat (first | (with_reducible first | exact HB.out | apply below_alloc | apply pw_below_drewN | apply below_drew1 | refine below_set ?_ (IsS54.ge HI187.out)) | exact HB.out)); rintro e w31 ⟨rfl, hi, hb, hk⟩; refine ⟨_, rfl, ?_⟩; have n0_ := Aside0.mk (hb); have n1_ := Aside0.mk (hi); clear HB; clear HI187; have HB := n0_; have HI187 := n1_; clear n0_ n1_; (try clear hb); (try clear hk); (try clear hi)))
    go_ret2
    exact ⟨zb4, zb13⟩
end Go.Proofs.YteonhdfjfjpbjaaGreatDoor.P
