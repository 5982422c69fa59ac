/- Texts of this seat, joined: lemmas and walks that its statements' proofs use. -/
import Derived.Test.YtaopopnlnohnpaaGreatDoorK1
import Derived.Test.YtaopopnlnohnpaaGreatDoorK3
import Derived.Test.YtaopopnlnohnpaaGreatDoorK2
/- Px31 -/
namespace Go.Proofs.YtaopopnlnohnpaaGreatDoor.P
open Go.Proofs.YtaopopnlnohnpaaGreatDoor.B
open Go.RowKit Go.Proofs.YtaopopnlnohnpaaGreatDoorW.PrintWords Go.Proofs.YtaopopnlnohnpaaGreatDoorW.PrintLast Go.Proofs.YtaopopnlnohnpaaGreatDoorW.PrintMore
attribute [local go_sem] str_leq str_gtr str_geq max2_int min2_int max_two min_two max_three min_three max_four min_four
set_option linter.unusedVariables false
set_option linter.unusedSimpArgs false
mutual
def broadsheetref18_Parse.l0 : Nat → ByteArray → List (S41) → ByteArray → Option ((List (S41)) × ByteArray × Int)
  | 0, _, _, _ => none
  | k + 1, x0, x5, x6 => (broadsheetref18_Line.f k x6).bind fun bt247 => (if bt247.2.2 = true then (broadsheetref18_Parse.j1 k x0 x5 bt247.1 bt247.2.1 (decide ((wrap64 ((x0.size : Int) - (bt247.2.1.size : Int))) > 8000))) else (broadsheetref18_Parse.j1 k x0 x5 bt247.1 bt247.2.1 true))
def broadsheetref18_Parse.j1 : Nat → ByteArray → List (S41) → ByteArray → ByteArray → Bool → Option ((List (S41)) × ByteArray × Int)
  | 0, _, _, _, _, _ => none
  | k + 1, x0, x5, x7, x8, x28 => if x28 = true then (if (x0.size : Int) > 8000 then (some (([] : List (S41)), (⟨#[]⟩ : ByteArray), 2)) else (some (([] : List (S41)), (⟨#[]⟩ : ByteArray), 180))) else (if x7.toList = ([] : List UInt8) then (some (x5, x8, 0)) else ((broadsheetref13_Token.f k x7).bind fun bt250 => (if bt250.1.toList = ([] : List UInt8) then (broadsheetref18_Parse.j2 k x0 x5 x8 bt250.1 bt250.2 true) else (if bt250.2.toList = ([] : List UInt8) then (broadsheetref18_Parse.j2 k x0 x5 x8 bt250.1 bt250.2 true) else (if 0 < (bt250.2.size : Int) then (if (bt bt250.2 0) = 58 then (if 1 ≤ (bt250.2.size : Int) then ((broadsheetref18_Trim.f k (bt250.2.extract 1 bt250.2.size)).bind fun t252 => ((broadsheetref18_Value.f k t252).bind fun t253 => (broadsheetref18_Parse.j2 k x0 x5 x8 bt250.1 bt250.2 (!t253)))) else (none)) else (broadsheetref18_Parse.j2 k x0 x5 x8 bt250.1 bt250.2 true)) else (none))))))
def broadsheetref18_Parse.j2 : Nat → ByteArray → List (S41) → ByteArray → ByteArray → ByteArray → Bool → Option ((List (S41)) × ByteArray × Int)
  | 0, _, _, _, _, _, _ => none
  | k + 1, x0, x5, x8, x10, x11, x58 => if x58 = true then (some (([] : List (S41)), (⟨#[]⟩ : ByteArray), 180)) else ((broadsheetref07_Lower.f k x10).bind fun t254 => (if 1 ≤ (x11.size : Int) then ((broadsheetref18_Trim.f k (x11.extract 1 x11.size)).bind fun t255 => (if x5.length < 4398046511104 then (broadsheetref18_Parse.l0 k x0 (x5 ++ [(⟨t254, t255⟩ : S41)]) x8) else (none))) else (none)))
end
def broadsheetref18_Parse.f (k : Nat) (a0 : ByteArray) : Option ((List (S41)) × ByteArray × Int) := broadsheetref18_Parse.l0 k a0 ([] : List (S41)) a0
def broadsheetref18_Parse.T13 : Bool × List (List Nat × List Nat) := (true, [([], []), ([], []), ([1], [1]), ([], []), ([3], [3]), ([4, 2], [4]), ([2, 5], [2, 5]), ([6], [6]), ([0, 7, 5], [0, 7]), ([8, 8, 0, 1, 2, 3, 4, 5, 6, 7, 8], [0, 8])])
def broadsheetref18_Parse.B13 : List Nat := [0, 0, 2, 0, 8, 30, 62, 126, 255, 511]
theorem broadsheetref18_Parse.tab13 : rtab .any (opsOf Tryz.f32 13) = broadsheetref18_Parse.T13 := by kernel_rfl
theorem broadsheetref18_Parse.bits13 : waitsOk broadsheetref18_Parse.T13.2 broadsheetref18_Parse.B13 = true := by kernel_rfl
set_option maxHeartbeats 8000000 in
set_option maxRecDepth 100000 in
theorem broadsheetref18_Parse.calls (k : Nat) (a0 : ByteArray) (r1 : List (S41)) (r2 : ByteArray) (r3 : Int) (w : World) (h : broadsheetref18_Parse.f k a0 = some (r1, r2, r3)) :
  Calls Tryz.prog 32 #[.string a0] w fun e w' => ∃ v0_ : Value, e = .returned (.tuple #[v0_, .string r2, .int .i64 r3]) ∧ Kd.R k41 41 w' w.heap.size (fun _ => True) v0_ r1 ∧ Below w.heap.size w w' := by
 have hu41 := Tryz.underlying41
 have HB := Aside0.mk (Below.refl w.heap.size w)
 have H : (broadsheetref18_Parse.l0 k a0 ([] : List (S41)) a0) = some (r1, r2, r3) := h
 clear h
 have H' := Aside0.mk H
 clear H
 go_enter Tryz.func32, Tryz.ntmps32
 go_wp2
 first | go_loopg [5, 6] k (fun kq v5 v6 w' => ∃ (x5_1 : List (S41)) (x6_1 : ByteArray), v6 = .string x6_1 ∧ Aside0 (broadsheetref18_Parse.l0 kq a0 x5_1 x6_1 = some (r1, r2, r3)) ∧ Aside0 (kq ≤ k) ∧ Aside0 (Kd.R k41 41 w' w.heap.size (fun _ => True) v5 x5_1) ∧ Aside0 (Below w.heap.size w w')) | (go_simp; go_loopg [5, 6] k (fun kq v5 v6 w' => ∃ (x5_1 : List (S41)) (x6_1 : ByteArray), v6 = .string x6_1 ∧ Aside0 (broadsheetref18_Parse.l0 kq a0 x5_1 x6_1 = some (r1, r2, r3)) ∧ Aside0 (kq ≤ k) ∧ Aside0 (Kd.R k41 41 w' w.heap.size (fun _ => True) v5 x5_1) ∧ Aside0 (Below w.heap.size w w')))
 case atStart => exact ⟨(([] : List (S41))), (a0), zb12, H', ⟨Nat.le_refl _⟩, ⟨by first | exact Kd.R_nil _ _ _ _ _ | exact Kd.N_nil _ _ _ _ _ | exact Kd.V_nil _ _ _ _ _ | exact Kd.Q_nil _ _ _ _ _ | exact Kd.S_nil _ _ _ _ _⟩, ⟨by repeat (first | (with_reducible first | exact HB.out | apply below_alloc | apply pw_below_drewN | apply below_drew1) | exact HB.out)⟩⟩
 case round =>
  clear H'
  obtain ⟨x5_1, x6_1, rfl, HA, HK1, HO_5, HB⟩ := hrel
  cases gk with
  | zero => exact absurd HA.out (by simp [broadsheetref18_Parse.l0])
  | succ k1 =>
   have H := HA.out
   clear HA
   simp only [broadsheetref18_Parse.l0] at H
   replace H := Option.bind_eq_some_iff.mp H
   obtain ⟨⟨t247, t248, t249⟩, A20, H⟩ := H
   replace H : (if t249 = true then (broadsheetref18_Parse.j1 k1 a0 x5_1 t247 t248 (decide ((wrap64 ((a0.size : Int) - (t248.size : Int))) > 8000))) else (broadsheetref18_Parse.j1 k1 a0 x5_1 t247 t248 true)) = some (r1, r2, r3) := H
   have A2 := Aside0.mk A20
   clear A20
   have HC3 := Aside0.mk H
   clear H
   go_upto_region 4 with (first | ((with_reducible refine gate_callee (f := 30) rfl ?_); refine goesL_ (some 15) rfl rfl Tryz.func30 zb11 rfl #[.string x6_1] rfl zb0 ?_; (with_reducible refine (broadsheetref18_Line.calls k1 x6_1 t247 t248 t249 _ A2.out).mono ?_); rintro e w' ⟨rfl, ⟨nd, rfl⟩⟩; refine ⟨_, rfl, ?_⟩))
   (try simp only [Act.put, List.setIfInBounds_toArray, List.set_cons_zero, List.set_cons_succ])
   go_cut [28] (fun v28 wc => ∃ (kq : Nat) (x28_2 : Bool), v28 = .bool x28_2 ∧ Aside0 (broadsheetref18_Parse.j1 kq a0 x5_1 t247 t248 x28_2 = some (r1, r2, r3)) ∧ Aside0 (kq ≤ k1) ∧ Aside0 (Kd.R k41 41 wc w.heap.size (fun _ => True) u5 x5_1) ∧ Aside0 (Below w.heap.size w wc))
   case first =>
    have H := HC3.out
    clear HC3
    by_cases c4 : t249 = true
    ·subst c4
     replace H : (broadsheetref18_Parse.j1 k1 a0 x5_1 t247 t248 (decide ((wrap64 ((a0.size : Int) - (t248.size : Int))) > 8000))) = some (r1, r2, r3) := by rw [if_pos rfl] at H; exact H
     have H' := Aside0.mk H
     clear H
     go_wp2
     go_meet
     case rel => exact ⟨_, (decide ((wrap64 ((a0.size : Int) - (t248.size : Int))) > 8000)), zb12, H', ⟨by have := HK1.out; first | omega | exact Nat.le_refl _⟩, ⟨by (with_reducible repeat (first | apply Kd.R_alloc | apply Kd.R_drewN | apply Kd.R_drew)); exact HO_5.out⟩, ⟨by repeat (first | (with_reducible first | exact HB.out | apply below_alloc | apply pw_below_drewN | apply below_drew1) | exact HB.out)⟩⟩
    ·replace c4 := Bool.eq_false_iff.mpr c4
     subst c4
     replace H : (broadsheetref18_Parse.j1 k1 a0 x5_1 t247 t248 true) = some (r1, r2, r3) := by rw [if_neg (show ¬ (false = true) by decide)] at H; exact H
     have H' := Aside0.mk H
     clear H
     go_wp2
     go_meet
     case rel => exact ⟨_, (true), zb12, H', ⟨by have := HK1.out; first | omega | exact Nat.le_refl _⟩, ⟨by (with_reducible repeat (first | apply Kd.R_alloc | apply Kd.R_drewN | apply Kd.R_drew)); exact HO_5.out⟩, ⟨by repeat (first | (with_reducible first | exact HB.out | apply below_alloc | apply pw_below_drewN | apply below_drew1) | exact HB.out)⟩⟩
   case rest =>
    clear HC3
    try clear p2
    try clear c3
    try clear c4
    obtain ⟨kq, x28_2, rfl, HA, HJ2, HO_5, HB⟩ := hcut
    cases kq with
    | zero => exact absurd HA.out (by simp [broadsheetref18_Parse.j1])
    | succ kj2 =>
     have H := HA.out
     clear HA
     simp only [broadsheetref18_Parse.j1] at H
     by_cases c5 : x28_2 = true
     ·subst c5
      replace H : (if (a0.size : Int) > 8000 then (some (([] : List (S41)), (⟨#[]⟩ : ByteArray), 2)) else (some (([] : List (S41)), (⟨#[]⟩ : ByteArray), 180))) = some (r1, r2, r3) := by rw [if_pos rfl] at H; exact H
      by_cases c6 : (a0.size : Int) > 8000
      ·rw [if_pos c6] at H
       have c6b0 : decide (8000 < (a0.size : Int)) = true := decide_eq_true c6
       have c6b1 : decide (8000 < a0.size) = true := decide_eq_true zb34
       clear c6
       simp only [Option.some.injEq, Prod.mk.injEq] at H
       obtain ⟨rfl, rfl, rfl⟩ := H
       go_wp2
       go_ret3
       exact ⟨_, by first | rfl | (simp [errW_none, errW_some, bne_nil_] <;> rfl) | (simp [*, errW_none, errW_some] <;> rfl), by first | exact Kd.R_nil _ _ _ _ _ | exact Kd.N_nil _ _ _ _ _ | exact Kd.V_nil _ _ _ _ _ | exact Kd.Q_nil _ _ _ _ _ | exact Kd.S_nil _ _ _ _ _, zb1⟩
      ·rw [if_neg c6] at H
       have c6b0 : decide (8000 < (a0.size : Int)) = false := decide_eq_false c6
       have c6b1 : decide (8000 < a0.size) = false := decide_eq_false zb34
       clear c6
       simp only [Option.some.injEq, Prod.mk.injEq] at H
       obtain ⟨rfl, rfl, rfl⟩ := H
       go_wp2
       go_ret3
       exact ⟨_, by first | rfl | (simp [errW_none, errW_some, bne_nil_] <;> rfl) | (simp [*, errW_none, errW_some] <;> rfl), by first | exact Kd.R_nil _ _ _ _ _ | exact Kd.N_nil _ _ _ _ _ | exact Kd.V_nil _ _ _ _ _ | exact Kd.Q_nil _ _ _ _ _ | exact Kd.S_nil _ _ _ _ _, zb1⟩
     ·replace c5 := Bool.eq_false_iff.mpr c5
      subst c5
      replace H : (if t247.toList = ([] : List UInt8) then (some (x5_1, t248, 0)) else ((broadsheetref13_Token.f kj2 t247).bind fun bt250 => (if bt250.1.toList = ([] : List UInt8) then (broadsheetref18_Parse.j2 kj2 a0 x5_1 t248 bt250.1 bt250.2 true) else (if bt250.2.toList = ([] : List UInt8) then (broadsheetref18_Parse.j2 kj2 a0 x5_1 t248 bt250.1 bt250.2 true) else (if 0 < (bt250.2.size : Int) then (if (bt bt250.2 0) = 58 then (if 1 ≤ (bt250.2.size : Int) then ((broadsheetref18_Trim.f kj2 (bt250.2.extract 1 bt250.2.size)).bind fun t252 => ((broadsheetref18_Value.f kj2 t252).bind fun t253 => (broadsheetref18_Parse.j2 kj2 a0 x5_1 t248 bt250.1 bt250.2 (!t253)))) else (none)) else (broadsheetref18_Parse.j2 kj2 a0 x5_1 t248 bt250.1 bt250.2 true)) else (none)))))) = some (r1, r2, r3) := by rw [if_neg (show ¬ (false = true) by decide)] at H; exact H
      by_cases c7 : t247.toList = ([] : List UInt8)
      ·rw [if_pos c7] at H
       have c7b0 : (t247.toList == ([] : List UInt8)) = true := beq_iff_eq.mpr c7
       have c7b1 : (t247.toList != ([] : List UInt8)) = false := bne_eq_false_iff_eq.mpr c7
       clear c7
       simp only [Option.some.injEq, Prod.mk.injEq] at H
       obtain ⟨rfl, rfl, rfl⟩ := H
       go_wp2
       go_ret3
       exact ⟨_, by first | rfl | (simp [errW_none, errW_some, bne_nil_] <;> rfl) | (simp [*, errW_none, errW_some] <;> rfl), by (with_reducible repeat (first | apply Kd.R_alloc | apply Kd.R_drewN | apply Kd.R_drew)); exact HO_5.out, zb1⟩
      ·rw [if_neg c7] at H
       have c7b0 : (t247.toList == ([] : List UInt8)) = false := beq_eq_false_iff_ne.mpr c7
       have c7b1 : (t247.toList != ([] : List UInt8)) = true := bne_iff_ne.mpr c7
       replace H := Option.bind_eq_some_iff.mp H
       obtain ⟨⟨t250, t251⟩, A80, H⟩ := H
       replace H : (if t250.toList = ([] : List UInt8) then (broadsheetref18_Parse.j2 kj2 a0 x5_1 t248 t250 t251 true) else (if t251.toList = ([] : List UInt8) then (broadsheetref18_Parse.j2 kj2 a0 x5_1 t248 t250 t251 true) else (if 0 < (t251.size : Int) then (if (bt t251 0) = 58 then (if 1 ≤ (t251.size : Int) then ((broadsheetref18_Trim.f kj2 (t251.extract 1 t251.size)).bind fun t252 => ((broadsheetref18_Value.f kj2 t252).bind fun t253 => (broadsheetref18_Parse.j2 kj2 a0 x5_1 t248 t250 t251 (!t253)))) else (none)) else (broadsheetref18_Parse.j2 kj2 a0 x5_1 t248 t250 t251 true)) else (none)))) = some (r1, r2, r3) := H
       have A8 := Aside0.mk A80
       clear A80
       have HC9 := Aside0.mk H
       clear H
       go_upto_region 11 with (first | ((with_reducible refine gate_callee (f := 43) rfl ?_); refine goesL_ (some 38) rfl rfl Tryz.func43 zb11 rfl #[.string t247] rfl zb0 ?_; (with_reducible refine (broadsheetref13_Token.calls kj2 t247 t250 t251 _ A8.out).mono ?_); rintro e w' ⟨rfl, ⟨nd, rfl⟩⟩; refine ⟨_, rfl, ?_⟩))
       (try simp only [Act.put, List.setIfInBounds_toArray, List.set_cons_zero, List.set_cons_succ])
       go_cut [58] (fun v58 wc => ∃ (kq : Nat) (x58_8 : Bool), v58 = .bool x58_8 ∧ Aside0 (broadsheetref18_Parse.j2 kq a0 x5_1 t248 t250 t251 x58_8 = some (r1, r2, r3)) ∧ Aside0 (kq ≤ kj2) ∧ Aside0 (Kd.R k41 41 wc w.heap.size (fun _ => True) u5 x5_1) ∧ Aside0 (Below w.heap.size w wc))
       case first =>
        have H := HC9.out
        clear HC9
        by_cases c10 : t250.toList = ([] : List UInt8)
        ·rw [if_pos c10] at H
         have c10b0 : (t250.toList == ([] : List UInt8)) = true := beq_iff_eq.mpr c10
         have c10b1 : (t250.toList != ([] : List UInt8)) = false := bne_eq_false_iff_eq.mpr c10
         clear c10
         (first | rw [c10b0] | (simp only [i64_w, i32_w]; rw [c10b0]) | skip)
         have H' := Aside0.mk H
         clear H
         go_wp2
         go_meet
         case rel => exact ⟨_, (true), zb12, H', ⟨by have := HK1.out; have := HJ2.out; first | omega | exact Nat.le_refl _⟩, ⟨by (with_reducible repeat (first | apply Kd.R_alloc | apply Kd.R_drewN | apply Kd.R_drew)); exact HO_5.out⟩, ⟨by repeat (first | (with_reducible first | exact HB.out | apply below_alloc | apply pw_below_drewN | apply below_drew1) | exact HB.out)⟩⟩
        ·rw [if_neg c10] at H
         have c10b0 : (t250.toList == ([] : List UInt8)) = false := beq_eq_false_iff_ne.mpr c10
         have c10b1 : (t250.toList != ([] : List UInt8)) = true := bne_iff_ne.mpr c10
         (first | rw [c10b0] | (simp only [i64_w, i32_w]; rw [c10b0]) | skip)
         by_cases c11 : t251.toList = ([] : List UInt8)
         ·rw [if_pos c11] at H
          have c11b0 : (t251.toList == ([] : List UInt8)) = true := beq_iff_eq.mpr c11
          have c11b1 : (t251.toList != ([] : List UInt8)) = false := bne_eq_false_iff_eq.mpr c11
          clear c11
          have H' := Aside0.mk H
          clear H
          go_wp2
          go_meet
          case rel => exact ⟨_, (true), zb12, H', ⟨by have := HK1.out; have := HJ2.out; first | omega | exact Nat.le_refl _⟩, ⟨by (with_reducible repeat (first | apply Kd.R_alloc | apply Kd.R_drewN | apply Kd.R_drew)); exact HO_5.out⟩, ⟨by repeat (first | (with_reducible first | exact HB.out | apply below_alloc | apply pw_below_drewN | apply below_drew1) | exact HB.out)⟩⟩
         ·rw [if_neg c11] at H
          have c11b0 : (t251.toList == ([] : List UInt8)) = false := beq_eq_false_iff_ne.mpr c11
          have c11b1 : (t251.toList != ([] : List UInt8)) = true := bne_iff_ne.mpr c11
          by_cases c12 : 0 < (t251.size : Int)
          ·rw [if_pos c12] at H
           have c12b0 : decide (0 < (t251.size : Int)) = true := decide_eq_true c12
           have c12b1 : decide (0 < t251.size) = true := decide_eq_true zb34
           clear c12
           by_cases c14 : (bt t251 0) = 58
           ·rw [if_pos c14] at H
            have c14b0 : ((bt t251 0) == 58) = true := beq_iff_eq.mpr c14
            have c14b1 : ((bt t251 0) != 58) = false := bne_eq_false_iff_eq.mpr c14
            clear c14
            by_cases c15 : 1 ≤ (t251.size : Int)
            ·rw [if_pos c15] at H
             have c15b0 := eq_true c15
             have c15b1 : decide (1 ≤ (t251.size : Int)) = true := decide_eq_true c15
             clear c15
             replace H := Option.bind_eq_some_iff.mp H
             obtain ⟨t252, A160, H⟩ := H
             replace H : ((broadsheetref18_Value.f kj2 t252).bind fun t253 => (broadsheetref18_Parse.j2 kj2 a0 x5_1 t248 t250 t251 (!t253))) = some (r1, r2, r3) := H
             have A16 := Aside0.mk A160
             clear A160
             replace H := Option.bind_eq_some_iff.mp H
             obtain ⟨t253, A170, H⟩ := H
             replace H : (broadsheetref18_Parse.j2 kj2 a0 x5_1 t248 t250 t251 (!t253)) = some (r1, r2, r3) := H
             have A17 := Aside0.mk A170
             clear A170
             have H' := Aside0.mk H
             clear H
             have p13 : 0 ≤ (0 : Int) := zb34
             have q13 : 0 < t251.size := (by have : (0 : Int) < (t251.size : Int) := of_decide_eq_true zb4; omega)
             have hx13 : ∀ h : 0 < t251.size, ((t251[0]'h).toNat : Int) = bt t251 0 := bt_at t251 0
             clear p13
             have qi13 : (0 < (t251.size : Int)) = True := eq_true (of_decide_eq_true zb4)
             replace q13 := eq_true q13
             go_wp2_with (first | (go_at_call 51; (with_reducible refine (broadsheetref18_Trim.calls kj2 (t251.extract 1 t251.size) t252 _ A16.out).mono ?_); rintro e w' ⟨rfl, ⟨nd, rfl⟩⟩) | (go_at_call 44; (with_reducible refine (broadsheetref18_Value.calls kj2 t252 t253 _ A17.out).mono ?_); rintro e w' ⟨rfl, ⟨nd, rfl⟩⟩))
             go_meet
             case rel => exact ⟨_, (!t253), zb12, H', ⟨by have := HK1.out; have := HJ2.out; first | omega | exact Nat.le_refl _⟩, ⟨by (with_reducible repeat (first | apply Kd.R_alloc | apply Kd.R_drewN | apply Kd.R_drew)); exact HO_5.out⟩, ⟨by repeat (first | (with_reducible first | exact HB.out | apply below_alloc | apply pw_below_drewN | apply below_drew1) | exact HB.out)⟩⟩
            ·rw [if_neg c15] at H
             exact absurd H zb46
           ·rw [if_neg c14] at H
            have c14b0 : ((bt t251 0) == 58) = false := beq_eq_false_iff_ne.mpr c14
            have c14b1 : ((bt t251 0) != 58) = true := bne_iff_ne.mpr c14
            have H' := Aside0.mk H
            clear H
            have p13 : 0 ≤ (0 : Int) := zb34
            have q13 : 0 < t251.size := (by have : (0 : Int) < (t251.size : Int) := of_decide_eq_true zb4; omega)
            have hx13 : ∀ h : 0 < t251.size, ((t251[0]'h).toNat : Int) = bt t251 0 := bt_at t251 0
            clear p13
            have qi13 : (0 < (t251.size : Int)) = True := eq_true (of_decide_eq_true zb4)
            replace q13 := eq_true q13
            go_wp2
            go_meet
            case rel => exact ⟨_, (true), zb12, H', ⟨by have := HK1.out; have := HJ2.out; first | omega | exact Nat.le_refl _⟩, ⟨by (with_reducible repeat (first | apply Kd.R_alloc | apply Kd.R_drewN | apply Kd.R_drew)); exact HO_5.out⟩, ⟨by repeat (first | (with_reducible first | exact HB.out | apply below_alloc | apply pw_below_drewN | apply below_drew1) | exact HB.out)⟩⟩
          ·rw [if_neg c12] at H
           exact absurd H zb46
       case rest =>
        clear HC9
        try clear c1
        try clear p1
        try clear q1
        try clear hx1
        try clear qi1
        try clear p2
        try clear c3
        try clear c4
        try clear c5
        try clear c6
        try clear c6b0
        try clear c6b1
        try clear p6
        try clear c7
        try clear c7b0
        try clear c7b1
        try clear c10
        try clear c10b0
        try clear c10b1
        try clear c11
        try clear c11b0
        try clear c11b1
        try clear c12
        try clear c12b0
        try clear c12b1
        try clear p13
        try clear q13
        try clear hx13
        try clear qi13
        try clear c14
        try clear c14b0
        try clear c14b1
        try clear c15
        try clear c15b0
        try clear c15b1
        try clear p13
        try clear p2
        try clear q13
        obtain ⟨kq, x58_8, rfl, HA, HJ8, HO_5, HB⟩ := hcut
        cases kq with
        | zero => exact absurd HA.out (by simp [broadsheetref18_Parse.j2])
        | succ kj8 =>
         have H := HA.out
         clear HA
         simp only [broadsheetref18_Parse.j2] at H
         by_cases c18 : x58_8 = true
         ·subst c18
          replace H : (some (([] : List (S41)), (⟨#[]⟩ : ByteArray), 180)) = some (r1, r2, r3) := by rw [if_pos rfl] at H; exact H
          simp only [Option.some.injEq, Prod.mk.injEq] at H
          obtain ⟨rfl, rfl, rfl⟩ := H
          go_wp2
          go_ret3
          exact ⟨_, by first | rfl | (simp [errW_none, errW_some, bne_nil_] <;> rfl) | (simp [*, errW_none, errW_some] <;> rfl), by first | exact Kd.R_nil _ _ _ _ _ | exact Kd.N_nil _ _ _ _ _ | exact Kd.V_nil _ _ _ _ _ | exact Kd.Q_nil _ _ _ _ _ | exact Kd.S_nil _ _ _ _ _, zb1⟩
         ·replace c18 := Bool.eq_false_iff.mpr c18
          subst c18
          replace H : ((broadsheetref07_Lower.f kj8 t250).bind fun t254 => (if 1 ≤ (t251.size : Int) then ((broadsheetref18_Trim.f kj8 (t251.extract 1 t251.size)).bind fun t255 => (if x5_1.length < 4398046511104 then (broadsheetref18_Parse.l0 kj8 a0 (x5_1 ++ [(⟨t254, t255⟩ : S41)]) t248) else (none))) else (none))) = some (r1, r2, r3) := by rw [if_neg (show ¬ (false = true) by decide)] at H; exact H
          replace H := Option.bind_eq_some_iff.mp H
          obtain ⟨t254, A190, H⟩ := H
          replace H : (if 1 ≤ (t251.size : Int) then ((broadsheetref18_Trim.f kj8 (t251.extract 1 t251.size)).bind fun t255 => (if x5_1.length < 4398046511104 then (broadsheetref18_Parse.l0 kj8 a0 (x5_1 ++ [(⟨t254, t255⟩ : S41)]) t248) else (none))) else (none)) = some (r1, r2, r3) := H
          have A19 := Aside0.mk A190
          clear A190
          by_cases c20 : 1 ≤ (t251.size : Int)
          ·rw [if_pos c20] at H
           have c20b0 := eq_true c20
           have c20b1 : decide (1 ≤ (t251.size : Int)) = true := decide_eq_true c20
           clear c20
           replace H := Option.bind_eq_some_iff.mp H
           obtain ⟨t255, A210, H⟩ := H
           replace H : (if x5_1.length < 4398046511104 then (broadsheetref18_Parse.l0 kj8 a0 (x5_1 ++ [(⟨t254, t255⟩ : S41)]) t248) else (none)) = some (r1, r2, r3) := H
           have A21 := Aside0.mk A210
           clear A210
           by_cases c22 : x5_1.length < 4398046511104
           ·rw [if_pos c22] at H
            have LMc22 := Aside0.mk c22
            clear c22
            obtain ⟨y256, hy256⟩ : ∃ y_ : List (S41), y_ = (x5_1 ++ [(⟨t254, t255⟩ : S41)]) := ⟨_, rfl⟩
            replace H : (broadsheetref18_Parse.l0 kj8 a0 y256 t248) = some (r1, r2, r3) := by first | (rw [hy256]; with_reducible exact H) | (have H2_ := (Option.bind_some _ _).symm.trans H; rw [hy256]; with_reducible exact H2_) | (have H2_ := (Option.bind_some _ _).symm.trans H; with_reducible exact H2_) | with_reducible exact H | (rw [hy256]; exact H) | exact H
            have Ny256 := Aside0.mk hy256
            clear hy256
            have H' := Aside0.mk H
            clear H
            try go_wp2
            have n0_ := Aside0.mk (Kd.R_drew HO_5.out)
            have n1_ := Aside0.mk (below_drew1 HB.out)
            clear HO_5
            clear HB
            have HO_5 := n0_
            have HB := n1_
            clear n0_ n1_
            refine start_ (n := 10) (S := fun w' => True) (ds := []) #[false, false, false, false, false, false, false, false, false, false] zb11 rfl rfl trivial (fun hHeld => ?_); refine with_tabW broadsheetref18_Parse.tab13 broadsheetref18_Parse.bits13 (fun HT_ HW_ => ?_)
            generalize wc.drew = w23 at HO_5 HB hHeld ⊢
            refine pure_ (i := 0) (N := some 59) (v := ?_) (a' := ?_) #[true, false, false, false, false, false, false, false, false, false] rfl rfl (any_of HT_.out zb11) (fun _ _ _ h => h) (Or.inl ⟨by rfl, ?_⟩) ?_ ?_
            rotate_left
            ·intro w'
             go_simp
             first | with_reducible rfl | (rw [if_neg zb2])
            rotate_left
            ·simp only [Act.put, List.setIfInBounds_toArray, List.set_cons_zero, List.set_cons_succ, i64_w, i32_w]
             rfl
            refine pure_ (i := 1) (N := some 60) (v := ?_) (a' := ?_) #[true, true, false, false, false, false, false, false, false, false] rfl rfl (any_of HT_.out zb11) (fun _ _ _ h => h) (Or.inl ⟨by rfl, ?_⟩) ?_ ?_
            rotate_left
            ·intro w'
             go_simp
             first | with_reducible rfl | (rw [if_neg zb2])
            rotate_left
            ·simp only [Act.put, List.setIfInBounds_toArray, List.set_cons_zero, List.set_cons_succ, i64_w, i32_w]
             rfl
            refine pure_ (i := 3) (N := some 62) (v := ?_) (a' := ?_) #[true, true, false, true, false, false, false, false, false, false] rfl rfl (any_of HT_.out zb11) (fun _ _ _ h => h) (Or.inl ⟨by rfl, ?_⟩) ?_ ?_
            rotate_left
            ·intro w'
             go_simp
             first | with_reducible rfl | (rw [if_neg zb2])
            rotate_left
            ·simp only [Act.put, List.setIfInBounds_toArray, List.set_cons_zero, List.set_cons_succ, i64_w, i32_w]
             rfl
            refine pure_ (i := 4) (N := some 63) (v := ?_) (a' := ?_) #[true, true, false, true, true, false, false, false, false, false] rfl rfl (any_of HT_.out zb11) (fun _ _ _ h => h) (Or.inl ⟨by rfl, ?_⟩) ?_ ?_
            rotate_left
            ·intro w'
             go_simp
             first | with_reducible rfl | (rw [if_neg zb2])
            rotate_left
            ·simp only [Act.put, List.setIfInBounds_toArray, List.set_cons_zero, List.set_cons_succ, i64_w, i32_w]
             rfl
            refine one_ (i := 2) (N := some 61) #[true, true, true, true, true, false, false, false, false, false] rfl rfl (one_of HT_.out zb11) zb39 (fun K hK => ?_)
            refine goes_ Tryz.func41 zb11 rfl #[.string t250] (by rfl) rfl rfl zb0 ?_
            with_reducible refine (broadsheetref07_Lower.calls kj8 t250 t254 _ A19.out).mono ?_
            rintro e w24 ⟨rfl, hb⟩
            refine ⟨_, rfl, ?_⟩
            have n0_ := Aside0.mk (Kd.R_below (by (with_reducible repeat (first | apply Kd.R_alloc | apply Kd.R_drewN | apply Kd.R_drew)); exact HO_5.out) hb)
            have n1_ := Aside0.mk (below_step zb1 hb)
            clear HO_5
            clear HB
            have HO_5 := n0_
            have HB := n1_
            clear n0_ n1_
            (try clear hb)
            (try clear hb2)
            (try clear hk)
            (try clear hi)
            refine hK.out _ _ trivial (fun hHeld => ?_)
            clear hK K
            refine norm_ (a' := ?_) ?_ ?_
            rotate_left
            ·show Act.put _ (some 61) _ = _
             simp only [Act.put, List.setIfInBounds_toArray, List.set_cons_zero, List.set_cons_succ, i64_w, i32_w]
             rfl
            refine one_ (i := 5) (N := some 64) #[true, true, true, true, true, true, false, false, false, false] rfl rfl (one_of HT_.out zb11) zb39 (fun K hK => ?_)
            refine goes_ Tryz.func51 zb11 rfl #[.string (t251.extract 1 t251.size)] (by rfl) rfl rfl zb0 ?_
            with_reducible refine (broadsheetref18_Trim.calls kj8 (t251.extract 1 t251.size) t255 _ A21.out).mono ?_
            rintro e w' ⟨rfl, ⟨nd, rfl⟩⟩
            refine ⟨_, rfl, ?_⟩
            refine hK.out _ _ trivial (fun hHeld => ?_)
            clear hK K
            refine norm_ (a' := ?_) ?_ ?_
            rotate_left
            ·show Act.put _ (some 64) _ = _
             simp only [Act.put, List.setIfInBounds_toArray, List.set_cons_zero, List.set_cons_succ, i64_w, i32_w]
             rfl
            refine pure_ (i := 6) (N := some 65) (v := ?_) (a' := ?_) #[true, true, true, true, true, true, true, false, false, false] rfl rfl (any_of HT_.out zb11) (fun _ _ _ h => h) (Or.inl ⟨by rfl, ?_⟩) ?_ ?_
            rotate_left
            ·intro w'
             go_simp
             first | with_reducible rfl | (rw [if_neg zb2])
            rotate_left
            ·simp only [Act.put, List.setIfInBounds_toArray, List.set_cons_zero, List.set_cons_succ, i64_w, i32_w]
             rfl
            refine one_ (i := 7) (N := some 66) #[true, true, true, true, true, true, true, true, false, false] rfl rfl (one_of HT_.out zb11) zb39 (fun K hK => ?_)
            refine value_ (w1 := ?_) (v := ?_) (by rfl) rfl ?_ ?_
            rotate_left 2
            ·go_simp
             constructor
             ·rfl
             ·rfl
            refine hK.out _ _ trivial (fun hHeld => ?_)
            clear hK K
            refine norm_ (a' := ?_) ?_ ?_
            rotate_left
            ·show Act.put _ (some 66) _ = _
             simp only [Act.put, List.setIfInBounds_toArray, List.set_cons_zero, List.set_cons_succ, i64_w, i32_w]
             rfl
            refine one_ (i := 8) (N := some 67) #[true, true, true, true, true, true, true, true, true, false] rfl rfl (one_of HT_.out zb11) zb39 (fun K hK => ?_)
            refine Kd.R_append_step k41 (w0 := w) w.heap.size (by rfl) (.tmp 59) (.tmp 66) 22 41 (.agg #[(.string ⟨#[]⟩), (.string ⟨#[]⟩)]) 32 rfl Tryz.underlying22 info41 rfl zb39 zb34 u5 x5_1 (⟨t254, t255⟩ : S41) [.string t254, .string t255] (fun _ => True) (fun _ => False) rfl rfl ?aP (fun _ hk => hk.elim) ?aF ?aO ?aB ?aS ?aL ?_
            (case aP => exact k41_mkM _ _ _ (⟨t254, t255⟩ : S41))
            (case aB => exact zb1)
            (case aF => exact (fun _ _ => trivial))
            (case aO => exact (by (with_reducible repeat (first | apply Kd.R_alloc | apply Kd.R_drewN | apply Kd.R_drew)); exact HO_5.out))
            (case aS => exact (below_size zb1))
            (case aL => have := LMc22.out; omega)
            intro v257 w25 ho hb hg hat
            rw [← Ny256.out] at ho
            have n0_ := Aside0.mk (hb)
            have n1_ := Aside0.mk (ho)
            clear HB
            clear HO_5
            have HB := n0_
            have HO258 := n1_
            clear n0_ n1_
            clear ho hb hg hat
            refine hK.out _ _ trivial (fun hHeld => ?_)
            clear hK K
            refine norm_ (a' := ?_) ?_ ?_
            rotate_left
            ·show Act.put _ (some 67) _ = _
             simp only [Act.put, List.setIfInBounds_toArray, List.set_cons_zero, List.set_cons_succ, i64_w, i32_w]
             rfl
            refine pure_ (i := 9) (N := some 5) (v := ?_) (a' := ?_) #[true, true, true, true, true, true, true, true, true, true] rfl rfl (any_of HT_.out zb11) (fun _ _ _ h => h) (Or.inl ⟨by rfl, ?_⟩) ?_ ?_
            rotate_left
            ·intro w'
             go_simp
             first | with_reducible rfl | (rw [if_neg zb2])
            rotate_left
            ·simp only [Act.put, List.setIfInBounds_toArray, List.set_cons_zero, List.set_cons_succ, i64_w, i32_w]
             rfl
            refine done_ (done_of HT_.out zb11) ?_
            try go_wp2
            go_roundg kj8
            case measure => have := HK1.out; have := HJ2.out; have := HJ8.out; omega
            case rel => exact ⟨(y256), (t248), zb12, H', ⟨by have := HK1.out; have := HJ2.out; have := HJ8.out; omega⟩, ⟨by (with_reducible repeat (first | apply Kd.R_alloc | apply Kd.R_drewN | apply Kd.R_drew)); exact HO258.out⟩, ⟨by repeat (first | (with_reducible first | exact HB.out | apply below_alloc | apply pw_below_drewN | apply below_drew1) | exact HB.out)⟩⟩
           ·rw [if_neg c22] at H
            exact absurd H zb46
          ·rw [if_neg c20] at H
           exact absurd H zb46
end Go.Proofs.YtaopopnlnohnpaaGreatDoor.P
/- Px32 -/
namespace Go.Proofs.YtaopopnlnohnpaaGreatDoor.P
open Go.Proofs.YtaopopnlnohnpaaGreatDoor.B
open Go.RowKit Go.Proofs.YtaopopnlnohnpaaGreatDoorW.PrintWords Go.Proofs.YtaopopnlnohnpaaGreatDoorW.PrintLast Go.Proofs.YtaopopnlnohnpaaGreatDoorW.PrintMore
attribute [local go_sem] str_leq str_gtr str_geq max2_int min2_int max_two min_two max_three min_three max_four min_four
set_option linter.unusedVariables false
set_option linter.unusedSimpArgs false
mutual
def broadsheetref21_Parse.j0 : Nat → ByteArray → ByteArray → Bool → Option (Int × (List (S41)) × ByteArray × Int)
  | 0, _, _, _ => none
  | k + 1, x4, x5, x38 => if x38 = true then (some (0, ([] : List (S41)), (⟨#[]⟩ : ByteArray), 200)) else (if 9 ≤ 12 then (if 12 ≤ (x4.size : Int) then ((broadsheetref03_Number.f k (x4.extract 9 12)).bind fun t263 => ((broadsheetref21_Reason.f t263).bind fun t264 => (if t264.toList = ([] : List UInt8) then (broadsheetref21_Parse.j1 k x5 t263 true) else (if 13 ≤ (x4.size : Int) then ((broadsheetref21_Reason.f t263).bind fun t265 => (broadsheetref21_Parse.j1 k x5 t263 ((x4.extract 13 x4.size).toList != t265.toList))) else (none))))) else (none)) else (none))
def broadsheetref21_Parse.j1 : Nat → ByteArray → Int → Bool → Option (Int × (List (S41)) × ByteArray × Int)
  | 0, _, _, _ => none
  | k + 1, x5, x7, x52 => if x52 = true then (some (0, ([] : List (S41)), (⟨#[]⟩ : ByteArray), 200)) else ((broadsheetref18_Parse.f k x5).bind fun bt266 => (if bt266.2.2 = 0 then ((broadsheetref21_bare.f x7).bind fun t272 => (if t272 = true then ((broadsheetref18_Get.f k bt266.1 (⟨#[99, 111, 110, 116, 101, 110, 116, 45, 108, 101, 110, 103, 116, 104]⟩ : ByteArray)).bind fun bt273 => (if bt273.2 > 0 then (some (0, ([] : List (S41)), (⟨#[]⟩ : ByteArray), 190)) else (if bt266.2.1.toList = ([] : List UInt8) then (some (x7, bt266.1, bt266.2.1, 0)) else (some (0, ([] : List (S41)), (⟨#[]⟩ : ByteArray), 190))))) else (if (wrap64 ((bt266.1.length : Int) - 1)) < 0 then (broadsheetref21_Parse.j2 k bt266.2.1 bt266.1 (wrap64 ((bt266.1.length : Int) - 1)) true x7 bt266.1 bt266.2.1) else (if 0 ≤ (wrap64 ((bt266.1.length : Int) - 1)) then (if (wrap64 ((bt266.1.length : Int) - 1)) < (bt266.1.length : Int) then (if ((rd_T41 bt266.1 (wrap64 ((bt266.1.length : Int) - 1))).f0).toList = ([99, 111, 110, 116, 101, 110, 116, 45, 108, 101, 110, 103, 116, 104] : List UInt8) then ((broadsheetref03_Digits.f k (bt266.2.1.size : Int)).bind fun t277 => (broadsheetref21_Parse.j2 k bt266.2.1 bt266.1 (wrap64 ((bt266.1.length : Int) - 1)) (((rd_T41 bt266.1 (wrap64 ((bt266.1.length : Int) - 1))).f1).toList != t277.toList) x7 bt266.1 bt266.2.1)) else (broadsheetref21_Parse.j2 k bt266.2.1 bt266.1 (wrap64 ((bt266.1.length : Int) - 1)) true x7 bt266.1 bt266.2.1)) else (none)) else (none))))) else (some (0, ([] : List (S41)), (⟨#[]⟩ : ByteArray), bt266.2.2))))
def broadsheetref21_Parse.j2 : Nat → ByteArray → List (S41) → Int → Bool → Int → List (S41) → ByteArray → Option (Int × (List (S41)) × ByteArray × Int)
  | 0, _, _, _, _, _, _, _ => none
  | k + 1, x5, x8, x13, x106, x272000, x272001, x272002 => if x106 = true then (some (0, ([] : List (S41)), (⟨#[]⟩ : ByteArray), 190)) else (if 0 ≤ x13 then (if x13 ≤ (x8.length : Int) then ((some (x8.take (x13 : Int).toNat : List (S41))).bind fun y278 => ((broadsheetref18_Get.f k y278 (⟨#[99, 111, 110, 116, 101, 110, 116, 45, 108, 101, 110, 103, 116, 104]⟩ : ByteArray)).bind fun bt281 => (if bt281.2 > 0 then (some (0, ([] : List (S41)), (⟨#[]⟩ : ByteArray), 190)) else (if (x5.size : Int) > 100000 then (some (0, ([] : List (S41)), (⟨#[]⟩ : ByteArray), 190)) else (some (x272000, y278, x272002, 0)))))) else (none)) else (none))
end
def broadsheetref21_Parse.f (k : Nat) (a0 : ByteArray) : Option (Int × (List (S41)) × ByteArray × Int) := (broadsheetref18_Line.f k a0).bind fun bt260 => (if bt260.2.2 = true then (if (bt260.1.size : Int) < 13 then (broadsheetref21_Parse.j0 k bt260.1 bt260.2.1 true) else (if 0 ≤ 9 then (if 9 ≤ (bt260.1.size : Int) then (if (bt260.1.extract 0 9).toList = ([72, 84, 84, 80, 47, 49, 46, 49, 32] : List UInt8) then (if 12 < (bt260.1.size : Int) then (broadsheetref21_Parse.j0 k bt260.1 bt260.2.1 ((bt bt260.1 12) != 32)) else (none)) else (broadsheetref21_Parse.j0 k bt260.1 bt260.2.1 true)) else (none)) else (none))) else (broadsheetref21_Parse.j0 k bt260.1 bt260.2.1 true))
def broadsheetref21_Parse.T5 : Bool × List (List Nat × List Nat) := (true, [([], []), ([0], [0]), ([1], [1]), ([2, 1], [2]), ([3], [3]), ([4, 3], [3, 4]), ([3], [3]), ([6, 3, 3], [3, 6]), ([5, 7, 3], [3, 5, 7]), ([3, 8], [3, 8])])
def broadsheetref21_Parse.B5 : List Nat := [0, 1, 3, 7, 15, 31, 15, 79, 255, 511]
theorem broadsheetref21_Parse.tab5 : rtab .any (opsOf Tryz.f14 5) = broadsheetref21_Parse.T5 := by kernel_rfl
theorem broadsheetref21_Parse.bits5 : waitsOk broadsheetref21_Parse.T5.2 broadsheetref21_Parse.B5 = true := by kernel_rfl
def broadsheetref21_Parse.T17 : Bool × List (List Nat × List Nat) := (true, [([], []), ([0], [0]), ([1], [1]), ([2], [2]), ([2], [2]), ([3, 4, 2], [2, 3, 4]), ([5, 2], [2, 5]), ([6, 2], [2, 6]), ([7, 2], [2, 7]), ([2, 8], [2, 8]), ([9, 2], [9]), ([10], [10]), ([10], [10]), ([11, 12, 10], [10, 11, 12]), ([13, 10], [10, 13]), ([14, 10], [10, 14]), ([10], [10]), ([16, 10], [10, 16]), ([17, 10, 10], [10, 17]), ([15, 18, 10], [10, 15, 18]), ([10, 19], [10, 19])])
def broadsheetref21_Parse.B17 : List Nat := [0, 1, 3, 7, 7, 31, 63, 127, 255, 511, 1023, 2047, 2047, 8191, 16383, 32767, 2047, 67583, 198655, 524287, 1048575]
theorem broadsheetref21_Parse.tab17 : rtab .any (opsOf Tryz.f14 17) = broadsheetref21_Parse.T17 := by kernel_rfl
theorem broadsheetref21_Parse.bits17 : waitsOk broadsheetref21_Parse.T17.2 broadsheetref21_Parse.B17 = true := by kernel_rfl
set_option maxHeartbeats 8000000 in
set_option maxRecDepth 100000 in
theorem broadsheetref21_Parse.calls (k : Nat) (a0 : ByteArray) (r1 : Int) (r2 : List (S41)) (r3 : ByteArray) (r4 : Int) (w : World) (h : broadsheetref21_Parse.f k a0 = some (r1, r2, r3, r4)) :
  Calls Tryz.prog 14 #[.string a0] w fun e w' => ∃ v1_ : Value, e = .returned (.tuple #[.agg #[.int .i64 r1, v1_, .string r3], .int .i64 r4]) ∧ Kd.R k41 41 w' w.heap.size (fun _ => True) v1_ r2 ∧ Below w.heap.size w w' := by
 have hu24 := Tryz.underlying24
 have HB := Aside0.mk (Below.refl w.heap.size w)
 have H : ((broadsheetref18_Line.f k a0).bind fun bt260 => (if bt260.2.2 = true then (if (bt260.1.size : Int) < 13 then (broadsheetref21_Parse.j0 k bt260.1 bt260.2.1 true) else (if 0 ≤ 9 then (if 9 ≤ (bt260.1.size : Int) then (if (bt260.1.extract 0 9).toList = ([72, 84, 84, 80, 47, 49, 46, 49, 32] : List UInt8) then (if 12 < (bt260.1.size : Int) then (broadsheetref21_Parse.j0 k bt260.1 bt260.2.1 ((bt bt260.1 12) != 32)) else (none)) else (broadsheetref21_Parse.j0 k bt260.1 bt260.2.1 true)) else (none)) else (none))) else (broadsheetref21_Parse.j0 k bt260.1 bt260.2.1 true))) = some (r1, r2, r3, r4) := h
 clear h
 replace H := Option.bind_eq_some_iff.mp H
 obtain ⟨⟨t260, t261, t262⟩, A20, H⟩ := H
 replace H : (if t262 = true then (if (t260.size : Int) < 13 then (broadsheetref21_Parse.j0 k t260 t261 true) else (if 0 ≤ 9 then (if 9 ≤ (t260.size : Int) then (if (t260.extract 0 9).toList = ([72, 84, 84, 80, 47, 49, 46, 49, 32] : List UInt8) then (if 12 < (t260.size : Int) then (broadsheetref21_Parse.j0 k t260 t261 ((bt t260 12) != 32)) else (none)) else (broadsheetref21_Parse.j0 k t260 t261 true)) else (none)) else (none))) else (broadsheetref21_Parse.j0 k t260 t261 true)) = some (r1, r2, r3, r4) := H
 have A2 := Aside0.mk A20
 clear A20
 have HC3 := Aside0.mk H
 clear H
 go_enter Tryz.func14, Tryz.ntmps14
 go_upto_region 2 with (first | ((with_reducible refine gate_dst (N := 2) rfl ?_); (try (refine gate_guard (by rfl) ?_; dsimp only)); refine box_event ?hg (N := 2) ?hd (cs := #[.int .i64 0, .slice none 0 0, .string (⟨#[]⟩ : ByteArray)]) (t := 24) ?hr ?_; (case hd => rfl); (case hg => rfl); (case hr => first | (go_simp; done) | (go_simp; rfl)); intro gb259 hg w4 hbox hb; have n0_ := Aside0.mk (below_step zb44 hb); have n1_ := Aside0.mk (hbox); have n2_ := Aside0.mk ((by rw [hg]; exact (below_size zb44) : w.heap.size ≤ gb259)); have n3_ := Aside0.mk ((by rw [hg]; exact (below_size zb44) : w.heap.size ≤ gb259)); clear HB; have HB := n0_; have BK259 := n1_; have GW259 := n2_; have GE259 := n3_; clear n0_ n1_ n2_ n3_; clear hb hbox hg) | ((with_reducible refine gate_callee (f := 30) rfl ?_); refine goesL_ (some 18) rfl rfl Tryz.func30 zb11 rfl #[.string a0] rfl zb0 ?_; (with_reducible refine (broadsheetref18_Line.calls k a0 t260 t261 t262 _ A2.out).mono ?_); rintro e w' ⟨rfl, ⟨nd, rfl⟩⟩; refine ⟨_, rfl, ?_⟩))
 (try simp only [Act.put, List.setIfInBounds_toArray, List.set_cons_zero, List.set_cons_succ])
 go_cut [38] (fun v38 wc => ∃ (kq : Nat) (x38_2 : Bool), v38 = .bool x38_2 ∧ Aside0 (broadsheetref21_Parse.j0 kq t260 t261 x38_2 = some (r1, r2, r3, r4)) ∧ Aside0 (kq ≤ k) ∧ Aside0 (wc.heap[gb259]? = some (.cells #[.int .i64 0, (.slice none 0 0), .string (⟨#[]⟩ : ByteArray)] 24 (0, 0))) ∧ Aside0 (Below w.heap.size w wc))
 case first =>
  have H := HC3.out
  clear HC3
  by_cases c5 : t262 = true
  ·subst c5
   replace H : (if (t260.size : Int) < 13 then (broadsheetref21_Parse.j0 k t260 t261 true) else (if 0 ≤ 9 then (if 9 ≤ (t260.size : Int) then (if (t260.extract 0 9).toList = ([72, 84, 84, 80, 47, 49, 46, 49, 32] : List UInt8) then (if 12 < (t260.size : Int) then (broadsheetref21_Parse.j0 k t260 t261 ((bt t260 12) != 32)) else (none)) else (broadsheetref21_Parse.j0 k t260 t261 true)) else (none)) else (none))) = some (r1, r2, r3, r4) := by rw [if_pos rfl] at H; exact H
   by_cases c6 : (t260.size : Int) < 13
   ·rw [if_pos c6] at H
    have c6b0 : decide ((t260.size : Int) < 13) = true := decide_eq_true c6
    have c6b1 : decide (t260.size < 13) = true := decide_eq_true zb34
    clear c6
    (first | rw [c6b0] | (simp only [i64_w, i32_w]; rw [c6b0]) | skip)
    have H' := Aside0.mk H
    clear H
    go_wp2
    go_meet
    case rel => exact ⟨_, (true), zb12, H', ⟨by first | omega | exact Nat.le_refl _⟩, ⟨by (with_reducible repeat (first | refine blk_drewN ?_ _ | refine blk_drew ?_ | refine blk_alloc ?_ _)); exact BK259.out⟩, ⟨by repeat (first | (with_reducible first | exact HB.out | apply below_alloc | apply pw_below_drewN | apply below_drew1 | refine below_set ?_ GE259.out) | exact HB.out | exact ⟨HB.out.os, HB.out.tape, HB.out.output, HB.out.size, HB.out.block⟩)⟩⟩
   ·rw [if_neg c6] at H
    have c6b0 : decide ((t260.size : Int) < 13) = false := decide_eq_false c6
    have c6b1 : decide (t260.size < 13) = false := decide_eq_false zb34
    clear c6
    (first | rw [c6b0] | (simp only [i64_w, i32_w]; rw [c6b0]) | skip)
    by_cases c7 : 0 ≤ 9
    ·rw [if_pos c7] at H
     have c7b0 := eq_true c7
     have c7b1 : decide (0 ≤ 9) = true := decide_eq_true c7
     clear c7
     by_cases c8 : 9 ≤ (t260.size : Int)
     ·rw [if_pos c8] at H
      have c8b0 := eq_true c8
      have c8b1 : decide (9 ≤ (t260.size : Int)) = true := decide_eq_true c8
      clear c8
      by_cases c9 : (t260.extract 0 9).toList = ([72, 84, 84, 80, 47, 49, 46, 49, 32] : List UInt8)
      ·rw [if_pos c9] at H
       have c9b0 : ((t260.extract 0 9).toList == ([72, 84, 84, 80, 47, 49, 46, 49, 32] : List UInt8)) = true := beq_iff_eq.mpr c9
       have c9b1 : ((t260.extract 0 9).toList != ([72, 84, 84, 80, 47, 49, 46, 49, 32] : List UInt8)) = false := bne_eq_false_iff_eq.mpr c9
       clear c9
       by_cases c10 : 12 < (t260.size : Int)
       ·rw [if_pos c10] at H
        have c10b0 : decide (12 < (t260.size : Int)) = true := decide_eq_true c10
        have c10b1 : decide (12 < t260.size) = true := decide_eq_true zb34
        clear c10
        have H' := Aside0.mk H
        clear H
        have p11 : 0 ≤ (12 : Int) := zb34
        have q11 : 12 < t260.size := (by have : (12 : Int) < (t260.size : Int) := of_decide_eq_true zb4; omega)
        have hx11 : ∀ h : 12 < t260.size, ((t260[12]'h).toNat : Int) = bt t260 12 := bt_at t260 12
        clear p11
        have qi11 : (12 < (t260.size : Int)) = True := eq_true (of_decide_eq_true zb4)
        replace q11 := eq_true q11
        go_wp2
        go_meet
        case rel => exact ⟨_, (((bt t260 12) != 32)), zb12, H', ⟨by first | omega | exact Nat.le_refl _⟩, ⟨by (with_reducible repeat (first | refine blk_drewN ?_ _ | refine blk_drew ?_ | refine blk_alloc ?_ _)); exact BK259.out⟩, ⟨by repeat (first | (with_reducible first | exact HB.out | apply below_alloc | apply pw_below_drewN | apply below_drew1 | refine below_set ?_ GE259.out) | exact HB.out | exact ⟨HB.out.os, HB.out.tape, HB.out.output, HB.out.size, HB.out.block⟩)⟩⟩
       ·rw [if_neg c10] at H
        exact absurd H zb46
      ·rw [if_neg c9] at H
       have c9b0 : ((t260.extract 0 9).toList == ([72, 84, 84, 80, 47, 49, 46, 49, 32] : List UInt8)) = false := beq_eq_false_iff_ne.mpr c9
       have c9b1 : ((t260.extract 0 9).toList != ([72, 84, 84, 80, 47, 49, 46, 49, 32] : List UInt8)) = true := bne_iff_ne.mpr c9
       have H' := Aside0.mk H
       clear H
       go_wp2
       go_meet
       case rel => exact ⟨_, (true), zb12, H', ⟨by first | omega | exact Nat.le_refl _⟩, ⟨by (with_reducible repeat (first | refine blk_drewN ?_ _ | refine blk_drew ?_ | refine blk_alloc ?_ _)); exact BK259.out⟩, ⟨by repeat (first | (with_reducible first | exact HB.out | apply below_alloc | apply pw_below_drewN | apply below_drew1 | refine below_set ?_ GE259.out) | exact HB.out | exact ⟨HB.out.os, HB.out.tape, HB.out.output, HB.out.size, HB.out.block⟩)⟩⟩
     ·rw [if_neg c8] at H
      exact absurd H zb46
    ·rw [if_neg c7] at H
     exact absurd H zb46
  ·replace c5 := Bool.eq_false_iff.mpr c5
   subst c5
   replace H : (broadsheetref21_Parse.j0 k t260 t261 true) = some (r1, r2, r3, r4) := by rw [if_neg (show ¬ (false = true) by decide)] at H; exact H
   have H' := Aside0.mk H
   clear H
   go_wp2
   go_meet
   case rel => exact ⟨_, (true), zb12, H', ⟨by first | omega | exact Nat.le_refl _⟩, ⟨by (with_reducible repeat (first | refine blk_drewN ?_ _ | refine blk_drew ?_ | refine blk_alloc ?_ _)); exact BK259.out⟩, ⟨by repeat (first | (with_reducible first | exact HB.out | apply below_alloc | apply pw_below_drewN | apply below_drew1 | refine below_set ?_ GE259.out) | exact HB.out | exact ⟨HB.out.os, HB.out.tape, HB.out.output, HB.out.size, HB.out.block⟩)⟩⟩
 case rest =>
  clear HC3
  try clear c1
  try clear p1
  try clear q1
  try clear hx1
  try clear qi1
  try clear p2
  try clear c3
  try clear c5
  try clear c6
  try clear c6b0
  try clear c6b1
  try clear c7
  try clear c7b0
  try clear c7b1
  try clear c8
  try clear c8b0
  try clear c8b1
  try clear c9
  try clear c9b0
  try clear c9b1
  try clear c10
  try clear c10b0
  try clear c10b1
  try clear p11
  try clear q11
  try clear hx11
  try clear qi11
  try clear p11
  try clear q11
  obtain ⟨kq, x38_2, rfl, HA, HJ2, BK259, HB⟩ := hcut
  cases kq with
  | zero => exact absurd HA.out (by simp [broadsheetref21_Parse.j0])
  | succ kj2 =>
   have H := HA.out
   clear HA
   simp only [broadsheetref21_Parse.j0] at H
   by_cases c12 : x38_2 = true
   ·subst c12
    replace H : (some (0, ([] : List (S41)), (⟨#[]⟩ : ByteArray), 200)) = some (r1, r2, r3, r4) := by rw [if_pos rfl] at H; exact H
    simp only [Option.some.injEq, Prod.mk.injEq] at H
    obtain ⟨rfl, rfl, rfl, rfl⟩ := H
    have hcz13_0 : wc.cell? ⟨gb259, 0, none⟩ = some (.int .i64 0) := (blk_cell BK259.out 0).trans rfl
    have hcz13_1 : wc.cell? ⟨gb259, 1, none⟩ = some (.slice none 0 0) := (blk_cell BK259.out 1).trans rfl
    have hcz13_2 : wc.cell? ⟨gb259, 2, none⟩ = some (.string (⟨#[]⟩ : ByteArray)) := (blk_cell BK259.out 2).trans rfl
    have hfz13_0 := blk_frozen BK259.out 0
    have hfz13_1 := blk_frozen BK259.out 1
    have hfz13_2 := blk_frozen BK259.out 2
    go_wp2
    refine bodyPost_ret (results_ct rfl _ _ gb259 24 #[.int .i64 0, .slice none 0 0, .string (⟨#[]⟩ : ByteArray)] (0, 0) _ rfl zb6 Tryz.underlying24 rfl zb11) rfl ?_
    exact ⟨_, by first | rfl | (simp [errW_none, errW_some, bne_nil_] <;> rfl) | (simp [*, errW_none, errW_some] <;> rfl), by first | exact Kd.R_nil _ _ _ _ _ | exact Kd.N_nil _ _ _ _ _ | exact Kd.V_nil _ _ _ _ _ | exact Kd.Q_nil _ _ _ _ _ | exact Kd.S_nil _ _ _ _ _, by repeat (first | (with_reducible first | exact HB.out | apply below_alloc | apply pw_below_drewN | apply below_drew1 | refine below_set ?_ GE259.out) | exact HB.out | exact ⟨HB.out.os, HB.out.tape, HB.out.output, HB.out.size, HB.out.block⟩)⟩
   ·replace c12 := Bool.eq_false_iff.mpr c12
    subst c12
    replace H : (if 9 ≤ 12 then (if 12 ≤ (t260.size : Int) then ((broadsheetref03_Number.f kj2 (t260.extract 9 12)).bind fun t263 => ((broadsheetref21_Reason.f t263).bind fun t264 => (if t264.toList = ([] : List UInt8) then (broadsheetref21_Parse.j1 kj2 t261 t263 true) else (if 13 ≤ (t260.size : Int) then ((broadsheetref21_Reason.f t263).bind fun t265 => (broadsheetref21_Parse.j1 kj2 t261 t263 ((t260.extract 13 t260.size).toList != t265.toList))) else (none))))) else (none)) else (none)) = some (r1, r2, r3, r4) := by rw [if_neg (show ¬ (false = true) by decide)] at H; exact H
    by_cases c14 : 9 ≤ 12
    ·rw [if_pos c14] at H
     have c14b0 := eq_true c14
     have c14b1 : decide (9 ≤ 12) = true := decide_eq_true c14
     clear c14
     by_cases c15 : 12 ≤ (t260.size : Int)
     ·rw [if_pos c15] at H
      have c15b0 := eq_true c15
      have c15b1 : decide (12 ≤ (t260.size : Int)) = true := decide_eq_true c15
      clear c15
      replace H := Option.bind_eq_some_iff.mp H
      obtain ⟨t263, A160, H⟩ := H
      replace H : ((broadsheetref21_Reason.f t263).bind fun t264 => (if t264.toList = ([] : List UInt8) then (broadsheetref21_Parse.j1 kj2 t261 t263 true) else (if 13 ≤ (t260.size : Int) then ((broadsheetref21_Reason.f t263).bind fun t265 => (broadsheetref21_Parse.j1 kj2 t261 t263 ((t260.extract 13 t260.size).toList != t265.toList))) else (none)))) = some (r1, r2, r3, r4) := H
      have A16 := Aside0.mk A160
      clear A160
      have HC17 := Aside0.mk H
      clear H
      go_upto_region 5 with (first | ((with_reducible refine gate_callee (f := 31) rfl ?_); refine goesL_ (some 42) rfl rfl Tryz.func31 zb11 rfl #[.string (t260.extract 9 12)] rfl zb0 ?_; (with_reducible refine (broadsheetref03_Number.calls kj2 (t260.extract 9 12) t263 _ A16.out).mono ?_); rintro e w' ⟨rfl, ⟨nd, rfl⟩⟩; refine ⟨_, rfl, ?_⟩))
      (try simp only [Act.put, List.setIfInBounds_toArray, List.set_cons_zero, List.set_cons_succ])
      go_cut [52] (fun v52 wc => ∃ (kq : Nat) (x52_16 : Bool), v52 = .bool x52_16 ∧ Aside0 (broadsheetref21_Parse.j1 kq t261 t263 x52_16 = some (r1, r2, r3, r4)) ∧ Aside0 (kq ≤ kj2) ∧ Aside0 (wc.heap[gb259]? = some (.cells #[.int .i64 0, (.slice none 0 0), .string (⟨#[]⟩ : ByteArray)] 24 (0, 0))) ∧ Aside0 (Below w.heap.size w wc))
      case first =>
       have H := HC17.out
       clear HC17
       replace H := Option.bind_eq_some_iff.mp H
       obtain ⟨t264, A180, H⟩ := H
       replace H : (if t264.toList = ([] : List UInt8) then (broadsheetref21_Parse.j1 kj2 t261 t263 true) else (if 13 ≤ (t260.size : Int) then ((broadsheetref21_Reason.f t263).bind fun t265 => (broadsheetref21_Parse.j1 kj2 t261 t263 ((t260.extract 13 t260.size).toList != t265.toList))) else (none))) = some (r1, r2, r3, r4) := H
       have A18 := Aside0.mk A180
       clear A180
       by_cases c19 : t264.toList = ([] : List UInt8)
       ·rw [if_pos c19] at H
        have c19b0 : (t264.toList == ([] : List UInt8)) = true := beq_iff_eq.mpr c19
        have c19b1 : (t264.toList != ([] : List UInt8)) = false := bne_eq_false_iff_eq.mpr c19
        clear c19
        (first | rw [c19b0] | (simp only [i64_w, i32_w]; rw [c19b0]) | skip)
        have H' := Aside0.mk H
        clear H
        try go_wp2
        have n0_ := Aside0.mk (blk_drew BK259.out)
        have n1_ := Aside0.mk (below_drew1 HB.out)
        clear BK259
        clear HB
        have BK259 := n0_
        have HB := n1_
        clear n0_ n1_
        refine start_ (n := 10) (S := fun w' => True) (ds := []) #[false, false, false, false, false, false, false, false, false, false] zb11 rfl rfl trivial (fun hHeld => ?_); refine with_tabW broadsheetref21_Parse.tab5 broadsheetref21_Parse.bits5 (fun HT_ HW_ => ?_)
        skip
        refine pure_ (i := 0) (N := some 43) (v := ?_) (a' := ?_) #[true, false, false, false, false, false, false, false, false, false] rfl rfl (any_of HT_.out zb11) (fun _ _ _ h => h) (Or.inl ⟨by rfl, ?_⟩) ?_ ?_
        rotate_left
        ·intro w'
         go_simp
         first | with_reducible rfl | (rw [if_neg zb2])
        rotate_left
        ·simp only [Act.put, List.setIfInBounds_toArray, List.set_cons_zero, List.set_cons_succ, i64_w, i32_w]
         rfl
        refine one_ (i := 1) (N := some 44) #[true, true, false, false, false, false, false, false, false, false] rfl rfl (one_of HT_.out zb11) zb39 (fun K hK => ?_)
        refine goes_ Tryz.func12 zb11 rfl #[.int .i64 t263] (by rfl) rfl rfl zb0 ?_
        with_reducible refine (broadsheetref21_Reason.calls t263 t264 _ A18.out).mono ?_
        rintro e w' ⟨rfl, ⟨nd, rfl⟩⟩
        refine ⟨_, rfl, ?_⟩
        refine hK.out _ _ trivial (fun hHeld => ?_)
        clear hK K
        refine norm_ (a' := ?_) ?_ ?_
        rotate_left
        ·show Act.put _ (some 44) _ = _
         simp only [Act.put, List.setIfInBounds_toArray, List.set_cons_zero, List.set_cons_succ, i64_w, i32_w]
         rfl
        refine pure_ (i := 2) (N := some 45) (v := ?_) (a' := ?_) #[true, true, true, false, false, false, false, false, false, false] rfl rfl (any_of HT_.out zb11) (fun _ _ _ h => h) (Or.inl ⟨by rfl, ?_⟩) ?_ ?_
        rotate_left
        ·intro w'
         go_simp
         first | with_reducible rfl | (rw [if_neg zb2])
        rotate_left
        ·simp only [Act.put, List.setIfInBounds_toArray, List.set_cons_zero, List.set_cons_succ, i64_w, i32_w]
         rfl
        refine pure_ (i := 3) (N := some 46) (v := ?_) (a' := ?_) #[true, true, true, true, false, false, false, false, false, false] rfl rfl (any_of HT_.out zb11) (fun _ _ _ h => h) (Or.inl ⟨by rfl, ?_⟩) ?_ ?_
        rotate_left
        ·intro w'
         go_simp
         first | with_reducible rfl | (rw [if_neg zb2])
        rotate_left
        ·simp only [Act.put, List.setIfInBounds_toArray, List.set_cons_zero, List.set_cons_succ, i64_w, i32_w]
         rfl
        refine pure_ (i := 4) (N := some 47) (v := undef) (a' := ?_) #[true, true, true, true, true, false, false, false, false, false] rfl rfl (any_of HT_.out zb11) (fun _ _ _ h => h) (Or.inr ⟨by rfl, rfl⟩) ?_ ?_
        rotate_left
        ·simp only [Act.put, List.setIfInBounds_toArray, List.set_cons_zero, List.set_cons_succ, i64_w, i32_w]
         rfl
        refine pure_ (i := 5) (N := some 48) (v := undef) (a' := ?_) #[true, true, true, true, true, true, false, false, false, false] rfl rfl (any_of HT_.out zb11) (fun _ _ _ h => h) (Or.inr ⟨by rfl, rfl⟩) ?_ ?_
        rotate_left
        ·simp only [Act.put, List.setIfInBounds_toArray, List.set_cons_zero, List.set_cons_succ, i64_w, i32_w]
         rfl
        refine pure_ (i := 6) (N := some 49) (v := undef) (a' := ?_) #[true, true, true, true, true, true, true, false, false, false] rfl rfl (any_of HT_.out zb11) (fun _ _ _ h => h) (Or.inr ⟨by rfl, rfl⟩) ?_ ?_
        rotate_left
        ·simp only [Act.put, List.setIfInBounds_toArray, List.set_cons_zero, List.set_cons_succ, i64_w, i32_w]
         rfl
        refine pure_ (i := 7) (N := some 50) (v := undef) (a' := ?_) #[true, true, true, true, true, true, true, true, false, false] rfl rfl (any_of HT_.out zb11) (fun _ _ _ h => h) (Or.inr ⟨by rfl, rfl⟩) ?_ ?_
        rotate_left
        ·simp only [Act.put, List.setIfInBounds_toArray, List.set_cons_zero, List.set_cons_succ, i64_w, i32_w]
         rfl
        refine pure_ (i := 8) (N := some 51) (v := undef) (a' := ?_) #[true, true, true, true, true, true, true, true, true, false] rfl rfl (any_of HT_.out zb11) (fun _ _ _ h => h) (Or.inr ⟨by rfl, rfl⟩) ?_ ?_
        rotate_left
        ·simp only [Act.put, List.setIfInBounds_toArray, List.set_cons_zero, List.set_cons_succ, i64_w, i32_w]
         rfl
        refine pure_ (i := 9) (N := some 52) (v := ?_) (a' := ?_) #[true, true, true, true, true, true, true, true, true, true] rfl rfl (any_of HT_.out zb11) (fun _ _ _ h => h) (Or.inl ⟨by rfl, ?_⟩) ?_ ?_
        rotate_left
        ·intro w'
         go_simp
         first | with_reducible rfl | (rw [if_neg zb2])
        rotate_left
        ·simp only [Act.put, List.setIfInBounds_toArray, List.set_cons_zero, List.set_cons_succ, i64_w, i32_w]
         rfl
        refine done_ (done_of HT_.out zb11) ?_
        try go_wp2
        go_meet
        case rel => exact ⟨_, (true), zb12, H', ⟨by have := HJ2.out; first | omega | exact Nat.le_refl _⟩, ⟨by (with_reducible repeat (first | refine blk_drewN ?_ _ | refine blk_drew ?_ | refine blk_alloc ?_ _)); exact BK259.out⟩, ⟨by repeat (first | (with_reducible first | exact HB.out | apply below_alloc | apply pw_below_drewN | apply below_drew1 | refine below_set ?_ GE259.out) | exact HB.out | exact ⟨HB.out.os, HB.out.tape, HB.out.output, HB.out.size, HB.out.block⟩)⟩⟩
       ·rw [if_neg c19] at H
        have c19b0 : (t264.toList == ([] : List UInt8)) = false := beq_eq_false_iff_ne.mpr c19
        have c19b1 : (t264.toList != ([] : List UInt8)) = true := bne_iff_ne.mpr c19
        (first | rw [c19b0] | (simp only [i64_w, i32_w]; rw [c19b0]) | skip)
        by_cases c21 : 13 ≤ (t260.size : Int)
        ·rw [if_pos c21] at H
         have c21b0 := eq_true c21
         have c21b1 : decide (13 ≤ (t260.size : Int)) = true := decide_eq_true c21
         clear c21
         replace H := Option.bind_eq_some_iff.mp H
         obtain ⟨t265, A220, H⟩ := H
         replace H : (broadsheetref21_Parse.j1 kj2 t261 t263 ((t260.extract 13 t260.size).toList != t265.toList)) = some (r1, r2, r3, r4) := H
         have A22 := Aside0.mk A220
         clear A220
         have H' := Aside0.mk H
         clear H
         try go_wp2
         have n0_ := Aside0.mk (blk_drew BK259.out)
         have n1_ := Aside0.mk (below_drew1 HB.out)
         clear BK259
         clear HB
         have BK259 := n0_
         have HB := n1_
         clear n0_ n1_
         refine start_ (n := 10) (S := fun w' => True) (ds := []) #[false, false, false, false, false, false, false, false, false, false] zb11 rfl rfl trivial (fun hHeld => ?_); refine with_tabW broadsheetref21_Parse.tab5 broadsheetref21_Parse.bits5 (fun HT_ HW_ => ?_)
         skip
         refine pure_ (i := 0) (N := some 43) (v := ?_) (a' := ?_) #[true, false, false, false, false, false, false, false, false, false] rfl rfl (any_of HT_.out zb11) (fun _ _ _ h => h) (Or.inl ⟨by rfl, ?_⟩) ?_ ?_
         rotate_left
         ·intro w'
          go_simp
          first | with_reducible rfl | (rw [if_neg zb2])
         rotate_left
         ·simp only [Act.put, List.setIfInBounds_toArray, List.set_cons_zero, List.set_cons_succ, i64_w, i32_w]
          rfl
         refine one_ (i := 1) (N := some 44) #[true, true, false, false, false, false, false, false, false, false] rfl rfl (one_of HT_.out zb11) zb39 (fun K hK => ?_)
         refine goes_ Tryz.func12 zb11 rfl #[.int .i64 t263] (by rfl) rfl rfl zb0 ?_
         with_reducible refine (broadsheetref21_Reason.calls t263 t264 _ A18.out).mono ?_
         rintro e w' ⟨rfl, ⟨nd, rfl⟩⟩
         refine ⟨_, rfl, ?_⟩
         refine hK.out _ _ trivial (fun hHeld => ?_)
         clear hK K
         refine norm_ (a' := ?_) ?_ ?_
         rotate_left
         ·show Act.put _ (some 44) _ = _
          simp only [Act.put, List.setIfInBounds_toArray, List.set_cons_zero, List.set_cons_succ, i64_w, i32_w]
          rfl
         refine pure_ (i := 2) (N := some 45) (v := ?_) (a' := ?_) #[true, true, true, false, false, false, false, false, false, false] rfl rfl (any_of HT_.out zb11) (fun _ _ _ h => h) (Or.inl ⟨by rfl, ?_⟩) ?_ ?_
         rotate_left
         ·intro w'
          go_simp
          first | with_reducible rfl | (rw [if_neg zb2])
         rotate_left
         ·simp only [Act.put, List.setIfInBounds_toArray, List.set_cons_zero, List.set_cons_succ, i64_w, i32_w]
          rfl
         refine pure_ (i := 3) (N := some 46) (v := ?_) (a' := ?_) #[true, true, true, true, false, false, false, false, false, false] rfl rfl (any_of HT_.out zb11) (fun _ _ _ h => h) (Or.inl ⟨by rfl, ?_⟩) ?_ ?_
         rotate_left
         ·intro w'
          go_simp
          first | with_reducible rfl | (rw [if_neg zb2])
         rotate_left
         ·simp only [Act.put, List.setIfInBounds_toArray, List.set_cons_zero, List.set_cons_succ, i64_w, i32_w]
          rfl
         refine pure_ (i := 4) (N := some 47) (v := ?_) (a' := ?_) #[true, true, true, true, true, false, false, false, false, false] rfl rfl (any_of HT_.out zb11) (fun _ _ _ h => h) (Or.inl ⟨by rfl, ?_⟩) ?_ ?_
         rotate_left
         ·intro w'
          go_simp
          first | with_reducible rfl | (rw [if_neg zb2])
         rotate_left
         ·simp only [Act.put, List.setIfInBounds_toArray, List.set_cons_zero, List.set_cons_succ, i64_w, i32_w]
          rfl
         refine pure_ (i := 5) (N := some 48) (v := ?_) (a' := ?_) #[true, true, true, true, true, true, false, false, false, false] rfl rfl (any_of HT_.out zb11) (fun _ _ _ h => h) (Or.inl ⟨by rfl, ?_⟩) ?_ ?_
         rotate_left
         ·intro w'
          go_simp
          first | with_reducible rfl | (rw [if_neg zb2])
         rotate_left
         ·simp only [Act.put, List.setIfInBounds_toArray, List.set_cons_zero, List.set_cons_succ, i64_w, i32_w]
          rfl
         refine pure_ (i := 6) (N := some 49) (v := ?_) (a' := ?_) #[true, true, true, true, true, true, true, false, false, false] rfl rfl (any_of HT_.out zb11) (fun _ _ _ h => h) (Or.inl ⟨by rfl, ?_⟩) ?_ ?_
         rotate_left
         ·intro w'
          go_simp
          first | with_reducible rfl | (rw [if_neg zb2])
         rotate_left
         ·simp only [Act.put, List.setIfInBounds_toArray, List.set_cons_zero, List.set_cons_succ, i64_w, i32_w]
          rfl
         refine one_ (i := 7) (N := some 50) #[true, true, true, true, true, true, true, true, false, false] rfl rfl (one_of HT_.out zb11) zb39 (fun K hK => ?_)
         refine goes_ Tryz.func12 zb11 rfl #[.int .i64 t263] (by rfl) rfl rfl zb0 ?_
         with_reducible refine (broadsheetref21_Reason.calls t263 t265 _ A22.out).mono ?_
         rintro e w' ⟨rfl, ⟨nd, rfl⟩⟩
         refine ⟨_, rfl, ?_⟩
         refine hK.out _ _ trivial (fun hHeld => ?_)
         clear hK K
         refine norm_ (a' := ?_) ?_ ?_
         rotate_left
         ·show Act.put _ (some 50) _ = _
          simp only [Act.put, List.setIfInBounds_toArray, List.set_cons_zero, List.set_cons_succ, i64_w, i32_w]
          rfl
         refine pure_ (i := 8) (N := some 51) (v := ?_) (a' := ?_) #[true, true, true, true, true, true, true, true, true, false] rfl rfl (any_of HT_.out zb11) (fun _ _ _ h => h) (Or.inl ⟨by rfl, ?_⟩) ?_ ?_
         rotate_left
         ·intro w'
          go_simp
          first | with_reducible rfl | (rw [if_neg zb2])
         rotate_left
         ·simp only [Act.put, List.setIfInBounds_toArray, List.set_cons_zero, List.set_cons_succ, i64_w, i32_w]
          rfl
         refine pure_ (i := 9) (N := some 52) (v := ?_) (a' := ?_) #[true, true, true, true, true, true, true, true, true, true] rfl rfl (any_of HT_.out zb11) (fun _ _ _ h => h) (Or.inl ⟨by rfl, ?_⟩) ?_ ?_
         rotate_left
         ·intro w'
          go_simp
          first | with_reducible rfl | (rw [if_neg zb2])
         rotate_left
         ·simp only [Act.put, List.setIfInBounds_toArray, List.set_cons_zero, List.set_cons_succ, i64_w, i32_w]
          rfl
         refine done_ (done_of HT_.out zb11) ?_
         try go_wp2
         go_meet
         case rel => exact ⟨_, (((t260.extract 13 t260.size).toList != t265.toList)), zb12, H', ⟨by have := HJ2.out; first | omega | exact Nat.le_refl _⟩, ⟨by (with_reducible repeat (first | refine blk_drewN ?_ _ | refine blk_drew ?_ | refine blk_alloc ?_ _)); exact BK259.out⟩, ⟨by repeat (first | (with_reducible first | exact HB.out | apply below_alloc | apply pw_below_drewN | apply below_drew1 | refine below_set ?_ GE259.out) | exact HB.out | exact ⟨HB.out.os, HB.out.tape, HB.out.output, HB.out.size, HB.out.block⟩)⟩⟩
        ·rw [if_neg c21] at H
         exact absurd H zb46
      case rest =>
       clear HC17
       try clear c1
       try clear p1
       try clear q1
       try clear hx1
       try clear qi1
       try clear c2
       try clear p2
       try clear c3
       try clear c5
       try clear c6
       try clear c6b0
       try clear c6b1
       try clear c7
       try clear c7b0
       try clear c7b1
       try clear c8
       try clear c8b0
       try clear c8b1
       try clear c9
       try clear c9b0
       try clear c9b1
       try clear c10
       try clear c10b0
       try clear c10b1
       try clear p11
       try clear q11
       try clear hx11
       try clear qi11
       try clear c12
       try clear c14
       try clear c14b0
       try clear c14b1
       try clear c15
       try clear c15b0
       try clear c15b1
       try clear c19
       try clear c19b0
       try clear c19b1
       try clear c21
       try clear c21b0
       try clear c21b1
       try clear hcz13_0
       try clear hcz13_1
       try clear hcz13_2
       try clear hfz13_0
       try clear hfz13_1
       try clear hfz13_2
       try clear p1
       try clear p11
       try clear p2
       try clear q1
       try clear q11
       obtain ⟨kq, x52_16, rfl, HA, HJ16, BK259, HB⟩ := hcut
       cases kq with
       | zero => exact absurd HA.out (by simp [broadsheetref21_Parse.j1])
       | succ kj16 =>
        have H := HA.out
        clear HA
        simp only [broadsheetref21_Parse.j1] at H
        by_cases c24 : x52_16 = true
        ·subst c24
         replace H : (some (0, ([] : List (S41)), (⟨#[]⟩ : ByteArray), 200)) = some (r1, r2, r3, r4) := by rw [if_pos rfl] at H; exact H
         simp only [Option.some.injEq, Prod.mk.injEq] at H
         obtain ⟨rfl, rfl, rfl, rfl⟩ := H
         have hcz25_0 : wc.cell? ⟨gb259, 0, none⟩ = some (.int .i64 0) := (blk_cell BK259.out 0).trans rfl
         have hcz25_1 : wc.cell? ⟨gb259, 1, none⟩ = some (.slice none 0 0) := (blk_cell BK259.out 1).trans rfl
         have hcz25_2 : wc.cell? ⟨gb259, 2, none⟩ = some (.string (⟨#[]⟩ : ByteArray)) := (blk_cell BK259.out 2).trans rfl
         have hfz25_0 := blk_frozen BK259.out 0
         have hfz25_1 := blk_frozen BK259.out 1
         have hfz25_2 := blk_frozen BK259.out 2
         go_wp2
         refine bodyPost_ret (results_ct rfl _ _ gb259 24 #[.int .i64 0, .slice none 0 0, .string (⟨#[]⟩ : ByteArray)] (0, 0) _ rfl zb6 Tryz.underlying24 rfl zb11) rfl ?_
         exact ⟨_, by first | rfl | (simp [errW_none, errW_some, bne_nil_] <;> rfl) | (simp [*, errW_none, errW_some] <;> rfl), by first | exact Kd.R_nil _ _ _ _ _ | exact Kd.N_nil _ _ _ _ _ | exact Kd.V_nil _ _ _ _ _ | exact Kd.Q_nil _ _ _ _ _ | exact Kd.S_nil _ _ _ _ _, by repeat (first | (with_reducible first | exact HB.out | apply below_alloc | apply pw_below_drewN | apply below_drew1 | refine below_set ?_ GE259.out) | exact HB.out | exact ⟨HB.out.os, HB.out.tape, HB.out.output, HB.out.size, HB.out.block⟩)⟩
        ·replace c24 := Bool.eq_false_iff.mpr c24
         subst c24
         replace H : ((broadsheetref18_Parse.f kj16 t261).bind fun bt266 => (if bt266.2.2 = 0 then ((broadsheetref21_bare.f t263).bind fun t272 => (if t272 = true then ((broadsheetref18_Get.f kj16 bt266.1 (⟨#[99, 111, 110, 116, 101, 110, 116, 45, 108, 101, 110, 103, 116, 104]⟩ : ByteArray)).bind fun bt273 => (if bt273.2 > 0 then (some (0, ([] : List (S41)), (⟨#[]⟩ : ByteArray), 190)) else (if bt266.2.1.toList = ([] : List UInt8) then (some (t263, bt266.1, bt266.2.1, 0)) else (some (0, ([] : List (S41)), (⟨#[]⟩ : ByteArray), 190))))) else (if (wrap64 ((bt266.1.length : Int) - 1)) < 0 then (broadsheetref21_Parse.j2 kj16 bt266.2.1 bt266.1 (wrap64 ((bt266.1.length : Int) - 1)) true t263 bt266.1 bt266.2.1) else (if 0 ≤ (wrap64 ((bt266.1.length : Int) - 1)) then (if (wrap64 ((bt266.1.length : Int) - 1)) < (bt266.1.length : Int) then (if ((rd_T41 bt266.1 (wrap64 ((bt266.1.length : Int) - 1))).f0).toList = ([99, 111, 110, 116, 101, 110, 116, 45, 108, 101, 110, 103, 116, 104] : List UInt8) then ((broadsheetref03_Digits.f kj16 (bt266.2.1.size : Int)).bind fun t277 => (broadsheetref21_Parse.j2 kj16 bt266.2.1 bt266.1 (wrap64 ((bt266.1.length : Int) - 1)) (((rd_T41 bt266.1 (wrap64 ((bt266.1.length : Int) - 1))).f1).toList != t277.toList) t263 bt266.1 bt266.2.1)) else (broadsheetref21_Parse.j2 kj16 bt266.2.1 bt266.1 (wrap64 ((bt266.1.length : Int) - 1)) true t263 bt266.1 bt266.2.1)) else (none)) else (none))))) else (some (0, ([] : List (S41)), (⟨#[]⟩ : ByteArray), bt266.2.2)))) = some (r1, r2, r3, r4) := by rw [if_neg (show ¬ (false = true) by decide)] at H; exact H
         replace H := Option.bind_eq_some_iff.mp H
         obtain ⟨⟨t266, t267, t268⟩, A260, H⟩ := H
         replace H : (if t268 = 0 then ((broadsheetref21_bare.f t263).bind fun t272 => (if t272 = true then ((broadsheetref18_Get.f kj16 t266 (⟨#[99, 111, 110, 116, 101, 110, 116, 45, 108, 101, 110, 103, 116, 104]⟩ : ByteArray)).bind fun bt273 => (if bt273.2 > 0 then (some (0, ([] : List (S41)), (⟨#[]⟩ : ByteArray), 190)) else (if t267.toList = ([] : List UInt8) then (some (t263, t266, t267, 0)) else (some (0, ([] : List (S41)), (⟨#[]⟩ : ByteArray), 190))))) else (if (wrap64 ((t266.length : Int) - 1)) < 0 then (broadsheetref21_Parse.j2 kj16 t267 t266 (wrap64 ((t266.length : Int) - 1)) true t263 t266 t267) else (if 0 ≤ (wrap64 ((t266.length : Int) - 1)) then (if (wrap64 ((t266.length : Int) - 1)) < (t266.length : Int) then (if ((rd_T41 t266 (wrap64 ((t266.length : Int) - 1))).f0).toList = ([99, 111, 110, 116, 101, 110, 116, 45, 108, 101, 110, 103, 116, 104] : List UInt8) then ((broadsheetref03_Digits.f kj16 (t267.size : Int)).bind fun t277 => (broadsheetref21_Parse.j2 kj16 t267 t266 (wrap64 ((t266.length : Int) - 1)) (((rd_T41 t266 (wrap64 ((t266.length : Int) - 1))).f1).toList != t277.toList) t263 t266 t267)) else (broadsheetref21_Parse.j2 kj16 t267 t266 (wrap64 ((t266.length : Int) - 1)) true t263 t266 t267)) else (none)) else (none))))) else (some (0, ([] : List (S41)), (⟨#[]⟩ : ByteArray), t268))) = some (r1, r2, r3, r4) := H
         have A26 := Aside0.mk A260
         clear A260
         by_cases c27 : t268 = 0
         ·rw [if_pos c27] at H
          have c27b0 : (t268 == 0) = true := beq_iff_eq.mpr c27
          have c27b1 : (t268 != 0) = false := bne_eq_false_iff_eq.mpr c27
          clear c27
          replace H := Option.bind_eq_some_iff.mp H
          obtain ⟨t272, A280, H⟩ := H
          replace H : (if t272 = true then ((broadsheetref18_Get.f kj16 t266 (⟨#[99, 111, 110, 116, 101, 110, 116, 45, 108, 101, 110, 103, 116, 104]⟩ : ByteArray)).bind fun bt273 => (if bt273.2 > 0 then (some (0, ([] : List (S41)), (⟨#[]⟩ : ByteArray), 190)) else (if t267.toList = ([] : List UInt8) then (some (t263, t266, t267, 0)) else (some (0, ([] : List (S41)), (⟨#[]⟩ : ByteArray), 190))))) else (if (wrap64 ((t266.length : Int) - 1)) < 0 then (broadsheetref21_Parse.j2 kj16 t267 t266 (wrap64 ((t266.length : Int) - 1)) true t263 t266 t267) else (if 0 ≤ (wrap64 ((t266.length : Int) - 1)) then (if (wrap64 ((t266.length : Int) - 1)) < (t266.length : Int) then (if ((rd_T41 t266 (wrap64 ((t266.length : Int) - 1))).f0).toList = ([99, 111, 110, 116, 101, 110, 116, 45, 108, 101, 110, 103, 116, 104] : List UInt8) then ((broadsheetref03_Digits.f kj16 (t267.size : Int)).bind fun t277 => (broadsheetref21_Parse.j2 kj16 t267 t266 (wrap64 ((t266.length : Int) - 1)) (((rd_T41 t266 (wrap64 ((t266.length : Int) - 1))).f1).toList != t277.toList) t263 t266 t267)) else (broadsheetref21_Parse.j2 kj16 t267 t266 (wrap64 ((t266.length : Int) - 1)) true t263 t266 t267)) else (none)) else (none)))) = some (r1, r2, r3, r4) := H
          have A28 := Aside0.mk A280
          clear A280
          by_cases c29 : t272 = true
          ·subst c29
           replace H : ((broadsheetref18_Get.f kj16 t266 (⟨#[99, 111, 110, 116, 101, 110, 116, 45, 108, 101, 110, 103, 116, 104]⟩ : ByteArray)).bind fun bt273 => (if bt273.2 > 0 then (some (0, ([] : List (S41)), (⟨#[]⟩ : ByteArray), 190)) else (if t267.toList = ([] : List UInt8) then (some (t263, t266, t267, 0)) else (some (0, ([] : List (S41)), (⟨#[]⟩ : ByteArray), 190))))) = some (r1, r2, r3, r4) := by rw [if_pos rfl] at H; exact H
           replace H := Option.bind_eq_some_iff.mp H
           obtain ⟨⟨t273, t274⟩, A300, H⟩ := H
           replace H : (if t274 > 0 then (some (0, ([] : List (S41)), (⟨#[]⟩ : ByteArray), 190)) else (if t267.toList = ([] : List UInt8) then (some (t263, t266, t267, 0)) else (some (0, ([] : List (S41)), (⟨#[]⟩ : ByteArray), 190)))) = some (r1, r2, r3, r4) := H
           have A30 := Aside0.mk A300
           clear A300
           by_cases c31 : t274 > 0
           ·rw [if_pos c31] at H
            have c31b0 : decide (0 < t274) = true := decide_eq_true c31
            clear c31
            simp only [Option.some.injEq, Prod.mk.injEq] at H
            obtain ⟨rfl, rfl, rfl, rfl⟩ := H
            go_wp2_with (first | ((with_reducible refine gate_callee (f := 32) rfl ?_); refine goesL_ (some 56) rfl rfl Tryz.func32 zb11 rfl #[.string t261] rfl zb0 ?_; (with_reducible refine (broadsheetref18_Parse.calls kj16 t261 t266 t267 t268 _ A26.out).mono ?_); rintro e w32 ⟨v269, rfl, ho0, hb⟩; refine ⟨_, rfl, ?_⟩; have n0_ := Aside0.mk (Kd.R_lower ho0 (below_size zb5)); have n1_ := Aside0.mk (blk_below (g := gb259) (o := .cells #[.int .i64 0, .slice none 0 0, .string (⟨#[]⟩ : ByteArray)] 24 (0, 0)) zb16 hb); have n2_ := Aside0.mk (below_step zb5 hb); clear BK259; clear HB; have HO270 := n0_; have BK259 := n1_; have HB := n2_; clear n0_ n1_ n2_; (try clear hb); (try clear hb2); (try clear hk); (try clear hi); (try clear ho0); obtain ⟨Ao33, co33, eo33⟩ := Kd.R_slice HO270.out; subst eo33) | ((with_reducible refine gate_dst (N := 10) rfl ?_); (try (refine gate_guard (by rfl) ?_; dsimp only)); refine box_event ?hg (N := 10) ?hd (cs := #[.int .i64 0, .slice none 0 0, .string (⟨#[]⟩ : ByteArray)]) (t := 24) ?hr ?_; (case hd => rfl); (case hg => rfl); (case hr => first | (go_simp; done) | (go_simp; rfl)); intro gb271 hg w34 hbox hb; have n0_ := Aside0.mk (Kd.R_below zb45 hb); have n1_ := Aside0.mk (blk_below (g := gb259) (o := .cells #[.int .i64 0, .slice none 0 0, .string (⟨#[]⟩ : ByteArray)] 24 (0, 0)) zb16 hb); have n2_ := Aside0.mk (below_step zb5 hb); have n3_ := Aside0.mk (hbox); have n4_ := Aside0.mk ((by rw [hg]; exact (below_size zb5) : w.heap.size ≤ gb271)); have n5_ := Aside0.mk ((by rw [hg]; exact (below_size zb5) : w.heap.size ≤ gb271)); have n6_ := Aside0.mk ((by rw [hg]; exact Nat.ne_of_lt (blk_lt (g := gb259) (o := .cells #[.int .i64 0, .slice none 0 0, .string (⟨#[]⟩ : ByteArray)] 24 (0, 0)) zb16) : gb259 ≠ gb271)); have n7_ := Aside0.mk ((by rw [hg]; exact Nat.ne_of_gt (blk_lt (g := gb259) (o := .cells #[.int .i64 0, .slice none 0 0, .string (⟨#[]⟩ : ByteArray)] 24 (0, 0)) zb16) : gb271 ≠ gb259)); clear HO270; clear BK259; clear HB; have HO270 := n0_; have BK259 := n1_; have HB := n2_; have BK271 := n3_; have GW271 := n4_; have GE271 := n5_; have NB259_271 := n6_; have NB271_259 := n7_; clear n0_ n1_ n2_ n3_ n4_ n5_ n6_ n7_; clear hb hbox hg; have hnb35 := NB271_259.out; have hnc35 := NB259_271.out; have hcz36_0 : w34.cell? ⟨gb271, 0, none⟩ = some (.int .i64 0) := (blk_cell BK271.out 0).trans rfl; have hcz36_1 : w34.cell? ⟨gb271, 1, none⟩ = some (.slice none 0 0) := (blk_cell BK271.out 1).trans rfl; have hcz36_2 : w34.cell? ⟨gb271, 2, none⟩ = some (.string (⟨#[]⟩ : ByteArray)) := (blk_cell BK271.out 2).trans rfl; have hfz36_0 := blk_frozen BK271.out 0; have hfz36_1 := blk_frozen BK271.out 1; have hfz36_2 := blk_frozen BK271.out 2) | ((with_reducible refine gate_callee (f := 23) rfl ?_); refine goesL_ (some 69) rfl rfl Tryz.func23 zb11 rfl #[.int .i64 t263] rfl zb0 ?_; (with_reducible refine (broadsheetref21_bare.calls t263 true _ A28.out).mono ?_); rintro e w' ⟨rfl, ⟨nd, rfl⟩⟩; refine ⟨_, rfl, ?_⟩) | ((with_reducible refine gate_callee (f := 24) rfl ?_); refine goesL_ (some 72) rfl rfl Tryz.func24 zb11 rfl #[.slice Ao33 t266.length co33, .string (⟨#[99, 111, 110, 116, 101, 110, 116, 45, 108, 101, 110, 103, 116, 104]⟩ : ByteArray)] rfl zb0 ?_; (with_reducible refine (broadsheetref18_Get.calls kj16 _ _ t266 (⟨#[99, 111, 110, 116, 101, 110, 116, 45, 108, 101, 110, 103, 116, 104]⟩ : ByteArray) t273 t274 _ ?side1 ?side2 A30.out).mono ?_); (case side1 => refine (Kd.R_reads' (e := 41) (base := w.heap.size) (ok := fun k_ => True) (n := t266.length) (c := co33) ?_).2.2; exact zb52); (case side2 => exact (Kd.R_reads' HO270.out).2.1); rintro e w37 ⟨rfl, hb⟩; refine ⟨_, rfl, ?_⟩; have n0_ := Aside0.mk (Kd.R_below zb52 hb); have n1_ := Aside0.mk (blk_below (g := gb259) (o := .cells #[.int .i64 0, .slice none 0 0, .string (⟨#[]⟩ : ByteArray)] 24 (0, 0)) zb26 hb); have n2_ := Aside0.mk (blk_below (g := gb271) (o := .cells #[.int .i64 t263, .slice Ao33 t266.length co33, .string t267] 24 (0, 0)) (by (with_reducible repeat (first | refine blk_drewN ?_ _ | refine blk_drew ?_ | refine blk_alloc ?_ _)); refine blk_put (cs := #[.int .i64 t263, .slice Ao33 t266.length co33, .string (⟨#[]⟩ : ByteArray)]) ?_ 2 _ rfl; (with_reducible repeat (first | refine blk_drewN ?_ _ | refine blk_drew ?_ | refine blk_alloc ?_ _)); refine blk_put (cs := #[.int .i64 t263, .slice none 0 0, .string (⟨#[]⟩ : ByteArray)]) ?_ 1 _ rfl; (with_reducible repeat (first | refine blk_drewN ?_ _ | refine blk_drew ?_ | refine blk_alloc ?_ _)); refine blk_put (cs := #[.int .i64 0, .slice none 0 0, .string (⟨#[]⟩ : ByteArray)]) ?_ 0 _ rfl; (with_reducible repeat (first | refine blk_drewN ?_ _ | refine blk_drew ?_ | refine blk_alloc ?_ _)); exact BK271.out) hb); have n3_ := Aside0.mk (below_step zb20 hb); clear HO270; clear BK259; clear BK271; clear HB; have HO270 := n0_; have BK259 := n1_; have BK271 := n2_; have HB := n3_; clear n0_ n1_ n2_ n3_; (try clear hb); (try clear hb2); (try clear hk); (try clear hi); have hcz38_0 : w37.cell? ⟨gb259, 0, none⟩ = some (.int .i64 0) := (blk_cell BK259.out 0).trans rfl; have hcz38_1 : w37.cell? ⟨gb259, 1, none⟩ = some (.slice none 0 0) := (blk_cell BK259.out 1).trans rfl; have hcz38_2 : w37.cell? ⟨gb259, 2, none⟩ = some (.string (⟨#[]⟩ : ByteArray)) := (blk_cell BK259.out 2).trans rfl; have hfz38_0 := blk_frozen BK259.out 0; have hfz38_1 := blk_frozen BK259.out 1; have hfz38_2 := blk_frozen BK259.out 2))
            refine bodyPost_ret (results_ct rfl _ _ gb259 24 #[.int .i64 0, .slice none 0 0, .string (⟨#[]⟩ : ByteArray)] (0, 0) _ rfl zb6 Tryz.underlying24 rfl zb11) rfl ?_
            exact ⟨_, by first | rfl | (simp [errW_none, errW_some, bne_nil_] <;> rfl) | (simp [*, errW_none, errW_some] <;> rfl), by first | exact Kd.R_nil _ _ _ _ _ | exact Kd.N_nil _ _ _ _ _ | exact Kd.V_nil _ _ _ _ _ | exact Kd.Q_nil _ _ _ _ _ | exact Kd.S_nil _ _ _ _ _, by repeat (first | (with_reducible first | exact HB.out | apply below_alloc | apply pw_below_drewN | apply below_drew1 | refine below_set ?_ GE259.out | refine below_set ?_ GE271.out) | exact HB.out | exact ⟨HB.out.os, HB.out.tape, HB.out.output, HB.out.size, HB.out.block⟩)⟩
           ·rw [if_neg c31] at H
            have c31b0 : decide (0 < t274) = false := decide_eq_false c31
            clear c31
            by_cases c39 : t267.toList = ([] : List UInt8)
            ·rw [if_pos c39] at H
             have c39b0 : (t267.toList == ([] : List UInt8)) = true := beq_iff_eq.mpr c39
             have c39b1 : (t267.toList != ([] : List UInt8)) = false := bne_eq_false_iff_eq.mpr c39
             clear c39
             simp only [Option.some.injEq, Prod.mk.injEq] at H
             obtain ⟨rfl, rfl, rfl, rfl⟩ := H
             go_wp2_with (first | ((with_reducible refine gate_callee (f := 32) rfl ?_); refine goesL_ (some 56) rfl rfl Tryz.func32 zb11 rfl #[.string t261] rfl zb0 ?_; (with_reducible refine (broadsheetref18_Parse.calls kj16 t261 t266 t267 t268 _ A26.out).mono ?_); rintro e w40 ⟨v269, rfl, ho0, hb⟩; refine ⟨_, rfl, ?_⟩; have n0_ := Aside0.mk (Kd.R_lower ho0 (below_size zb5)); have n1_ := Aside0.mk (blk_below (g := gb259) (o := .cells #[.int .i64 0, .slice none 0 0, .string (⟨#[]⟩ : ByteArray)] 24 (0, 0)) zb16 hb); have n2_ := Aside0.mk (below_step zb5 hb); clear BK259; clear HB; have HO270 := n0_; have BK259 := n1_; have HB := n2_; clear n0_ n1_ n2_; (try clear hb); (try clear hb2); (try clear hk); (try clear hi); (try clear ho0); obtain ⟨Ao41, co41, eo41⟩ := Kd.R_slice HO270.out; subst eo41) | ((with_reducible refine gate_dst (N := 10) rfl ?_); (try (refine gate_guard (by rfl) ?_; dsimp only)); refine box_event ?hg (N := 10) ?hd (cs := #[.int .i64 0, .slice none 0 0, .string (⟨#[]⟩ : ByteArray)]) (t := 24) ?hr ?_; (case hd => rfl); (case hg => rfl); (case hr => first | (go_simp; done) | (go_simp; rfl)); intro gb271 hg w42 hbox hb; have n0_ := Aside0.mk (Kd.R_below zb45 hb); have n1_ := Aside0.mk (blk_below (g := gb259) (o := .cells #[.int .i64 0, .slice none 0 0, .string (⟨#[]⟩ : ByteArray)] 24 (0, 0)) zb16 hb); have n2_ := Aside0.mk (below_step zb5 hb); have n3_ := Aside0.mk (hbox); have n4_ := Aside0.mk ((by rw [hg]; exact (below_size zb5) : w.heap.size ≤ gb271)); have n5_ := Aside0.mk ((by rw [hg]; exact (below_size zb5) : w.heap.size ≤ gb271)); have n6_ := Aside0.mk ((by rw [hg]; exact Nat.ne_of_lt (blk_lt (g := gb259) (o := .cells #[.int .i64 0, .slice none 0 0, .string (⟨#[]⟩ : ByteArray)] 24 (0, 0)) zb16) : gb259 ≠ gb271)); have n7_ := Aside0.mk ((by rw [hg]; exact Nat.ne_of_gt (blk_lt (g := gb259) (o := .cells #[.int .i64 0, .slice none 0 0, .string (⟨#[]⟩ : ByteArray)] 24 (0, 0)) zb16) : gb271 ≠ gb259)); clear HO270; clear BK259; clear HB; have HO270 := n0_; have BK259 := n1_; have HB := n2_; have BK271 := n3_; have GW271 := n4_; have GE271 := n5_; have NB259_271 := n6_; have NB271_259 := n7_; clear n0_ n1_ n2_ n3_ n4_ n5_ n6_ n7_; clear hb hbox hg; have hnb43 := NB271_259.out; have hnc43 := NB259_271.out; have hcz44_0 : w42.cell? ⟨gb271, 0, none⟩ = some (.int .i64 0) := (blk_cell BK271.out 0).trans rfl; have hcz44_1 : w42.cell? ⟨gb271, 1, none⟩ = some (.slice none 0 0) := (blk_cell BK271.out 1).trans rfl; have hcz44_2 : w42.cell? ⟨gb271, 2, none⟩ = some (.string (⟨#[]⟩ : ByteArray)) := (blk_cell BK271.out 2).trans rfl; have hfz44_0 := blk_frozen BK271.out 0; have hfz44_1 := blk_frozen BK271.out 1; have hfz44_2 := blk_frozen BK271.out 2) | ((with_reducible refine gate_callee (f := 23) rfl ?_); refine goesL_ (some 69) rfl rfl Tryz.func23 zb11 rfl #[.int .i64 t263] rfl zb0 ?_; (with_reducible refine (broadsheetref21_bare.calls t263 true _ A28.out).mono ?_); rintro e w' ⟨rfl, ⟨nd, rfl⟩⟩; refine ⟨_, rfl, ?_⟩) | ((with_reducible refine gate_callee (f := 24) rfl ?_); refine goesL_ (some 72) rfl rfl Tryz.func24 zb11 rfl #[.slice Ao41 t266.length co41, .string (⟨#[99, 111, 110, 116, 101, 110, 116, 45, 108, 101, 110, 103, 116, 104]⟩ : ByteArray)] rfl zb0 ?_; (with_reducible refine (broadsheetref18_Get.calls kj16 _ _ t266 (⟨#[99, 111, 110, 116, 101, 110, 116, 45, 108, 101, 110, 103, 116, 104]⟩ : ByteArray) t273 t274 _ ?side1 ?side2 A30.out).mono ?_); (case side1 => refine (Kd.R_reads' (e := 41) (base := w.heap.size) (ok := fun k_ => True) (n := t266.length) (c := co41) ?_).2.2; exact zb51); (case side2 => exact (Kd.R_reads' HO270.out).2.1); rintro e w45 ⟨rfl, hb⟩; refine ⟨_, rfl, ?_⟩; have n0_ := Aside0.mk (Kd.R_below zb51 hb); have n1_ := Aside0.mk (blk_below (g := gb259) (o := .cells #[.int .i64 0, .slice none 0 0, .string (⟨#[]⟩ : ByteArray)] 24 (0, 0)) zb26 hb); have n2_ := Aside0.mk (blk_below (g := gb271) (o := .cells #[.int .i64 t263, .slice Ao41 t266.length co41, .string t267] 24 (0, 0)) (by (with_reducible repeat (first | refine blk_drewN ?_ _ | refine blk_drew ?_ | refine blk_alloc ?_ _)); refine blk_put (cs := #[.int .i64 t263, .slice Ao41 t266.length co41, .string (⟨#[]⟩ : ByteArray)]) ?_ 2 _ rfl; (with_reducible repeat (first | refine blk_drewN ?_ _ | refine blk_drew ?_ | refine blk_alloc ?_ _)); refine blk_put (cs := #[.int .i64 t263, .slice none 0 0, .string (⟨#[]⟩ : ByteArray)]) ?_ 1 _ rfl; (with_reducible repeat (first | refine blk_drewN ?_ _ | refine blk_drew ?_ | refine blk_alloc ?_ _)); refine blk_put (cs := #[.int .i64 0, .slice none 0 0, .string (⟨#[]⟩ : ByteArray)]) ?_ 0 _ rfl; (with_reducible repeat (first | refine blk_drewN ?_ _ | refine blk_drew ?_ | refine blk_alloc ?_ _)); exact BK271.out) hb); have n3_ := Aside0.mk (below_step zb20 hb); clear HO270; clear BK259; clear BK271; clear HB; have HO270 := n0_; have BK259 := n1_; have BK271 := n2_; have HB := n3_; clear n0_ n1_ n2_ n3_; (try clear hb); (try clear hb2); (try clear hk); (try clear hi); have hcz46_0 : w45.cell? ⟨gb271, 0, none⟩ = some (.int .i64 t263) := (blk_cell BK271.out 0).trans rfl; have hcz46_1 : w45.cell? ⟨gb271, 1, none⟩ = some (.slice Ao41 t266.length co41) := (blk_cell BK271.out 1).trans rfl; have hcz46_2 : w45.cell? ⟨gb271, 2, none⟩ = some (.string t267) := (blk_cell BK271.out 2).trans rfl; have hfz46_0 := blk_frozen BK271.out 0; have hfz46_1 := blk_frozen BK271.out 1; have hfz46_2 := blk_frozen BK271.out 2; have hcz47_0 : w45.cell? ⟨gb259, 0, none⟩ = some (.int .i64 0) := (blk_cell BK259.out 0).trans rfl; have hcz47_1 : w45.cell? ⟨gb259, 1, none⟩ = some (.slice none 0 0) := (blk_cell BK259.out 1).trans rfl; have hcz47_2 : w45.cell? ⟨gb259, 2, none⟩ = some (.string (⟨#[]⟩ : ByteArray)) := (blk_cell BK259.out 2).trans rfl; have hfz47_0 := blk_frozen BK259.out 0; have hfz47_1 := blk_frozen BK259.out 1; have hfz47_2 := blk_frozen BK259.out 2))
             refine bodyPost_ret (results_ct rfl _ _ gb259 24 #[.int .i64 t263, .slice Ao41 t266.length co41, .string t267] (0, 0) _ rfl (by (with_reducible repeat (first | refine blk_drewN ?_ _ | refine blk_drew ?_ | refine blk_alloc ?_ _)); refine blk_put (cs := #[.int .i64 t263, .slice Ao41 t266.length co41, .string (⟨#[]⟩ : ByteArray)]) ?_ 2 _ rfl; (with_reducible repeat (first | refine blk_drewN ?_ _ | refine blk_drew ?_ | refine blk_alloc ?_ _)); refine blk_put (cs := #[.int .i64 t263, .slice none 0 0, .string (⟨#[]⟩ : ByteArray)]) ?_ 1 _ rfl; (with_reducible repeat (first | refine blk_drewN ?_ _ | refine blk_drew ?_ | refine blk_alloc ?_ _)); refine blk_put (cs := #[.int .i64 0, .slice none 0 0, .string (⟨#[]⟩ : ByteArray)]) ?_ 0 _ rfl; (with_reducible repeat (first | refine blk_drewN ?_ _ | refine blk_drew ?_ | refine blk_alloc ?_ _)); exact BK259.out) Tryz.underlying24 rfl zb11) rfl ?_
             exact ⟨_, by first | rfl | (simp [errW_none, errW_some, bne_nil_] <;> rfl) | (simp [*, errW_none, errW_some] <;> rfl), by (with_reducible repeat (first | apply Kd.R_alloc | apply Kd.R_drewN | apply Kd.R_drew)); exact Kd.R_mono (Kd.R_far (p := ⟨gb259, 2, none⟩) (Kd.R_far (p := ⟨gb259, 1, none⟩) (Kd.R_far (p := ⟨gb259, 0, none⟩) (Kd.R_types HO270.out BK259.out zb39) (fun _ hk => hk.2) (.int .i64 t263)) (fun _ hk => hk.2) (.slice Ao41 t266.length co41)) (fun _ hk => hk.2) (.string t267)) (fun _ hk => trivial), by repeat (first | (with_reducible first | exact HB.out | apply below_alloc | apply pw_below_drewN | apply below_drew1 | refine below_set ?_ GE259.out | refine below_set ?_ GE271.out) | exact HB.out | exact ⟨HB.out.os, HB.out.tape, HB.out.output, HB.out.size, HB.out.block⟩)⟩
            ·rw [if_neg c39] at H
             have c39b0 : (t267.toList == ([] : List UInt8)) = false := beq_eq_false_iff_ne.mpr c39
             have c39b1 : (t267.toList != ([] : List UInt8)) = true := bne_iff_ne.mpr c39
             simp only [Option.some.injEq, Prod.mk.injEq] at H
             obtain ⟨rfl, rfl, rfl, rfl⟩ := H
             go_wp2_with (first | ((with_reducible refine gate_callee (f := 32) rfl ?_); refine goesL_ (some 56) rfl rfl Tryz.func32 zb11 rfl #[.string t261] rfl zb0 ?_; (with_reducible refine (broadsheetref18_Parse.calls kj16 t261 t266 t267 t268 _ A26.out).mono ?_); rintro e w48 ⟨v269, rfl, ho0, hb⟩; refine ⟨_, rfl, ?_⟩; have n0_ := Aside0.mk (Kd.R_lower ho0 (below_size zb5)); have n1_ := Aside0.mk (blk_below (g := gb259) (o := .cells #[.int .i64 0, .slice none 0 0, .string (⟨#[]⟩ : ByteArray)] 24 (0, 0)) zb16 hb); have n2_ := Aside0.mk (below_step zb5 hb); clear BK259; clear HB; have HO270 := n0_; have BK259 := n1_; have HB := n2_; clear n0_ n1_ n2_; (try clear hb); (try clear hb2); (try clear hk); (try clear hi); (try clear ho0); obtain ⟨Ao49, co49, eo49⟩ := Kd.R_slice HO270.out; subst eo49) | ((with_reducible refine gate_dst (N := 10) rfl ?_); (try (refine gate_guard (by rfl) ?_; dsimp only)); refine box_event ?hg (N := 10) ?hd (cs := #[.int .i64 0, .slice none 0 0, .string (⟨#[]⟩ : ByteArray)]) (t := 24) ?hr ?_; (case hd => rfl); (case hg => rfl); (case hr => first | (go_simp; done) | (go_simp; rfl)); intro gb271 hg w50 hbox hb; have n0_ := Aside0.mk (Kd.R_below zb45 hb); have n1_ := Aside0.mk (blk_below (g := gb259) (o := .cells #[.int .i64 0, .slice none 0 0, .string (⟨#[]⟩ : ByteArray)] 24 (0, 0)) zb16 hb); have n2_ := Aside0.mk (below_step zb5 hb); have n3_ := Aside0.mk (hbox); have n4_ := Aside0.mk ((by rw [hg]; exact (below_size zb5) : w.heap.size ≤ gb271)); have n5_ := Aside0.mk ((by rw [hg]; exact (below_size zb5) : w.heap.size ≤ gb271)); have n6_ := Aside0.mk ((by rw [hg]; exact Nat.ne_of_lt (blk_lt (g := gb259) (o := .cells #[.int .i64 0, .slice none 0 0, .string (⟨#[]⟩ : ByteArray)] 24 (0, 0)) zb16) : gb259 ≠ gb271)); have n7_ := Aside0.mk ((by rw [hg]; exact Nat.ne_of_gt (blk_lt (g := gb259) (o := .cells #[.int .i64 0, .slice none 0 0, .string (⟨#[]⟩ : ByteArray)] 24 (0, 0)) zb16) : gb271 ≠ gb259)); clear HO270; clear BK259; clear HB; have HO270 := n0_; have BK259 := n1_; have HB := n2_; have BK271 := n3_; have GW271 := n4_; have GE271 := n5_; have NB259_271 := n6_; have NB271_259 := n7_; clear n0_ n1_ n2_ n3_ n4_ n5_ n6_ n7_; clear hb hbox hg; have hnb51 := NB271_259.out; have hnc51 := NB259_271.out; have hcz52_0 : w50.cell? ⟨gb271, 0, none⟩ = some (.int .i64 0) := (blk_cell BK271.out 0).trans rfl; have hcz52_1 : w50.cell? ⟨gb271, 1, none⟩ = some (.slice none 0 0) := (blk_cell BK271.out 1).trans rfl; have hcz52_2 : w50.cell? ⟨gb271, 2, none⟩ = some (.string (⟨#[]⟩ : ByteArray)) := (blk_cell BK271.out 2).trans rfl; have hfz52_0 := blk_frozen BK271.out 0; have hfz52_1 := blk_frozen BK271.out 1; have hfz52_2 := blk_frozen BK271.out 2) | ((with_reducible refine gate_callee (f := 23) rfl ?_); refine goesL_ (some 69) rfl rfl Tryz.func23 zb11 rfl #[.int .i64 t263] rfl zb0 ?_; (with_reducible refine (broadsheetref21_bare.calls t263 true _ A28.out).mono ?_); rintro e w' ⟨rfl, ⟨nd, rfl⟩⟩; refine ⟨_, rfl, ?_⟩) | ((with_reducible refine gate_callee (f := 24) rfl ?_); refine goesL_ (some 72) rfl rfl Tryz.func24 zb11 rfl #[.slice Ao49 t266.length co49, .string (⟨#[99, 111, 110, 116, 101, 110, 116, 45, 108, 101, 110, 103, 116, 104]⟩ : ByteArray)] rfl zb0 ?_; (with_reducible refine (broadsheetref18_Get.calls kj16 _ _ t266 (⟨#[99, 111, 110, 116, 101, 110, 116, 45, 108, 101, 110, 103, 116, 104]⟩ : ByteArray) t273 t274 _ ?side1 ?side2 A30.out).mono ?_); (case side1 => refine (Kd.R_reads' (e := 41) (base := w.heap.size) (ok := fun k_ => True) (n := t266.length) (c := co49) ?_).2.2; exact zb50); (case side2 => exact (Kd.R_reads' HO270.out).2.1); rintro e w53 ⟨rfl, hb⟩; refine ⟨_, rfl, ?_⟩; have n0_ := Aside0.mk (Kd.R_below zb50 hb); have n1_ := Aside0.mk (blk_below (g := gb259) (o := .cells #[.int .i64 0, .slice none 0 0, .string (⟨#[]⟩ : ByteArray)] 24 (0, 0)) zb26 hb); have n2_ := Aside0.mk (blk_below (g := gb271) (o := .cells #[.int .i64 t263, .slice Ao49 t266.length co49, .string t267] 24 (0, 0)) (by (with_reducible repeat (first | refine blk_drewN ?_ _ | refine blk_drew ?_ | refine blk_alloc ?_ _)); refine blk_put (cs := #[.int .i64 t263, .slice Ao49 t266.length co49, .string (⟨#[]⟩ : ByteArray)]) ?_ 2 _ rfl; (with_reducible repeat (first | refine blk_drewN ?_ _ | refine blk_drew ?_ | refine blk_alloc ?_ _)); refine blk_put (cs := #[.int .i64 t263, .slice none 0 0, .string (⟨#[]⟩ : ByteArray)]) ?_ 1 _ rfl; (with_reducible repeat (first | refine blk_drewN ?_ _ | refine blk_drew ?_ | refine blk_alloc ?_ _)); refine blk_put (cs := #[.int .i64 0, .slice none 0 0, .string (⟨#[]⟩ : ByteArray)]) ?_ 0 _ rfl; (with_reducible repeat (first | refine blk_drewN ?_ _ | refine blk_drew ?_ | refine blk_alloc ?_ _)); exact BK271.out) hb); have n3_ := Aside0.mk (below_step zb20 hb); clear HO270; clear BK259; clear BK271; clear HB; have HO270 := n0_; have BK259 := n1_; have BK271 := n2_; have HB := n3_; clear n0_ n1_ n2_ n3_; (try clear hb); (try clear hb2); (try clear hk); (try clear hi); have hcz54_0 : w53.cell? ⟨gb259, 0, none⟩ = some (.int .i64 0) := (blk_cell BK259.out 0).trans rfl; have hcz54_1 : w53.cell? ⟨gb259, 1, none⟩ = some (.slice none 0 0) := (blk_cell BK259.out 1).trans rfl; have hcz54_2 : w53.cell? ⟨gb259, 2, none⟩ = some (.string (⟨#[]⟩ : ByteArray)) := (blk_cell BK259.out 2).trans rfl; have hfz54_0 := blk_frozen BK259.out 0; have hfz54_1 := blk_frozen BK259.out 1; have hfz54_2 := blk_frozen BK259.out 2))
             refine bodyPost_ret (results_ct rfl _ _ gb259 24 #[.int .i64 0, .slice none 0 0, .string (⟨#[]⟩ : ByteArray)] (0, 0) _ rfl zb6 Tryz.underlying24 rfl zb11) rfl ?_
             exact ⟨_, by first | rfl | (simp [errW_none, errW_some, bne_nil_] <;> rfl) | (simp [*, errW_none, errW_some] <;> rfl), by first | exact Kd.R_nil _ _ _ _ _ | exact Kd.N_nil _ _ _ _ _ | exact Kd.V_nil _ _ _ _ _ | exact Kd.Q_nil _ _ _ _ _ | exact Kd.S_nil _ _ _ _ _, by repeat (first | (with_reducible first | exact HB.out | apply below_alloc | apply pw_below_drewN | apply below_drew1 | refine below_set ?_ GE259.out | refine below_set ?_ GE271.out) | exact HB.out | exact ⟨HB.out.os, HB.out.tape, HB.out.output, HB.out.size, HB.out.block⟩)⟩
          ·replace c29 := Bool.eq_false_iff.mpr c29
           subst c29
           replace H : (if (wrap64 ((t266.length : Int) - 1)) < 0 then (broadsheetref21_Parse.j2 kj16 t267 t266 (wrap64 ((t266.length : Int) - 1)) true t263 t266 t267) else (if 0 ≤ (wrap64 ((t266.length : Int) - 1)) then (if (wrap64 ((t266.length : Int) - 1)) < (t266.length : Int) then (if ((rd_T41 t266 (wrap64 ((t266.length : Int) - 1))).f0).toList = ([99, 111, 110, 116, 101, 110, 116, 45, 108, 101, 110, 103, 116, 104] : List UInt8) then ((broadsheetref03_Digits.f kj16 (t267.size : Int)).bind fun t277 => (broadsheetref21_Parse.j2 kj16 t267 t266 (wrap64 ((t266.length : Int) - 1)) (((rd_T41 t266 (wrap64 ((t266.length : Int) - 1))).f1).toList != t277.toList) t263 t266 t267)) else (broadsheetref21_Parse.j2 kj16 t267 t266 (wrap64 ((t266.length : Int) - 1)) true t263 t266 t267)) else (none)) else (none))) = some (r1, r2, r3, r4) := by rw [if_neg (show ¬ (false = true) by decide)] at H; exact H
           have HC55 := Aside0.mk H
           clear H
           go_upto_region 17 with (first | ((with_reducible refine gate_callee (f := 32) rfl ?_); refine goesL_ (some 56) rfl rfl Tryz.func32 zb11 rfl #[.string t261] rfl zb0 ?_; (with_reducible refine (broadsheetref18_Parse.calls kj16 t261 t266 t267 t268 _ A26.out).mono ?_); rintro e w56 ⟨v269, rfl, ho0, hb⟩; refine ⟨_, rfl, ?_⟩; have n0_ := Aside0.mk (Kd.R_lower ho0 (below_size zb5)); have n1_ := Aside0.mk (blk_below (g := gb259) (o := .cells #[.int .i64 0, .slice none 0 0, .string (⟨#[]⟩ : ByteArray)] 24 (0, 0)) zb16 hb); have n2_ := Aside0.mk (below_step zb5 hb); clear BK259; clear HB; have HO270 := n0_; have BK259 := n1_; have HB := n2_; clear n0_ n1_ n2_; (try clear hb); (try clear hb2); (try clear hk); (try clear hi); (try clear ho0); obtain ⟨Ao57, co57, eo57⟩ := Kd.R_slice HO270.out; subst eo57) | ((with_reducible refine gate_dst (N := 10) rfl ?_); (try (refine gate_guard (by rfl) ?_; dsimp only)); refine box_event ?hg (N := 10) ?hd (cs := #[.int .i64 0, .slice none 0 0, .string (⟨#[]⟩ : ByteArray)]) (t := 24) ?hr ?_; (case hd => rfl); (case hg => rfl); (case hr => first | (go_simp; done) | (go_simp; rfl)); intro gb271 hg w58 hbox hb; have n0_ := Aside0.mk (Kd.R_below zb45 hb); have n1_ := Aside0.mk (blk_below (g := gb259) (o := .cells #[.int .i64 0, .slice none 0 0, .string (⟨#[]⟩ : ByteArray)] 24 (0, 0)) zb16 hb); have n2_ := Aside0.mk (below_step zb5 hb); have n3_ := Aside0.mk (hbox); have n4_ := Aside0.mk ((by rw [hg]; exact (below_size zb5) : w.heap.size ≤ gb271)); have n5_ := Aside0.mk ((by rw [hg]; exact (below_size zb5) : w.heap.size ≤ gb271)); have n6_ := Aside0.mk ((by rw [hg]; exact Nat.ne_of_lt (blk_lt (g := gb259) (o := .cells #[.int .i64 0, .slice none 0 0, .string (⟨#[]⟩ : ByteArray)] 24 (0, 0)) zb16) : gb259 ≠ gb271)); have n7_ := Aside0.mk ((by rw [hg]; exact Nat.ne_of_gt (blk_lt (g := gb259) (o := .cells #[.int .i64 0, .slice none 0 0, .string (⟨#[]⟩ : ByteArray)] 24 (0, 0)) zb16) : gb271 ≠ gb259)); clear HO270; clear BK259; clear HB; have HO270 := n0_; have BK259 := n1_; have HB := n2_; have BK271 := n3_; have GW271 := n4_; have GE271 := n5_; have NB259_271 := n6_; have NB271_259 := n7_; clear n0_ n1_ n2_ n3_ n4_ n5_ n6_ n7_; clear hb hbox hg; have hnb59 := NB271_259.out; have hnc59 := NB259_271.out; have hcz60_0 : w58.cell? ⟨gb271, 0, none⟩ = some (.int .i64 0) := (blk_cell BK271.out 0).trans rfl; have hcz60_1 : w58.cell? ⟨gb271, 1, none⟩ = some (.slice none 0 0) := (blk_cell BK271.out 1).trans rfl; have hcz60_2 : w58.cell? ⟨gb271, 2, none⟩ = some (.string (⟨#[]⟩ : ByteArray)) := (blk_cell BK271.out 2).trans rfl; have hfz60_0 := blk_frozen BK271.out 0; have hfz60_1 := blk_frozen BK271.out 1; have hfz60_2 := blk_frozen BK271.out 2) | ((with_reducible refine gate_callee (f := 23) rfl ?_); refine goesL_ (some 69) rfl rfl Tryz.func23 zb11 rfl #[.int .i64 t263] rfl zb0 ?_; (with_reducible refine (broadsheetref21_bare.calls t263 false _ A28.out).mono ?_); rintro e w' ⟨rfl, ⟨nd, rfl⟩⟩; refine ⟨_, rfl, ?_⟩))
           (try simp only [Act.put, List.setIfInBounds_toArray, List.set_cons_zero, List.set_cons_succ])
           go_cut [106] (fun v106 wc => ∃ (kq : Nat) (x106_54 : Bool), v106 = .bool x106_54 ∧ Aside0 (broadsheetref21_Parse.j2 kq t267 t266 (wrap64 ((t266.length : Int) - 1)) x106_54 t263 t266 t267 = some (r1, r2, r3, r4)) ∧ Aside0 (kq ≤ kj16) ∧ Aside0 (Kd.R k41 41 wc w.heap.size (fun _ => True) (.slice Ao57 t266.length co57) t266) ∧ Aside0 (Kd.R k41 41 wc w.heap.size (fun _ => True) (.slice Ao57 t266.length co57) t266) ∧ Aside0 (wc.heap[gb259]? = some (.cells #[.int .i64 0, (.slice none 0 0), .string (⟨#[]⟩ : ByteArray)] 24 (0, 0))) ∧ Aside0 (wc.heap[gb271]? = some (.cells #[.int .i64 t263, (.slice Ao57 t266.length co57), .string t267] 24 (0, 0))) ∧ Aside0 (Below w.heap.size w wc))
           case first =>
            have H := HC55.out
            clear HC55
            by_cases c61 : (wrap64 ((t266.length : Int) - 1)) < 0
            ·rw [if_pos c61] at H
             have c61b0 : decide ((wrap64 ((t266.length : Int) - 1)) < 0) = true := decide_eq_true c61
             clear c61
             (first | rw [c61b0] | (simp only [i64_w, i32_w]; rw [c61b0]) | skip)
             have H' := Aside0.mk H
             clear H
             try go_wp2
             have n0_ : Aside0 (Kd.R k41 41 (((w58.setCell ⟨gb271, 0, none⟩ (.int .i64 t263)).setCell ⟨gb271, 1, none⟩ (.slice Ao57 t266.length co57)).setCell ⟨gb271, 2, none⟩ (.string t267)) w.heap.size (fun _ => True) (.slice Ao57 t266.length co57) t266) := ⟨by (with_reducible repeat (first | apply Kd.R_alloc | apply Kd.R_drewN | apply Kd.R_drew)); exact Kd.R_mono (Kd.R_far (p := ⟨gb271, 2, none⟩) (Kd.R_far (p := ⟨gb271, 1, none⟩) (Kd.R_far (p := ⟨gb271, 0, none⟩) (Kd.R_types HO270.out BK271.out zb39) (fun _ hk => hk.2) (.int .i64 t263)) (fun _ hk => hk.2) (.slice Ao57 t266.length co57)) (fun _ hk => hk.2) (.string t267)) (fun _ hk => trivial)⟩
             have n1_ : Aside0 ((((w58.setCell ⟨gb271, 0, none⟩ (.int .i64 t263)).setCell ⟨gb271, 1, none⟩ (.slice Ao57 t266.length co57)).setCell ⟨gb271, 2, none⟩ (.string t267)).heap[gb259]? = some (.cells #[.int .i64 0, .slice none 0 0, .string (⟨#[]⟩ : ByteArray)] 24 (0, 0))) := ⟨by (with_reducible repeat (first | refine blk_drewN ?_ _ | refine blk_drew ?_ | refine blk_alloc ?_ _)); refine blk_far ?_ NB259_271.out _; (with_reducible repeat (first | refine blk_drewN ?_ _ | refine blk_drew ?_ | refine blk_alloc ?_ _)); refine blk_far ?_ NB259_271.out _; (with_reducible repeat (first | refine blk_drewN ?_ _ | refine blk_drew ?_ | refine blk_alloc ?_ _)); refine blk_far ?_ NB259_271.out _; (with_reducible repeat (first | refine blk_drewN ?_ _ | refine blk_drew ?_ | refine blk_alloc ?_ _)); exact BK259.out⟩
             have n2_ : Aside0 ((((w58.setCell ⟨gb271, 0, none⟩ (.int .i64 t263)).setCell ⟨gb271, 1, none⟩ (.slice Ao57 t266.length co57)).setCell ⟨gb271, 2, none⟩ (.string t267)).heap[gb271]? = some (.cells #[.int .i64 t263, .slice Ao57 t266.length co57, .string t267] 24 (0, 0))) := ⟨by (with_reducible repeat (first | refine blk_drewN ?_ _ | refine blk_drew ?_ | refine blk_alloc ?_ _)); refine blk_put (cs := #[.int .i64 t263, .slice Ao57 t266.length co57, .string (⟨#[]⟩ : ByteArray)]) ?_ 2 _ rfl; (with_reducible repeat (first | refine blk_drewN ?_ _ | refine blk_drew ?_ | refine blk_alloc ?_ _)); refine blk_put (cs := #[.int .i64 t263, .slice none 0 0, .string (⟨#[]⟩ : ByteArray)]) ?_ 1 _ rfl; (with_reducible repeat (first | refine blk_drewN ?_ _ | refine blk_drew ?_ | refine blk_alloc ?_ _)); refine blk_put (cs := #[.int .i64 0, .slice none 0 0, .string (⟨#[]⟩ : ByteArray)]) ?_ 0 _ rfl; (with_reducible repeat (first | refine blk_drewN ?_ _ | refine blk_drew ?_ | refine blk_alloc ?_ _)); exact BK271.out⟩
             have n3_ : Aside0 (Below w.heap.size w (((w58.setCell ⟨gb271, 0, none⟩ (.int .i64 t263)).setCell ⟨gb271, 1, none⟩ (.slice Ao57 t266.length co57)).setCell ⟨gb271, 2, none⟩ (.string t267))) := ⟨by repeat (first | (with_reducible first | exact HB.out | apply below_alloc | apply pw_below_drewN | apply below_drew1 | refine below_set ?_ GE259.out | refine below_set ?_ GE271.out) | exact HB.out | exact ⟨HB.out.os, HB.out.tape, HB.out.output, HB.out.size, HB.out.block⟩)⟩
             (try clear HO270)
             (try clear BK259)
             (try clear BK271)
             (try clear HB)
             generalize (((w58.setCell ⟨gb271, 0, none⟩ (.int .i64 t263)).setCell ⟨gb271, 1, none⟩ (.slice Ao57 t266.length co57)).setCell ⟨gb271, 2, none⟩ (.string t267)) = w62 at n0_ n1_ n2_ n3_ ⊢
             have HO270 := n0_
             have BK259 := n1_
             have BK271 := n2_
             have HB := n3_
             clear n0_ n1_ n2_ n3_
             have n0_ := Aside0.mk (Kd.R_drew HO270.out)
             have n1_ := Aside0.mk (blk_drew BK259.out)
             have n2_ := Aside0.mk (blk_drew BK271.out)
             have n3_ := Aside0.mk (below_drew1 HB.out)
             clear HO270
             clear BK259
             clear BK271
             clear HB
             have HO270 := n0_
             have BK259 := n1_
             have BK271 := n2_
             have HB := n3_
             clear n0_ n1_ n2_ n3_
             refine start_ (n := 21) (S := fun w' => True) (ds := []) #[false, false, false, false, false, false, false, false, false, false, false, false, false, false, false, false, false, false, false, false, false] zb11 rfl rfl trivial (fun hHeld => ?_); refine with_tabW broadsheetref21_Parse.tab17 broadsheetref21_Parse.bits17 (fun HT_ HW_ => ?_)
             skip
             refine pure_ (i := 0) (N := some 86) (v := ?_) (a' := ?_) #[true, false, false, false, false, false, false, false, false, false, false, false, false, false, false, false, false, false, false, false, false] rfl rfl (any_of HT_.out zb11) (fun _ _ _ h => h) (Or.inl ⟨by rfl, ?_⟩) ?_ ?_
             rotate_left
             ·intro w'
              go_simp
              first | with_reducible rfl | (rw [if_neg zb2])
             rotate_left
             ·simp only [Act.put, List.setIfInBounds_toArray, List.set_cons_zero, List.set_cons_succ, i64_w, i32_w]
              rfl
             refine pure_ (i := 1) (N := some 87) (v := ?_) (a' := ?_) #[true, true, false, false, false, false, false, false, false, false, false, false, false, false, false, false, false, false, false, false, false] rfl rfl (any_of HT_.out zb11) (fun _ _ _ h => h) (Or.inl ⟨by rfl, ?_⟩) ?_ ?_
             rotate_left
             ·intro w'
              go_simp
              first | with_reducible rfl | (rw [if_neg zb2])
             rotate_left
             ·simp only [Act.put, List.setIfInBounds_toArray, List.set_cons_zero, List.set_cons_succ, i64_w, i32_w]
              rfl
             refine pure_ (i := 2) (N := some 88) (v := ?_) (a' := ?_) #[true, true, true, false, false, false, false, false, false, false, false, false, false, false, false, false, false, false, false, false, false] rfl rfl (any_of HT_.out zb11) (fun _ _ _ h => h) (Or.inl ⟨by rfl, ?_⟩) ?_ ?_
             rotate_left
             ·intro w'
              go_simp
              first | with_reducible rfl | (rw [if_neg zb2])
             rotate_left
             ·simp only [Act.put, List.setIfInBounds_toArray, List.set_cons_zero, List.set_cons_succ, i64_w, i32_w]
              rfl
             refine pure_ (i := 3) (N := some 89) (v := undef) (a' := ?_) #[true, true, true, true, false, false, false, false, false, false, false, false, false, false, false, false, false, false, false, false, false] rfl rfl (any_of HT_.out zb11) (fun _ _ _ h => h) (Or.inr ⟨by rfl, rfl⟩) ?_ ?_
             rotate_left
             ·simp only [Act.put, List.setIfInBounds_toArray, List.set_cons_zero, List.set_cons_succ, i64_w, i32_w]
              rfl
             refine pure_ (i := 4) (N := some 90) (v := undef) (a' := ?_) #[true, true, true, true, true, false, false, false, false, false, false, false, false, false, false, false, false, false, false, false, false] rfl rfl (any_of HT_.out zb11) (fun _ _ _ h => h) (Or.inr ⟨by rfl, rfl⟩) ?_ ?_
             rotate_left
             ·simp only [Act.put, List.setIfInBounds_toArray, List.set_cons_zero, List.set_cons_succ, i64_w, i32_w]
              rfl
             refine pure_ (i := 5) (N := some 91) (v := undef) (a' := ?_) #[true, true, true, true, true, true, false, false, false, false, false, false, false, false, false, false, false, false, false, false, false] rfl rfl (any_of HT_.out zb11) (fun _ _ _ h => h) (Or.inr ⟨by rfl, rfl⟩) ?_ ?_
             rotate_left
             ·simp only [Act.put, List.setIfInBounds_toArray, List.set_cons_zero, List.set_cons_succ, i64_w, i32_w]
              rfl
             refine pure_ (i := 6) (N := some 92) (v := undef) (a' := ?_) #[true, true, true, true, true, true, true, false, false, false, false, false, false, false, false, false, false, false, false, false, false] rfl rfl (any_of HT_.out zb11) (fun _ _ _ h => h) (Or.inr ⟨by rfl, rfl⟩) ?_ ?_
             rotate_left
             ·simp only [Act.put, List.setIfInBounds_toArray, List.set_cons_zero, List.set_cons_succ, i64_w, i32_w]
              rfl
             refine pure_ (i := 7) (N := some 93) (v := undef) (a' := ?_) #[true, true, true, true, true, true, true, true, false, false, false, false, false, false, false, false, false, false, false, false, false] rfl rfl (any_of HT_.out zb11) (fun _ _ _ h => h) (Or.inr ⟨by rfl, rfl⟩) ?_ ?_
             rotate_left
             ·simp only [Act.put, List.setIfInBounds_toArray, List.set_cons_zero, List.set_cons_succ, i64_w, i32_w]
              rfl
             refine pure_ (i := 8) (N := some 94) (v := undef) (a' := ?_) #[true, true, true, true, true, true, true, true, true, false, false, false, false, false, false, false, false, false, false, false, false] rfl rfl (any_of HT_.out zb11) (fun _ _ _ h => h) (Or.inr ⟨by rfl, rfl⟩) ?_ ?_
             rotate_left
             ·simp only [Act.put, List.setIfInBounds_toArray, List.set_cons_zero, List.set_cons_succ, i64_w, i32_w]
              rfl
             refine pure_ (i := 9) (N := some 95) (v := ?_) (a' := ?_) #[true, true, true, true, true, true, true, true, true, true, false, false, false, false, false, false, false, false, false, false, false] rfl rfl (any_of HT_.out zb11) (fun _ _ _ h => h) (Or.inl ⟨by rfl, ?_⟩) ?_ ?_
             rotate_left
             ·intro w'
              go_simp
              first | with_reducible rfl | (rw [if_neg zb2])
             rotate_left
             ·simp only [Act.put, List.setIfInBounds_toArray, List.set_cons_zero, List.set_cons_succ, i64_w, i32_w]
              rfl
             refine pure_ (i := 10) (N := some 96) (v := ?_) (a' := ?_) #[true, true, true, true, true, true, true, true, true, true, true, false, false, false, false, false, false, false, false, false, false] rfl rfl (any_of HT_.out zb11) (fun _ _ _ h => h) (Or.inl ⟨by rfl, ?_⟩) ?_ ?_
             rotate_left
             ·intro w'
              go_simp
              first | with_reducible rfl | (rw [if_neg zb2])
             rotate_left
             ·simp only [Act.put, List.setIfInBounds_toArray, List.set_cons_zero, List.set_cons_succ, i64_w, i32_w]
              rfl
             refine pure_ (i := 11) (N := some 97) (v := undef) (a' := ?_) #[true, true, true, true, true, true, true, true, true, true, true, true, false, false, false, false, false, false, false, false, false] rfl rfl (any_of HT_.out zb11) (fun _ _ _ h => h) (Or.inr ⟨by rfl, rfl⟩) ?_ ?_
             rotate_left
             ·simp only [Act.put, List.setIfInBounds_toArray, List.set_cons_zero, List.set_cons_succ, i64_w, i32_w]
              rfl
             refine pure_ (i := 12) (N := some 98) (v := undef) (a' := ?_) #[true, true, true, true, true, true, true, true, true, true, true, true, true, false, false, false, false, false, false, false, false] rfl rfl (any_of HT_.out zb11) (fun _ _ _ h => h) (Or.inr ⟨by rfl, rfl⟩) ?_ ?_
             rotate_left
             ·simp only [Act.put, List.setIfInBounds_toArray, List.set_cons_zero, List.set_cons_succ, i64_w, i32_w]
              rfl
             refine pure_ (i := 13) (N := some 99) (v := undef) (a' := ?_) #[true, true, true, true, true, true, true, true, true, true, true, true, true, true, false, false, false, false, false, false, false] rfl rfl (any_of HT_.out zb11) (fun _ _ _ h => h) (Or.inr ⟨by rfl, rfl⟩) ?_ ?_
             rotate_left
             ·simp only [Act.put, List.setIfInBounds_toArray, List.set_cons_zero, List.set_cons_succ, i64_w, i32_w]
              rfl
             refine pure_ (i := 14) (N := some 100) (v := undef) (a' := ?_) #[true, true, true, true, true, true, true, true, true, true, true, true, true, true, true, false, false, false, false, false, false] rfl rfl (any_of HT_.out zb11) (fun _ _ _ h => h) (Or.inr ⟨by rfl, rfl⟩) ?_ ?_
             rotate_left
             ·simp only [Act.put, List.setIfInBounds_toArray, List.set_cons_zero, List.set_cons_succ, i64_w, i32_w]
              rfl
             refine pure_ (i := 15) (N := some 101) (v := undef) (a' := ?_) #[true, true, true, true, true, true, true, true, true, true, true, true, true, true, true, true, false, false, false, false, false] rfl rfl (any_of HT_.out zb11) (fun _ _ _ h => h) (Or.inr ⟨by rfl, rfl⟩) ?_ ?_
             rotate_left
             ·simp only [Act.put, List.setIfInBounds_toArray, List.set_cons_zero, List.set_cons_succ, i64_w, i32_w]
              rfl
             refine pure_ (i := 16) (N := some 102) (v := undef) (a' := ?_) #[true, true, true, true, true, true, true, true, true, true, true, true, true, true, true, true, true, false, false, false, false] rfl rfl (any_of HT_.out zb11) (fun _ _ _ h => h) (Or.inr ⟨by rfl, rfl⟩) ?_ ?_
             rotate_left
             ·simp only [Act.put, List.setIfInBounds_toArray, List.set_cons_zero, List.set_cons_succ, i64_w, i32_w]
              rfl
             refine pure_ (i := 17) (N := some 103) (v := undef) (a' := ?_) #[true, true, true, true, true, true, true, true, true, true, true, true, true, true, true, true, true, true, false, false, false] rfl rfl (any_of HT_.out zb11) (fun _ _ _ h => h) (Or.inr ⟨by rfl, rfl⟩) ?_ ?_
             rotate_left
             ·simp only [Act.put, List.setIfInBounds_toArray, List.set_cons_zero, List.set_cons_succ, i64_w, i32_w]
              rfl
             refine pure_ (i := 18) (N := some 104) (v := undef) (a' := ?_) #[true, true, true, true, true, true, true, true, true, true, true, true, true, true, true, true, true, true, true, false, false] rfl rfl (any_of HT_.out zb11) (fun _ _ _ h => h) (Or.inr ⟨by rfl, rfl⟩) ?_ ?_
             rotate_left
             ·simp only [Act.put, List.setIfInBounds_toArray, List.set_cons_zero, List.set_cons_succ, i64_w, i32_w]
              rfl
             refine pure_ (i := 19) (N := some 105) (v := undef) (a' := ?_) #[true, true, true, true, true, true, true, true, true, true, true, true, true, true, true, true, true, true, true, true, false] rfl rfl (any_of HT_.out zb11) (fun _ _ _ h => h) (Or.inr ⟨by rfl, rfl⟩) ?_ ?_
             rotate_left
             ·simp only [Act.put, List.setIfInBounds_toArray, List.set_cons_zero, List.set_cons_succ, i64_w, i32_w]
              rfl
             refine pure_ (i := 20) (N := some 106) (v := ?_) (a' := ?_) #[true, true, true, true, true, true, true, true, true, true, true, true, true, true, true, true, true, true, true, true, true] rfl rfl (any_of HT_.out zb11) (fun _ _ _ h => h) (Or.inl ⟨by rfl, ?_⟩) ?_ ?_
             rotate_left
             ·intro w'
              go_simp
              first | with_reducible rfl | (rw [if_neg zb2])
             rotate_left
             ·simp only [Act.put, List.setIfInBounds_toArray, List.set_cons_zero, List.set_cons_succ, i64_w, i32_w]
              rfl
             refine done_ (done_of HT_.out zb11) ?_
             try go_wp2
             go_meet
             case rel => exact ⟨_, (true), zb12, H', ⟨by have := HJ2.out; have := HJ16.out; first | omega | exact Nat.le_refl _⟩, ⟨by (with_reducible repeat (first | apply Kd.R_alloc | apply Kd.R_drewN | apply Kd.R_drew)); exact HO270.out⟩, ⟨by (with_reducible repeat (first | apply Kd.R_alloc | apply Kd.R_drewN | apply Kd.R_drew)); exact HO270.out⟩, ⟨by (with_reducible repeat (first | refine blk_drewN ?_ _ | refine blk_drew ?_ | refine blk_alloc ?_ _)); exact BK259.out⟩, ⟨by (with_reducible repeat (first | refine blk_drewN ?_ _ | refine blk_drew ?_ | refine blk_alloc ?_ _)); exact BK271.out⟩, ⟨by repeat (first | (with_reducible first | exact HB.out | apply below_alloc | apply pw_below_drewN | apply below_drew1 | refine below_set ?_ GE259.out | refine below_set ?_ GE271.out) | exact HB.out | exact ⟨HB.out.os, HB.out.tape, HB.out.output, HB.out.size, HB.out.block⟩)⟩⟩
            ·rw [if_neg c61] at H
             have c61b0 : decide ((wrap64 ((t266.length : Int) - 1)) < 0) = false := decide_eq_false c61
             clear c61
             (first | rw [c61b0] | (simp only [i64_w, i32_w]; rw [c61b0]) | skip)
             obtain ⟨ji64, hji64⟩ : ∃ j_ : Int, (wrap64 ((t266.length : Int) - 1)) = j_ := ⟨_, rfl⟩
             replace H : (if 0 ≤ (ji64) then (if (ji64) < (t266.length : Int) then (if ((rd_T41 t266 (ji64)).f0).toList = ([99, 111, 110, 116, 101, 110, 116, 45, 108, 101, 110, 103, 116, 104] : List UInt8) then ((broadsheetref03_Digits.f kj16 (t267.size : Int)).bind fun t277 => (broadsheetref21_Parse.j2 kj16 t267 t266 ji64 (((rd_T41 t266 (ji64)).f1).toList != t277.toList) t263 t266 t267)) else (broadsheetref21_Parse.j2 kj16 t267 t266 ji64 true t263 t266 t267)) else (none)) else (none)) = some (r1, r2, r3, r4) := by first | (rw [hji64] at H; exact H) | (simp only [hji64] at H ⊢; exact H)
             (try rw [hji64] at c61b0)
             have hji64w : (IntKind.i64.wrap ((t266.length : Int) - 1)) = ji64 := (i64_w _).trans hji64
             by_cases c65 : 0 ≤ (ji64)
             ·rw [if_pos c65] at H
              have c65b0 : decide (0 ≤ (ji64)) = true := decide_eq_true c65
              clear c65
              by_cases c66 : (ji64) < (t266.length : Int)
              ·rw [if_pos c66] at H
               have c66b0 : decide ((ji64) < (t266.length : Int)) = true := decide_eq_true c66
               clear c66
               by_cases c67 : ((rd_T41 t266 (ji64)).f0).toList = ([99, 111, 110, 116, 101, 110, 116, 45, 108, 101, 110, 103, 116, 104] : List UInt8)
               ·rw [if_pos c67] at H
                have c67b0 : (((rd_T41 t266 (ji64)).f0).toList == ([99, 111, 110, 116, 101, 110, 116, 45, 108, 101, 110, 103, 116, 104] : List UInt8)) = true := beq_iff_eq.mpr c67
                have c67b1 : (((rd_T41 t266 (ji64)).f0).toList != ([99, 111, 110, 116, 101, 110, 116, 45, 108, 101, 110, 103, 116, 104] : List UInt8)) = false := bne_eq_false_iff_eq.mpr c67
                clear c67
                replace H := Option.bind_eq_some_iff.mp H
                obtain ⟨t277, A680, H⟩ := H
                replace H : (broadsheetref21_Parse.j2 kj16 t267 t266 ji64 (((rd_T41 t266 (ji64)).f1).toList != t277.toList) t263 t266 t267) = some (r1, r2, r3, r4) := H
                have A68 := Aside0.mk A680
                clear A680
                have H' := Aside0.mk H
                clear H
                try go_wp2
                have n0_ : Aside0 (Kd.R k41 41 (((w58.setCell ⟨gb271, 0, none⟩ (.int .i64 t263)).setCell ⟨gb271, 1, none⟩ (.slice Ao57 t266.length co57)).setCell ⟨gb271, 2, none⟩ (.string t267)) w.heap.size (fun _ => True) (.slice Ao57 t266.length co57) t266) := ⟨by (with_reducible repeat (first | apply Kd.R_alloc | apply Kd.R_drewN | apply Kd.R_drew)); exact Kd.R_mono (Kd.R_far (p := ⟨gb271, 2, none⟩) (Kd.R_far (p := ⟨gb271, 1, none⟩) (Kd.R_far (p := ⟨gb271, 0, none⟩) (Kd.R_types HO270.out BK271.out zb39) (fun _ hk => hk.2) (.int .i64 t263)) (fun _ hk => hk.2) (.slice Ao57 t266.length co57)) (fun _ hk => hk.2) (.string t267)) (fun _ hk => trivial)⟩
                have n1_ : Aside0 ((((w58.setCell ⟨gb271, 0, none⟩ (.int .i64 t263)).setCell ⟨gb271, 1, none⟩ (.slice Ao57 t266.length co57)).setCell ⟨gb271, 2, none⟩ (.string t267)).heap[gb259]? = some (.cells #[.int .i64 0, .slice none 0 0, .string (⟨#[]⟩ : ByteArray)] 24 (0, 0))) := ⟨by (with_reducible repeat (first | refine blk_drewN ?_ _ | refine blk_drew ?_ | refine blk_alloc ?_ _)); refine blk_far ?_ NB259_271.out _; (with_reducible repeat (first | refine blk_drewN ?_ _ | refine blk_drew ?_ | refine blk_alloc ?_ _)); refine blk_far ?_ NB259_271.out _; (with_reducible repeat (first | refine blk_drewN ?_ _ | refine blk_drew ?_ | refine blk_alloc ?_ _)); refine blk_far ?_ NB259_271.out _; (with_reducible repeat (first | refine blk_drewN ?_ _ | refine blk_drew ?_ | refine blk_alloc ?_ _)); exact BK259.out⟩
                have n2_ : Aside0 ((((w58.setCell ⟨gb271, 0, none⟩ (.int .i64 t263)).setCell ⟨gb271, 1, none⟩ (.slice Ao57 t266.length co57)).setCell ⟨gb271, 2, none⟩ (.string t267)).heap[gb271]? = some (.cells #[.int .i64 t263, .slice Ao57 t266.length co57, .string t267] 24 (0, 0))) := ⟨by (with_reducible repeat (first | refine blk_drewN ?_ _ | refine blk_drew ?_ | refine blk_alloc ?_ _)); refine blk_put (cs := #[.int .i64 t263, .slice Ao57 t266.length co57, .string (⟨#[]⟩ : ByteArray)]) ?_ 2 _ rfl; (with_reducible repeat (first | refine blk_drewN ?_ _ | refine blk_drew ?_ | refine blk_alloc ?_ _)); refine blk_put (cs := #[.int .i64 t263, .slice none 0 0, .string (⟨#[]⟩ : ByteArray)]) ?_ 1 _ rfl; (with_reducible repeat (first | refine blk_drewN ?_ _ | refine blk_drew ?_ | refine blk_alloc ?_ _)); refine blk_put (cs := #[.int .i64 0, .slice none 0 0, .string (⟨#[]⟩ : ByteArray)]) ?_ 0 _ rfl; (with_reducible repeat (first | refine blk_drewN ?_ _ | refine blk_drew ?_ | refine blk_alloc ?_ _)); exact BK271.out⟩
                have n3_ : Aside0 (Below w.heap.size w (((w58.setCell ⟨gb271, 0, none⟩ (.int .i64 t263)).setCell ⟨gb271, 1, none⟩ (.slice Ao57 t266.length co57)).setCell ⟨gb271, 2, none⟩ (.string t267))) := ⟨by repeat (first | (with_reducible first | exact HB.out | apply below_alloc | apply pw_below_drewN | apply below_drew1 | refine below_set ?_ GE259.out | refine below_set ?_ GE271.out) | exact HB.out | exact ⟨HB.out.os, HB.out.tape, HB.out.output, HB.out.size, HB.out.block⟩)⟩
                (try clear HO270)
                (try clear BK259)
                (try clear BK271)
                (try clear HB)
                generalize (((w58.setCell ⟨gb271, 0, none⟩ (.int .i64 t263)).setCell ⟨gb271, 1, none⟩ (.slice Ao57 t266.length co57)).setCell ⟨gb271, 2, none⟩ (.string t267)) = w69 at n0_ n1_ n2_ n3_ ⊢
                have HO270 := n0_
                have BK259 := n1_
                have BK271 := n2_
                have HB := n3_
                clear n0_ n1_ n2_ n3_
                have n0_ := Aside0.mk (Kd.R_drew HO270.out)
                have n1_ := Aside0.mk (blk_drew BK259.out)
                have n2_ := Aside0.mk (blk_drew BK271.out)
                have n3_ := Aside0.mk (below_drew1 HB.out)
                clear HO270
                clear BK259
                clear BK271
                clear HB
                have HO270 := n0_
                have BK259 := n1_
                have BK271 := n2_
                have HB := n3_
                clear n0_ n1_ n2_ n3_
                have p275 : 0 ≤ ((ji64) : Int) := of_decide_eq_true zb4
                have q275 : (ji64) < (t266.length : Int) := of_decide_eq_true zb4
                obtain ⟨ad275, e275, hx275_0, hx275_1⟩ := at_T41 (Kd.R_reads' HO270.out).2.2 (ji64) p275 q275
                cases e275
                replace p275 := eq_true p275
                replace q275 := eq_true q275
                have p276 : 0 ≤ ((ji64) : Int) := of_decide_eq_true zb4
                have q276 : (ji64) < (t266.length : Int) := of_decide_eq_true zb4
                obtain ⟨ad276, e276, hx276_0, hx276_1⟩ := at_T41 (Kd.R_reads' HO270.out).2.2 (ji64) p276 q276
                obtain rfl : ad275 = ad276 := (by injection e276)
                replace p276 := eq_true p276
                replace q276 := eq_true q276
                refine start_ (n := 21) (S := fun w' => w'.cell? (ad275.add (((ji64)).toNat * 2)) = some (.string ((rd_T41 t266 (ji64)).f0)) ∧ w'.cell? ⟨(ad275.add (((ji64)).toNat * 2)).block, (ad275.add (((ji64)).toNat * 2)).off + 1, none⟩ = some (.string ((rd_T41 t266 (ji64)).f1)) ∧ w'.cell? (ad275.add (((ji64)).toNat * 2)) = some (.string ((rd_T41 t266 (ji64)).f0)) ∧ w'.cell? ⟨(ad275.add (((ji64)).toNat * 2)).block, (ad275.add (((ji64)).toNat * 2)).off + 1, none⟩ = some (.string ((rd_T41 t266 (ji64)).f1))) (ds := []) #[false, false, false, false, false, false, false, false, false, false, false, false, false, false, false, false, false, false, false, false, false] zb11 rfl rfl ⟨hx275_0, hx275_1, hx276_0, hx276_1⟩ (fun hHeld => ?_); refine with_tabW broadsheetref21_Parse.tab17 broadsheetref21_Parse.bits17 (fun HT_ HW_ => ?_)
                skip
                refine pure_ (i := 0) (N := some 86) (v := ?_) (a' := ?_) #[true, false, false, false, false, false, false, false, false, false, false, false, false, false, false, false, false, false, false, false, false] rfl rfl (any_of HT_.out zb11) (fun _ _ _ h => h) (Or.inl ⟨by rfl, ?_⟩) ?_ ?_
                rotate_left
                ·intro w'
                 go_simp
                 first | with_reducible rfl | (rw [if_neg zb2])
                rotate_left
                ·simp only [Act.put, List.setIfInBounds_toArray, List.set_cons_zero, List.set_cons_succ, i64_w, i32_w]
                 rfl
                refine pure_ (i := 1) (N := some 87) (v := ?_) (a' := ?_) #[true, true, false, false, false, false, false, false, false, false, false, false, false, false, false, false, false, false, false, false, false] rfl rfl (any_of HT_.out zb11) (fun _ _ _ h => h) (Or.inl ⟨by rfl, ?_⟩) ?_ ?_
                rotate_left
                ·intro w'
                 go_simp
                 first | with_reducible rfl | (rw [if_neg zb2])
                rotate_left
                ·simp only [Act.put, List.setIfInBounds_toArray, List.set_cons_zero, List.set_cons_succ, i64_w, i32_w]
                 rfl
                refine pure_ (i := 2) (N := some 88) (v := ?_) (a' := ?_) #[true, true, true, false, false, false, false, false, false, false, false, false, false, false, false, false, false, false, false, false, false] rfl rfl (any_of HT_.out zb11) (fun _ _ _ h => h) (Or.inl ⟨by rfl, ?_⟩) ?_ ?_
                rotate_left
                ·intro w'
                 go_simp
                 first | with_reducible rfl | (rw [if_neg zb2])
                rotate_left
                ·simp only [Act.put, List.setIfInBounds_toArray, List.set_cons_zero, List.set_cons_succ, i64_w, i32_w]
                 rfl
                refine pure_ (i := 3) (N := some 89) (v := ?_) (a' := ?_) #[true, true, true, true, false, false, false, false, false, false, false, false, false, false, false, false, false, false, false, false, false] rfl rfl (any_of HT_.out zb11) (fun _ _ _ h => h) (Or.inl ⟨by rfl, ?_⟩) ?_ ?_
                rotate_left
                ·intro w'
                 go_simp
                 first | with_reducible rfl | (rw [if_neg zb2])
                rotate_left
                ·simp only [Act.put, List.setIfInBounds_toArray, List.set_cons_zero, List.set_cons_succ, i64_w, i32_w]
                 rfl
                refine pure_ (i := 4) (N := some 90) (v := ?_) (a' := ?_) #[true, true, true, true, true, false, false, false, false, false, false, false, false, false, false, false, false, false, false, false, false] rfl rfl (any_of HT_.out zb11) (fun _ _ _ h => h) (Or.inl ⟨by rfl, ?_⟩) ?_ ?_
                rotate_left
                ·intro w'
                 go_simp
                 first | with_reducible rfl | (rw [if_neg zb2])
                rotate_left
                ·simp only [Act.put, List.setIfInBounds_toArray, List.set_cons_zero, List.set_cons_succ, i64_w, i32_w]
                 rfl
                refine pure_ (i := 5) (N := some 91) (v := ?_) (a' := ?_) #[true, true, true, true, true, true, false, false, false, false, false, false, false, false, false, false, false, false, false, false, false] rfl rfl (any_of HT_.out zb11) (fun _ _ _ h => h) (Or.inl ⟨by rfl, ?_⟩) ?_ ?_
                rotate_left
                ·intro w'
                 go_simp
                 first | with_reducible rfl | (rw [if_neg zb2])
                rotate_left
                ·simp only [Act.put, List.setIfInBounds_toArray, List.set_cons_zero, List.set_cons_succ, i64_w, i32_w]
                 rfl
                refine pure_ (i := 6) (N := some 92) (v := ?_) (a' := ?_) #[true, true, true, true, true, true, true, false, false, false, false, false, false, false, false, false, false, false, false, false, false] rfl rfl (any_of HT_.out zb11) (fun _ _ _ h => h) (Or.inl ⟨by rfl, ?_⟩) ?_ ?_
                rotate_left
                ·intro w'
                 go_simp
                 first | with_reducible rfl | (rw [if_neg zb2])
                rotate_left
                ·simp only [Act.put, List.setIfInBounds_toArray, List.set_cons_zero, List.set_cons_succ, i64_w, i32_w]
                 rfl
                refine take_ (i := 7) (N := some 93) (v := ?_) (a' := ?_) #[true, true, true, true, true, true, true, true, false, false, false, false, false, false, false, false, false, false, false, false, false] rfl rfl (take_ofW HT_.out HW_.out zb11) (fun _ _ _ h => h) (Or.inl ⟨by rfl, ?_⟩) hHeld ?_ ?_
                rotate_left
                ·rintro w' ⟨s0, s1, s2, s3⟩
                 go_simp
                 first | with_reducible rfl | (rw [if_neg zb2])
                rotate_left
                ·simp only [Act.put, List.setIfInBounds_toArray, List.set_cons_zero, List.set_cons_succ, i64_w, i32_w]
                 rfl
                refine pure_ (i := 8) (N := some 94) (v := ?_) (a' := ?_) #[true, true, true, true, true, true, true, true, true, false, false, false, false, false, false, false, false, false, false, false, false] rfl rfl (any_of HT_.out zb11) (fun _ _ _ h => h) (Or.inl ⟨by rfl, ?_⟩) ?_ ?_
                rotate_left
                ·intro w'
                 go_simp
                 first | with_reducible rfl | (rw [if_neg zb2])
                rotate_left
                ·simp only [Act.put, List.setIfInBounds_toArray, List.set_cons_zero, List.set_cons_succ, i64_w, i32_w]
                 rfl
                refine pure_ (i := 9) (N := some 95) (v := ?_) (a' := ?_) #[true, true, true, true, true, true, true, true, true, true, false, false, false, false, false, false, false, false, false, false, false] rfl rfl (any_of HT_.out zb11) (fun _ _ _ h => h) (Or.inl ⟨by rfl, ?_⟩) ?_ ?_
                rotate_left
                ·intro w'
                 go_simp
                 first | with_reducible rfl | (rw [if_neg zb2])
                rotate_left
                ·simp only [Act.put, List.setIfInBounds_toArray, List.set_cons_zero, List.set_cons_succ, i64_w, i32_w]
                 rfl
                refine pure_ (i := 10) (N := some 96) (v := ?_) (a' := ?_) #[true, true, true, true, true, true, true, true, true, true, true, false, false, false, false, false, false, false, false, false, false] rfl rfl (any_of HT_.out zb11) (fun _ _ _ h => h) (Or.inl ⟨by rfl, ?_⟩) ?_ ?_
                rotate_left
                ·intro w'
                 go_simp
                 first | with_reducible rfl | (rw [if_neg zb2])
                rotate_left
                ·simp only [Act.put, List.setIfInBounds_toArray, List.set_cons_zero, List.set_cons_succ, i64_w, i32_w]
                 rfl
                refine pure_ (i := 11) (N := some 97) (v := ?_) (a' := ?_) #[true, true, true, true, true, true, true, true, true, true, true, true, false, false, false, false, false, false, false, false, false] rfl rfl (any_of HT_.out zb11) (fun _ _ _ h => h) (Or.inl ⟨by rfl, ?_⟩) ?_ ?_
                rotate_left
                ·intro w'
                 go_simp
                 first | with_reducible rfl | (rw [if_neg zb2])
                rotate_left
                ·simp only [Act.put, List.setIfInBounds_toArray, List.set_cons_zero, List.set_cons_succ, i64_w, i32_w]
                 rfl
                refine pure_ (i := 12) (N := some 98) (v := ?_) (a' := ?_) #[true, true, true, true, true, true, true, true, true, true, true, true, true, false, false, false, false, false, false, false, false] rfl rfl (any_of HT_.out zb11) (fun _ _ _ h => h) (Or.inl ⟨by rfl, ?_⟩) ?_ ?_
                rotate_left
                ·intro w'
                 go_simp
                 first | with_reducible rfl | (rw [if_neg zb2])
                rotate_left
                ·simp only [Act.put, List.setIfInBounds_toArray, List.set_cons_zero, List.set_cons_succ, i64_w, i32_w]
                 rfl
                refine pure_ (i := 13) (N := some 99) (v := ?_) (a' := ?_) #[true, true, true, true, true, true, true, true, true, true, true, true, true, true, false, false, false, false, false, false, false] rfl rfl (any_of HT_.out zb11) (fun _ _ _ h => h) (Or.inl ⟨by rfl, ?_⟩) ?_ ?_
                rotate_left
                ·intro w'
                 go_simp
                 first | with_reducible rfl | (rw [if_neg zb2])
                rotate_left
                ·simp only [Act.put, List.setIfInBounds_toArray, List.set_cons_zero, List.set_cons_succ, i64_w, i32_w]
                 rfl
                refine pure_ (i := 14) (N := some 100) (v := ?_) (a' := ?_) #[true, true, true, true, true, true, true, true, true, true, true, true, true, true, true, false, false, false, false, false, false] rfl rfl (any_of HT_.out zb11) (fun _ _ _ h => h) (Or.inl ⟨by rfl, ?_⟩) ?_ ?_
                rotate_left
                ·intro w'
                 go_simp
                 first | with_reducible rfl | (rw [if_neg zb2])
                rotate_left
                ·simp only [Act.put, List.setIfInBounds_toArray, List.set_cons_zero, List.set_cons_succ, i64_w, i32_w]
                 rfl
                refine pure_ (i := 16) (N := some 102) (v := ?_) (a' := ?_) #[true, true, true, true, true, true, true, true, true, true, true, true, true, true, true, false, true, false, false, false, false] rfl rfl (any_of HT_.out zb11) (fun _ _ _ h => h) (Or.inl ⟨by rfl, ?_⟩) ?_ ?_
                rotate_left
                ·intro w'
                 go_simp
                 first | with_reducible rfl | (rw [if_neg zb2])
                rotate_left
                ·simp only [Act.put, List.setIfInBounds_toArray, List.set_cons_zero, List.set_cons_succ, i64_w, i32_w]
                 rfl
                refine pure_ (i := 17) (N := some 103) (v := ?_) (a' := ?_) #[true, true, true, true, true, true, true, true, true, true, true, true, true, true, true, false, true, true, false, false, false] rfl rfl (any_of HT_.out zb11) (fun _ _ _ h => h) (Or.inl ⟨by rfl, ?_⟩) ?_ ?_
                rotate_left
                ·intro w'
                 go_simp
                 first | with_reducible rfl | (rw [if_neg zb2])
                rotate_left
                ·simp only [Act.put, List.setIfInBounds_toArray, List.set_cons_zero, List.set_cons_succ, i64_w, i32_w]
                 rfl
                refine take_ (i := 15) (N := some 101) (v := ?_) (a' := ?_) #[true, true, true, true, true, true, true, true, true, true, true, true, true, true, true, true, true, true, false, false, false] rfl rfl (take_ofW HT_.out HW_.out zb11) (fun _ _ _ h => h) (Or.inl ⟨by rfl, ?_⟩) hHeld ?_ ?_
                rotate_left
                ·rintro w' ⟨s0, s1, s2, s3⟩
                 go_simp
                 first | with_reducible rfl | (rw [if_neg zb2])
                rotate_left
                ·simp only [Act.put, List.setIfInBounds_toArray, List.set_cons_zero, List.set_cons_succ, i64_w, i32_w]
                 rfl
                refine one_ (i := 18) (N := some 104) #[true, true, true, true, true, true, true, true, true, true, true, true, true, true, true, true, true, true, true, false, false] rfl rfl (one_of HT_.out zb11) zb39 (fun K hK => ?_)
                refine goes_ Tryz.func25 zb11 rfl #[.int .i64 (t267.size : Int)] (by rfl) rfl rfl zb0 ?_
                with_reducible refine (broadsheetref03_Digits.calls kj16 (t267.size : Int) t277 _ A68.out).mono ?_
                rintro e w71 ⟨rfl, hb⟩
                have HS0_ := (hb.cell (World.block_lt_of_cell? _ _ (hHeld.1))).trans (hHeld.1)
                have HS1_ := (hb.cell (World.block_lt_of_cell? _ _ (hHeld.2.1))).trans (hHeld.2.1)
                have HS2_ := (hb.cell (World.block_lt_of_cell? _ _ (hHeld.2.2.1))).trans (hHeld.2.2.1)
                have HS3_ := (hb.cell (World.block_lt_of_cell? _ _ (hHeld.2.2.2))).trans (hHeld.2.2.2)
                refine ⟨_, rfl, ?_⟩
                have n0_ := Aside0.mk (Kd.R_below zb45 hb)
                have n1_ := Aside0.mk (blk_below (g := gb259) (o := .cells #[.int .i64 0, .slice none 0 0, .string (⟨#[]⟩ : ByteArray)] 24 (0, 0)) zb16 hb)
                have n2_ := Aside0.mk (blk_below (g := gb271) (o := .cells #[.int .i64 t263, .slice (some ad275) t266.length co57, .string t267] 24 (0, 0)) (by (with_reducible repeat (first | refine blk_drewN ?_ _ | refine blk_drew ?_ | refine blk_alloc ?_ _)); exact BK271.out) hb)
                have n3_ := Aside0.mk (below_step zb20 hb)
                clear HO270
                clear BK259
                clear BK271
                clear HB
                have HO270 := n0_
                have BK259 := n1_
                have BK271 := n2_
                have HB := n3_
                clear n0_ n1_ n2_ n3_
                (try clear hb)
                (try clear hb2)
                (try clear hk)
                (try clear hi)
                refine hK.out _ _ ⟨HS0_, HS1_, HS2_, HS3_⟩ (fun hHeld => ?_)
                clear hK K
                refine norm_ (a' := ?_) ?_ ?_
                rotate_left
                ·show Act.put _ (some 104) _ = _
                 simp only [Act.put, List.setIfInBounds_toArray, List.set_cons_zero, List.set_cons_succ, i64_w, i32_w]
                 rfl
                refine pure_ (i := 19) (N := some 105) (v := ?_) (a' := ?_) #[true, true, true, true, true, true, true, true, true, true, true, true, true, true, true, true, true, true, true, true, false] rfl rfl (any_of HT_.out zb11) (fun _ _ _ h => h) (Or.inl ⟨by rfl, ?_⟩) ?_ ?_
                rotate_left
                ·intro w'
                 go_simp
                 first | with_reducible rfl | (rw [if_neg zb2])
                rotate_left
                ·simp only [Act.put, List.setIfInBounds_toArray, List.set_cons_zero, List.set_cons_succ, i64_w, i32_w]
                 rfl
                refine pure_ (i := 20) (N := some 106) (v := ?_) (a' := ?_) #[true, true, true, true, true, true, true, true, true, true, true, true, true, true, true, true, true, true, true, true, true] rfl rfl (any_of HT_.out zb11) (fun _ _ _ h => h) (Or.inl ⟨by rfl, ?_⟩) ?_ ?_
                rotate_left
                ·intro w'
                 go_simp
                 first | with_reducible rfl | (rw [if_neg zb2])
                rotate_left
                ·simp only [Act.put, List.setIfInBounds_toArray, List.set_cons_zero, List.set_cons_succ, i64_w, i32_w]
                 rfl
                refine done_ (done_of HT_.out zb11) ?_
                try go_wp2
                (try (have hq_ := H'.out; rw [← hji64] at hq_; clear H'; have H' := Aside0.mk hq_))
                (try simp only [← hji64])
                go_meet
                case rel => exact ⟨_, ((((rd_T41 t266 ((wrap64 ((t266.length : Int) - 1)))).f1).toList != t277.toList)), (by first | rfl | (simp; done) | (simp only [← hji64] <;> (first | rfl | simp)) | (simp [*]; done)), H', ⟨by have := HJ2.out; have := HJ16.out; first | omega | exact Nat.le_refl _⟩, ⟨by (with_reducible repeat (first | apply Kd.R_alloc | apply Kd.R_drewN | apply Kd.R_drew)); exact HO270.out⟩, ⟨by (with_reducible repeat (first | apply Kd.R_alloc | apply Kd.R_drewN | apply Kd.R_drew)); exact HO270.out⟩, ⟨by (with_reducible repeat (first | refine blk_drewN ?_ _ | refine blk_drew ?_ | refine blk_alloc ?_ _)); exact BK259.out⟩, ⟨by (with_reducible repeat (first | refine blk_drewN ?_ _ | refine blk_drew ?_ | refine blk_alloc ?_ _)); exact BK271.out⟩, ⟨by repeat (first | (with_reducible first | exact HB.out | apply below_alloc | apply pw_below_drewN | apply below_drew1 | refine below_set ?_ GE259.out | refine below_set ?_ GE271.out) | exact HB.out | exact ⟨HB.out.os, HB.out.tape, HB.out.output, HB.out.size, HB.out.block⟩)⟩⟩
               ·rw [if_neg c67] at H
                have c67b0 : (((rd_T41 t266 (ji64)).f0).toList == ([99, 111, 110, 116, 101, 110, 116, 45, 108, 101, 110, 103, 116, 104] : List UInt8)) = false := beq_eq_false_iff_ne.mpr c67
                have c67b1 : (((rd_T41 t266 (ji64)).f0).toList != ([99, 111, 110, 116, 101, 110, 116, 45, 108, 101, 110, 103, 116, 104] : List UInt8)) = true := bne_iff_ne.mpr c67
                have H' := Aside0.mk H
                clear H
                try go_wp2
                have n0_ : Aside0 (Kd.R k41 41 (((w58.setCell ⟨gb271, 0, none⟩ (.int .i64 t263)).setCell ⟨gb271, 1, none⟩ (.slice Ao57 t266.length co57)).setCell ⟨gb271, 2, none⟩ (.string t267)) w.heap.size (fun _ => True) (.slice Ao57 t266.length co57) t266) := ⟨by (with_reducible repeat (first | apply Kd.R_alloc | apply Kd.R_drewN | apply Kd.R_drew)); exact Kd.R_mono (Kd.R_far (p := ⟨gb271, 2, none⟩) (Kd.R_far (p := ⟨gb271, 1, none⟩) (Kd.R_far (p := ⟨gb271, 0, none⟩) (Kd.R_types HO270.out BK271.out zb39) (fun _ hk => hk.2) (.int .i64 t263)) (fun _ hk => hk.2) (.slice Ao57 t266.length co57)) (fun _ hk => hk.2) (.string t267)) (fun _ hk => trivial)⟩
                have n1_ : Aside0 ((((w58.setCell ⟨gb271, 0, none⟩ (.int .i64 t263)).setCell ⟨gb271, 1, none⟩ (.slice Ao57 t266.length co57)).setCell ⟨gb271, 2, none⟩ (.string t267)).heap[gb259]? = some (.cells #[.int .i64 0, .slice none 0 0, .string (⟨#[]⟩ : ByteArray)] 24 (0, 0))) := ⟨by (with_reducible repeat (first | refine blk_drewN ?_ _ | refine blk_drew ?_ | refine blk_alloc ?_ _)); refine blk_far ?_ NB259_271.out _; (with_reducible repeat (first | refine blk_drewN ?_ _ | refine blk_drew ?_ | refine blk_alloc ?_ _)); refine blk_far ?_ NB259_271.out _; (with_reducible repeat (first | refine blk_drewN ?_ _ | refine blk_drew ?_ | refine blk_alloc ?_ _)); refine blk_far ?_ NB259_271.out _; (with_reducible repeat (first | refine blk_drewN ?_ _ | refine blk_drew ?_ | refine blk_alloc ?_ _)); exact BK259.out⟩
                have n2_ : Aside0 ((((w58.setCell ⟨gb271, 0, none⟩ (.int .i64 t263)).setCell ⟨gb271, 1, none⟩ (.slice Ao57 t266.length co57)).setCell ⟨gb271, 2, none⟩ (.string t267)).heap[gb271]? = some (.cells #[.int .i64 t263, .slice Ao57 t266.length co57, .string t267] 24 (0, 0))) := ⟨by (with_reducible repeat (first | refine blk_drewN ?_ _ | refine blk_drew ?_ | refine blk_alloc ?_ _)); refine blk_put (cs := #[.int .i64 t263, .slice Ao57 t266.length co57, .string (⟨#[]⟩ : ByteArray)]) ?_ 2 _ rfl; (with_reducible repeat (first | refine blk_drewN ?_ _ | refine blk_drew ?_ | refine blk_alloc ?_ _)); refine blk_put (cs := #[.int .i64 t263, .slice none 0 0, .string (⟨#[]⟩ : ByteArray)]) ?_ 1 _ rfl; (with_reducible repeat (first | refine blk_drewN ?_ _ | refine blk_drew ?_ | refine blk_alloc ?_ _)); refine blk_put (cs := #[.int .i64 0, .slice none 0 0, .string (⟨#[]⟩ : ByteArray)]) ?_ 0 _ rfl; (with_reducible repeat (first | refine blk_drewN ?_ _ | refine blk_drew ?_ | refine blk_alloc ?_ _)); exact BK271.out⟩
                have n3_ : Aside0 (Below w.heap.size w (((w58.setCell ⟨gb271, 0, none⟩ (.int .i64 t263)).setCell ⟨gb271, 1, none⟩ (.slice Ao57 t266.length co57)).setCell ⟨gb271, 2, none⟩ (.string t267))) := ⟨by repeat (first | (with_reducible first | exact HB.out | apply below_alloc | apply pw_below_drewN | apply below_drew1 | refine below_set ?_ GE259.out | refine below_set ?_ GE271.out) | exact HB.out | exact ⟨HB.out.os, HB.out.tape, HB.out.output, HB.out.size, HB.out.block⟩)⟩
                (try clear HO270)
                (try clear BK259)
                (try clear BK271)
                (try clear HB)
                generalize (((w58.setCell ⟨gb271, 0, none⟩ (.int .i64 t263)).setCell ⟨gb271, 1, none⟩ (.slice Ao57 t266.length co57)).setCell ⟨gb271, 2, none⟩ (.string t267)) = w72 at n0_ n1_ n2_ n3_ ⊢
                have HO270 := n0_
                have BK259 := n1_
                have BK271 := n2_
                have HB := n3_
                clear n0_ n1_ n2_ n3_
                have n0_ := Aside0.mk (Kd.R_drew HO270.out)
                have n1_ := Aside0.mk (blk_drew BK259.out)
                have n2_ := Aside0.mk (blk_drew BK271.out)
                have n3_ := Aside0.mk (below_drew1 HB.out)
                clear HO270
                clear BK259
                clear BK271
                clear HB
                have HO270 := n0_
                have BK259 := n1_
                have BK271 := n2_
                have HB := n3_
                clear n0_ n1_ n2_ n3_
                have p275 : 0 ≤ ((ji64) : Int) := of_decide_eq_true zb4
                have q275 : (ji64) < (t266.length : Int) := of_decide_eq_true zb4
                obtain ⟨ad275, e275, hx275_0, hx275_1⟩ := at_T41 (Kd.R_reads' HO270.out).2.2 (ji64) p275 q275
                cases e275
                replace p275 := eq_true p275
                replace q275 := eq_true q275
                refine start_ (n := 21) (S := fun w' => w'.cell? (ad275.add (((ji64)).toNat * 2)) = some (.string ((rd_T41 t266 (ji64)).f0)) ∧ w'.cell? ⟨(ad275.add (((ji64)).toNat * 2)).block, (ad275.add (((ji64)).toNat * 2)).off + 1, none⟩ = some (.string ((rd_T41 t266 (ji64)).f1))) (ds := []) #[false, false, false, false, false, false, false, false, false, false, false, false, false, false, false, false, false, false, false, false, false] zb11 rfl rfl ⟨hx275_0, hx275_1⟩ (fun hHeld => ?_); refine with_tabW broadsheetref21_Parse.tab17 broadsheetref21_Parse.bits17 (fun HT_ HW_ => ?_)
                skip
                refine pure_ (i := 0) (N := some 86) (v := ?_) (a' := ?_) #[true, false, false, false, false, false, false, false, false, false, false, false, false, false, false, false, false, false, false, false, false] rfl rfl (any_of HT_.out zb11) (fun _ _ _ h => h) (Or.inl ⟨by rfl, ?_⟩) ?_ ?_
                rotate_left
                ·intro w'
                 go_simp
                 first | with_reducible rfl | (rw [if_neg zb2])
                rotate_left
                ·simp only [Act.put, List.setIfInBounds_toArray, List.set_cons_zero, List.set_cons_succ, i64_w, i32_w]
                 rfl
                refine pure_ (i := 1) (N := some 87) (v := ?_) (a' := ?_) #[true, true, false, false, false, false, false, false, false, false, false, false, false, false, false, false, false, false, false, false, false] rfl rfl (any_of HT_.out zb11) (fun _ _ _ h => h) (Or.inl ⟨by rfl, ?_⟩) ?_ ?_
                rotate_left
                ·intro w'
                 go_simp
                 first | with_reducible rfl | (rw [if_neg zb2])
                rotate_left
                ·simp only [Act.put, List.setIfInBounds_toArray, List.set_cons_zero, List.set_cons_succ, i64_w, i32_w]
                 rfl
                refine pure_ (i := 2) (N := some 88) (v := ?_) (a' := ?_) #[true, true, true, false, false, false, false, false, false, false, false, false, false, false, false, false, false, false, false, false, false] rfl rfl (any_of HT_.out zb11) (fun _ _ _ h => h) (Or.inl ⟨by rfl, ?_⟩) ?_ ?_
                rotate_left
                ·intro w'
                 go_simp
                 first | with_reducible rfl | (rw [if_neg zb2])
                rotate_left
                ·simp only [Act.put, List.setIfInBounds_toArray, List.set_cons_zero, List.set_cons_succ, i64_w, i32_w]
                 rfl
                refine pure_ (i := 3) (N := some 89) (v := ?_) (a' := ?_) #[true, true, true, true, false, false, false, false, false, false, false, false, false, false, false, false, false, false, false, false, false] rfl rfl (any_of HT_.out zb11) (fun _ _ _ h => h) (Or.inl ⟨by rfl, ?_⟩) ?_ ?_
                rotate_left
                ·intro w'
                 go_simp
                 first | with_reducible rfl | (rw [if_neg zb2])
                rotate_left
                ·simp only [Act.put, List.setIfInBounds_toArray, List.set_cons_zero, List.set_cons_succ, i64_w, i32_w]
                 rfl
                refine pure_ (i := 4) (N := some 90) (v := ?_) (a' := ?_) #[true, true, true, true, true, false, false, false, false, false, false, false, false, false, false, false, false, false, false, false, false] rfl rfl (any_of HT_.out zb11) (fun _ _ _ h => h) (Or.inl ⟨by rfl, ?_⟩) ?_ ?_
                rotate_left
                ·intro w'
                 go_simp
                 first | with_reducible rfl | (rw [if_neg zb2])
                rotate_left
                ·simp only [Act.put, List.setIfInBounds_toArray, List.set_cons_zero, List.set_cons_succ, i64_w, i32_w]
                 rfl
                refine pure_ (i := 5) (N := some 91) (v := ?_) (a' := ?_) #[true, true, true, true, true, true, false, false, false, false, false, false, false, false, false, false, false, false, false, false, false] rfl rfl (any_of HT_.out zb11) (fun _ _ _ h => h) (Or.inl ⟨by rfl, ?_⟩) ?_ ?_
                rotate_left
                ·intro w'
                 go_simp
                 first | with_reducible rfl | (rw [if_neg zb2])
                rotate_left
                ·simp only [Act.put, List.setIfInBounds_toArray, List.set_cons_zero, List.set_cons_succ, i64_w, i32_w]
                 rfl
                refine pure_ (i := 6) (N := some 92) (v := ?_) (a' := ?_) #[true, true, true, true, true, true, true, false, false, false, false, false, false, false, false, false, false, false, false, false, false] rfl rfl (any_of HT_.out zb11) (fun _ _ _ h => h) (Or.inl ⟨by rfl, ?_⟩) ?_ ?_
                rotate_left
                ·intro w'
                 go_simp
                 first | with_reducible rfl | (rw [if_neg zb2])
                rotate_left
                ·simp only [Act.put, List.setIfInBounds_toArray, List.set_cons_zero, List.set_cons_succ, i64_w, i32_w]
                 rfl
                refine take_ (i := 7) (N := some 93) (v := ?_) (a' := ?_) #[true, true, true, true, true, true, true, true, false, false, false, false, false, false, false, false, false, false, false, false, false] rfl rfl (take_ofW HT_.out HW_.out zb11) (fun _ _ _ h => h) (Or.inl ⟨by rfl, ?_⟩) hHeld ?_ ?_
                rotate_left
                ·rintro w' ⟨s0, s1⟩
                 go_simp
                 first | with_reducible rfl | (rw [if_neg zb2])
                rotate_left
                ·simp only [Act.put, List.setIfInBounds_toArray, List.set_cons_zero, List.set_cons_succ, i64_w, i32_w]
                 rfl
                refine pure_ (i := 8) (N := some 94) (v := ?_) (a' := ?_) #[true, true, true, true, true, true, true, true, true, false, false, false, false, false, false, false, false, false, false, false, false] rfl rfl (any_of HT_.out zb11) (fun _ _ _ h => h) (Or.inl ⟨by rfl, ?_⟩) ?_ ?_
                rotate_left
                ·intro w'
                 go_simp
                 first | with_reducible rfl | (rw [if_neg zb2])
                rotate_left
                ·simp only [Act.put, List.setIfInBounds_toArray, List.set_cons_zero, List.set_cons_succ, i64_w, i32_w]
                 rfl
                refine pure_ (i := 9) (N := some 95) (v := ?_) (a' := ?_) #[true, true, true, true, true, true, true, true, true, true, false, false, false, false, false, false, false, false, false, false, false] rfl rfl (any_of HT_.out zb11) (fun _ _ _ h => h) (Or.inl ⟨by rfl, ?_⟩) ?_ ?_
                rotate_left
                ·intro w'
                 go_simp
                 first | with_reducible rfl | (rw [if_neg zb2])
                rotate_left
                ·simp only [Act.put, List.setIfInBounds_toArray, List.set_cons_zero, List.set_cons_succ, i64_w, i32_w]
                 rfl
                refine pure_ (i := 10) (N := some 96) (v := ?_) (a' := ?_) #[true, true, true, true, true, true, true, true, true, true, true, false, false, false, false, false, false, false, false, false, false] rfl rfl (any_of HT_.out zb11) (fun _ _ _ h => h) (Or.inl ⟨by rfl, ?_⟩) ?_ ?_
                rotate_left
                ·intro w'
                 go_simp
                 first | with_reducible rfl | (rw [if_neg zb2])
                rotate_left
                ·simp only [Act.put, List.setIfInBounds_toArray, List.set_cons_zero, List.set_cons_succ, i64_w, i32_w]
                 rfl
                refine pure_ (i := 11) (N := some 97) (v := undef) (a' := ?_) #[true, true, true, true, true, true, true, true, true, true, true, true, false, false, false, false, false, false, false, false, false] rfl rfl (any_of HT_.out zb11) (fun _ _ _ h => h) (Or.inr ⟨by rfl, rfl⟩) ?_ ?_
                rotate_left
                ·simp only [Act.put, List.setIfInBounds_toArray, List.set_cons_zero, List.set_cons_succ, i64_w, i32_w]
                 rfl
                refine pure_ (i := 12) (N := some 98) (v := undef) (a' := ?_) #[true, true, true, true, true, true, true, true, true, true, true, true, true, false, false, false, false, false, false, false, false] rfl rfl (any_of HT_.out zb11) (fun _ _ _ h => h) (Or.inr ⟨by rfl, rfl⟩) ?_ ?_
                rotate_left
                ·simp only [Act.put, List.setIfInBounds_toArray, List.set_cons_zero, List.set_cons_succ, i64_w, i32_w]
                 rfl
                refine pure_ (i := 13) (N := some 99) (v := undef) (a' := ?_) #[true, true, true, true, true, true, true, true, true, true, true, true, true, true, false, false, false, false, false, false, false] rfl rfl (any_of HT_.out zb11) (fun _ _ _ h => h) (Or.inr ⟨by rfl, rfl⟩) ?_ ?_
                rotate_left
                ·simp only [Act.put, List.setIfInBounds_toArray, List.set_cons_zero, List.set_cons_succ, i64_w, i32_w]
                 rfl
                refine pure_ (i := 14) (N := some 100) (v := undef) (a' := ?_) #[true, true, true, true, true, true, true, true, true, true, true, true, true, true, true, false, false, false, false, false, false] rfl rfl (any_of HT_.out zb11) (fun _ _ _ h => h) (Or.inr ⟨by rfl, rfl⟩) ?_ ?_
                rotate_left
                ·simp only [Act.put, List.setIfInBounds_toArray, List.set_cons_zero, List.set_cons_succ, i64_w, i32_w]
                 rfl
                refine pure_ (i := 15) (N := some 101) (v := undef) (a' := ?_) #[true, true, true, true, true, true, true, true, true, true, true, true, true, true, true, true, false, false, false, false, false] rfl rfl (any_of HT_.out zb11) (fun _ _ _ h => h) (Or.inr ⟨by rfl, rfl⟩) ?_ ?_
                rotate_left
                ·simp only [Act.put, List.setIfInBounds_toArray, List.set_cons_zero, List.set_cons_succ, i64_w, i32_w]
                 rfl
                refine pure_ (i := 16) (N := some 102) (v := undef) (a' := ?_) #[true, true, true, true, true, true, true, true, true, true, true, true, true, true, true, true, true, false, false, false, false] rfl rfl (any_of HT_.out zb11) (fun _ _ _ h => h) (Or.inr ⟨by rfl, rfl⟩) ?_ ?_
                rotate_left
                ·simp only [Act.put, List.setIfInBounds_toArray, List.set_cons_zero, List.set_cons_succ, i64_w, i32_w]
                 rfl
                refine pure_ (i := 17) (N := some 103) (v := undef) (a' := ?_) #[true, true, true, true, true, true, true, true, true, true, true, true, true, true, true, true, true, true, false, false, false] rfl rfl (any_of HT_.out zb11) (fun _ _ _ h => h) (Or.inr ⟨by rfl, rfl⟩) ?_ ?_
                rotate_left
                ·simp only [Act.put, List.setIfInBounds_toArray, List.set_cons_zero, List.set_cons_succ, i64_w, i32_w]
                 rfl
                refine pure_ (i := 18) (N := some 104) (v := undef) (a' := ?_) #[true, true, true, true, true, true, true, true, true, true, true, true, true, true, true, true, true, true, true, false, false] rfl rfl (any_of HT_.out zb11) (fun _ _ _ h => h) (Or.inr ⟨by rfl, rfl⟩) ?_ ?_
                rotate_left
                ·simp only [Act.put, List.setIfInBounds_toArray, List.set_cons_zero, List.set_cons_succ, i64_w, i32_w]
                 rfl
                refine pure_ (i := 19) (N := some 105) (v := undef) (a' := ?_) #[true, true, true, true, true, true, true, true, true, true, true, true, true, true, true, true, true, true, true, true, false] rfl rfl (any_of HT_.out zb11) (fun _ _ _ h => h) (Or.inr ⟨by rfl, rfl⟩) ?_ ?_
                rotate_left
                ·simp only [Act.put, List.setIfInBounds_toArray, List.set_cons_zero, List.set_cons_succ, i64_w, i32_w]
                 rfl
                refine pure_ (i := 20) (N := some 106) (v := ?_) (a' := ?_) #[true, true, true, true, true, true, true, true, true, true, true, true, true, true, true, true, true, true, true, true, true] rfl rfl (any_of HT_.out zb11) (fun _ _ _ h => h) (Or.inl ⟨by rfl, ?_⟩) ?_ ?_
                rotate_left
                ·intro w'
                 go_simp
                 first | with_reducible rfl | (rw [if_neg zb2])
                rotate_left
                ·simp only [Act.put, List.setIfInBounds_toArray, List.set_cons_zero, List.set_cons_succ, i64_w, i32_w]
                 rfl
                refine done_ (done_of HT_.out zb11) ?_
                try go_wp2
                (try (have hq_ := H'.out; rw [← hji64] at hq_; clear H'; have H' := Aside0.mk hq_))
                (try simp only [← hji64])
                go_meet
                case rel => exact ⟨_, (true), zb12, H', ⟨by have := HJ2.out; have := HJ16.out; first | omega | exact Nat.le_refl _⟩, ⟨by (with_reducible repeat (first | apply Kd.R_alloc | apply Kd.R_drewN | apply Kd.R_drew)); exact HO270.out⟩, ⟨by (with_reducible repeat (first | apply Kd.R_alloc | apply Kd.R_drewN | apply Kd.R_drew)); exact HO270.out⟩, ⟨by (with_reducible repeat (first | refine blk_drewN ?_ _ | refine blk_drew ?_ | refine blk_alloc ?_ _)); exact BK259.out⟩, ⟨by (with_reducible repeat (first | refine blk_drewN ?_ _ | refine blk_drew ?_ | refine blk_alloc ?_ _)); exact BK271.out⟩, ⟨by repeat (first | (with_reducible first | exact HB.out | apply below_alloc | apply pw_below_drewN | apply below_drew1 | refine below_set ?_ GE259.out | refine below_set ?_ GE271.out) | exact HB.out | exact ⟨HB.out.os, HB.out.tape, HB.out.output, HB.out.size, HB.out.block⟩)⟩⟩
              ·rw [if_neg c66] at H
               exact absurd H zb46
             ·rw [if_neg c65] at H
              exact absurd H zb46
           case rest =>
            clear HC55
            try clear c2
            try clear p2
            try clear q2
            try clear hx2
            try clear c6
            try clear p6
            try clear c25
            try clear p27
            try clear q27
            try clear hx27
            try clear c61
            try clear c61b0
            try clear p64
            try clear c65
            try clear c65b0
            try clear c66
            try clear c66b0
            try clear c67
            try clear c67b0
            try clear c67b1
            try clear hx275_0
            try clear hx275_1
            try clear hx276_0
            try clear hx276_1
            try clear p275
            try clear p276
            try clear q275
            try clear q276
            obtain ⟨kq, x106_54, rfl, HA, HJ54, HO_8, HO_272001, BK259, BK271, HB⟩ := hcut
            cases kq with
            | zero => exact absurd HA.out (by simp [broadsheetref21_Parse.j2])
            | succ kj54 =>
             have H := HA.out
             clear HA
             simp only [broadsheetref21_Parse.j2] at H
             by_cases c74 : x106_54 = true
             ·subst c74
              replace H : (some (0, ([] : List (S41)), (⟨#[]⟩ : ByteArray), 190)) = some (r1, r2, r3, r4) := by rw [if_pos rfl] at H; exact H
              simp only [Option.some.injEq, Prod.mk.injEq] at H
              obtain ⟨rfl, rfl, rfl, rfl⟩ := H
              have hnb75 := NB259_271.out
              have hnc75 := NB271_259.out
              have hcz76_0 : wc.cell? ⟨gb259, 0, none⟩ = some (.int .i64 0) := (blk_cell BK259.out 0).trans rfl
              have hcz76_1 : wc.cell? ⟨gb259, 1, none⟩ = some (.slice none 0 0) := (blk_cell BK259.out 1).trans rfl
              have hcz76_2 : wc.cell? ⟨gb259, 2, none⟩ = some (.string (⟨#[]⟩ : ByteArray)) := (blk_cell BK259.out 2).trans rfl
              have hfz76_0 := blk_frozen BK259.out 0
              have hfz76_1 := blk_frozen BK259.out 1
              have hfz76_2 := blk_frozen BK259.out 2
              go_wp2
              refine bodyPost_ret (results_ct rfl _ _ gb259 24 #[.int .i64 0, .slice none 0 0, .string (⟨#[]⟩ : ByteArray)] (0, 0) _ rfl zb6 Tryz.underlying24 rfl zb11) rfl ?_
              exact ⟨_, by first | rfl | (simp [errW_none, errW_some, bne_nil_] <;> rfl) | (simp [*, errW_none, errW_some] <;> rfl), by first | exact Kd.R_nil _ _ _ _ _ | exact Kd.N_nil _ _ _ _ _ | exact Kd.V_nil _ _ _ _ _ | exact Kd.Q_nil _ _ _ _ _ | exact Kd.S_nil _ _ _ _ _, by repeat (first | (with_reducible first | exact HB.out | apply below_alloc | apply pw_below_drewN | apply below_drew1 | refine below_set ?_ GE259.out | refine below_set ?_ GE271.out) | exact HB.out | exact ⟨HB.out.os, HB.out.tape, HB.out.output, HB.out.size, HB.out.block⟩)⟩
             ·replace c74 := Bool.eq_false_iff.mpr c74
              subst c74
              replace H : (if 0 ≤ (wrap64 ((t266.length : Int) - 1)) then (if (wrap64 ((t266.length : Int) - 1)) ≤ (t266.length : Int) then ((some (t266.take ((wrap64 ((t266.length : Int) - 1)) : Int).toNat : List (S41))).bind fun y278 => ((broadsheetref18_Get.f kj54 y278 (⟨#[99, 111, 110, 116, 101, 110, 116, 45, 108, 101, 110, 103, 116, 104]⟩ : ByteArray)).bind fun bt281 => (if bt281.2 > 0 then (some (0, ([] : List (S41)), (⟨#[]⟩ : ByteArray), 190)) else (if (t267.size : Int) > 100000 then (some (0, ([] : List (S41)), (⟨#[]⟩ : ByteArray), 190)) else (some (t263, y278, t267, 0)))))) else (none)) else (none)) = some (r1, r2, r3, r4) := by rw [if_neg (show ¬ (false = true) by decide)] at H; exact H
              obtain ⟨ji77, hji77⟩ : ∃ j_ : Int, (wrap64 ((t266.length : Int) - 1)) = j_ := ⟨_, rfl⟩
              replace H : (if 0 ≤ (ji77) then (if (ji77) ≤ (t266.length : Int) then ((some (t266.take ((ji77) : Int).toNat : List (S41))).bind fun y278 => ((broadsheetref18_Get.f kj54 y278 (⟨#[99, 111, 110, 116, 101, 110, 116, 45, 108, 101, 110, 103, 116, 104]⟩ : ByteArray)).bind fun bt281 => (if bt281.2 > 0 then (some (0, ([] : List (S41)), (⟨#[]⟩ : ByteArray), 190)) else (if (t267.size : Int) > 100000 then (some (0, ([] : List (S41)), (⟨#[]⟩ : ByteArray), 190)) else (some (t263, y278, t267, 0)))))) else (none)) else (none)) = some (r1, r2, r3, r4) := by first | (rw [hji77] at H; exact H) | (simp only [hji77] at H ⊢; exact H)
              have hji77w : (IntKind.i64.wrap ((t266.length : Int) - 1)) = ji77 := (i64_w _).trans hji77
              by_cases c78 : 0 ≤ (ji77)
              ·rw [if_pos c78] at H
               have c78b0 := eq_true c78
               have c78b1 : decide (0 ≤ (ji77)) = true := decide_eq_true c78
               clear c78
               by_cases c79 : (ji77) ≤ (t266.length : Int)
               ·rw [if_pos c79] at H
                have c79b0 := eq_true c79
                have c79b1 : decide ((ji77) ≤ (t266.length : Int)) = true := decide_eq_true c79
                clear c79
                obtain ⟨y278, hy278⟩ : ∃ y_ : List (S41), y_ = (t266.take ((ji77) : Int).toNat) := ⟨_, rfl⟩
                replace H : ((broadsheetref18_Get.f kj54 y278 (⟨#[99, 111, 110, 116, 101, 110, 116, 45, 108, 101, 110, 103, 116, 104]⟩ : ByteArray)).bind fun bt281 => (if bt281.2 > 0 then (some (0, ([] : List (S41)), (⟨#[]⟩ : ByteArray), 190)) else (if (t267.size : Int) > 100000 then (some (0, ([] : List (S41)), (⟨#[]⟩ : ByteArray), 190)) else (some (t263, y278, t267, 0))))) = some (r1, r2, r3, r4) := by first | (rw [hy278]; with_reducible exact H) | (have H2_ := (Option.bind_some _ _).symm.trans H; rw [hy278]; with_reducible exact H2_) | (have H2_ := (Option.bind_some _ _).symm.trans H; with_reducible exact H2_) | with_reducible exact H | (rw [hy278]; exact H) | exact H
                have Ny278 := Aside0.mk hy278
                clear hy278
                replace H := Option.bind_eq_some_iff.mp H
                obtain ⟨⟨t281, t282⟩, A800, H⟩ := H
                replace H : (if t282 > 0 then (some (0, ([] : List (S41)), (⟨#[]⟩ : ByteArray), 190)) else (if (t267.size : Int) > 100000 then (some (0, ([] : List (S41)), (⟨#[]⟩ : ByteArray), 190)) else (some (t263, y278, t267, 0)))) = some (r1, r2, r3, r4) := H
                have A80 := Aside0.mk A800
                clear A800
                by_cases c81 : t282 > 0
                ·rw [if_pos c81] at H
                 have c81b0 : decide (0 < t282) = true := decide_eq_true c81
                 clear c81
                 simp only [Option.some.injEq, Prod.mk.injEq] at H
                 obtain ⟨rfl, rfl, rfl, rfl⟩ := H
                 have q82 : ((ji77) : Int) ≤ ((t266.length : Int) : Int) := of_decide_eq_true zb4
                 obtain ⟨i082, hi082, _, hsz82, _⟩ := info_parts info41
                 have hcut82 := cut_to (P := Tryz.prog) 22 41 .i64 Tryz.underlying22 hi082 Ao57 t266.length co57 (ji77) (of_decide_eq_true zb4) q82 (Kd.R_reads' HO_8.out).2.1
                 have hr82 := Kd.R_take (m := ((ji77) : Int).toNat) HO_8.out zb34
                 have hy82 : y278.length = ((ji77) : Int).toNat := (by rw [Ny278.out, List.length_take]; omega)
                 rw [← Ny278.out] at hr82
                 rw [← hy82] at hr82 hcut82
                 clear hy82 hi082 hsz82 HO_8
                 have HO280 := Aside0.mk hr82
                 clear hr82
                 replace q82 := eq_true q82
                 have hnb83 := NB271_259.out
                 have hnc83 := NB259_271.out
                 have hcz84_0 : wc.cell? ⟨gb271, 0, none⟩ = some (.int .i64 t263) := (blk_cell BK271.out 0).trans rfl
                 have hcz84_1 : wc.cell? ⟨gb271, 1, none⟩ = some (.slice Ao57 t266.length co57) := (blk_cell BK271.out 1).trans rfl
                 have hcz84_2 : wc.cell? ⟨gb271, 2, none⟩ = some (.string t267) := (blk_cell BK271.out 2).trans rfl
                 have hfz84_0 := blk_frozen BK271.out 0
                 have hfz84_1 := blk_frozen BK271.out 1
                 have hfz84_2 := blk_frozen BK271.out 2
                 go_wp2_with (first | ((with_reducible refine gate_callee (f := 24) rfl ?_); refine goesL_ (some 115) rfl rfl Tryz.func24 zb11 rfl #[.slice Ao57 y278.length co57, .string (⟨#[99, 111, 110, 116, 101, 110, 116, 45, 108, 101, 110, 103, 116, 104]⟩ : ByteArray)] rfl zb0 ?_; (with_reducible refine (broadsheetref18_Get.calls kj54 _ _ y278 (⟨#[99, 111, 110, 116, 101, 110, 116, 45, 108, 101, 110, 103, 116, 104]⟩ : ByteArray) t281 t282 _ ?side1 ?side2 A80.out).mono ?_); (case side1 => refine (Kd.R_reads' (e := 41) (base := w.heap.size) (ok := fun k_ => True) (n := y278.length) (c := co57) ?_).2.2; exact zb22); (case side2 => exact (Kd.R_reads' HO280.out).2.1); rintro e w85 ⟨rfl, hb⟩; refine ⟨_, rfl, ?_⟩; have n0_ := Aside0.mk (Kd.R_below zb22 hb); have n1_ := Aside0.mk (Kd.R_below zb42 hb); have n2_ := Aside0.mk (blk_below (g := gb259) (o := .cells #[.int .i64 0, .slice none 0 0, .string (⟨#[]⟩ : ByteArray)] 24 (0, 0)) zb43 hb); have n3_ := Aside0.mk (blk_below (g := gb271) (o := .cells #[.int .i64 t263, .slice Ao57 y278.length co57, .string t267] 24 (0, 0)) zb40 hb); have n4_ := Aside0.mk (below_step zb20 hb); clear HO280; clear HO_272001; clear BK259; clear BK271; clear HB; have HO280 := n0_; have HO_272001 := n1_; have BK259 := n2_; have BK271 := n3_; have HB := n4_; clear n0_ n1_ n2_ n3_ n4_; (try clear hb); (try clear hb2); (try clear hk); (try clear hi); have hcz86_0 : w85.cell? ⟨gb259, 0, none⟩ = some (.int .i64 0) := (blk_cell BK259.out 0).trans rfl; have hcz86_1 : w85.cell? ⟨gb259, 1, none⟩ = some (.slice none 0 0) := (blk_cell BK259.out 1).trans rfl; have hcz86_2 : w85.cell? ⟨gb259, 2, none⟩ = some (.string (⟨#[]⟩ : ByteArray)) := (blk_cell BK259.out 2).trans rfl; have hfz86_0 := blk_frozen BK259.out 0; have hfz86_1 := blk_frozen BK259.out 1; have hfz86_2 := blk_frozen BK259.out 2))
                 refine bodyPost_ret (results_ct rfl _ _ gb259 24 #[.int .i64 0, .slice none 0 0, .string (⟨#[]⟩ : ByteArray)] (0, 0) _ rfl zb6 Tryz.underlying24 rfl zb11) rfl ?_
                 exact ⟨_, by first | rfl | (simp [errW_none, errW_some, bne_nil_] <;> rfl) | (simp only [← hji77]; first | rfl | (simp [errW_none, errW_some, bne_nil_] <;> rfl)) | (simp [*, errW_none, errW_some] <;> rfl), by first | exact Kd.R_nil _ _ _ _ _ | exact Kd.N_nil _ _ _ _ _ | exact Kd.V_nil _ _ _ _ _ | exact Kd.Q_nil _ _ _ _ _ | exact Kd.S_nil _ _ _ _ _, by repeat (first | (with_reducible first | exact HB.out | apply below_alloc | apply pw_below_drewN | apply below_drew1 | refine below_set ?_ GE259.out | refine below_set ?_ GE271.out) | exact HB.out | exact ⟨HB.out.os, HB.out.tape, HB.out.output, HB.out.size, HB.out.block⟩)⟩
                ·rw [if_neg c81] at H
                 have c81b0 : decide (0 < t282) = false := decide_eq_false c81
                 clear c81
                 by_cases c87 : (t267.size : Int) > 100000
                 ·rw [if_pos c87] at H
                  have c87b0 : decide (100000 < (t267.size : Int)) = true := decide_eq_true c87
                  have c87b1 : decide (100000 < t267.size) = true := decide_eq_true zb34
                  clear c87
                  simp only [Option.some.injEq, Prod.mk.injEq] at H
                  obtain ⟨rfl, rfl, rfl, rfl⟩ := H
                  have q88 : ((ji77) : Int) ≤ ((t266.length : Int) : Int) := of_decide_eq_true zb4
                  obtain ⟨i088, hi088, _, hsz88, _⟩ := info_parts info41
                  have hcut88 := cut_to (P := Tryz.prog) 22 41 .i64 Tryz.underlying22 hi088 Ao57 t266.length co57 (ji77) (of_decide_eq_true zb4) q88 (Kd.R_reads' HO_8.out).2.1
                  have hr88 := Kd.R_take (m := ((ji77) : Int).toNat) HO_8.out zb34
                  have hy88 : y278.length = ((ji77) : Int).toNat := (by rw [Ny278.out, List.length_take]; omega)
                  rw [← Ny278.out] at hr88
                  rw [← hy88] at hr88 hcut88
                  clear hy88 hi088 hsz88 HO_8
                  have HO280 := Aside0.mk hr88
                  clear hr88
                  replace q88 := eq_true q88
                  have hnb89 := NB271_259.out
                  have hnc89 := NB259_271.out
                  have hcz90_0 : wc.cell? ⟨gb271, 0, none⟩ = some (.int .i64 t263) := (blk_cell BK271.out 0).trans rfl
                  have hcz90_1 : wc.cell? ⟨gb271, 1, none⟩ = some (.slice Ao57 t266.length co57) := (blk_cell BK271.out 1).trans rfl
                  have hcz90_2 : wc.cell? ⟨gb271, 2, none⟩ = some (.string t267) := (blk_cell BK271.out 2).trans rfl
                  have hfz90_0 := blk_frozen BK271.out 0
                  have hfz90_1 := blk_frozen BK271.out 1
                  have hfz90_2 := blk_frozen BK271.out 2
                  go_wp2_with (first | ((with_reducible refine gate_callee (f := 24) rfl ?_); refine goesL_ (some 115) rfl rfl Tryz.func24 zb11 rfl #[.slice Ao57 y278.length co57, .string (⟨#[99, 111, 110, 116, 101, 110, 116, 45, 108, 101, 110, 103, 116, 104]⟩ : ByteArray)] rfl zb0 ?_; (with_reducible refine (broadsheetref18_Get.calls kj54 _ _ y278 (⟨#[99, 111, 110, 116, 101, 110, 116, 45, 108, 101, 110, 103, 116, 104]⟩ : ByteArray) t281 t282 _ ?side1 ?side2 A80.out).mono ?_); (case side1 => refine (Kd.R_reads' (e := 41) (base := w.heap.size) (ok := fun k_ => True) (n := y278.length) (c := co57) ?_).2.2; exact zb22); (case side2 => exact (Kd.R_reads' HO280.out).2.1); rintro e w91 ⟨rfl, hb⟩; refine ⟨_, rfl, ?_⟩; have n0_ := Aside0.mk (Kd.R_below zb22 hb); have n1_ := Aside0.mk (Kd.R_below zb42 hb); have n2_ := Aside0.mk (blk_below (g := gb259) (o := .cells #[.int .i64 0, .slice none 0 0, .string (⟨#[]⟩ : ByteArray)] 24 (0, 0)) zb43 hb); have n3_ := Aside0.mk (blk_below (g := gb271) (o := .cells #[.int .i64 t263, .slice Ao57 y278.length co57, .string t267] 24 (0, 0)) zb40 hb); have n4_ := Aside0.mk (below_step zb20 hb); clear HO280; clear HO_272001; clear BK259; clear BK271; clear HB; have HO280 := n0_; have HO_272001 := n1_; have BK259 := n2_; have BK271 := n3_; have HB := n4_; clear n0_ n1_ n2_ n3_ n4_; (try clear hb); (try clear hb2); (try clear hk); (try clear hi); have hcz92_0 : w91.cell? ⟨gb259, 0, none⟩ = some (.int .i64 0) := (blk_cell BK259.out 0).trans rfl; have hcz92_1 : w91.cell? ⟨gb259, 1, none⟩ = some (.slice none 0 0) := (blk_cell BK259.out 1).trans rfl; have hcz92_2 : w91.cell? ⟨gb259, 2, none⟩ = some (.string (⟨#[]⟩ : ByteArray)) := (blk_cell BK259.out 2).trans rfl; have hfz92_0 := blk_frozen BK259.out 0; have hfz92_1 := blk_frozen BK259.out 1; have hfz92_2 := blk_frozen BK259.out 2))
                  refine bodyPost_ret (results_ct rfl _ _ gb259 24 #[.int .i64 0, .slice none 0 0, .string (⟨#[]⟩ : ByteArray)] (0, 0) _ rfl zb6 Tryz.underlying24 rfl zb11) rfl ?_
                  exact ⟨_, by first | rfl | (simp [errW_none, errW_some, bne_nil_] <;> rfl) | (simp only [← hji77]; first | rfl | (simp [errW_none, errW_some, bne_nil_] <;> rfl)) | (simp [*, errW_none, errW_some] <;> rfl), by first | exact Kd.R_nil _ _ _ _ _ | exact Kd.N_nil _ _ _ _ _ | exact Kd.V_nil _ _ _ _ _ | exact Kd.Q_nil _ _ _ _ _ | exact Kd.S_nil _ _ _ _ _, by repeat (first | (with_reducible first | exact HB.out | apply below_alloc | apply pw_below_drewN | apply below_drew1 | refine below_set ?_ GE259.out | refine below_set ?_ GE271.out) | exact HB.out | exact ⟨HB.out.os, HB.out.tape, HB.out.output, HB.out.size, HB.out.block⟩)⟩
                 ·rw [if_neg c87] at H
                  have c87b0 : decide (100000 < (t267.size : Int)) = false := decide_eq_false c87
                  have c87b1 : decide (100000 < t267.size) = false := decide_eq_false zb34
                  clear c87
                  simp only [Option.some.injEq, Prod.mk.injEq] at H
                  obtain ⟨rfl, rfl, rfl, rfl⟩ := H
                  have q93 : ((ji77) : Int) ≤ ((t266.length : Int) : Int) := of_decide_eq_true zb4
                  obtain ⟨i093, hi093, _, hsz93, _⟩ := info_parts info41
                  have hcut93 := cut_to (P := Tryz.prog) 22 41 .i64 Tryz.underlying22 hi093 Ao57 t266.length co57 (ji77) (of_decide_eq_true zb4) q93 (Kd.R_reads' HO_8.out).2.1
                  have hr93 := Kd.R_take (m := ((ji77) : Int).toNat) HO_8.out zb34
                  have hy93 : y278.length = ((ji77) : Int).toNat := (by rw [Ny278.out, List.length_take]; omega)
                  rw [← Ny278.out] at hr93
                  rw [← hy93] at hr93 hcut93
                  clear hy93 hi093 hsz93 HO_8
                  have HO280 := Aside0.mk hr93
                  clear hr93
                  replace q93 := eq_true q93
                  have hnb94 := NB271_259.out
                  have hnc94 := NB259_271.out
                  have hcz95_0 : wc.cell? ⟨gb271, 0, none⟩ = some (.int .i64 t263) := (blk_cell BK271.out 0).trans rfl
                  have hcz95_1 : wc.cell? ⟨gb271, 1, none⟩ = some (.slice Ao57 t266.length co57) := (blk_cell BK271.out 1).trans rfl
                  have hcz95_2 : wc.cell? ⟨gb271, 2, none⟩ = some (.string t267) := (blk_cell BK271.out 2).trans rfl
                  have hfz95_0 := blk_frozen BK271.out 0
                  have hfz95_1 := blk_frozen BK271.out 1
                  have hfz95_2 := blk_frozen BK271.out 2
                  go_wp2_with (first | ((with_reducible refine gate_callee (f := 24) rfl ?_); refine goesL_ (some 115) rfl rfl Tryz.func24 zb11 rfl #[.slice Ao57 y278.length co57, .string (⟨#[99, 111, 110, 116, 101, 110, 116, 45, 108, 101, 110, 103, 116, 104]⟩ : ByteArray)] rfl zb0 ?_; (with_reducible refine (broadsheetref18_Get.calls kj54 _ _ y278 (⟨#[99, 111, 110, 116, 101, 110, 116, 45, 108, 101, 110, 103, 116, 104]⟩ : ByteArray) t281 t282 _ ?side1 ?side2 A80.out).mono ?_); (case side1 => refine (Kd.R_reads' (e := 41) (base := w.heap.size) (ok := fun k_ => True) (n := y278.length) (c := co57) ?_).2.2; exact zb22); (case side2 => exact (Kd.R_reads' HO280.out).2.1); rintro e w96 ⟨rfl, hb⟩; refine ⟨_, rfl, ?_⟩; have n0_ := Aside0.mk (Kd.R_below zb22 hb); have n1_ := Aside0.mk (Kd.R_below zb42 hb); have n2_ := Aside0.mk (blk_below (g := gb259) (o := .cells #[.int .i64 0, .slice none 0 0, .string (⟨#[]⟩ : ByteArray)] 24 (0, 0)) zb43 hb); have n3_ := Aside0.mk (blk_below (g := gb271) (o := .cells #[.int .i64 t263, .slice Ao57 y278.length co57, .string t267] 24 (0, 0)) zb40 hb); have n4_ := Aside0.mk (below_step zb20 hb); clear HO280; clear HO_272001; clear BK259; clear BK271; clear HB; have HO280 := n0_; have HO_272001 := n1_; have BK259 := n2_; have BK271 := n3_; have HB := n4_; clear n0_ n1_ n2_ n3_ n4_; (try clear hb); (try clear hb2); (try clear hk); (try clear hi); have hcz97_0 : w96.cell? ⟨gb271, 0, none⟩ = some (.int .i64 t263) := (blk_cell BK271.out 0).trans rfl; have hcz97_1 : w96.cell? ⟨gb271, 1, none⟩ = some (.slice Ao57 y278.length co57) := (blk_cell BK271.out 1).trans rfl; have hcz97_2 : w96.cell? ⟨gb271, 2, none⟩ = some (.string t267) := (blk_cell BK271.out 2).trans rfl; have hfz97_0 := blk_frozen BK271.out 0; have hfz97_1 := blk_frozen BK271.out 1; have hfz97_2 := blk_frozen BK271.out 2; have hcz98_0 : w96.cell? ⟨gb259, 0, none⟩ = some (.int .i64 0) := (blk_cell BK259.out 0).trans rfl; have hcz98_1 : w96.cell? ⟨gb259, 1, none⟩ = some (.slice none 0 0) := (blk_cell BK259.out 1).trans rfl; have hcz98_2 : w96.cell? ⟨gb259, 2, none⟩ = some (.string (⟨#[]⟩ : ByteArray)) := (blk_cell BK259.out 2).trans rfl; have hfz98_0 := blk_frozen BK259.out 0; have hfz98_1 := blk_frozen BK259.out 1; have hfz98_2 := blk_frozen BK259.out 2))
                  refine bodyPost_ret (results_ct rfl _ _ gb259 24 #[.int .i64 t263, .slice Ao57 y278.length co57, .string t267] (0, 0) _ rfl (by (with_reducible repeat (first | refine blk_drewN ?_ _ | refine blk_drew ?_ | refine blk_alloc ?_ _)); refine blk_put (cs := #[.int .i64 t263, .slice Ao57 y278.length co57, .string (⟨#[]⟩ : ByteArray)]) ?_ 2 _ rfl; (with_reducible repeat (first | refine blk_drewN ?_ _ | refine blk_drew ?_ | refine blk_alloc ?_ _)); refine blk_put (cs := #[.int .i64 t263, .slice none 0 0, .string (⟨#[]⟩ : ByteArray)]) ?_ 1 _ rfl; (with_reducible repeat (first | refine blk_drewN ?_ _ | refine blk_drew ?_ | refine blk_alloc ?_ _)); refine blk_put (cs := #[.int .i64 0, .slice none 0 0, .string (⟨#[]⟩ : ByteArray)]) ?_ 0 _ rfl; (with_reducible repeat (first | refine blk_drewN ?_ _ | refine blk_drew ?_ | refine blk_alloc ?_ _)); exact BK259.out) Tryz.underlying24 rfl zb11) rfl ?_
                  exact ⟨_, by first | rfl | (simp [errW_none, errW_some, bne_nil_] <;> rfl) | (simp only [← hji77]; first | rfl | (simp [errW_none, errW_some, bne_nil_] <;> rfl)) | (simp [*, errW_none, errW_some] <;> rfl), by (with_reducible repeat (first | apply Kd.R_alloc | apply Kd.R_drewN | apply Kd.R_drew)); exact Kd.R_mono (Kd.R_far (p := ⟨gb259, 2, none⟩) (Kd.R_far (p := ⟨gb259, 1, none⟩) (Kd.R_far (p := ⟨gb259, 0, none⟩) (Kd.R_types HO280.out BK259.out zb39) (fun _ hk => hk.2) (.int .i64 t263)) (fun _ hk => hk.2) (.slice Ao57 y278.length co57)) (fun _ hk => hk.2) (.string t267)) (fun _ hk => trivial), by repeat (first | (with_reducible first | exact HB.out | apply below_alloc | apply pw_below_drewN | apply below_drew1 | refine below_set ?_ GE259.out | refine below_set ?_ GE271.out) | exact HB.out | exact ⟨HB.out.os, HB.out.tape, HB.out.output, HB.out.size, HB.out.block⟩)⟩
               ·rw [if_neg c79] at H
                exact absurd H zb46
              ·rw [if_neg c78] at H
               exact absurd H zb46
         ·rw [if_neg c27] at H
          have c27b0 : (t268 == 0) = false := beq_eq_false_iff_ne.mpr c27
          have c27b1 : (t268 != 0) = true := bne_iff_ne.mpr c27
          simp only [Option.some.injEq, Prod.mk.injEq] at H
          obtain ⟨rfl, rfl, rfl, rfl⟩ := H
          go_wp2_with (first | ((with_reducible refine gate_callee (f := 32) rfl ?_); refine goesL_ (some 56) rfl rfl Tryz.func32 zb11 rfl #[.string t261] rfl zb0 ?_; (with_reducible refine (broadsheetref18_Parse.calls kj16 t261 t266 t267 t268 _ A26.out).mono ?_); rintro e w99 ⟨v269, rfl, ho0, hb⟩; refine ⟨_, rfl, ?_⟩; have n0_ := Aside0.mk (Kd.R_lower ho0 (below_size zb5)); have n1_ := Aside0.mk (blk_below (g := gb259) (o := .cells #[.int .i64 0, .slice none 0 0, .string (⟨#[]⟩ : ByteArray)] 24 (0, 0)) zb16 hb); have n2_ := Aside0.mk (below_step zb5 hb); clear BK259; clear HB; have HO270 := n0_; have BK259 := n1_; have HB := n2_; clear n0_ n1_ n2_; (try clear hb); (try clear hb2); (try clear hk); (try clear hi); (try clear ho0); have hcz100_0 : w99.cell? ⟨gb259, 0, none⟩ = some (.int .i64 0) := (blk_cell BK259.out 0).trans rfl; have hcz100_1 : w99.cell? ⟨gb259, 1, none⟩ = some (.slice none 0 0) := (blk_cell BK259.out 1).trans rfl; have hcz100_2 : w99.cell? ⟨gb259, 2, none⟩ = some (.string (⟨#[]⟩ : ByteArray)) := (blk_cell BK259.out 2).trans rfl; have hfz100_0 := blk_frozen BK259.out 0; have hfz100_1 := blk_frozen BK259.out 1; have hfz100_2 := blk_frozen BK259.out 2))
          refine bodyPost_ret (results_ct rfl _ _ gb259 24 #[.int .i64 0, .slice none 0 0, .string (⟨#[]⟩ : ByteArray)] (0, 0) _ rfl zb6 Tryz.underlying24 rfl zb11) rfl ?_
          exact ⟨_, by first | rfl | (simp [errW_none, errW_some, bne_nil_] <;> rfl) | (simp [*, errW_none, errW_some] <;> rfl), by first | exact Kd.R_nil _ _ _ _ _ | exact Kd.N_nil _ _ _ _ _ | exact Kd.V_nil _ _ _ _ _ | exact Kd.Q_nil _ _ _ _ _ | exact Kd.S_nil _ _ _ _ _, by repeat (first | (with_reducible first | exact HB.out | apply below_alloc | apply pw_below_drewN | apply below_drew1 | refine below_set ?_ GE259.out) | exact HB.out | exact ⟨HB.out.os, HB.out.tape, HB.out.output, HB.out.size, HB.out.block⟩)⟩
     ·rw [if_neg c15] at H
      exact absurd H zb46
    ·rw [if_neg c14] at H
     exact absurd H zb46
end Go.Proofs.YtaopopnlnohnpaaGreatDoor.P
-- fix-d2
/- Px33 -/
namespace Go.Proofs.YtaopopnlnohnpaaGreatDoor.P
open Go.Proofs.YtaopopnlnohnpaaGreatDoor.B
open Go.RowKit Go.Proofs.YtaopopnlnohnpaaGreatDoorW.PrintWords Go.Proofs.YtaopopnlnohnpaaGreatDoorW.PrintLast Go.Proofs.YtaopopnlnohnpaaGreatDoorW.PrintMore
attribute [local go_sem] str_leq str_gtr str_geq max2_int min2_int max_two min_two max_three min_three max_four min_four
set_option linter.unusedVariables false
set_option linter.unusedSimpArgs false
attribute [local go_sem high] eqA41
def broadsheetref07_SamePairs.l0 : Nat → List (S41) → List (S41) → Int → Option (Bool)
  | 0, _, _, _ => none
  | k + 1, x0, x1, x5 => if x5 < (x0.length : Int) then (if 0 ≤ x5 then (if x5 < (x1.length : Int) then (if (!((((rd_T41 x0 x5).f0).toList) == (((rd_T41 x1 x5).f0).toList)) || (!((((rd_T41 x0 x5).f1).toList) == (((rd_T41 x1 x5).f1).toList)))) = true then (some false) else (broadsheetref07_SamePairs.l0 k x0 x1 (wrap64 (x5 + 1)))) else (none)) else (none)) else (some true)
def broadsheetref07_SamePairs.f (k : Nat) (l0 : List (S41)) (l1 : List (S41)) : Option (Bool) := if (l0.length : Int) = (l1.length : Int) then (broadsheetref07_SamePairs.l0 k l0 l1 0) else (some false)
set_option maxHeartbeats 8000000 in
set_option maxRecDepth 100000 in
theorem broadsheetref07_SamePairs.calls (k : Nat) (A0 : Option Addr) (c0 : Nat) (l0 : List (S41)) (A1 : Option Addr) (c1 : Nat) (l1 : List (S41)) (r : Bool) (w : World) (hr0 : Kd.C k41 w A0 l0.length l0) (hc0 : l0.length ≤ c0) (hr1 : Kd.C k41 w A1 l1.length l1) (hc1 : l1.length ≤ c1) (h : broadsheetref07_SamePairs.f k l0 l1 = some r) (hr : r = true) :
  Calls Tryz.prog 33 #[.slice A0 l0.length c0, .slice A1 l1.length c1] w fun e w' => e = .returned (.bool r) ∧ Drawn0 w w' := by
 have hu41 := Tryz.underlying41
 have HR0 := Aside0.mk hr0
 have HC0 := Aside0.mk hc0
 clear hr0 hc0
 have HR1 := Aside0.mk hr1
 have HC1 := Aside0.mk hc1
 clear hr1 hc1
 have H : (if (l0.length : Int) = (l1.length : Int) then (broadsheetref07_SamePairs.l0 k l0 l1 0) else (some false)) = some r := h
 clear h
 by_cases c3 : (l0.length : Int) = (l1.length : Int)
 ·rw [if_pos c3] at H
  have c3b0 : ((l0.length : Int) == (l1.length : Int)) = true := beq_iff_eq.mpr c3
  have c3b1 : ((l0.length : Int) != (l1.length : Int)) = false := bne_eq_false_iff_eq.mpr c3
  have c3b2 : (l0.length == l1.length) = true := by first | simpa using c3 | (simp at c3 ⊢; omega)
  clear c3
  have H' := Aside0.mk H
  clear H
  go_enter Tryz.func33, Tryz.ntmps33
  go_wp2
  repeat (go_quiet (fail); try go_wp2)
  first | go_loopg [5] k (fun kq v5 w' => ∃ (x5_1 : Int), v5 = .int .i64 x5_1 ∧ Aside0 (broadsheetref07_SamePairs.l0 kq l0 l1 x5_1 = some r) ∧ Aside0 (kq ≤ k) ∧ Drawn0 w w') | (go_simp; go_loopg [5] k (fun kq v5 w' => ∃ (x5_1 : Int), v5 = .int .i64 x5_1 ∧ Aside0 (broadsheetref07_SamePairs.l0 kq l0 l1 x5_1 = some r) ∧ Aside0 (kq ≤ k) ∧ Drawn0 w w'))
  case atStart => exact ⟨(0), zb12, H', ⟨Nat.le_refl _⟩, by repeat (first | exact Drawn0.refl _ | apply Drawn0.step)⟩
  case round =>
   clear H'
   try clear c1
   try clear p2
   try clear c3
   try clear c3b0
   try clear c3b1
   try clear c3b2
   obtain ⟨x5_1, rfl, HA, HK1, ⟨m1, rfl⟩⟩ := hrel
   cases gk with
   | zero => exact absurd HA.out (by simp [broadsheetref07_SamePairs.l0])
   | succ k1 =>
    have H := HA.out
    clear HA
    simp only [broadsheetref07_SamePairs.l0] at H
    by_cases c4 : x5_1 < (l0.length : Int)
    ·rw [if_pos c4] at H
     have c4b0 : decide (x5_1 < (l0.length : Int)) = true := decide_eq_true c4
     clear c4
     by_cases c5 : 0 ≤ x5_1
     ·rw [if_pos c5] at H
      have c5b0 : decide (0 ≤ x5_1) = true := decide_eq_true c5
      clear c5
      by_cases c6 : x5_1 < (l1.length : Int)
      ·rw [if_pos c6] at H
       have c6b0 : decide (x5_1 < (l1.length : Int)) = true := decide_eq_true c6
       clear c6
       by_cases c7 : (!((((rd_T41 l0 x5_1).f0).toList) == (((rd_T41 l1 x5_1).f0).toList)) || (!((((rd_T41 l0 x5_1).f1).toList) == (((rd_T41 l1 x5_1).f1).toList)))) = true
       ·rw [if_pos c7] at H
        have c7b0 : (!((((rd_T41 l0 x5_1).f0).toList) == (((rd_T41 l1 x5_1).f0).toList)) || (!((((rd_T41 l0 x5_1).f1).toList) == (((rd_T41 l1 x5_1).f1).toList)))) = true := c7
        clear c7
        obtain rfl := Option.some.inj H
        have p283 : 0 ≤ (x5_1 : Int) := of_decide_eq_true zb4
        have q283 : x5_1 < (l0.length : Int) := of_decide_eq_true zb4
        obtain ⟨ad283, e283, hx283_0, hx283_1⟩ := at_T41 HR0.out x5_1 p283 q283
        cases e283
        replace p283 := eq_true p283
        replace q283 := eq_true q283
        have p284 : 0 ≤ (x5_1 : Int) := of_decide_eq_true zb4
        have q284 : x5_1 < (l1.length : Int) := of_decide_eq_true zb4
        obtain ⟨ad284, e284, hx284_0, hx284_1⟩ := at_T41 HR1.out x5_1 p284 q284
        cases e284
        replace p284 := eq_true p284
        replace q284 := eq_true q284
        go_wp2
        repeat (go_quiet (fail); try go_wp2)
        go_ret
        exact ⟨by first | rfl | (simp; done) | (simp [*]; done), by repeat (first | exact Drawn0.refl _ | apply Drawn0.step)⟩
       ·rw [if_neg c7] at H
        have c7b0 : (!((((rd_T41 l0 x5_1).f0).toList) == (((rd_T41 l1 x5_1).f0).toList)) || (!((((rd_T41 l0 x5_1).f1).toList) == (((rd_T41 l1 x5_1).f1).toList)))) = false := by simpa using c7
        clear c7
        have H' := Aside0.mk H
        clear H
        have p283 : 0 ≤ (x5_1 : Int) := of_decide_eq_true zb4
        have q283 : x5_1 < (l0.length : Int) := of_decide_eq_true zb4
        obtain ⟨ad283, e283, hx283_0, hx283_1⟩ := at_T41 HR0.out x5_1 p283 q283
        cases e283
        replace p283 := eq_true p283
        replace q283 := eq_true q283
        have p284 : 0 ≤ (x5_1 : Int) := of_decide_eq_true zb4
        have q284 : x5_1 < (l1.length : Int) := of_decide_eq_true zb4
        obtain ⟨ad284, e284, hx284_0, hx284_1⟩ := at_T41 HR1.out x5_1 p284 q284
        cases e284
        replace p284 := eq_true p284
        replace q284 := eq_true q284
        go_wp2
        repeat (go_quiet (fail); try go_wp2)
        go_roundg k1
        case measure => have := HK1.out; omega
        case rel => exact ⟨(wrap64 (x5_1 + 1)), zb12, H', ⟨by have := HK1.out; omega⟩, by repeat (first | exact Drawn0.refl _ | apply Drawn0.step)⟩
      ·rw [if_neg c6] at H
       exact absurd H zb46
     ·rw [if_neg c5] at H
      exact absurd H zb46
    ·rw [if_neg c4] at H
     have c4b0 : decide (x5_1 < (l0.length : Int)) = false := decide_eq_false c4
     clear c4
     obtain rfl := Option.some.inj H
     go_wp2
     repeat (go_quiet (fail); try go_wp2)
     go_ret
     exact ⟨by first | rfl | (simp; done) | (simp [*]; done), by repeat (first | exact Drawn0.refl _ | apply Drawn0.step)⟩
 ·rw [if_neg c3] at H
  have c3b0 : ((l0.length : Int) == (l1.length : Int)) = false := beq_eq_false_iff_ne.mpr c3
  have c3b1 : ((l0.length : Int) != (l1.length : Int)) = true := bne_iff_ne.mpr c3
  have c3b2 : (l0.length == l1.length) = false := by first | simpa using c3 | (simp at c3 ⊢; omega)
  exact absurd ((Option.some.inj H).trans hr) zb39
end Go.Proofs.YtaopopnlnohnpaaGreatDoor.P
/- Px34 -/
namespace Go.Proofs.YtaopopnlnohnpaaGreatDoor.P
open Go.Proofs.YtaopopnlnohnpaaGreatDoor.B
open Go.RowKit Go.Proofs.YtaopopnlnohnpaaGreatDoorW.PrintWords Go.Proofs.YtaopopnlnohnpaaGreatDoorW.PrintLast Go.Proofs.YtaopopnlnohnpaaGreatDoorW.PrintMore
attribute [local go_sem] str_leq str_gtr str_geq max2_int min2_int max_two min_two max_three min_three max_four min_four
set_option linter.unusedVariables false
set_option linter.unusedSimpArgs false
def broadsheetref21_Same.f (k : Nat) (a0_0 : Int) (l0_1 : List (S41)) (a0_2 : ByteArray) (a1_0 : Int) (l1_1 : List (S41)) (a1_2 : ByteArray) : Option (Bool) := if a0_0 = a1_0 then (if a0_2.toList = a1_2.toList then ((broadsheetref07_SamePairs.f k l0_1 l1_1).bind fun t287 => (some t287)) else (some false)) else (some false)
set_option maxHeartbeats 8000000 in
set_option maxRecDepth 100000 in
theorem broadsheetref21_Same.calls (k : Nat) (a0_0 : Int) (A0_1 : Option Addr) (c0_1 : Nat) (l0_1 : List (S41)) (a0_2 : ByteArray) (a1_0 : Int) (A1_1 : Option Addr) (c1_1 : Nat) (l1_1 : List (S41)) (a1_2 : ByteArray) (r : Bool) (w : World) (hr0_1 : Kd.C k41 w A0_1 l0_1.length l0_1) (hc0_1 : l0_1.length ≤ c0_1) (hr1_1 : Kd.C k41 w A1_1 l1_1.length l1_1) (hc1_1 : l1_1.length ≤ c1_1) (h : broadsheetref21_Same.f k a0_0 l0_1 a0_2 a1_0 l1_1 a1_2 = some r) (hr : r = true) :
  Calls Tryz.prog 15 #[.agg #[.int .i64 a0_0, .slice A0_1 l0_1.length c0_1, .string a0_2], .agg #[.int .i64 a1_0, .slice A1_1 l1_1.length c1_1, .string a1_2]] w fun e w' => e = .returned (.bool r) ∧ Below w.heap.size w w' := by
 have hu24 := Tryz.underlying24
 have HR0_1 := Aside0.mk hr0_1
 have HC0_1 := Aside0.mk hc0_1
 clear hr0_1 hc0_1
 have HR1_1 := Aside0.mk hr1_1
 have HC1_1 := Aside0.mk hc1_1
 clear hr1_1 hc1_1
 have HB := Aside0.mk (Below.refl w.heap.size w)
 have H : (if a0_0 = a1_0 then (if a0_2.toList = a1_2.toList then ((broadsheetref07_SamePairs.f k l0_1 l1_1).bind fun t287 => (some t287)) else (some false)) else (some false)) = some r := h
 clear h
 by_cases c3 : a0_0 = a1_0
 ·rw [if_pos c3] at H
  have c3b0 : (a0_0 == a1_0) = true := beq_iff_eq.mpr c3
  have c3b1 : (a0_0 != a1_0) = false := bne_eq_false_iff_eq.mpr c3
  clear c3
  by_cases c4 : a0_2.toList = a1_2.toList
  ·rw [if_pos c4] at H
   have c4b0 : (a0_2.toList == a1_2.toList) = true := beq_iff_eq.mpr c4
   have c4b1 : (a0_2.toList != a1_2.toList) = false := bne_eq_false_iff_eq.mpr c4
   clear c4
   replace H := Option.bind_eq_some_iff.mp H
   obtain ⟨t287, A50, H⟩ := H
   replace H : (some t287) = some r := H
   have A5 := Aside0.mk A50
   clear A50
   obtain rfl := Option.some.inj H
   go_enter Tryz.func15, Tryz.ntmps15
   go_wp2_with (first | ((with_reducible refine gate_dst (N := 2) rfl ?_); refine box_event ?hg (N := 2) ?hd (cs := #[.int .i64 a0_0, .slice A0_1 l0_1.length c0_1, .string a0_2]) (t := 24) ?hr ?_; (case hd => rfl); (case hg => rfl); (case hr => first | (go_simp; done) | (go_simp; rfl)); intro gb285 hg w6 hbox hb; have n0_ := Aside0.mk (below_step zb1 hb); have n1_ := Aside0.mk (hbox); have n2_ := Aside0.mk ((by rw [hg]; exact (below_size zb1) : w.heap.size ≤ gb285)); have n3_ := Aside0.mk ((by rw [hg]; exact (below_size zb1) : w.heap.size ≤ gb285)); clear HB; have HB := n0_; have BK285 := n1_; have GW285 := n2_; have GE285 := n3_; clear n0_ n1_ n2_ n3_; clear hb hbox hg) | ((with_reducible refine gate_dst (N := 3) rfl ?_); refine box_event ?hg (N := 3) ?hd (cs := #[.int .i64 a1_0, .slice A1_1 l1_1.length c1_1, .string a1_2]) (t := 24) ?hr ?_; (case hd => rfl); (case hg => rfl); (case hr => first | (go_simp; done) | (go_simp; rfl)); intro gb286 hg w7 hbox hb; have n0_ := Aside0.mk (blk_below (g := gb285) (o := .cells #[.int .i64 a0_0, .slice A0_1 l0_1.length c0_1, .string a0_2] 24 (0, 0)) zb61 hb); have n1_ := Aside0.mk (below_step zb58 hb); have n2_ := Aside0.mk (hbox); have n3_ := Aside0.mk ((by rw [hg]; exact (below_size zb58) : w.heap.size ≤ gb286)); have n4_ := Aside0.mk ((by rw [hg]; exact (below_size zb58) : w.heap.size ≤ gb286)); have n5_ := Aside0.mk ((by rw [hg]; exact Nat.ne_of_lt (blk_lt (g := gb285) (o := .cells #[.int .i64 a0_0, .slice A0_1 l0_1.length c0_1, .string a0_2] 24 (0, 0)) zb61) : gb285 ≠ gb286)); have n6_ := Aside0.mk ((by rw [hg]; exact Nat.ne_of_gt (blk_lt (g := gb285) (o := .cells #[.int .i64 a0_0, .slice A0_1 l0_1.length c0_1, .string a0_2] 24 (0, 0)) zb61) : gb286 ≠ gb285)); clear BK285; clear HB; have BK285 := n0_; have HB := n1_; have BK286 := n2_; have GW286 := n3_; have GE286 := n4_; have NB285_286 := n5_; have NB286_285 := n6_; clear n0_ n1_ n2_ n3_ n4_ n5_ n6_; clear hb hbox hg; have hnb8 := NB285_286.out; have hnc8 := NB286_285.out; have hcz9_0 : w7.cell? ⟨gb285, 0, none⟩ = some (.int .i64 a0_0) := (blk_cell BK285.out 0).trans rfl; have hcz9_1 : w7.cell? ⟨gb285, 1, none⟩ = some (.slice A0_1 l0_1.length c0_1) := (blk_cell BK285.out 1).trans rfl; have hcz9_2 : w7.cell? ⟨gb285, 2, none⟩ = some (.string a0_2) := (blk_cell BK285.out 2).trans rfl; have hfz9_0 := blk_frozen BK285.out 0; have hfz9_1 := blk_frozen BK285.out 1; have hfz9_2 := blk_frozen BK285.out 2; have hcz10_0 : w7.cell? ⟨gb286, 0, none⟩ = some (.int .i64 a1_0) := (blk_cell BK286.out 0).trans rfl; have hcz10_1 : w7.cell? ⟨gb286, 1, none⟩ = some (.slice A1_1 l1_1.length c1_1) := (blk_cell BK286.out 1).trans rfl; have hcz10_2 : w7.cell? ⟨gb286, 2, none⟩ = some (.string a1_2) := (blk_cell BK286.out 2).trans rfl; have hfz10_0 := blk_frozen BK286.out 0; have hfz10_1 := blk_frozen BK286.out 1; have hfz10_2 := blk_frozen BK286.out 2) | (go_at_call 33; (with_reducible refine (broadsheetref07_SamePairs.calls k _ _ l0_1 _ _ l1_1 t287 _ ?side1 ?side2 ?side3 ?side4 A5.out (by first | rfl | exact hr)).mono ?_); (case side1 => repeat (first | exact (Kd.C_below HR0_1.out HB.out) | (with_reducible refine Kd.C_alloc ?_ _) | (with_reducible refine Kd.C_drewN ?_ _) | (with_reducible refine Kd.C_drew ?_))); (case side2 => exact HC0_1.out); (case side3 => repeat (first | exact (Kd.C_below HR1_1.out HB.out) | (with_reducible refine Kd.C_alloc ?_ _) | (with_reducible refine Kd.C_drewN ?_ _) | (with_reducible refine Kd.C_drew ?_))); (case side4 => exact HC1_1.out); rintro e w' ⟨rfl, ⟨nd, rfl⟩⟩))
   go_ret
   exact ⟨zb9, (by repeat (first | (with_reducible first | exact HB.out | apply below_alloc | apply pw_below_drewN | apply below_drew1 | refine below_set ?_ GE285.out | refine below_set ?_ GE286.out) | exact HB.out))⟩
  ·rw [if_neg c4] at H
   have c4b0 : (a0_2.toList == a1_2.toList) = false := beq_eq_false_iff_ne.mpr c4
   have c4b1 : (a0_2.toList != a1_2.toList) = true := bne_iff_ne.mpr c4
   exact absurd ((Option.some.inj H).trans hr) zb39
 ·rw [if_neg c3] at H
  have c3b0 : (a0_0 == a1_0) = false := beq_eq_false_iff_ne.mpr c3
  have c3b1 : (a0_0 != a1_0) = true := bne_iff_ne.mpr c3
  exact absurd ((Option.some.inj H).trans hr) zb39
end Go.Proofs.YtaopopnlnohnpaaGreatDoor.P
/- Px35 -/
namespace Go.Proofs.YtaopopnlnohnpaaGreatDoor.P
open Go.Proofs.YtaopopnlnohnpaaGreatDoor.B
open Go.RowKit Go.Proofs.YtaopopnlnohnpaaGreatDoorW.PrintWords Go.Proofs.YtaopopnlnohnpaaGreatDoorW.PrintLast Go.Proofs.YtaopopnlnohnpaaGreatDoorW.PrintMore
attribute [local go_sem] str_leq str_gtr str_geq max2_int min2_int max_two min_two max_three min_three max_four min_four
set_option linter.unusedVariables false
set_option linter.unusedSimpArgs false
open Go.Proofs.YtaopopnlnohnpaaGreatDoor.O
def broadsheetlaw21_ResponseAll.l0 : Nat → List (S41) → ByteArray → Int → Option (Bool)
  | 0, _, _, _ => none
  | k + 1, x0, x1, x7 => if x7 < 600 then ((response_Print.f k x7 x0 x1).bind fun bt292 => ((broadsheetref21_Print.f k x7 x0 x1).bind fun bt294 => ((response_Parse.f k bt294.1).bind fun bt296 => ((broadsheetref21_Parse.f k bt294.1).bind fun bt303 => (if bt292.1.toList = bt294.1.toList then (if bt292.2 = bt294.2 then ((broadsheetref21_Same.f k bt296.1 bt296.2.1 bt296.2.2.1 bt303.1 bt303.2.1 bt303.2.2.1).bind fun t310 => (if t310 = true then (if bt296.2.2.2 = bt303.2.2.2 then ((response_Reason.f x7).bind fun t311 => ((broadsheetref21_Reason.f x7).bind fun t312 => (if t311.toList = t312.toList then (broadsheetlaw21_ResponseAll.l0 k x0 x1 (wrap64 (x7 + 7))) else (some false)))) else (some false)) else (some false))) else (some false)) else (some false)))))) else ((broadsheetlaw21_awake.f k).bind fun t290 => (some t290))
def broadsheetlaw21_ResponseAll.f (k : Nat) (l0 : List (S41)) (a1 : ByteArray) (a2 : Int) : Option (Bool) := (broadsheetlaw21_few.f k 0 l0 a1).bind fun t288 => (if t288 = true then (broadsheetlaw21_ResponseAll.l0 k l0 a1 (wrap64 (a2))) else ((broadsheetlaw21_awake.f k).bind fun t289 => (some t289)))
set_option maxHeartbeats 8000000 in
set_option maxRecDepth 100000 in
theorem broadsheetlaw21_ResponseAll.calls (k : Nat) (A0 : Option Addr) (c0 : Nat) (l0 : List (S41)) (a1 : ByteArray) (a2 : Int) (r : Bool) (w : World) (hr0 : Kd.C k41 w A0 l0.length l0) (hc0 : l0.length ≤ c0) (hG : Glob w) (h : broadsheetlaw21_ResponseAll.f k l0 a1 a2 = some r) (hr : r = true) :
  Calls Tryz.prog 4 #[.slice A0 l0.length c0, .string a1, .int .u8 a2] w fun e w' => e = .returned (.bool r) ∧ Below w.heap.size w w' := by
 have hu24 := Tryz.underlying24
 have HR0 := Aside0.mk hr0
 have HC0 := Aside0.mk hc0
 clear hr0 hc0
 have HB := Aside0.mk (Below.refl w.heap.size w)
 have hGA := Aside0.mk hG
 clear hG
 have H : ((broadsheetlaw21_few.f k 0 l0 a1).bind fun t288 => (if t288 = true then (broadsheetlaw21_ResponseAll.l0 k l0 a1 (wrap64 (a2))) else ((broadsheetlaw21_awake.f k).bind fun t289 => (some t289)))) = some r := h
 clear h
 replace H := Option.bind_eq_some_iff.mp H
 obtain ⟨t288, A40, H⟩ := H
 replace H : (if t288 = true then (broadsheetlaw21_ResponseAll.l0 k l0 a1 (wrap64 (a2))) else ((broadsheetlaw21_awake.f k).bind fun t289 => (some t289))) = some r := H
 have A4 := Aside0.mk A40
 clear A40
 by_cases c5 : t288 = true
 ·subst c5
  replace H : (broadsheetlaw21_ResponseAll.l0 k l0 a1 (wrap64 (a2))) = some r := by rw [if_pos rfl] at H; exact H
  have H' := Aside0.mk H
  clear H
  go_enter Tryz.func4, Tryz.ntmps4
  go_wp2_with (first | ((with_reducible refine gate_callee (f := 7) rfl ?_); refine goesL_ (some 20) rfl rfl Tryz.func7 zb11 rfl #[.agg #[.int .i64 0, .slice A0 l0.length c0, .string a1]] rfl zb0 ?_; (with_reducible refine (broadsheetlaw21_few.calls k 0 _ _ l0 a1 true _ ?side1 ?side2 A4.out).mono ?_); (case side1 => repeat (first | exact HR0.out | (with_reducible refine Kd.C_alloc ?_ _) | (with_reducible refine Kd.C_drewN ?_ _) | (with_reducible refine Kd.C_drew ?_))); (case side2 => exact HC0.out); rintro e w6 ⟨rfl, hb⟩; refine ⟨_, rfl, ?_⟩; have n0_ := Aside0.mk (below_step zb1 hb); clear HB; have HB := n0_; clear n0_; (try clear hb); (try clear hb2); (try clear hk); (try clear hi)))
  first | go_loopg [7] k (fun kq v7 w' => ∃ (x7_1 : Int), v7 = .int .i64 x7_1 ∧ Aside0 (broadsheetlaw21_ResponseAll.l0 kq l0 a1 x7_1 = some r) ∧ Aside0 (kq ≤ k) ∧ Aside0 (Below w.heap.size w w')) | (go_simp; go_loopg [7] k (fun kq v7 w' => ∃ (x7_1 : Int), v7 = .int .i64 x7_1 ∧ Aside0 (broadsheetlaw21_ResponseAll.l0 kq l0 a1 x7_1 = some r) ∧ Aside0 (kq ≤ k) ∧ Aside0 (Below w.heap.size w w')))
  case atStart => exact ⟨(wrap64 (a2)), zb12, H', ⟨Nat.le_refl _⟩, ⟨by repeat (first | (with_reducible first | exact HB.out | apply below_alloc | apply pw_below_drewN | apply below_drew1) | exact HB.out)⟩⟩
  case round =>
   clear H'
   try clear p2
   try clear c4
   try clear c5
   try clear p6
   obtain ⟨x7_1, rfl, HA, HK1, HB⟩ := hrel
   cases gk with
   | zero => exact absurd HA.out (by simp [broadsheetlaw21_ResponseAll.l0])
   | succ k1 =>
    have H := HA.out
    clear HA
    simp only [broadsheetlaw21_ResponseAll.l0] at H
    by_cases c7 : x7_1 < 600
    ·rw [if_pos c7] at H
     have c7b0 : decide (x7_1 < 600) = true := decide_eq_true c7
     clear c7
     replace H := Option.bind_eq_some_iff.mp H
     obtain ⟨⟨t292, t293⟩, A80, H⟩ := H
     replace H : ((broadsheetref21_Print.f k1 x7_1 l0 a1).bind fun bt294 => ((response_Parse.f k1 bt294.1).bind fun bt296 => ((broadsheetref21_Parse.f k1 bt294.1).bind fun bt303 => (if t292.toList = bt294.1.toList then (if t293 = bt294.2 then ((broadsheetref21_Same.f k1 bt296.1 bt296.2.1 bt296.2.2.1 bt303.1 bt303.2.1 bt303.2.2.1).bind fun t310 => (if t310 = true then (if bt296.2.2.2 = bt303.2.2.2 then ((response_Reason.f x7_1).bind fun t311 => ((broadsheetref21_Reason.f x7_1).bind fun t312 => (if t311.toList = t312.toList then (broadsheetlaw21_ResponseAll.l0 k1 l0 a1 (wrap64 (x7_1 + 7))) else (some false)))) else (some false)) else (some false))) else (some false)) else (some false))))) = some r := H
     have A8 := Aside0.mk A80
     clear A80
     replace H := Option.bind_eq_some_iff.mp H
     obtain ⟨⟨t294, t295⟩, A90, H⟩ := H
     replace H : ((response_Parse.f k1 t294).bind fun bt296 => ((broadsheetref21_Parse.f k1 t294).bind fun bt303 => (if t292.toList = t294.toList then (if t293 = t295 then ((broadsheetref21_Same.f k1 bt296.1 bt296.2.1 bt296.2.2.1 bt303.1 bt303.2.1 bt303.2.2.1).bind fun t310 => (if t310 = true then (if bt296.2.2.2 = bt303.2.2.2 then ((response_Reason.f x7_1).bind fun t311 => ((broadsheetref21_Reason.f x7_1).bind fun t312 => (if t311.toList = t312.toList then (broadsheetlaw21_ResponseAll.l0 k1 l0 a1 (wrap64 (x7_1 + 7))) else (some false)))) else (some false)) else (some false))) else (some false)) else (some false)))) = some r := H
     have A9 := Aside0.mk A90
     clear A90
     replace H := Option.bind_eq_some_iff.mp H
     obtain ⟨⟨t296, t297, t300, t301⟩, A100, H⟩ := H
     replace H : ((broadsheetref21_Parse.f k1 t294).bind fun bt303 => (if t292.toList = t294.toList then (if t293 = t295 then ((broadsheetref21_Same.f k1 t296 t297 t300 bt303.1 bt303.2.1 bt303.2.2.1).bind fun t310 => (if t310 = true then (if t301 = bt303.2.2.2 then ((response_Reason.f x7_1).bind fun t311 => ((broadsheetref21_Reason.f x7_1).bind fun t312 => (if t311.toList = t312.toList then (broadsheetlaw21_ResponseAll.l0 k1 l0 a1 (wrap64 (x7_1 + 7))) else (some false)))) else (some false)) else (some false))) else (some false)) else (some false))) = some r := H
     have A10 := Aside0.mk A100
     clear A100
     replace H := Option.bind_eq_some_iff.mp H
     obtain ⟨⟨t303, t304, t307, t308⟩, A110, H⟩ := H
     replace H : (if t292.toList = t294.toList then (if t293 = t295 then ((broadsheetref21_Same.f k1 t296 t297 t300 t303 t304 t307).bind fun t310 => (if t310 = true then (if t301 = t308 then ((response_Reason.f x7_1).bind fun t311 => ((broadsheetref21_Reason.f x7_1).bind fun t312 => (if t311.toList = t312.toList then (broadsheetlaw21_ResponseAll.l0 k1 l0 a1 (wrap64 (x7_1 + 7))) else (some false)))) else (some false)) else (some false))) else (some false)) else (some false)) = some r := H
     have A11 := Aside0.mk A110
     clear A110
     by_cases c12 : t292.toList = t294.toList
     ·rw [if_pos c12] at H
      have c12b0 : (t292.toList == t294.toList) = true := beq_iff_eq.mpr c12
      have c12b1 : (t292.toList != t294.toList) = false := bne_eq_false_iff_eq.mpr c12
      clear c12
      by_cases c13 : t293 = t295
      ·rw [if_pos c13] at H
       have c13b0 : (t293 == t295) = true := beq_iff_eq.mpr c13
       have c13b1 : (t293 != t295) = false := bne_eq_false_iff_eq.mpr c13
       clear c13
       replace H := Option.bind_eq_some_iff.mp H
       obtain ⟨t310, A140, H⟩ := H
       replace H : (if t310 = true then (if t301 = t308 then ((response_Reason.f x7_1).bind fun t311 => ((broadsheetref21_Reason.f x7_1).bind fun t312 => (if t311.toList = t312.toList then (broadsheetlaw21_ResponseAll.l0 k1 l0 a1 (wrap64 (x7_1 + 7))) else (some false)))) else (some false)) else (some false)) = some r := H
       have A14 := Aside0.mk A140
       clear A140
       by_cases c15 : t310 = true
       ·subst c15
        replace H : (if t301 = t308 then ((response_Reason.f x7_1).bind fun t311 => ((broadsheetref21_Reason.f x7_1).bind fun t312 => (if t311.toList = t312.toList then (broadsheetlaw21_ResponseAll.l0 k1 l0 a1 (wrap64 (x7_1 + 7))) else (some false)))) else (some false)) = some r := by rw [if_pos rfl] at H; exact H
        by_cases c16 : t301 = t308
        ·rw [if_pos c16] at H
         have c16b0 : (t301 == t308) = true := beq_iff_eq.mpr c16
         have c16b1 : (t301 != t308) = false := bne_eq_false_iff_eq.mpr c16
         clear c16
         replace H := Option.bind_eq_some_iff.mp H
         obtain ⟨t311, A170, H⟩ := H
         replace H : ((broadsheetref21_Reason.f x7_1).bind fun t312 => (if t311.toList = t312.toList then (broadsheetlaw21_ResponseAll.l0 k1 l0 a1 (wrap64 (x7_1 + 7))) else (some false))) = some r := H
         have A17 := Aside0.mk A170
         clear A170
         replace H := Option.bind_eq_some_iff.mp H
         obtain ⟨t312, A180, H⟩ := H
         replace H : (if t311.toList = t312.toList then (broadsheetlaw21_ResponseAll.l0 k1 l0 a1 (wrap64 (x7_1 + 7))) else (some false)) = some r := H
         have A18 := Aside0.mk A180
         clear A180
         by_cases c19 : t311.toList = t312.toList
         ·rw [if_pos c19] at H
          have c19b0 : (t311.toList == t312.toList) = true := beq_iff_eq.mpr c19
          have c19b1 : (t311.toList != t312.toList) = false := bne_eq_false_iff_eq.mpr c19
          clear c19
          have H' := Aside0.mk H
          clear H
          go_wp2_with (first | ((with_reducible refine gate_dst (N := 8) rfl ?_); refine box_event ?hg (N := 8) ?hd (cs := #[.int .i64 0, .slice none 0 0, .string (⟨#[]⟩ : ByteArray)]) (t := 24) ?hr ?_; (case hd => rfl); (case hg => rfl); (case hr => first | (go_simp; done) | (go_simp; rfl)); intro gb291 hg w20 hbox hb; have n0_ := Aside0.mk (below_step zb1 hb); have n1_ := Aside0.mk (hbox); have n2_ := Aside0.mk ((by rw [hg]; exact (below_size zb1) : w.heap.size ≤ gb291)); have n3_ := Aside0.mk ((by rw [hg]; exact (below_size zb1) : w.heap.size ≤ gb291)); clear HB; have HB := n0_; have BK291 := n1_; have GW291 := n2_; have GE291 := n3_; clear n0_ n1_ n2_ n3_; clear hb hbox hg; have hcz21_0 : w20.cell? ⟨gb291, 0, none⟩ = some (.int .i64 0) := (blk_cell BK291.out 0).trans rfl; have hcz21_1 : w20.cell? ⟨gb291, 1, none⟩ = some (.slice none 0 0) := (blk_cell BK291.out 1).trans rfl; have hcz21_2 : w20.cell? ⟨gb291, 2, none⟩ = some (.string (⟨#[]⟩ : ByteArray)) := (blk_cell BK291.out 2).trans rfl; have hfz21_0 := blk_frozen BK291.out 0; have hfz21_1 := blk_frozen BK291.out 1; have hfz21_2 := blk_frozen BK291.out 2) | ((with_reducible refine gate_callee (f := 9) rfl ?_); refine goesL_ (some 35) rfl rfl Tryz.func9 zb11 rfl #[.agg #[.int .i64 x7_1, .slice A0 l0.length c0, .string a1]] rfl zb0 ?_; (with_reducible refine (response_Print.calls k1 x7_1 _ _ l0 a1 t292 t293 _ ?side1 ?side2 ?side3 A8.out).mono ?_); (case side1 => exact Kd.C_below HR0.out zb21); (case side2 => exact HC0.out); (case side3 => exact Glob.below hGA.out zb21); rintro e w22 ⟨rfl, hb⟩; refine ⟨_, rfl, ?_⟩; have n0_ := Aside0.mk (blk_below (g := gb291) (o := .cells #[.int .i64 x7_1, .slice A0 l0.length c0, .string a1] 24 (0, 0)) (by (with_reducible repeat (first | refine blk_drewN ?_ _ | refine blk_drew ?_ | refine blk_alloc ?_ _)); refine blk_put (cs := #[.int .i64 x7_1, .slice A0 l0.length c0, .string (⟨#[]⟩ : ByteArray)]) ?_ 2 _ rfl; (with_reducible repeat (first | refine blk_drewN ?_ _ | refine blk_drew ?_ | refine blk_alloc ?_ _)); refine blk_put (cs := #[.int .i64 x7_1, .slice none 0 0, .string (⟨#[]⟩ : ByteArray)]) ?_ 1 _ rfl; (with_reducible repeat (first | refine blk_drewN ?_ _ | refine blk_drew ?_ | refine blk_alloc ?_ _)); refine blk_put (cs := #[.int .i64 0, .slice none 0 0, .string (⟨#[]⟩ : ByteArray)]) ?_ 0 _ rfl; (with_reducible repeat (first | refine blk_drewN ?_ _ | refine blk_drew ?_ | refine blk_alloc ?_ _)); exact BK291.out) hb); have n1_ := Aside0.mk (below_step zb21 hb); clear BK291; clear HB; have BK291 := n0_; have HB := n1_; clear n0_ n1_; (try clear hb); (try clear hb2); (try clear hk); (try clear hi); have hcz23_0 : w22.cell? ⟨gb291, 0, none⟩ = some (.int .i64 x7_1) := (blk_cell BK291.out 0).trans rfl; have hcz23_1 : w22.cell? ⟨gb291, 1, none⟩ = some (.slice A0 l0.length c0) := (blk_cell BK291.out 1).trans rfl; have hcz23_2 : w22.cell? ⟨gb291, 2, none⟩ = some (.string a1) := (blk_cell BK291.out 2).trans rfl; have hfz23_0 := blk_frozen BK291.out 0; have hfz23_1 := blk_frozen BK291.out 1; have hfz23_2 := blk_frozen BK291.out 2) | ((with_reducible refine gate_callee (f := 10) rfl ?_); refine goesL_ (some 40) rfl rfl Tryz.func10 zb11 rfl #[.agg #[.int .i64 x7_1, .slice A0 l0.length c0, .string a1]] rfl zb0 ?_; (with_reducible refine (broadsheetref21_Print.calls k1 x7_1 _ _ l0 a1 t294 t295 _ ?side1 ?side2 A9.out).mono ?_); (case side1 => repeat (first | exact (Kd.C_below HR0.out HB.out) | (with_reducible refine Kd.C_alloc ?_ _) | (with_reducible refine Kd.C_drewN ?_ _) | (with_reducible refine Kd.C_drew ?_))); (case side2 => exact HC0.out); rintro e w24 ⟨rfl, hb⟩; refine ⟨_, rfl, ?_⟩; have n0_ := Aside0.mk (blk_below (g := gb291) (o := .cells #[.int .i64 x7_1, .slice A0 l0.length c0, .string a1] 24 (0, 0)) zb30 hb); have n1_ := Aside0.mk (below_step zb21 hb); clear BK291; clear HB; have BK291 := n0_; have HB := n1_; clear n0_ n1_; (try clear hb); (try clear hb2); (try clear hk); (try clear hi)) | ((with_reducible refine gate_callee (f := 13) rfl ?_); refine goesL_ (some 45) rfl rfl Tryz.func13 zb11 rfl #[.string t294] rfl zb0 ?_; (with_reducible refine (response_Parse.calls k1 t294 t296 t297 t300 t301 _ ?side1 A10.out).mono ?_); (case side1 => exact Glob.below hGA.out zb21); rintro e w25 ⟨v298, rfl, ho0, hb⟩; refine ⟨_, rfl, ?_⟩; have n0_ := Aside0.mk (Kd.R_lower ho0 (below_size zb21)); have n1_ := Aside0.mk (blk_below (g := gb291) (o := .cells #[.int .i64 x7_1, .slice A0 l0.length c0, .string a1] 24 (0, 0)) zb30 hb); have n2_ := Aside0.mk (below_step zb21 hb); clear BK291; clear HB; have HO299 := n0_; have BK291 := n1_; have HB := n2_; clear n0_ n1_ n2_; (try clear hb); (try clear hb2); (try clear hk); (try clear hi); (try clear ho0)) | ((with_reducible refine gate_dst (N := 13) rfl ?_); refine box_event ?hg (N := 13) ?hd (cs := #[.int .i64 0, .slice none 0 0, .string (⟨#[]⟩ : ByteArray)]) (t := 24) ?hr ?_; (case hd => rfl); (case hg => rfl); (case hr => first | (go_simp; done) | (go_simp; rfl)); intro gb302 hg w26 hbox hb; have n0_ := Aside0.mk (Kd.R_below (by (with_reducible repeat (first | apply Kd.R_alloc | apply Kd.R_drewN | apply Kd.R_drew)); exact HO299.out) hb); have n1_ := Aside0.mk (blk_below (g := gb291) (o := .cells #[.int .i64 x7_1, .slice A0 l0.length c0, .string a1] 24 (0, 0)) zb30 hb); have n2_ := Aside0.mk (below_step zb21 hb); have n3_ := Aside0.mk (hbox); have n4_ := Aside0.mk ((by rw [hg]; exact (below_size zb21) : w.heap.size ≤ gb302)); have n5_ := Aside0.mk ((by rw [hg]; exact (below_size zb21) : w.heap.size ≤ gb302)); have n6_ := Aside0.mk ((by rw [hg]; exact Nat.ne_of_lt (blk_lt (g := gb291) (o := .cells #[.int .i64 x7_1, .slice A0 l0.length c0, .string a1] 24 (0, 0)) zb30) : gb291 ≠ gb302)); have n7_ := Aside0.mk ((by rw [hg]; exact Nat.ne_of_gt (blk_lt (g := gb291) (o := .cells #[.int .i64 x7_1, .slice A0 l0.length c0, .string a1] 24 (0, 0)) zb30) : gb302 ≠ gb291)); clear HO299; clear BK291; clear HB; have HO299 := n0_; have BK291 := n1_; have HB := n2_; have BK302 := n3_; have GW302 := n4_; have GE302 := n5_; have NB291_302 := n6_; have NB302_291 := n7_; clear n0_ n1_ n2_ n3_ n4_ n5_ n6_ n7_; clear hb hbox hg; have hnb27 := NB302_291.out; have hnc27 := NB291_302.out; have hcz28_0 : w26.cell? ⟨gb302, 0, none⟩ = some (.int .i64 0) := (blk_cell BK302.out 0).trans rfl; have hcz28_1 : w26.cell? ⟨gb302, 1, none⟩ = some (.slice none 0 0) := (blk_cell BK302.out 1).trans rfl; have hcz28_2 : w26.cell? ⟨gb302, 2, none⟩ = some (.string (⟨#[]⟩ : ByteArray)) := (blk_cell BK302.out 2).trans rfl; have hfz28_0 := blk_frozen BK302.out 0; have hfz28_1 := blk_frozen BK302.out 1; have hfz28_2 := blk_frozen BK302.out 2; obtain ⟨Ao29, co29, eo29⟩ := Kd.R_slice HO299.out; subst eo29) | ((with_reducible refine gate_callee (f := 14) rfl ?_); refine goesL_ (some 50) rfl rfl Tryz.func14 zb11 rfl #[.string t294] rfl zb0 ?_; (with_reducible refine (broadsheetref21_Parse.calls k1 t294 t303 t304 t307 t308 _ A11.out).mono ?_); rintro e w30 ⟨v305, rfl, ho0, hb⟩; refine ⟨_, rfl, ?_⟩; have n0_ := Aside0.mk (Kd.R_elder' zb49 (Kd.R_base ho0) hb); have n1_ := Aside0.mk (Kd.R_lower (Kd.R_new' ho0 (Kd.R_lt zb49)) (below_size zb33)); have n2_ := Aside0.mk (blk_below (g := gb291) (o := .cells #[.int .i64 x7_1, .slice A0 l0.length c0, .string a1] 24 (0, 0)) (by (with_reducible repeat (first | refine blk_drewN ?_ _ | refine blk_drew ?_ | refine blk_alloc ?_ _)); refine blk_far ?_ NB291_302.out _; (with_reducible repeat (first | refine blk_drewN ?_ _ | refine blk_drew ?_ | refine blk_alloc ?_ _)); refine blk_far ?_ NB291_302.out _; (with_reducible repeat (first | refine blk_drewN ?_ _ | refine blk_drew ?_ | refine blk_alloc ?_ _)); refine blk_far ?_ NB291_302.out _; (with_reducible repeat (first | refine blk_drewN ?_ _ | refine blk_drew ?_ | refine blk_alloc ?_ _)); exact BK291.out) hb); have n3_ := Aside0.mk (blk_below (g := gb302) (o := .cells #[.int .i64 t296, .slice Ao29 t297.length co29, .string t300] 24 (0, 0)) (by (with_reducible repeat (first | refine blk_drewN ?_ _ | refine blk_drew ?_ | refine blk_alloc ?_ _)); refine blk_put (cs := #[.int .i64 t296, .slice Ao29 t297.length co29, .string (⟨#[]⟩ : ByteArray)]) ?_ 2 _ rfl; (with_reducible repeat (first | refine blk_drewN ?_ _ | refine blk_drew ?_ | refine blk_alloc ?_ _)); refine blk_put (cs := #[.int .i64 t296, .slice none 0 0, .string (⟨#[]⟩ : ByteArray)]) ?_ 1 _ rfl; (with_reducible repeat (first | refine blk_drewN ?_ _ | refine blk_drew ?_ | refine blk_alloc ?_ _)); refine blk_put (cs := #[.int .i64 0, .slice none 0 0, .string (⟨#[]⟩ : ByteArray)]) ?_ 0 _ rfl; (with_reducible repeat (first | refine blk_drewN ?_ _ | refine blk_drew ?_ | refine blk_alloc ?_ _)); exact BK302.out) hb); have n4_ := Aside0.mk (below_step zb33 hb); clear HO299; clear BK291; clear BK302; clear HB; have HO299 := n0_; have HO306 := n1_; have BK291 := n2_; have BK302 := n3_; have HB := n4_; clear n0_ n1_ n2_ n3_ n4_; (try clear hb); (try clear hb2); (try clear hk); (try clear hi); (try clear ho0)) | ((with_reducible refine gate_dst (N := 15) rfl ?_); refine box_event ?hg (N := 15) ?hd (cs := #[.int .i64 0, .slice none 0 0, .string (⟨#[]⟩ : ByteArray)]) (t := 24) ?hr ?_; (case hd => rfl); (case hg => rfl); (case hr => first | (go_simp; done) | (go_simp; rfl)); intro gb309 hg w31 hbox hb; have n0_ := Aside0.mk (Kd.R_below (by (with_reducible repeat (first | apply Kd.R_alloc | apply Kd.R_drewN | apply Kd.R_drew)); exact HO299.out) hb); have n1_ := Aside0.mk (Kd.R_below (by (with_reducible repeat (first | apply Kd.R_alloc | apply Kd.R_drewN | apply Kd.R_drew)); exact HO306.out) hb); have n2_ := Aside0.mk (blk_below (g := gb291) (o := .cells #[.int .i64 x7_1, .slice A0 l0.length c0, .string a1] 24 (0, 0)) zb30 hb); have n3_ := Aside0.mk (blk_below (g := gb302) (o := .cells #[.int .i64 t296, .slice Ao29 t297.length co29, .string t300] 24 (0, 0)) zb56 hb); have n4_ := Aside0.mk (below_step zb33 hb); have n5_ := Aside0.mk (hbox); have n6_ := Aside0.mk ((by rw [hg]; exact (below_size zb33) : w.heap.size ≤ gb309)); have n7_ := Aside0.mk ((by rw [hg]; exact (below_size zb33) : w.heap.size ≤ gb309)); have n8_ := Aside0.mk ((by rw [hg]; exact Nat.ne_of_lt (blk_lt (g := gb291) (o := .cells #[.int .i64 x7_1, .slice A0 l0.length c0, .string a1] 24 (0, 0)) zb30) : gb291 ≠ gb309)); have n9_ := Aside0.mk ((by rw [hg]; exact Nat.ne_of_gt (blk_lt (g := gb291) (o := .cells #[.int .i64 x7_1, .slice A0 l0.length c0, .string a1] 24 (0, 0)) zb30) : gb309 ≠ gb291)); have n10_ := Aside0.mk ((by rw [hg]; exact Nat.ne_of_lt (blk_lt (g := gb302) (o := .cells #[.int .i64 t296, .slice Ao29 t297.length co29, .string t300] 24 (0, 0)) zb56) : gb302 ≠ gb309)); have n11_ := Aside0.mk ((by rw [hg]; exact Nat.ne_of_gt (blk_lt (g := gb302) (o := .cells #[.int .i64 t296, .slice Ao29 t297.length co29, .string t300] 24 (0, 0)) zb56) : gb309 ≠ gb302)); clear HO299; clear HO306; clear BK291; clear BK302; clear HB; have HO299 := n0_; have HO306 := n1_; have BK291 := n2_; have BK302 := n3_; have HB := n4_; have BK309 := n5_; have GW309 := n6_; have GE309 := n7_; have NB291_309 := n8_; have NB309_291 := n9_; have NB302_309 := n10_; have NB309_302 := n11_; clear n0_ n1_ n2_ n3_ n4_ n5_ n6_ n7_ n8_ n9_ n10_ n11_; clear hb hbox hg; have hnb32 := NB309_291.out; have hnc32 := NB291_309.out; have hnb33 := NB309_302.out; have hnc33 := NB302_309.out; have hcz34_0 : w31.cell? ⟨gb309, 0, none⟩ = some (.int .i64 0) := (blk_cell BK309.out 0).trans rfl; have hcz34_1 : w31.cell? ⟨gb309, 1, none⟩ = some (.slice none 0 0) := (blk_cell BK309.out 1).trans rfl; have hcz34_2 : w31.cell? ⟨gb309, 2, none⟩ = some (.string (⟨#[]⟩ : ByteArray)) := (blk_cell BK309.out 2).trans rfl; have hfz34_0 := blk_frozen BK309.out 0; have hfz34_1 := blk_frozen BK309.out 1; have hfz34_2 := blk_frozen BK309.out 2; obtain ⟨Ao35, co35, eo35⟩ := Kd.R_slice HO306.out; subst eo35; have hcz36_0 : w31.cell? ⟨gb302, 0, none⟩ = some (.int .i64 t296) := (blk_cell BK302.out 0).trans rfl; have hcz36_1 : w31.cell? ⟨gb302, 1, none⟩ = some (.slice Ao29 t297.length co29) := (blk_cell BK302.out 1).trans rfl; have hcz36_2 : w31.cell? ⟨gb302, 2, none⟩ = some (.string t300) := (blk_cell BK302.out 2).trans rfl; have hfz36_0 := blk_frozen BK302.out 0; have hfz36_1 := blk_frozen BK302.out 1; have hfz36_2 := blk_frozen BK302.out 2) | (go_at_call 15; (with_reducible refine (broadsheetref21_Same.calls k1 t296 _ _ t297 t300 t303 _ _ t304 t307 true _ ?side1 ?side2 ?side3 ?side4 A14.out (by first | rfl | exact hr)).mono ?_); (case side1 => refine (Kd.R_reads' (e := 41) (base := w.heap.size) (ok := fun k_ => (True ∧ some k_ ≠ (.slice Ao35 t304.length co35 : Value).ownBlock)) (n := t297.length) (c := co29) ?_).2.2; exact zb48); (case side2 => exact (Kd.R_reads' HO299.out).2.1); (case side3 => refine (Kd.R_reads' (e := 41) (base := w.heap.size) (ok := fun k_ => (True ∧ some k_ ≠ (.slice Ao29 t297.length co29 : Value).ownBlock)) (n := t304.length) (c := co35) ?_).2.2; exact zb47); (case side4 => exact (Kd.R_reads' HO306.out).2.1); rintro e w37 ⟨rfl, hb⟩; have n0_ := Aside0.mk (Kd.R_below zb48 hb); have n1_ := Aside0.mk (Kd.R_below zb47 hb); have n2_ := Aside0.mk (blk_below (g := gb291) (o := .cells #[.int .i64 x7_1, .slice A0 l0.length c0, .string a1] 24 (0, 0)) (by (with_reducible repeat (first | refine blk_drewN ?_ _ | refine blk_drew ?_ | refine blk_alloc ?_ _)); refine blk_far ?_ NB291_309.out _; (with_reducible repeat (first | refine blk_drewN ?_ _ | refine blk_drew ?_ | refine blk_alloc ?_ _)); refine blk_far ?_ NB291_309.out _; (with_reducible repeat (first | refine blk_drewN ?_ _ | refine blk_drew ?_ | refine blk_alloc ?_ _)); refine blk_far ?_ NB291_309.out _; (with_reducible repeat (first | refine blk_drewN ?_ _ | refine blk_drew ?_ | refine blk_alloc ?_ _)); exact BK291.out) hb); have n3_ := Aside0.mk (blk_below (g := gb302) (o := .cells #[.int .i64 t296, .slice Ao29 t297.length co29, .string t300] 24 (0, 0)) (by (with_reducible repeat (first | refine blk_drewN ?_ _ | refine blk_drew ?_ | refine blk_alloc ?_ _)); refine blk_far ?_ NB302_309.out _; (with_reducible repeat (first | refine blk_drewN ?_ _ | refine blk_drew ?_ | refine blk_alloc ?_ _)); refine blk_far ?_ NB302_309.out _; (with_reducible repeat (first | refine blk_drewN ?_ _ | refine blk_drew ?_ | refine blk_alloc ?_ _)); refine blk_far ?_ NB302_309.out _; (with_reducible repeat (first | refine blk_drewN ?_ _ | refine blk_drew ?_ | refine blk_alloc ?_ _)); exact BK302.out) hb); have n4_ := Aside0.mk (blk_below (g := gb309) (o := .cells #[.int .i64 t303, .slice Ao35 t304.length co35, .string t307] 24 (0, 0)) (by (with_reducible repeat (first | refine blk_drewN ?_ _ | refine blk_drew ?_ | refine blk_alloc ?_ _)); refine blk_put (cs := #[.int .i64 t303, .slice Ao35 t304.length co35, .string (⟨#[]⟩ : ByteArray)]) ?_ 2 _ rfl; (with_reducible repeat (first | refine blk_drewN ?_ _ | refine blk_drew ?_ | refine blk_alloc ?_ _)); refine blk_put (cs := #[.int .i64 t303, .slice none 0 0, .string (⟨#[]⟩ : ByteArray)]) ?_ 1 _ rfl; (with_reducible repeat (first | refine blk_drewN ?_ _ | refine blk_drew ?_ | refine blk_alloc ?_ _)); refine blk_put (cs := #[.int .i64 0, .slice none 0 0, .string (⟨#[]⟩ : ByteArray)]) ?_ 0 _ rfl; (with_reducible repeat (first | refine blk_drewN ?_ _ | refine blk_drew ?_ | refine blk_alloc ?_ _)); exact BK309.out) hb); have n5_ := Aside0.mk (below_step zb64 hb); clear HO299; clear HO306; clear BK291; clear BK302; clear BK309; clear HB; have HO299 := n0_; have HO306 := n1_; have BK291 := n2_; have BK302 := n3_; have BK309 := n4_; have HB := n5_; clear n0_ n1_ n2_ n3_ n4_ n5_; (try clear hb); (try clear hb2); (try clear hk); (try clear hi)) | (go_at_call 11; (with_reducible refine (response_Reason.calls x7_1 t311 _ A17.out).mono ?_); rintro e w38 ⟨rfl, hb⟩; have n0_ := Aside0.mk (Kd.R_below (by (with_reducible repeat (first | apply Kd.R_alloc | apply Kd.R_drewN | apply Kd.R_drew)); exact HO299.out) hb); have n1_ := Aside0.mk (Kd.R_below (by (with_reducible repeat (first | apply Kd.R_alloc | apply Kd.R_drewN | apply Kd.R_drew)); exact HO306.out) hb); have n2_ := Aside0.mk (blk_below (g := gb291) (o := .cells #[.int .i64 x7_1, .slice A0 l0.length c0, .string a1] 24 (0, 0)) zb30 hb); have n3_ := Aside0.mk (blk_below (g := gb302) (o := .cells #[.int .i64 t296, .slice Ao29 t297.length co29, .string t300] 24 (0, 0)) zb56 hb); have n4_ := Aside0.mk (blk_below (g := gb309) (o := .cells #[.int .i64 t303, .slice Ao35 t304.length co35, .string t307] 24 (0, 0)) (by (with_reducible repeat (first | refine blk_drewN ?_ _ | refine blk_drew ?_ | refine blk_alloc ?_ _)); exact BK309.out) hb); have n5_ := Aside0.mk (below_step zb64 hb); clear HO299; clear HO306; clear BK291; clear BK302; clear BK309; clear HB; have HO299 := n0_; have HO306 := n1_; have BK291 := n2_; have BK302 := n3_; have BK309 := n4_; have HB := n5_; clear n0_ n1_ n2_ n3_ n4_ n5_; (try clear hb); (try clear hb2); (try clear hk); (try clear hi)) | (go_at_call 12; (with_reducible refine (broadsheetref21_Reason.calls x7_1 t312 _ A18.out).mono ?_); rintro e w' ⟨rfl, ⟨nd, rfl⟩⟩))
          go_roundg k1
          case measure => have := HK1.out; omega
          case rel => exact ⟨(wrap64 (x7_1 + 7)), zb12, H', ⟨by have := HK1.out; omega⟩, ⟨by repeat (first | (with_reducible first | exact HB.out | apply below_alloc | apply pw_below_drewN | apply below_drew1 | refine below_set ?_ GE291.out | refine below_set ?_ GE302.out | refine below_set ?_ GE309.out) | exact HB.out)⟩⟩
         ·rw [if_neg c19] at H
          have c19b0 : (t311.toList == t312.toList) = false := beq_eq_false_iff_ne.mpr c19
          have c19b1 : (t311.toList != t312.toList) = true := bne_iff_ne.mpr c19
          exact absurd ((Option.some.inj H).trans hr) zb39
        ·rw [if_neg c16] at H
         have c16b0 : (t301 == t308) = false := beq_eq_false_iff_ne.mpr c16
         have c16b1 : (t301 != t308) = true := bne_iff_ne.mpr c16
         exact absurd ((Option.some.inj H).trans hr) zb39
       ·replace c15 := Bool.eq_false_iff.mpr c15
        subst c15
        replace H : (some false) = some r := by rw [if_neg (show ¬ (false = true) by decide)] at H; exact H
        exact absurd ((Option.some.inj H).trans hr) zb39
      ·rw [if_neg c13] at H
       have c13b0 : (t293 == t295) = false := beq_eq_false_iff_ne.mpr c13
       have c13b1 : (t293 != t295) = true := bne_iff_ne.mpr c13
       exact absurd ((Option.some.inj H).trans hr) zb39
     ·rw [if_neg c12] at H
      have c12b0 : (t292.toList == t294.toList) = false := beq_eq_false_iff_ne.mpr c12
      have c12b1 : (t292.toList != t294.toList) = true := bne_iff_ne.mpr c12
      exact absurd ((Option.some.inj H).trans hr) zb39
    ·rw [if_neg c7] at H
     have c7b0 : decide (x7_1 < 600) = false := decide_eq_false c7
     clear c7
     replace H := Option.bind_eq_some_iff.mp H
     obtain ⟨t290, A1260, H⟩ := H
     replace H : (some t290) = some r := H
     have A126 := Aside0.mk A1260
     clear A1260
     obtain rfl := Option.some.inj H
     go_wp2_with (first | ((with_reducible refine gate_callee (f := 8) rfl ?_); refine goesL_ (some 79) rfl rfl Tryz.func8 zb11 rfl #[] rfl zb0 ?_; (with_reducible refine (broadsheetlaw21_awake.calls k1  t290 _ ?side1 A126.out (by first | rfl | exact hr)).mono ?_); (case side1 => exact Glob.below hGA.out zb1); rintro e w127 ⟨rfl, hb⟩; refine ⟨_, rfl, ?_⟩; have n0_ := Aside0.mk (below_step zb1 hb); clear HB; have HB := n0_; clear n0_; (try clear hb); (try clear hb2); (try clear hk); (try clear hi)))
     go_ret
     exact ⟨zb9, zb1⟩
 ·replace c5 := Bool.eq_false_iff.mpr c5
  subst c5
  replace H : ((broadsheetlaw21_awake.f k).bind fun t289 => (some t289)) = some r := by rw [if_neg (show ¬ (false = true) by decide)] at H; exact H
  replace H := Option.bind_eq_some_iff.mp H
  obtain ⟨t289, A1280, H⟩ := H
  replace H : (some t289) = some r := H
  have A128 := Aside0.mk A1280
  clear A1280
  obtain rfl := Option.some.inj H
  go_enter Tryz.func4, Tryz.ntmps4
  go_wp2_with (first | ((with_reducible refine gate_callee (f := 7) rfl ?_); refine goesL_ (some 20) rfl rfl Tryz.func7 zb11 rfl #[.agg #[.int .i64 0, .slice A0 l0.length c0, .string a1]] rfl zb0 ?_; (with_reducible refine (broadsheetlaw21_few.calls k 0 _ _ l0 a1 false _ ?side1 ?side2 A4.out).mono ?_); (case side1 => repeat (first | exact HR0.out | (with_reducible refine Kd.C_alloc ?_ _) | (with_reducible refine Kd.C_drewN ?_ _) | (with_reducible refine Kd.C_drew ?_))); (case side2 => exact HC0.out); rintro e w129 ⟨rfl, hb⟩; refine ⟨_, rfl, ?_⟩; have n0_ := Aside0.mk (below_step zb1 hb); clear HB; have HB := n0_; clear n0_; (try clear hb); (try clear hb2); (try clear hk); (try clear hi)) | ((with_reducible refine gate_callee (f := 8) rfl ?_); refine goesL_ (some 22) rfl rfl Tryz.func8 zb11 rfl #[] rfl zb0 ?_; (with_reducible refine (broadsheetlaw21_awake.calls k  t289 _ ?side1 A128.out (by first | rfl | exact hr)).mono ?_); (case side1 => exact Glob.below hGA.out zb1); rintro e w130 ⟨rfl, hb⟩; refine ⟨_, rfl, ?_⟩; have n0_ := Aside0.mk (below_step zb1 hb); clear HB; have HB := n0_; clear n0_; (try clear hb); (try clear hb2); (try clear hk); (try clear hi)))
  go_ret
  exact ⟨zb9, zb1⟩
end Go.Proofs.YtaopopnlnohnpaaGreatDoor.P
/- SpX -/
namespace Go.Proofs.YtaopopnlnohnpaaGreatDoor.Sp
open Go Go.RowKit Go.Proofs.YtaopopnlnohnpaaGreatDoorW.PrintWords Go.Proofs.YtaopopnlnohnpaaGreatDoorW.PrintLast Go.Proofs.YtaopopnlnohnpaaGreatDoor.O Go.Proofs.YtaopopnlnohnpaaGreatDoor.P
set_option linter.unusedVariables false
set_option linter.unusedSimpArgs false
def okP (p : L × L) : Bool := isTok p.1 && fval p.2
def prs : List (L × L) → L
  | [] => []
  | p :: r => p.1 ++ 58 :: 32 :: (p.2 ++ 13 :: 10 :: prs r)
/-- The lines of fields, and the error. -/
def printS (l : List (L × L)) : L × Int := if l.all okP = true then (if 8000 < (prs l ++ [13, 10]).length then ([], 2) else (prs l ++ [13, 10], 0)) else ([], 180)
theorem prs_app (a b : List (L × L)) : prs (a ++ b) = prs a ++ prs b := by
  induction a with
  | nil => rfl
  | cons p r ih => simp only [List.cons_append, prs, ih, List.append_assoc]
theorem prs_len (l : List (L × L)) : 4 * l.length ≤ (prs l).length := by
  induction l with
  | nil => simp [prs]
  | cons p r ih =>
    simp only [prs, List.length_append, List.length_cons]
    omega
theorem low_tok : ∀ a : Fin 256, tokB (lowB (UInt8.ofNat a.val)) = tokB (UInt8.ofNat a.val) ∧ lowB (lowB (UInt8.ofNat a.val)) = lowB (UInt8.ofNat a.val) := by decide +kernel
theorem low_low (s : L) : low (low s) = low s := by
  unfold low
  rw [List.map_map]
  refine List.map_congr_left (fun c _ => ?_)
  obtain ⟨a, rfl⟩ := u8_fin c
  exact (low_tok a).2
theorem isTok_low {s : L} (h : isTok s = true) : isTok (low s) = true := by
  obtain ⟨h1, h2⟩ := (isTok_iff s).1 h
  refine (isTok_iff _).2 ⟨fun e => h1 (List.map_eq_nil_iff.1 e), fun x hx => ?_⟩
  obtain ⟨c, hc, rfl⟩ := List.mem_map.1 hx
  have := h2 c hc
  obtain ⟨a, rfl⟩ := u8_fin c
  rw [(low_tok a).1]
  exact this
theorem tok_len2 (s : L) : (tok s).1.length + (tok s).2.length = s.length := by
  have := congrArg List.length (tok_parts s).1
  rw [List.length_append] at this
  omega
theorem pairOf_back {l : L} {p : L × L} (h : pairOf l = some p) : okP p = true ∧ low p.1 = p.1 ∧ p.1.length + p.2.length + 1 ≤ l.length := by
  have hl := tok_len2 l
  obtain ⟨e1, e2, e3⟩ := tok_parts l
  unfold pairOf at h
  split at h
  · cases h
  · rename_i h0
    split at h
    · cases h
    · rename_i h58
      split at h
      · rename_i hv
        obtain rfl := Option.some.inj h
        have ht : isTok (tok l).1 = true := (isTok_iff _).2 ⟨h0, e2⟩
        have htl := trim_len (tok l).2.tail
        rw [List.length_tail] at htl
        have hpos : 0 < (tok l).2.length := by
          cases hx : (tok l).2 with
          | nil => rw [hx] at h58; simp at h58
          | cons a b => simp
        refine ⟨?_, low_low _, ?_⟩
        · unfold okP
          rw [isTok_low ht, hv]
          rfl
        · simp only [low_len]
          omega
      · cases h
theorem fparse_back (N : Nat) : ∀ (f : Nat) (s : L) (acc : List (L × L)), (fparse N f s acc).2.2 = 0 → acc.all okP = true → (∀ p ∈ acc, low p.1 = p.1) →
    (fparse N f s acc).1.all okP = true ∧ (∀ p ∈ (fparse N f s acc).1, low p.1 = p.1) ∧ (prs (fparse N f s acc).1).length + 2 + 2 * (fparse N f s acc).2.1.length ≤ (prs acc).length + 2 * s.length := by
  intro f
  induction f with
  | zero => intro s acc h; simp [fparse] at h
  | succ f ih =>
    intro s acc h ha hlw
    rw [fparse] at h ⊢
    cases e : line s with
    | none =>
      rw [e] at h
      simp only at h
      split at h <;> cases h
    | some q =>
      obtain ⟨l, more⟩ := q
      have hll := congrArg List.length (line_len s _ e)
      simp only [List.length_append, List.length_cons] at hll
      rw [e] at h
      simp only at h ⊢
      by_cases h8 : N - more.length > 8000
      · rw [if_pos h8] at h
        simp only at h
        split at h <;> cases h
      · rw [if_neg h8] at h ⊢
        by_cases h0 : l = []
        · rw [if_pos h0]
          exact ⟨ha, hlw, by simp only; omega⟩
        · rw [if_neg h0] at h ⊢
          cases e2 : pairOf l with
          | none => rw [e2] at h; cases h
          | some p =>
            rw [e2] at h
            simp only at h ⊢
            obtain ⟨g1, g2, g3⟩ := pairOf_back e2
            obtain ⟨k1, k2, k3⟩ := ih more (acc ++ [p]) h (by rw [List.all_append, ha]; simp [g1]) (fun x hx => by
              rcases List.mem_append.1 hx with hx | hx
              · exact hlw x hx
              · rw [List.mem_singleton.1 hx]; exact g2)
            refine ⟨k1, k2, ?_⟩
            rw [prs_app] at k3
            simp only [prs, List.length_append, List.length_cons, List.length_nil] at k3
            have hp : 0 < l.length := List.length_pos_iff.2 h0
            omega
theorem fields_back (s : L) (h : (fields s).2.2 = 0) : (fields s).1.all okP = true ∧ (∀ p ∈ (fields s).1, low p.1 = p.1) ∧ (prs (fields s).1).length + 2 + 2 * (fields s).2.1.length ≤ 2 * s.length := by
  have := fparse_back s.length (s.length + 1) s [] h rfl (by simp)
  unfold fields
  simpa [prs] using this
theorem tok_len (s : L) : (tok s).1.length + (tok s).2.length = s.length := by
  have := congrArg List.length (tok_parts s).1
  rw [List.length_append] at this
  omega
theorem w1 (i : Nat) (h : i ≤ 1000000000000) : wrap64 ((i : Int) + 1) = ((i + 1 : Nat) : Int) := by rw [wrap_id (by omega) (by omega)]; omega
theorem w2 (i : Nat) (h : i ≤ 1000000000000) : wrap64 ((i : Int) + 2) = ((i + 2 : Nat) : Int) := by rw [wrap_id (by omega) (by omega)]; omega
theorem ext1 (c : UInt8) (r : L) : (mk (c :: r)).extract 1 (mk (c :: r)).size = mk r := by rw [ext_from]; rfl
theorem rskip_l0 : ∀ (s : L) (k : Nat), s.length < k → broadsheetref13_Skip.l0 k (mk s) = some (mk (skip s))
  | [], k, hk => by
    obtain ⟨k, rfl⟩ : ∃ k', k = k' + 1 := ⟨k - 1, by omega⟩
    rw [broadsheetref13_Skip.l0, if_neg (by rw [mk_size]; simp)]
    rfl
  | c :: r, k, hk => by
    obtain ⟨k, rfl⟩ : ∃ k', k = k' + 1 := ⟨k - 1, by omega⟩
    simp only [List.length_cons] at hk
    have ih := rskip_l0 r k (by omega)
    rw [broadsheetref13_Skip.l0, if_pos (by rw [mk_size]; simp only [List.length_cons]; omega), if_pos (by rw [mk_size]; simp only [List.length_cons]; omega), bt_head]
    have h32 : ((c.toNat : Int) = 32) ↔ c = 32 := u8i c 32 (by omega)
    have h9 : ((c.toNat : Int) = 9) ↔ c = 9 := u8i c 9 (by omega)
    by_cases c32 : c = 32
    · rw [if_pos (h32.2 c32), if_pos (by rw [mk_size]; simp only [List.length_cons]; omega), ext1, ih]
      unfold skip
      rw [List.dropWhile_cons_of_pos (by simp [bl, c32])]
    · rw [if_neg (fun h => c32 (h32.1 h))]
      by_cases c9 : c = 9
      · rw [if_pos (h9.2 c9), if_pos (by rw [mk_size]; simp only [List.length_cons]; omega), ext1, ih]
        unfold skip
        rw [List.dropWhile_cons_of_pos (by simp [bl, c9])]
      · rw [if_neg (fun h => c9 (h9.1 h))]
        unfold skip
        rw [List.dropWhile_cons_of_neg (by simp [bl, c32, c9])]
theorem rskipF (s : L) (k : Nat) (hk : s.length < k) : broadsheetref13_Skip.f k (mk s) = some (mk (skip s)) := rskip_l0 s k hk
theorem rtb_all : ∀ a : Fin 256, broadsheetref13_TokenByte.f 1 ((UInt8.ofNat a.val).toNat : Int) = some (tokB (UInt8.ofNat a.val)) := by decide +kernel
theorem rtbF (c : UInt8) (k : Nat) (hk : 1 ≤ k) : broadsheetref13_TokenByte.f k (c.toNat : Int) = some (tokB c) := by
  obtain ⟨k, rfl⟩ : ∃ k', k = k' + 1 := ⟨k - 1, by omega⟩
  obtain ⟨a, rfl⟩ := u8_fin c
  rw [← rtb_all a]
  rfl
theorem rtok_l0 (s : L) (hs : s.length ≤ 1000000000000) : ∀ (d k i : Nat), i + d = s.length → d + 1 < k →
    broadsheetref13_Token.l0 k (mk s) i = some (mk (s.take (i + ((s.drop i).takeWhile tokB).length)), mk (s.drop (i + ((s.drop i).takeWhile tokB).length))) := by
  intro d
  induction d with
  | zero =>
    intro k i hi hk
    obtain ⟨k, rfl⟩ : ∃ k', k = k' + 1 := ⟨k - 1, by omega⟩
    rw [broadsheetref13_Token.l0, if_neg (by rw [mk_size]; omega), if_pos (by omega), if_pos (by rw [mk_size]; omega), List.drop_eq_nil_of_le (by omega)]
    simp only [Int.toNat_natCast, List.takeWhile_nil, List.length_nil, Nat.add_zero, ext_to, ext_from]
  | succ d ih =>
    intro k i hi hk
    obtain ⟨k, rfl⟩ : ∃ k', k = k' + 1 := ⟨k - 1, by omega⟩
    obtain ⟨b, e1, e2⟩ := mk_bt s i (by omega)
    rw [broadsheetref13_Token.l0, if_pos (by rw [mk_size]; omega), if_pos (by omega), e2, rtbF b k (by omega)]
    simp only [Option.bind_some]
    by_cases ht : tokB b = true
    · rw [if_pos ht, w1 i (by omega), ih k (i + 1) (by omega) (by omega), e1, List.takeWhile_cons_of_pos ht]
      simp only [List.length_cons]
      rw [show i + 1 + ((s.drop (i + 1)).takeWhile tokB).length = i + (((s.drop (i + 1)).takeWhile tokB).length + 1) by omega]
    · rw [if_neg ht, if_pos (by rw [mk_size]; omega), e1, List.takeWhile_cons_of_neg ht]
      simp only [Int.toNat_natCast, List.length_nil, Nat.add_zero, ext_to, ext_from]
theorem rtokF (s : L) (k : Nat) (hs : s.length ≤ 1000000000000) (hk : s.length + 1 < k) : broadsheetref13_Token.f k (mk s) = some (mk (tok s).1, mk (tok s).2) := by
  unfold broadsheetref13_Token.f
  have := rtok_l0 s hs s.length k 0 (by omega) hk
  simp only [List.drop_zero, Nat.zero_add] at this
  rw [show (0 : Int) = ((0 : Nat) : Int) from rfl, this, take_tw, drop_tw]
  rfl
def nums (l : L) : List Int := l.map fun b => (b.toNat : Int)
theorem nums_str (l : L) : strOfNums (nums l) = mk l := by
  unfold strOfNums nums mk
  rw [List.map_map]
  have e : ((fun n : Int => UInt8.ofNat n.toNat) ∘ fun b : UInt8 => (b.toNat : Int)) = id := by
    funext b
    simp
  rw [e, List.map_id]
theorem nums_snoc (l : L) (b : UInt8) : nums l ++ [(b.toNat : Int)] = nums (l ++ [b]) := by simp [nums]
theorem nums_len (l : L) : (nums l).length = l.length := by simp [nums]
theorem lowB_int (b : UInt8) (h : 65 ≤ b.toNat ∧ b.toNat ≤ 90) : (((b.toNat : Int) + 32) % 256) = ((lowB b).toNat : Int) := by
  unfold lowB
  rw [if_pos h, UInt8.toNat_ofNat']
  omega
theorem rlow_l0 (s : L) (hs : s.length ≤ 1000000000000) : ∀ (d k i : Nat) (acc : L), i + d = s.length → d < k → acc.length ≤ i → broadsheetref07_Lower.l0 k (mk s) (nums acc) i = some (mk (acc ++ low (s.drop i))) := by
  intro d
  induction d with
  | zero =>
    intro k i acc hi hk ha
    obtain ⟨k, rfl⟩ : ∃ k', k = k' + 1 := ⟨k - 1, by omega⟩
    rw [broadsheetref07_Lower.l0, if_neg (by rw [mk_size]; omega), List.drop_eq_nil_of_le (by omega), nums_str]
    simp [low]
  | succ d ih =>
    intro k i acc hi hk ha
    obtain ⟨k, rfl⟩ : ∃ k', k = k' + 1 := ⟨k - 1, by omega⟩
    obtain ⟨b, e1, e2⟩ := mk_bt s i (by omega)
    have hlen : (nums acc).length < 140737488355328 := by rw [nums_len]; omega
    rw [broadsheetref07_Lower.l0, if_pos (by rw [mk_size]; omega), if_pos (by omega), e2, w1 i (by omega)]
    have hfin : ∀ x : UInt8, x = lowB b → broadsheetref07_Lower.l0 k (mk s) (nums acc ++ [(x.toNat : Int)]) ((i + 1 : Nat) : Int) = some (mk (acc ++ low (s.drop i))) := fun x hx => by
      rw [nums_snoc, ih k (i + 1) (acc ++ [x]) (by omega) (by omega) (by simp; omega), e1, hx]
      simp [low]
    by_cases h1 : (b.toNat : Int) ≥ 65
    · rw [if_pos h1]
      by_cases h2 : (b.toNat : Int) ≤ 90
      · rw [if_pos h2, if_pos hlen, lowB_int b (by omega)]
        exact hfin _ rfl
      · rw [if_neg h2, if_pos hlen]
        exact hfin b (by unfold lowB; rw [if_neg (by omega)])
    · rw [if_neg h1, if_pos hlen]
      exact hfin b (by unfold lowB; rw [if_neg (by omega)])
theorem rlowF (s : L) (k : Nat) (hs : s.length ≤ 1000000000000) (hk : s.length < k) : broadsheetref07_Lower.f k (mk s) = some (mk (low s)) := by
  have := rlow_l0 s hs s.length k 0 [] (by omega) hk (by simp)
  rwa [List.nil_append, List.drop_zero] at this
theorem ctl_cases (b : UInt8) {α : Type} (x y : α) : (if (b.toNat : Int) < 32 then (if (b.toNat : Int) = 9 then (if (b.toNat : Int) = 127 then x else y) else x) else (if (b.toNat : Int) = 127 then x else y)) = if ctl b = true then x else y := by
  have h9 : ((b.toNat : Int) = 9) ↔ b = 9 := u8i b 9 (by omega)
  have h127 : ((b.toNat : Int) = 127) ↔ b = 127 := u8i b 127 (by omega)
  unfold ctl
  by_cases h1 : (b.toNat : Int) < 32
  · have h1' : b.toNat < 32 := by omega
    rw [if_pos h1]
    by_cases h2 : b = 9
    · rw [if_pos (h9.2 h2), if_neg (by rw [h9.2 h2]; decide), if_neg (by simp [h2])]
    · rw [if_neg (fun h => h2 (h9.1 h)), if_pos (by simp [h1', h2])]
  · have h1' : ¬ b.toNat < 32 := by omega
    rw [if_neg h1]
    by_cases h2 : b = 127
    · rw [if_pos (h127.2 h2), if_pos (by simp [h2])]
    · rw [if_neg (fun h => h2 (h127.1 h)), if_neg (by simp [h1', h2])]
theorem rline_l0 (s : L) (hs : s.length ≤ 1000000000000) : ∀ (d k i : Nat), i + d = s.length → d < k →
    broadsheetref18_line.l0 k (mk s) i = some (match line (s.drop i) with
      | some p => ((i + p.1.length : Nat) : Int)
      | none => -1) := by
  intro d
  induction d with
  | zero =>
    intro k i hi hk
    obtain ⟨k, rfl⟩ : ∃ k', k = k' + 1 := ⟨k - 1, by omega⟩
    rw [broadsheetref18_line.l0, w1 i (by omega), if_neg (by rw [mk_size]; omega), List.drop_eq_nil_of_le (by omega)]
    rfl
  | succ d ih =>
    intro k i hi hk
    obtain ⟨k, rfl⟩ : ∃ k', k = k' + 1 := ⟨k - 1, by omega⟩
    obtain ⟨b, e1, e2⟩ := mk_bt s i (by omega)
    rw [broadsheetref18_line.l0, w1 i (by omega), e1, line]
    by_cases hlt : i + 1 < s.length
    · obtain ⟨b', e3, e4⟩ := mk_bt s (i + 1) hlt
      have hI := ih k (i + 1) (by omega) (by omega)
      have hrest : (some (match line (s.drop (i + 1)) with
          | some p => ((i + 1 + p.1.length : Nat) : Int)
          | none => -1) : Option Int) = some (match (line (s.drop (i + 1))).map fun p => (b :: p.1, p.2) with
          | some p => ((i + p.1.length : Nat) : Int)
          | none => -1) := by
        cases line (s.drop (i + 1)) with
        | none => rfl
        | some p =>
          simp only [Option.map_some, List.length_cons]
          congr 2
          omega
      rw [if_pos (by rw [mk_size]; omega), if_pos (by omega), if_pos (by rw [mk_size]; omega), e2, e4]
      have h13 : ((b.toNat : Int) = 13) ↔ b = 13 := u8i b 13 (by omega)
      have h10 : ((b'.toNat : Int) = 10) ↔ b' = 10 := u8i b' 10 (by omega)
      by_cases c13 : b = 13
      · rw [if_pos (h13.2 c13), if_pos (by omega)]
        by_cases c10 : b' = 10
        · rw [if_pos (h10.2 c10), if_pos ⟨c13, by rw [e3]; simp [c10]⟩]
          simp
        · rw [if_neg (fun h => c10 (h10.1 h)), if_neg (by rw [e3]; simp [c10]), hI]
          exact hrest
      · rw [if_neg (fun h => c13 (h13.1 h)), if_neg (fun h => c13 h.1), hI]
        exact hrest
    · rw [if_neg (by rw [mk_size]; omega)]
      have hnil : s.drop (i + 1) = [] := List.drop_eq_nil_of_le (by omega)
      rw [hnil, if_neg (by simp)]
      rfl
theorem rLineF (s : L) (k : Nat) (hs : s.length ≤ 1000000000000) (hk : s.length < k) : broadsheetref18_Line.f k (mk s) = some (match line s with
      | some p => (mk p.1, mk p.2, true)
      | none => (mk [], mk [], false)) := by
  have h0 := rline_l0 s hs s.length k 0 (by omega) hk
  rw [List.drop_zero] at h0
  unfold broadsheetref18_Line.f broadsheetref18_line.f
  rw [show (0 : Int) = ((0 : Nat) : Int) from rfl, h0]
  simp only [Option.bind_some]
  cases e : line s with
  | none => rw [if_pos (by simp)]; rfl
  | some p =>
    have hl := line_len s p e
    have hl2 := congrArg List.length hl
    simp only [List.length_append, List.length_cons] at hl2
    simp only [Nat.zero_add]
    rw [if_neg (by omega), if_pos (by omega), if_pos (by rw [mk_size]; omega), w2 _ (by omega), if_pos (by omega), if_pos (by rw [mk_size]; omega)]
    simp only [Int.toNat_natCast, ext_to, ext_from]
    have t1 : (p.1 ++ 13 :: 10 :: p.2).take p.1.length = p.1 := List.take_left' rfl
    have t2 : (p.1 ++ 13 :: 10 :: p.2).drop (p.1.length + 2) = p.2 := by
      rw [← List.drop_drop, List.drop_left' rfl]
      rfl
    rw [← hl] at t1 t2
    rw [t1, t2]
theorem rtrim_l0 : ∀ (n : Nat) (s : L) (k : Nat), s.length ≤ n → n < k → s.length ≤ 1000000000000 → broadsheetref18_Trim.l0 k (mk s) = some (mk (skip s.reverse).reverse) := by
  intro n
  induction n with
  | zero =>
    intro s k hn hk hs
    obtain ⟨k, rfl⟩ : ∃ k', k = k' + 1 := ⟨k - 1, by omega⟩
    obtain rfl : s = [] := List.eq_nil_of_length_eq_zero (by omega)
    rw [broadsheetref18_Trim.l0, if_neg (by rw [mk_size]; simp)]
    rfl
  | succ n ih =>
    intro s k hn hk hs
    obtain ⟨k, rfl⟩ : ∃ k', k = k' + 1 := ⟨k - 1, by omega⟩
    rw [broadsheetref18_Trim.l0]
    by_cases h0 : s = []
    · subst h0
      rw [if_neg (by rw [mk_size]; simp)]
      rfl
    have hp : 0 < s.length := List.length_pos_iff.2 h0
    have hw : wrap64 ((((mk s).size : Nat) : Int) - 1) = ((s.length - 1 : Nat) : Int) := by rw [mk_size, wrap_id (by omega) (by omega)]; omega
    obtain ⟨b, e1, e2⟩ := mk_bt s (s.length - 1) (by omega)
    have e3 : s.drop (s.length - 1 + 1) = [] := List.drop_eq_nil_of_le (by omega)
    rw [e3] at e1
    have es : s = s.take (s.length - 1) ++ [b] := by rw [← e1, List.take_append_drop]
    rw [hw, if_pos (by rw [mk_size]; omega), if_pos (by omega), if_pos (by rw [mk_size]; omega), e2]
    have h32 : ((b.toNat : Int) = 32) ↔ b = 32 := u8i b 32 (by omega)
    have h9 : ((b.toNat : Int) = 9) ↔ b = 9 := u8i b 9 (by omega)
    simp only [Int.toNat_natCast, ext_to]
    have hI := ih (s.take (s.length - 1)) k (by rw [List.length_take]; omega) (by omega) (by rw [List.length_take]; omega)
    have hrev : s.reverse = b :: (s.take (s.length - 1)).reverse := by conv => lhs; rw [es]; simp
    have hgo : bl b = true → skip s.reverse = skip (s.take (s.length - 1)).reverse := fun h => by
      rw [hrev]
      unfold skip
      rw [List.dropWhile_cons_of_pos h]
    by_cases c32 : b = 32
    · rw [if_pos (h32.2 c32), if_pos (by rw [mk_size]; omega), hI, hgo (by simp [bl, c32])]
    · rw [if_neg (fun h => c32 (h32.1 h))]
      by_cases c9 : b = 9
      · rw [if_pos (h9.2 c9), if_pos (by rw [mk_size]; omega), hI, hgo (by simp [bl, c9])]
      · rw [if_neg (fun h => c9 (h9.1 h))]
        have : skip s.reverse = s.reverse := by
          rw [hrev]
          unfold skip
          rw [List.dropWhile_cons_of_neg (by simp [bl, c32, c9])]
        rw [this, List.reverse_reverse]
theorem rtrimF (s : L) (k : Nat) (hs : s.length ≤ 1000000000000) (hk : s.length < k) : broadsheetref18_Trim.f k (mk s) = some (mk (trim s)) := by
  have := skip_len s
  unfold broadsheetref18_Trim.f
  rw [rskipF s k hk]
  simp only [Option.bind_some]
  rw [rtrim_l0 s.length (skip s) k (by omega) hk (by omega)]
  rfl
theorem rvalue_l0 (s : L) (hs : s.length ≤ 1000000000000) : ∀ (d k i : Nat), i + d = s.length → d + s.length + 1 < k →
    broadsheetref18_Value.l0 k (mk s) i = some ((s.drop i).all (fun c => !ctl c) && decide (trim s = s)) := by
  intro d
  induction d with
  | zero =>
    intro k i hi hk
    obtain ⟨k, rfl⟩ : ∃ k', k = k' + 1 := ⟨k - 1, by omega⟩
    rw [broadsheetref18_Value.l0, if_neg (by rw [mk_size]; omega), rtrimF s k hs (by omega), List.drop_eq_nil_of_le (by omega)]
    simp only [Option.bind_some, tl_mk, List.all_nil, Bool.true_and]
    congr 1
    rw [Bool.eq_iff_iff]
    simp
  | succ d ih =>
    intro k i hi hk
    obtain ⟨k, rfl⟩ : ∃ k', k = k' + 1 := ⟨k - 1, by omega⟩
    obtain ⟨b, e1, e2⟩ := mk_bt s i (by omega)
    rw [broadsheetref18_Value.l0, if_pos (by rw [mk_size]; omega), if_pos (by omega), e2, w1 i (by omega), ctl_cases, e1, List.all_cons, ih k (i + 1) (by omega) (by omega)]
    cases hc : ctl b <;> simp
theorem rfvalF (s : L) (k : Nat) (hs : s.length ≤ 1000000000000) (hk : 2 * s.length + 2 < k) : broadsheetref18_Value.f k (mk s) = some (fval s) := by
  have := rvalue_l0 s hs s.length k 0 (by omega) (by omega)
  rw [List.drop_zero] at this
  exact this
theorem pairOf_of {l n t : L} (h : tok l = (n, t)) : pairOf l = if n = [] then none else if t.head? ≠ some 58 then none else if fval (trim t.tail) = true then some (low n, trim t.tail) else none := by
  unfold pairOf
  rw [h]
/-- What a reader of fields gives, as texts. -/
def fldB (r : List (L × L) × L × Int) : List S41 × ByteArray × Int := (pairsB r.1, mk r.2.1, r.2.2)
theorem rparse_l0 (s0 : L) (hs0 : s0.length ≤ 100000000000) : ∀ (d f k : Nat) (s : L) (acc : List (L × L)), s.length ≤ d → d < f → 6 * d + 20 ≤ k → s.length ≤ s0.length → acc.length + s.length ≤ s0.length →
    broadsheetref18_Parse.l0 k (mk s0) (pairsB acc) (mk s) = some (fldB (fparse s0.length f s acc)) := by
  intro d
  induction d with
  | zero =>
    intro f k s acc hs hf hk hl ha
    obtain ⟨k, rfl⟩ : ∃ k', k = k' + 2 := ⟨k - 2, by omega⟩
    obtain ⟨f, rfl⟩ : ∃ f', f = f' + 1 := ⟨f - 1, by omega⟩
    obtain rfl : s = [] := List.eq_nil_of_length_eq_zero (by omega)
    rw [broadsheetref18_Parse.l0, rLineF [] (k + 1) (by simp) (by simp), fparse]
    simp only [Option.bind_some, line]
    rw [if_neg (by decide), broadsheetref18_Parse.j1, if_pos rfl, mk_size]
    by_cases h8 : s0.length > 8000
    · rw [if_pos (by omega), if_pos h8]; rfl
    · rw [if_neg (by omega), if_neg h8]; rfl
  | succ d ih =>
    intro f k s acc hs hf hk hl ha
    obtain ⟨k, rfl⟩ : ∃ k', k = k' + 3 := ⟨k - 3, by omega⟩
    obtain ⟨f, rfl⟩ : ∃ f', f = f' + 1 := ⟨f - 1, by omega⟩
    rw [broadsheetref18_Parse.l0, rLineF s (k + 2) (by omega) (by omega), fparse]
    have hbad : (if (((mk s0).size : Nat) : Int) > 8000 then (some (([] : List S41), (⟨#[]⟩ : ByteArray), (2 : Int))) else (some (([] : List S41), (⟨#[]⟩ : ByteArray), (180 : Int)))) = some (fldB ([], [], if s0.length > 8000 then 2 else 180)) := by
      rw [mk_size]
      by_cases h8 : s0.length > 8000
      · rw [if_pos (by omega), if_pos h8]; rfl
      · rw [if_neg (by omega), if_neg h8]; rfl
    cases e : line s with
    | none =>
      simp only [Option.bind_some]
      rw [if_neg (by decide), broadsheetref18_Parse.j1, if_pos rfl, hbad]
    | some p =>
      obtain ⟨l, more⟩ := p
      have hll := congrArg List.length (line_len s _ e)
      simp only [List.length_append, List.length_cons] at hll
      simp only [Option.bind_some, if_true]
      have hw : wrap64 ((((mk s0).size : Nat) : Int) - (((mk more).size : Nat) : Int)) = ((s0.length - more.length : Nat) : Int) := by rw [mk_size, mk_size, wrap_id (by omega) (by omega)]; omega
      rw [hw]
      by_cases h8 : s0.length - more.length > 8000
      · rw [decide_eq_true (show ((s0.length - more.length : Nat) : Int) > 8000 by omega), if_pos h8, broadsheetref18_Parse.j1, if_pos rfl, hbad]
      rw [decide_eq_false (show ¬ ((s0.length - more.length : Nat) : Int) > 8000 by omega), if_neg h8, broadsheetref18_Parse.j1, if_neg (by decide), tl_mk]
      by_cases h0 : l = []
      · rw [if_pos h0, if_pos h0]; rfl
      rw [if_neg h0, if_neg h0, rtokF l (k + 1) (by omega) (by omega)]
      simp only [Option.bind_some, tl_mk]
      have l3 := tok_len l
      obtain ⟨n, t, hnt⟩ : ∃ n t, tok l = (n, t) := ⟨_, _, rfl⟩
      have hpo := pairOf_of hnt
      simp only [hnt] at l3 ⊢
      have hno : pairOf l = none → broadsheetref18_Parse.j2 (k + 1) (mk s0) (pairsB acc) (mk more) (mk n) (mk t) true = some (fldB (match pairOf l with
          | none => ([], [], 180)
          | some p => fparse s0.length f more (acc ++ [p]))) := fun h => by
        rw [h, broadsheetref18_Parse.j2, if_pos rfl]
        rfl
      by_cases h2 : n = []
      · rw [if_pos h2] at hpo ⊢
        exact hno hpo
      rw [if_neg h2] at hpo ⊢
      cases t with
      | nil =>
        rw [if_pos (show ([] : L).head? ≠ some 58 by simp)] at hpo
        rw [if_pos (show ([] : L) = [] from rfl)]
        exact hno hpo
      | cons c v =>
        simp only [List.length_cons] at l3
        have h58 : ((c.toNat : Int) = 58) ↔ c = 58 := u8i c 58 (by omega)
        rw [if_neg (show ¬ (c :: v = []) by simp), if_pos (by rw [mk_size]; simp only [List.length_cons]; omega), bt_head]
        by_cases c58 : c = 58
        · rw [if_neg (show ¬ ((c :: v).head? ≠ some 58) by simp [c58]), List.tail_cons] at hpo
          rw [if_pos (h58.2 c58), if_pos (by rw [mk_size]; simp only [List.length_cons]; omega), ext1]
          have lt := trim_len v
          rw [rtrimF v (k + 1) (by omega) (by omega)]
          simp only [Option.bind_some]
          rw [rfvalF (trim v) (k + 1) (by omega) (by omega)]
          simp only [Option.bind_some]
          by_cases hfv : fval (trim v) = true
          case neg =>
            have hfv2 : fval (trim v) = false := by simpa using hfv
            rw [if_neg hfv] at hpo
            rw [hfv2]
            exact hno hpo
          case pos =>
            rw [if_pos hfv] at hpo
            rw [broadsheetref18_Parse.j2, if_neg (show ¬ (!fval (trim v)) = true by rw [hfv]; decide), rlowF n k (by omega) (by omega)]
            simp only [Option.bind_some]
            rw [if_pos (by rw [mk_size]; simp only [List.length_cons]; omega), ext1, rtrimF v k (by omega) (by omega)]
            simp only [Option.bind_some]
            rw [if_pos (by rw [pairsB_len]; omega), hpo]
            have := ih f k more (acc ++ [(low n, trim v)]) (by omega) (by omega) (by omega) (by omega) (by simp only [List.length_append, List.length_singleton]; omega)
            rw [pairsB_app] at this
            exact this
        · rw [if_pos (show (c :: v).head? ≠ some 58 by simpa using c58)] at hpo
          rw [if_neg (fun h => c58 (h58.1 h))]
          exact hno hpo
theorem rparseF (s : L) (k : Nat) (hs : s.length ≤ 100000000000) (hk : 6 * s.length + 20 ≤ k) : broadsheetref18_Parse.f k (mk s) = some (fldB (fields s)) := by
  unfold broadsheetref18_Parse.f
  exact rparse_l0 s hs s.length (s.length + 1) k s [] (Nat.le_refl _) (by omega) hk (Nat.le_refl _) (by simp)
def vals (l : List (L × L)) (n : L) : List L := (l.filter fun p => low p.1 == low n).map (·.2)
def get (l : List (L × L)) (n : L) : L × Int := (Lib.join (vals l n) [44, 32], ((vals l n).length : Int))
theorem rd_pairs (l : List (L × L)) (i : Nat) (p : L × L) (h : l[i]? = some p) : rd_T41 (pairsB l) (i : Int) = ⟨mk p.1, mk p.2⟩ := by
  unfold rd_T41 pairsB
  rw [Int.toNat_natCast, List.getD_eq_getElem?_getD, List.getElem?_map, h]
  rfl
theorem vals_cons (p : L × L) (r : List (L × L)) (n : L) : vals (p :: r) n = if low p.1 = low n then p.2 :: vals r n else vals r n := by
  unfold vals
  by_cases h : low p.1 = low n
  · rw [List.filter_cons_of_pos (by simp [h]), if_pos h]
    rfl
  · rw [List.filter_cons_of_neg (by simp [h]), if_neg h]
theorem get_l0 (l : List (L × L)) (n : L) (hn : n.length ≤ 1000000) (hl : l.length ≤ 1000000) (hp : ∀ p ∈ l, p.1.length ≤ 1000000) : ∀ (d k i : Nat) (acc : List L), i + d = l.length → d < k → acc.length ≤ i → (Lib.join (acc ++ vals (l.drop i) n) [44, 32]).length ≤ 140737488355328 →
    field_Get.l0 k (mk n) (acc.map mk) (pairsB l) (l.length : Int) (i : Int) = some (mk (Lib.join (acc ++ vals (l.drop i) n) [44, 32]), ((acc ++ vals (l.drop i) n).length : Int)) := by
  intro d
  induction d with
  | zero =>
    intro k i acc hi hk ha hj
    obtain ⟨k, rfl⟩ : ∃ k', k = k' + 1 := ⟨k - 1, by omega⟩
    rw [List.drop_eq_nil_of_le (by omega)] at hj ⊢
    rw [show vals [] n = [] from rfl, List.append_nil] at hj ⊢
    have hm : (acc.map mk).map (·.data.toList) = acc := by rw [List.map_map]; conv => rhs; rw [← List.map_id acc]
                                                           exact List.map_congr_left (fun x _ => mk_data x)
    rw [field_Get.l0, if_neg (by omega), strings_Join.f]
    unfold joinB
    rw [hm, show (⟨#[44, 32]⟩ : ByteArray).data.toList = [44, 32] from rfl, if_pos ⟨by rw [List.length_map]; omega, hj⟩]
    simp only [Option.bind_some, List.length_map]
    rfl
  | succ d ih =>
    intro k i acc hi hk ha hj
    obtain ⟨k, rfl⟩ : ∃ k', k = k' + 1 := ⟨k - 1, by omega⟩
    have hlt : i < l.length := by omega
    have hw : wrap64 ((i : Int) + 1) = ((i + 1 : Nat) : Int) := by rw [wrap_id (by omega) (by omega)]; omega
    have hmem := hp l[i] (List.getElem_mem hlt)
    rw [List.drop_eq_getElem_cons hlt, vals_cons] at hj ⊢
    rw [field_Get.l0, if_pos (by omega), if_pos (by omega), if_pos (by rw [pairsB_len]; omega), rd_pairs l i l[i] (List.getElem?_eq_getElem hlt), lowF _ (by omega), Option.bind_some, lowF _ (by omega), Option.bind_some, tl_mk, tl_mk]
    by_cases h : low l[i].1 = low n
    · rw [if_pos h] at hj ⊢
      rw [if_pos h, if_pos (by rw [List.length_map]; omega), hw]
      have := ih k (i + 1) (acc ++ [l[i].2]) (by omega) (by omega) (by rw [List.length_append, List.length_singleton]; omega) (by rw [List.append_assoc]; exact hj)
      rw [List.map_append, List.append_assoc] at this
      exact this
    · rw [if_neg h] at hj ⊢
      rw [if_neg h, hw]
      exact ih k (i + 1) acc (by omega) (by omega) (by omega) hj
theorem getF (l : List (L × L)) (n : L) (k : Nat) (hn : n.length ≤ 1000000) (hl : l.length ≤ 1000000) (hp : ∀ p ∈ l, p.1.length ≤ 1000000) (hj : (get l n).1.length ≤ 140737488355328) (hk : l.length < k) : field_Get.f k (pairsB l) (mk n) = some (mk (get l n).1, (get l n).2) := by
  have := get_l0 l n hn hl hp l.length k 0 [] (by omega) hk (by simp) (by simpa [get] using hj)
  unfold field_Get.f
  rw [pairsB_len]
  simpa [get] using this
theorem pairOf_len {l : L} {p : L × L} (h : pairOf l = some p) : p.1.length ≤ l.length ∧ p.2.length ≤ l.length := by
  have h1 : (tok l).1.length ≤ l.length := tw_len _ _
  have h2 : (tok l).2.length ≤ l.length := dw_len _ _
  unfold pairOf at h
  split at h
  · cases h
  · split at h
    · cases h
    · split at h
      · obtain rfl := Option.some.inj h
        have := trim_len (tok l).2.tail
        rw [List.length_tail] at this
        exact ⟨by rw [low_len]; exact h1, by simp only; omega⟩
      · cases h
theorem fparse_len (N M : Nat) : ∀ (f : Nat) (s : L) (acc : List (L × L)), s.length ≤ M → acc.length + s.length ≤ M → (∀ p ∈ acc, p.1.length ≤ M ∧ p.2.length ≤ M) →
    (fparse N f s acc).1.length ≤ M ∧ (∀ p ∈ (fparse N f s acc).1, p.1.length ≤ M ∧ p.2.length ≤ M) ∧ (fparse N f s acc).2.1.length ≤ M := by
  intro f
  induction f with
  | zero => intro s acc _ _ _; simp [fparse]
  | succ f ih =>
    intro s acc hs ha hp
    rw [fparse]
    cases e : line s with
    | none => simp
    | some p =>
      obtain ⟨l, more⟩ := p
      have hl := congrArg List.length (line_len s _ e)
      simp only [List.length_append, List.length_cons] at hl
      simp only
      split
      · simp
      · split
        · exact ⟨by simp only; omega, hp, by simp only; omega⟩
        · cases e2 : pairOf l with
          | none => simp
          | some q =>
            have hq := pairOf_len e2
            refine ih more (acc ++ [q]) (by omega) (by rw [List.length_append, List.length_singleton]; omega) (fun p hpm => ?_)
            rcases List.mem_append.1 hpm with hpm | hpm
            · exact hp p hpm
            · obtain rfl := List.mem_singleton.1 hpm
              exact ⟨by omega, by omega⟩
theorem fields_len (s : L) : (fields s).1.length ≤ s.length ∧ (∀ p ∈ (fields s).1, p.1.length ≤ s.length ∧ p.2.length ≤ s.length) ∧ (fields s).2.1.length ≤ s.length :=
  fparse_len s.length s.length _ s [] (Nat.le_refl _) (by simp) (by simp)
theorem joinTail_len (M : Nat) (r : List L) (h : ∀ x ∈ r, x.length ≤ M) : (Lib.joinTail [44, 32] r).length ≤ r.length * (M + 2) := by
  induction r with
  | nil => simp [Lib.joinTail]
  | cons x r ih =>
    have h1 := ih (fun y hy => h y (List.mem_cons_of_mem _ hy))
    have h2 := h x List.mem_cons_self
    have e : Lib.joinTail [44, 32] (x :: r) = [44, 32] ++ x ++ Lib.joinTail [44, 32] r := by simp [Lib.joinTail]
    rw [e]
    simp only [List.length_append, List.length_cons, List.length_nil]
    rw [Nat.add_mul, Nat.one_mul]
    omega
theorem join_len (M : Nat) (l : List L) (h : ∀ x ∈ l, x.length ≤ M) : (Lib.join l [44, 32]).length ≤ l.length * (M + 2) := by
  cases l with
  | nil => simp [Lib.join_nil]
  | cons x r =>
    have h1 := joinTail_len M r (fun y hy => h y (List.mem_cons_of_mem _ hy))
    have h2 := h x List.mem_cons_self
    rw [Lib.join_cons, List.length_append, List.length_cons, Nat.succ_mul]
    omega
theorem vals_len (l : List (L × L)) (n : L) : (vals l n).length ≤ l.length := by
  unfold vals
  rw [List.length_map]
  exact List.length_filter_le _ _
theorem get_len (l : List (L × L)) (n : L) (M : Nat) (h : ∀ p ∈ l, p.2.length ≤ M) : (get l n).1.length ≤ l.length * (M + 2) := by
  have h1 := join_len M (vals l n) (fun x hx => by
    unfold vals at hx
    obtain ⟨p, hp, rfl⟩ := List.mem_map.1 hx
    exact h p (List.mem_filter.1 hp).1)
  exact Nat.le_trans h1 (Nat.mul_le_mul_right _ (vals_len l n))
end Go.Proofs.YtaopopnlnohnpaaGreatDoor.Sp
