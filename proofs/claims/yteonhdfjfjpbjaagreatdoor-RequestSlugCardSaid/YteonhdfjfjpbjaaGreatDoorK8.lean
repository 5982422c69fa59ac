/- Texts of this seat, joined: lemmas and walks that its statements' proofs use. -/
import Derived.Test.YteonhdfjfjpbjaaGreatDoorK1
import Derived.Test.YteonhdfjfjpbjaaGreatDoorK4
import Derived.Test.YteonhdfjfjpbjaaGreatDoorK5
/- Px54 -/
namespace Go.Proofs.YteonhdfjfjpbjaaGreatDoor.P
open Go.Proofs.YteonhdfjfjpbjaaGreatDoor.B
open Go.RowKit Go.Proofs.YteonhdfjfjpbjaaGreatDoorW.PrintWords Go.Proofs.YteonhdfjfjpbjaaGreatDoorW.PrintLast Go.Proofs.YteonhdfjfjpbjaaGreatDoorW.PrintMore
attribute [local go_sem] str_leq str_gtr str_geq max2_int min2_int max_two min_two max_three min_three max_four min_four
set_option linter.unusedVariables false
set_option linter.unusedSimpArgs false
open Go.Proofs.YteonhdfjfjpbjaaGreatDoor.O
def broadsheetlaw20_RequestSlug.l0 : Nat → Bool → ByteArray → Int → Option (Bool)
  | 0, _, _, _ => none
  | k + 1, x3, x4, x5 => if x5 < (x4.size : Int) then (if 0 ≤ x5 then (if (bt x4 x5) ≥ 97 then (if (bt x4 x5) ≤ 122 then (broadsheetlaw20_RequestSlug.l0 k x3 x4 (wrap64 (x5 + 1))) else (if (bt x4 x5) ≥ 48 then (if ((bt x4 x5) ≤ 57) then (broadsheetlaw20_RequestSlug.l0 k x3 x4 (wrap64 (x5 + 1))) else (if (bt x4 x5) = 45 then (if x5 = 0 then (some false) else (if x5 = (wrap64 ((x4.size : Int) - 1)) then (some false) else (if 0 ≤ (wrap64 (x5 - 1)) then (if (wrap64 (x5 - 1)) < (x4.size : Int) then (if (bt x4 (wrap64 (x5 - 1))) = 45 then (some false) else (broadsheetlaw20_RequestSlug.l0 k x3 x4 (wrap64 (x5 + 1)))) else (none)) else (none)))) else (some false))) else (if (bt x4 x5) = 45 then (if x5 = 0 then (some false) else (if x5 = (wrap64 ((x4.size : Int) - 1)) then (some false) else (if 0 ≤ (wrap64 (x5 - 1)) then (if (wrap64 (x5 - 1)) < (x4.size : Int) then (if (bt x4 (wrap64 (x5 - 1))) = 45 then (some false) else (broadsheetlaw20_RequestSlug.l0 k x3 x4 (wrap64 (x5 + 1)))) else (none)) else (none)))) else (some false)))) else (if (bt x4 x5) ≥ 48 then (if ((bt x4 x5) ≤ 57) then (broadsheetlaw20_RequestSlug.l0 k x3 x4 (wrap64 (x5 + 1))) else (if (bt x4 x5) = 45 then (if x5 = 0 then (some false) else (if x5 = (wrap64 ((x4.size : Int) - 1)) then (some false) else (if 0 ≤ (wrap64 (x5 - 1)) then (if (wrap64 (x5 - 1)) < (x4.size : Int) then (if (bt x4 (wrap64 (x5 - 1))) = 45 then (some false) else (broadsheetlaw20_RequestSlug.l0 k x3 x4 (wrap64 (x5 + 1)))) else (none)) else (none)))) else (some false))) else (if (bt x4 x5) = 45 then (if x5 = 0 then (some false) else (if x5 = (wrap64 ((x4.size : Int) - 1)) then (some false) else (if 0 ≤ (wrap64 (x5 - 1)) then (if (wrap64 (x5 - 1)) < (x4.size : Int) then (if (bt x4 (wrap64 (x5 - 1))) = 45 then (some false) else (broadsheetlaw20_RequestSlug.l0 k x3 x4 (wrap64 (x5 + 1)))) else (none)) else (none)))) else (some false)))) else (none)) else (if x3 = true then (if (x4.size : Int) ≤ 20 then ((request_Slug.f x4).bind fun t437 => (some (t437.toList == x4.toList))) else (some false)) else (some false))
def broadsheetlaw20_RequestSlug.f (k : Nat) (a0 : ByteArray) : Option (Bool) := (broadsheetlaw20_awake.f).bind fun t435 => (if t435 = true then (if (a0.size : Int) > 2000 then (some t435) else ((request_Slug.f a0).bind fun t436 => (broadsheetlaw20_RequestSlug.l0 k t435 t436 0))) else (some false))
set_option maxHeartbeats 8000000 in
set_option maxRecDepth 100000 in
theorem broadsheetlaw20_RequestSlug.calls (k : Nat) (a0 : ByteArray) (r : Bool) (w : World) (hG : Glob w) (h : broadsheetlaw20_RequestSlug.f k a0 = some r) (hr : r = true) :
  Calls Tryz.prog 8 #[.string a0] w fun e w' => e = .returned (.bool r) ∧ Below w.heap.size w w' := by
 have HB := Aside0.mk (Below.refl w.heap.size w)
 have hGA := Aside0.mk hG
 clear hG
 have H : ((broadsheetlaw20_awake.f).bind fun t435 => (if t435 = true then (if (a0.size : Int) > 2000 then (some t435) else ((request_Slug.f a0).bind fun t436 => (broadsheetlaw20_RequestSlug.l0 k t435 t436 0))) else (some false))) = some r := h
 clear h
 replace H := Option.bind_eq_some_iff.mp H
 obtain ⟨t435, A20, H⟩ := H
 replace H : (if t435 = true then (if (a0.size : Int) > 2000 then (some t435) else ((request_Slug.f a0).bind fun t436 => (broadsheetlaw20_RequestSlug.l0 k t435 t436 0))) else (some false)) = some r := H
 have A2 := Aside0.mk A20
 clear A20
 by_cases c3 : t435 = true
 ·subst c3
  replace H : (if (a0.size : Int) > 2000 then (some true) else ((request_Slug.f a0).bind fun t436 => (broadsheetlaw20_RequestSlug.l0 k true t436 0))) = some r := by first | (rw [if_pos rfl] at H; exact H) | (rw [if_pos trivial] at H; exact H)
  by_cases c4 : (a0.size : Int) > 2000
  ·rw [if_pos c4] at H
   have c4b0 : decide (2000 < (a0.size : Int)) = true := decide_eq_true c4
   have c4b1 : decide (2000 < a0.size) = true := decide_eq_true zb16
   clear c4
   obtain rfl := Option.some.inj H
   go_enter Tryz.func8, Tryz.ntmps8
   go_wp2_with (first | ((with_reducible refine gate_callee (f := 16) rfl ?_); refine goesL_ (some 8) rfl rfl Tryz.func16 zb12 rfl #[] rfl zb1 ?_; (with_reducible refine (broadsheetlaw20_awake.calls  true _ ?side1 A2.out (by first | rfl | exact hr)).mono ?_); (case side1 => exact Glob.below hGA.out zb0); rintro e w5 ⟨rfl, hb⟩; refine ⟨_, rfl, ?_⟩; have n0_ := Aside0.mk (below_step zb0 hb); clear HB; have HB := n0_; clear n0_; (try clear hb); (try clear hb2); (try clear hk); (try clear hi)))
   go_ret
   exact ⟨zb3, zb0⟩
  ·rw [if_neg c4] at H
   have c4b0 : decide (2000 < (a0.size : Int)) = false := decide_eq_false c4
   have c4b1 : decide (2000 < a0.size) = false := decide_eq_false zb16
   clear c4
   replace H := Option.bind_eq_some_iff.mp H
   obtain ⟨t436, A60, H⟩ := H
   replace H : (broadsheetlaw20_RequestSlug.l0 k true t436 0) = some r := H
   have A6 := Aside0.mk A60
   clear A60
   have H' := Aside0.mk H
   clear H
   go_enter Tryz.func8, Tryz.ntmps8
   go_wp2_with (first | ((with_reducible refine gate_callee (f := 16) rfl ?_); refine goesL_ (some 8) rfl rfl Tryz.func16 zb12 rfl #[] rfl zb1 ?_; (with_reducible refine (broadsheetlaw20_awake.calls  true _ ?side1 A2.out (by first | rfl | exact hr)).mono ?_); (case side1 => exact Glob.below hGA.out zb0); rintro e w7 ⟨rfl, hb⟩; refine ⟨_, rfl, ?_⟩; have n0_ := Aside0.mk (below_step zb0 hb); clear HB; have HB := n0_; clear n0_; (try clear hb); (try clear hb2); (try clear hk); (try clear hi)) | ((with_reducible refine gate_callee (f := 22) rfl ?_); refine goesL_ (some 16) rfl rfl Tryz.func22 zb12 rfl #[.string a0] rfl zb1 ?_; (with_reducible refine (request_Slug.calls a0 t436 _ ?side1 A6.out).mono ?_); (case side1 => exact Glob.below hGA.out zb0); rintro e w8 ⟨rfl, hb⟩; refine ⟨_, rfl, ?_⟩; have n0_ := Aside0.mk (below_step zb0 hb); clear HB; have HB := n0_; clear n0_; (try clear hb); (try clear hb2); (try clear hk); (try clear hi)))
   first | go_loopg [5] k (fun kq v5 w' => ∃ (x5_1 : Int), v5 = .int .i64 x5_1 ∧ Aside0 (broadsheetlaw20_RequestSlug.l0 kq true t436 x5_1 = some r) ∧ Aside0 (kq ≤ k) ∧ Aside0 (Below w.heap.size w w')) | (go_simp; go_loopg [5] k (fun kq v5 w' => ∃ (x5_1 : Int), v5 = .int .i64 x5_1 ∧ Aside0 (broadsheetlaw20_RequestSlug.l0 kq true t436 x5_1 = some r) ∧ Aside0 (kq ≤ k) ∧ Aside0 (Below w.heap.size w w')))
   case atStart => exact ⟨(0), zb4, H', ⟨Nat.le_refl _⟩, ⟨by repeat (first | (with_reducible first | exact HB.out | apply below_alloc | apply pw_below_drewN | apply below_drew1) | exact HB.out)⟩⟩
   case round =>
    clear H'
    try clear c1
    try clear c2
    try clear p2
    try clear c3
    try clear c4
    try clear c4b0
    try clear c4b1
    try clear c8
    obtain ⟨x5_1, rfl, HA, HK1, HB⟩ := hrel
    cases gk with
    | zero => exact absurd HA.out (by simp [broadsheetlaw20_RequestSlug.l0])
    | succ k1 =>
     have H := HA.out
     clear HA
     simp only [broadsheetlaw20_RequestSlug.l0] at H
     by_cases c9 : x5_1 < (t436.size : Int)
     ·rw [if_pos c9] at H
      have c9b0 : decide (x5_1 < (t436.size : Int)) = true := decide_eq_true c9
      clear c9
      by_cases c10 : 0 ≤ x5_1
      ·rw [if_pos c10] at H
       have c10b0 : decide (0 ≤ x5_1) = true := decide_eq_true c10
       clear c10
       by_cases c12 : (bt t436 x5_1) ≥ 97
       ·rw [if_pos c12] at H
        have c12b0 : decide (97 ≤ (bt t436 x5_1)) = true := decide_eq_true c12
        clear c12
        by_cases c13 : (bt t436 x5_1) ≤ 122
        ·rw [if_pos c13] at H
         have c13b0 : decide ((bt t436 x5_1) ≤ 122) = true := decide_eq_true c13
         clear c13
         have H' := Aside0.mk H
         clear H
         have p11 : 0 ≤ (x5_1 : Int) := of_decide_eq_true zb2
         have q11 : x5_1 < (t436.size : Int) := of_decide_eq_true zb2
         have hx11 := bt_at t436 x5_1
         replace p11 := eq_true p11
         replace q11 := eq_true q11
         go_wp2
         go_roundg k1
         case measure => have := HK1.out; omega
         case rel => exact ⟨(wrap64 (x5_1 + 1)), zb4, H', ⟨by have := HK1.out; omega⟩, ⟨by repeat (first | (with_reducible first | exact HB.out | apply below_alloc | apply pw_below_drewN | apply below_drew1) | exact HB.out)⟩⟩
        ·rw [if_neg c13] at H
         have c13b0 : decide ((bt t436 x5_1) ≤ 122) = false := decide_eq_false c13
         clear c13
         by_cases c14 : (bt t436 x5_1) ≥ 48
         ·rw [if_pos c14] at H
          have c14b0 : decide (48 ≤ (bt t436 x5_1)) = true := decide_eq_true c14
          clear c14
          by_cases c15 : ((bt t436 x5_1) ≤ 57)
          ·rw [if_pos c15] at H
           have c15b0 : decide ((bt t436 x5_1) ≤ 57) = true := decide_eq_true c15
           clear c15
           have H' := Aside0.mk H
           clear H
           have p11 : 0 ≤ (x5_1 : Int) := of_decide_eq_true zb2
           have q11 : x5_1 < (t436.size : Int) := of_decide_eq_true zb2
           have hx11 := bt_at t436 x5_1
           replace p11 := eq_true p11
           replace q11 := eq_true q11
           go_wp2
           go_roundg k1
           case measure => have := HK1.out; omega
           case rel => exact ⟨(wrap64 (x5_1 + 1)), zb4, H', ⟨by have := HK1.out; omega⟩, ⟨by repeat (first | (with_reducible first | exact HB.out | apply below_alloc | apply pw_below_drewN | apply below_drew1) | exact HB.out)⟩⟩
          ·rw [if_neg c15] at H
           have c15b0 : decide ((bt t436 x5_1) ≤ 57) = false := decide_eq_false c15
           clear c15
           by_cases c16 : (bt t436 x5_1) = 45
           ·rw [if_pos c16] at H
            have c16b0 : ((bt t436 x5_1) == 45) = true := beq_iff_eq.mpr c16
            have c16b1 : ((bt t436 x5_1) != 45) = false := bne_eq_false_iff_eq.mpr c16
            clear c16
            by_cases c17 : x5_1 = 0
            ·rw [if_pos c17] at H
             have c17b0 : (x5_1 == 0) = true := beq_iff_eq.mpr c17
             have c17b1 : (x5_1 != 0) = false := bne_eq_false_iff_eq.mpr c17
             clear c17
             obtain rfl := Option.some.inj H
             have p11 : 0 ≤ (x5_1 : Int) := of_decide_eq_true zb2
             have q11 : x5_1 < (t436.size : Int) := of_decide_eq_true zb2
             have hx11 := bt_at t436 x5_1
             replace p11 := eq_true p11
             replace q11 := eq_true q11
             go_wp2
             go_ret
             exact ⟨zb3, zb0⟩
            ·rw [if_neg c17] at H
             have c17b0 : (x5_1 == 0) = false := beq_eq_false_iff_ne.mpr c17
             have c17b1 : (x5_1 != 0) = true := bne_iff_ne.mpr c17
             by_cases c18 : x5_1 = (wrap64 ((t436.size : Int) - 1))
             ·rw [if_pos c18] at H
              have c18b0 : (x5_1 == (wrap64 ((t436.size : Int) - 1))) = true := beq_iff_eq.mpr c18
              have c18b1 : (x5_1 != (wrap64 ((t436.size : Int) - 1))) = false := bne_eq_false_iff_eq.mpr c18
              clear c18
              obtain rfl := Option.some.inj H
              have p11 : 0 ≤ (x5_1 : Int) := of_decide_eq_true zb2
              have q11 : x5_1 < (t436.size : Int) := of_decide_eq_true zb2
              have hx11 := bt_at t436 x5_1
              replace p11 := eq_true p11
              replace q11 := eq_true q11
              go_wp2
              go_ret
              exact ⟨zb3, zb0⟩
             ·rw [if_neg c18] at H
              have c18b0 : (x5_1 == (wrap64 ((t436.size : Int) - 1))) = false := beq_eq_false_iff_ne.mpr c18
              have c18b1 : (x5_1 != (wrap64 ((t436.size : Int) - 1))) = true := bne_iff_ne.mpr c18
              obtain ⟨ji19, hji19⟩ : ∃ j_ : Int, (wrap64 (x5_1 - 1)) = j_ := ⟨_, rfl⟩
              replace H : (if 0 ≤ (ji19) then (if (ji19) < (t436.size : Int) then (if (bt t436 (ji19)) = 45 then (some false) else (broadsheetlaw20_RequestSlug.l0 k1 true t436 (wrap64 (x5_1 + 1)))) else (none)) else (none)) = some r := by first | (rw [hji19] at H; exact H) | (simp only [hji19] at H ⊢; exact H)
              have hji19w : (IntKind.i64.wrap (x5_1 - 1)) = ji19 := (i64_w _).trans hji19
              by_cases c20 : 0 ≤ (ji19)
              ·rw [if_pos c20] at H
               have c20b0 : decide (0 ≤ (ji19)) = true := decide_eq_true c20
               clear c20
               by_cases c21 : (ji19) < (t436.size : Int)
               ·rw [if_pos c21] at H
                have c21b0 : decide ((ji19) < (t436.size : Int)) = true := decide_eq_true c21
                clear c21
                by_cases c23 : (bt t436 (ji19)) = 45
                ·rw [if_pos c23] at H
                 have c23b0 : ((bt t436 (ji19)) == 45) = true := beq_iff_eq.mpr c23
                 have c23b1 : ((bt t436 (ji19)) != 45) = false := bne_eq_false_iff_eq.mpr c23
                 clear c23
                 exact absurd ((Option.some.inj H).trans hr) zb19
                ·rw [if_neg c23] at H
                 have c23b0 : ((bt t436 (ji19)) == 45) = false := beq_eq_false_iff_ne.mpr c23
                 have c23b1 : ((bt t436 (ji19)) != 45) = true := bne_iff_ne.mpr c23
                 have H' := Aside0.mk H
                 clear H
                 have p11 : 0 ≤ (x5_1 : Int) := of_decide_eq_true zb2
                 have q11 : x5_1 < (t436.size : Int) := of_decide_eq_true zb2
                 have hx11 := bt_at t436 x5_1
                 replace p11 := eq_true p11
                 replace q11 := eq_true q11
                 have p22 : 0 ≤ ((ji19) : Int) := of_decide_eq_true zb2
                 have q22 : (ji19) < (t436.size : Int) := of_decide_eq_true zb2
                 have hx22 := bt_at t436 (ji19)
                 replace p22 := eq_true p22
                 replace q22 := eq_true q22
                 go_wp2
                 go_roundg k1
                 case measure => have := HK1.out; omega
                 case rel => exact ⟨(wrap64 (x5_1 + 1)), zb4, H', ⟨by have := HK1.out; omega⟩, ⟨by repeat (first | (with_reducible first | exact HB.out | apply below_alloc | apply pw_below_drewN | apply below_drew1) | exact HB.out)⟩⟩
               ·rw [if_neg c21] at H
                exact absurd H zb22
              ·rw [if_neg c20] at H
               exact absurd H zb22
           ·rw [if_neg c16] at H
            have c16b0 : ((bt t436 x5_1) == 45) = false := beq_eq_false_iff_ne.mpr c16
            have c16b1 : ((bt t436 x5_1) != 45) = true := bne_iff_ne.mpr c16
            obtain rfl := Option.some.inj H
            have p11 : 0 ≤ (x5_1 : Int) := of_decide_eq_true zb2
            have q11 : x5_1 < (t436.size : Int) := of_decide_eq_true zb2
            have hx11 := bt_at t436 x5_1
            replace p11 := eq_true p11
            replace q11 := eq_true q11
            go_wp2
            go_ret
            exact ⟨zb3, zb0⟩
         ·rw [if_neg c14] at H
          have c14b0 : decide (48 ≤ (bt t436 x5_1)) = false := decide_eq_false c14
          clear c14
          by_cases c24 : (bt t436 x5_1) = 45
          ·rw [if_pos c24] at H
           have c24b0 : ((bt t436 x5_1) == 45) = true := beq_iff_eq.mpr c24
           have c24b1 : ((bt t436 x5_1) != 45) = false := bne_eq_false_iff_eq.mpr c24
           clear c24
           by_cases c25 : x5_1 = 0
           ·rw [if_pos c25] at H
            have c25b0 : (x5_1 == 0) = true := beq_iff_eq.mpr c25
            have c25b1 : (x5_1 != 0) = false := bne_eq_false_iff_eq.mpr c25
            clear c25
            obtain rfl := Option.some.inj H
            have p11 : 0 ≤ (x5_1 : Int) := of_decide_eq_true zb2
            have q11 : x5_1 < (t436.size : Int) := of_decide_eq_true zb2
            have hx11 := bt_at t436 x5_1
            replace p11 := eq_true p11
            replace q11 := eq_true q11
            go_wp2
            go_ret
            exact ⟨zb3, zb0⟩
           ·rw [if_neg c25] at H
            have c25b0 : (x5_1 == 0) = false := beq_eq_false_iff_ne.mpr c25
            have c25b1 : (x5_1 != 0) = true := bne_iff_ne.mpr c25
            by_cases c26 : x5_1 = (wrap64 ((t436.size : Int) - 1))
            ·rw [if_pos c26] at H
             have c26b0 : (x5_1 == (wrap64 ((t436.size : Int) - 1))) = true := beq_iff_eq.mpr c26
             have c26b1 : (x5_1 != (wrap64 ((t436.size : Int) - 1))) = false := bne_eq_false_iff_eq.mpr c26
             clear c26
             obtain rfl := Option.some.inj H
             have p11 : 0 ≤ (x5_1 : Int) := of_decide_eq_true zb2
             have q11 : x5_1 < (t436.size : Int) := of_decide_eq_true zb2
             have hx11 := bt_at t436 x5_1
             replace p11 := eq_true p11
             replace q11 := eq_true q11
             go_wp2
             go_ret
             exact ⟨zb3, zb0⟩
            ·rw [if_neg c26] at H
             have c26b0 : (x5_1 == (wrap64 ((t436.size : Int) - 1))) = false := beq_eq_false_iff_ne.mpr c26
             have c26b1 : (x5_1 != (wrap64 ((t436.size : Int) - 1))) = true := bne_iff_ne.mpr c26
             obtain ⟨ji27, hji27⟩ : ∃ j_ : Int, (wrap64 (x5_1 - 1)) = j_ := ⟨_, rfl⟩
             replace H : (if 0 ≤ (ji27) then (if (ji27) < (t436.size : Int) then (if (bt t436 (ji27)) = 45 then (some false) else (broadsheetlaw20_RequestSlug.l0 k1 true t436 (wrap64 (x5_1 + 1)))) else (none)) else (none)) = some r := by first | (rw [hji27] at H; exact H) | (simp only [hji27] at H ⊢; exact H)
             have hji27w : (IntKind.i64.wrap (x5_1 - 1)) = ji27 := (i64_w _).trans hji27
             by_cases c28 : 0 ≤ (ji27)
             ·rw [if_pos c28] at H
              have c28b0 : decide (0 ≤ (ji27)) = true := decide_eq_true c28
              clear c28
              by_cases c29 : (ji27) < (t436.size : Int)
              ·rw [if_pos c29] at H
               have c29b0 : decide ((ji27) < (t436.size : Int)) = true := decide_eq_true c29
               clear c29
               by_cases c31 : (bt t436 (ji27)) = 45
               ·rw [if_pos c31] at H
                have c31b0 : ((bt t436 (ji27)) == 45) = true := beq_iff_eq.mpr c31
                have c31b1 : ((bt t436 (ji27)) != 45) = false := bne_eq_false_iff_eq.mpr c31
                clear c31
                exact absurd ((Option.some.inj H).trans hr) zb19
               ·rw [if_neg c31] at H
                have c31b0 : ((bt t436 (ji27)) == 45) = false := beq_eq_false_iff_ne.mpr c31
                have c31b1 : ((bt t436 (ji27)) != 45) = true := bne_iff_ne.mpr c31
                have H' := Aside0.mk H
                clear H
                have p11 : 0 ≤ (x5_1 : Int) := of_decide_eq_true zb2
                have q11 : x5_1 < (t436.size : Int) := of_decide_eq_true zb2
                have hx11 := bt_at t436 x5_1
                replace p11 := eq_true p11
                replace q11 := eq_true q11
                have p30 : 0 ≤ ((ji27) : Int) := of_decide_eq_true zb2
                have q30 : (ji27) < (t436.size : Int) := of_decide_eq_true zb2
                have hx30 := bt_at t436 (ji27)
                replace p30 := eq_true p30
                replace q30 := eq_true q30
                go_wp2
                go_roundg k1
                case measure => have := HK1.out; omega
                case rel => exact ⟨(wrap64 (x5_1 + 1)), zb4, H', ⟨by have := HK1.out; omega⟩, ⟨by repeat (first | (with_reducible first | exact HB.out | apply below_alloc | apply pw_below_drewN | apply below_drew1) | exact HB.out)⟩⟩
              ·rw [if_neg c29] at H
               exact absurd H zb22
             ·rw [if_neg c28] at H
              exact absurd H zb22
          ·rw [if_neg c24] at H
           have c24b0 : ((bt t436 x5_1) == 45) = false := beq_eq_false_iff_ne.mpr c24
           have c24b1 : ((bt t436 x5_1) != 45) = true := bne_iff_ne.mpr c24
           obtain rfl := Option.some.inj H
           have p11 : 0 ≤ (x5_1 : Int) := of_decide_eq_true zb2
           have q11 : x5_1 < (t436.size : Int) := of_decide_eq_true zb2
           have hx11 := bt_at t436 x5_1
           replace p11 := eq_true p11
           replace q11 := eq_true q11
           go_wp2
           go_ret
           exact ⟨zb3, zb0⟩
       ·rw [if_neg c12] at H
        have c12b0 : decide (97 ≤ (bt t436 x5_1)) = false := decide_eq_false c12
        clear c12
        by_cases c32 : (bt t436 x5_1) ≥ 48
        ·rw [if_pos c32] at H
         have c32b0 : decide (48 ≤ (bt t436 x5_1)) = true := decide_eq_true c32
         clear c32
         by_cases c33 : ((bt t436 x5_1) ≤ 57)
         ·rw [if_pos c33] at H
          have c33b0 : decide ((bt t436 x5_1) ≤ 57) = true := decide_eq_true c33
          clear c33
          have H' := Aside0.mk H
          clear H
          have p11 : 0 ≤ (x5_1 : Int) := of_decide_eq_true zb2
          have q11 : x5_1 < (t436.size : Int) := of_decide_eq_true zb2
          have hx11 := bt_at t436 x5_1
          replace p11 := eq_true p11
          replace q11 := eq_true q11
          go_wp2
          go_roundg k1
          case measure => have := HK1.out; omega
          case rel => exact ⟨(wrap64 (x5_1 + 1)), zb4, H', ⟨by have := HK1.out; omega⟩, ⟨by repeat (first | (with_reducible first | exact HB.out | apply below_alloc | apply pw_below_drewN | apply below_drew1) | exact HB.out)⟩⟩
         ·rw [if_neg c33] at H
          have c33b0 : decide ((bt t436 x5_1) ≤ 57) = false := decide_eq_false c33
          clear c33
          by_cases c34 : (bt t436 x5_1) = 45
          ·rw [if_pos c34] at H
           have c34b0 : ((bt t436 x5_1) == 45) = true := beq_iff_eq.mpr c34
           have c34b1 : ((bt t436 x5_1) != 45) = false := bne_eq_false_iff_eq.mpr c34
           clear c34
           by_cases c35 : x5_1 = 0
           ·rw [if_pos c35] at H
            have c35b0 : (x5_1 == 0) = true := beq_iff_eq.mpr c35
            have c35b1 : (x5_1 != 0) = false := bne_eq_false_iff_eq.mpr c35
            clear c35
            obtain rfl := Option.some.inj H
            have p11 : 0 ≤ (x5_1 : Int) := of_decide_eq_true zb2
            have q11 : x5_1 < (t436.size : Int) := of_decide_eq_true zb2
            have hx11 := bt_at t436 x5_1
            replace p11 := eq_true p11
            replace q11 := eq_true q11
            go_wp2
            go_ret
            exact ⟨zb3, zb0⟩
           ·rw [if_neg c35] at H
            have c35b0 : (x5_1 == 0) = false := beq_eq_false_iff_ne.mpr c35
            have c35b1 : (x5_1 != 0) = true := bne_iff_ne.mpr c35
            by_cases c36 : x5_1 = (wrap64 ((t436.size : Int) - 1))
            ·rw [if_pos c36] at H
             have c36b0 : (x5_1 == (wrap64 ((t436.size : Int) - 1))) = true := beq_iff_eq.mpr c36
             have c36b1 : (x5_1 != (wrap64 ((t436.size : Int) - 1))) = false := bne_eq_false_iff_eq.mpr c36
             clear c36
             obtain rfl := Option.some.inj H
             have p11 : 0 ≤ (x5_1 : Int) := of_decide_eq_true zb2
             have q11 : x5_1 < (t436.size : Int) := of_decide_eq_true zb2
             have hx11 := bt_at t436 x5_1
             replace p11 := eq_true p11
             replace q11 := eq_true q11
             go_wp2
             go_ret
             exact ⟨zb3, zb0⟩
            ·rw [if_neg c36] at H
             have c36b0 : (x5_1 == (wrap64 ((t436.size : Int) - 1))) = false := beq_eq_false_iff_ne.mpr c36
             have c36b1 : (x5_1 != (wrap64 ((t436.size : Int) - 1))) = true := bne_iff_ne.mpr c36
             obtain ⟨ji37, hji37⟩ : ∃ j_ : Int, (wrap64 (x5_1 - 1)) = j_ := ⟨_, rfl⟩
             replace H : (if 0 ≤ (ji37) then (if (ji37) < (t436.size : Int) then (if (bt t436 (ji37)) = 45 then (some false) else (broadsheetlaw20_RequestSlug.l0 k1 true t436 (wrap64 (x5_1 + 1)))) else (none)) else (none)) = some r := by first | (rw [hji37] at H; exact H) | (simp only [hji37] at H ⊢; exact H)
             have hji37w : (IntKind.i64.wrap (x5_1 - 1)) = ji37 := (i64_w _).trans hji37
             by_cases c38 : 0 ≤ (ji37)
             ·rw [if_pos c38] at H
              have c38b0 : decide (0 ≤ (ji37)) = true := decide_eq_true c38
              clear c38
              by_cases c39 : (ji37) < (t436.size : Int)
              ·rw [if_pos c39] at H
               have c39b0 : decide ((ji37) < (t436.size : Int)) = true := decide_eq_true c39
               clear c39
               by_cases c41 : (bt t436 (ji37)) = 45
               ·rw [if_pos c41] at H
                have c41b0 : ((bt t436 (ji37)) == 45) = true := beq_iff_eq.mpr c41
                have c41b1 : ((bt t436 (ji37)) != 45) = false := bne_eq_false_iff_eq.mpr c41
                clear c41
                exact absurd ((Option.some.inj H).trans hr) zb19
               ·rw [if_neg c41] at H
                have c41b0 : ((bt t436 (ji37)) == 45) = false := beq_eq_false_iff_ne.mpr c41
                have c41b1 : ((bt t436 (ji37)) != 45) = true := bne_iff_ne.mpr c41
                have H' := Aside0.mk H
                clear H
                have p11 : 0 ≤ (x5_1 : Int) := of_decide_eq_true zb2
                have q11 : x5_1 < (t436.size : Int) := of_decide_eq_true zb2
                have hx11 := bt_at t436 x5_1
                replace p11 := eq_true p11
                replace q11 := eq_true q11
                have p40 : 0 ≤ ((ji37) : Int) := of_decide_eq_true zb2
                have q40 : (ji37) < (t436.size : Int) := of_decide_eq_true zb2
                have hx40 := bt_at t436 (ji37)
                replace p40 := eq_true p40
                replace q40 := eq_true q40
                go_wp2
                go_roundg k1
                case measure => have := HK1.out; omega
                case rel => exact ⟨(wrap64 (x5_1 + 1)), zb4, H', ⟨by have := HK1.out; omega⟩, ⟨by repeat (first | (with_reducible first | exact HB.out | apply below_alloc | apply pw_below_drewN | apply below_drew1) | exact HB.out)⟩⟩
              ·rw [if_neg c39] at H
               exact absurd H zb22
             ·rw [if_neg c38] at H
              exact absurd H zb22
          ·rw [if_neg c34] at H
           have c34b0 : ((bt t436 x5_1) == 45) = false := beq_eq_false_iff_ne.mpr c34
           have c34b1 : ((bt t436 x5_1) != 45) = true := bne_iff_ne.mpr c34
           obtain rfl := Option.some.inj H
           have p11 : 0 ≤ (x5_1 : Int) := of_decide_eq_true zb2
           have q11 : x5_1 < (t436.size : Int) := of_decide_eq_true zb2
           have hx11 := bt_at t436 x5_1
           replace p11 := eq_true p11
           replace q11 := eq_true q11
           go_wp2
           go_ret
           exact ⟨zb3, zb0⟩
        ·rw [if_neg c32] at H
         have c32b0 : decide (48 ≤ (bt t436 x5_1)) = false := decide_eq_false c32
         clear c32
         by_cases c42 : (bt t436 x5_1) = 45
         ·rw [if_pos c42] at H
          have c42b0 : ((bt t436 x5_1) == 45) = true := beq_iff_eq.mpr c42
          have c42b1 : ((bt t436 x5_1) != 45) = false := bne_eq_false_iff_eq.mpr c42
          clear c42
          by_cases c43 : x5_1 = 0
          ·rw [if_pos c43] at H
           have c43b0 : (x5_1 == 0) = true := beq_iff_eq.mpr c43
           have c43b1 : (x5_1 != 0) = false := bne_eq_false_iff_eq.mpr c43
           clear c43
           obtain rfl := Option.some.inj H
           have p11 : 0 ≤ (x5_1 : Int) := of_decide_eq_true zb2
           have q11 : x5_1 < (t436.size : Int) := of_decide_eq_true zb2
           have hx11 := bt_at t436 x5_1
           replace p11 := eq_true p11
           replace q11 := eq_true q11
           go_wp2
           go_ret
           exact ⟨zb3, zb0⟩
          ·rw [if_neg c43] at H
           have c43b0 : (x5_1 == 0) = false := beq_eq_false_iff_ne.mpr c43
           have c43b1 : (x5_1 != 0) = true := bne_iff_ne.mpr c43
           by_cases c44 : x5_1 = (wrap64 ((t436.size : Int) - 1))
           ·rw [if_pos c44] at H
            have c44b0 : (x5_1 == (wrap64 ((t436.size : Int) - 1))) = true := beq_iff_eq.mpr c44
            have c44b1 : (x5_1 != (wrap64 ((t436.size : Int) - 1))) = false := bne_eq_false_iff_eq.mpr c44
            clear c44
            obtain rfl := Option.some.inj H
            have p11 : 0 ≤ (x5_1 : Int) := of_decide_eq_true zb2
            have q11 : x5_1 < (t436.size : Int) := of_decide_eq_true zb2
            have hx11 := bt_at t436 x5_1
            replace p11 := eq_true p11
            replace q11 := eq_true q11
            go_wp2
            go_ret
            exact ⟨zb3, zb0⟩
           ·rw [if_neg c44] at H
            have c44b0 : (x5_1 == (wrap64 ((t436.size : Int) - 1))) = false := beq_eq_false_iff_ne.mpr c44
            have c44b1 : (x5_1 != (wrap64 ((t436.size : Int) - 1))) = true := bne_iff_ne.mpr c44
            obtain ⟨ji45, hji45⟩ : ∃ j_ : Int, (wrap64 (x5_1 - 1)) = j_ := ⟨_, rfl⟩
            replace H : (if 0 ≤ (ji45) then (if (ji45) < (t436.size : Int) then (if (bt t436 (ji45)) = 45 then (some false) else (broadsheetlaw20_RequestSlug.l0 k1 true t436 (wrap64 (x5_1 + 1)))) else (none)) else (none)) = some r := by first | (rw [hji45] at H; exact H) | (simp only [hji45] at H ⊢; exact H)
            have hji45w : (IntKind.i64.wrap (x5_1 - 1)) = ji45 := (i64_w _).trans hji45
            by_cases c46 : 0 ≤ (ji45)
            ·rw [if_pos c46] at H
             have c46b0 : decide (0 ≤ (ji45)) = true := decide_eq_true c46
             clear c46
             by_cases c47 : (ji45) < (t436.size : Int)
             ·rw [if_pos c47] at H
              have c47b0 : decide ((ji45) < (t436.size : Int)) = true := decide_eq_true c47
              clear c47
              by_cases c49 : (bt t436 (ji45)) = 45
              ·rw [if_pos c49] at H
               have c49b0 : ((bt t436 (ji45)) == 45) = true := beq_iff_eq.mpr c49
               have c49b1 : ((bt t436 (ji45)) != 45) = false := bne_eq_false_iff_eq.mpr c49
               clear c49
               exact absurd ((Option.some.inj H).trans hr) zb19
              ·rw [if_neg c49] at H
               have c49b0 : ((bt t436 (ji45)) == 45) = false := beq_eq_false_iff_ne.mpr c49
               have c49b1 : ((bt t436 (ji45)) != 45) = true := bne_iff_ne.mpr c49
               have H' := Aside0.mk H
               clear H
               have p11 : 0 ≤ (x5_1 : Int) := of_decide_eq_true zb2
               have q11 : x5_1 < (t436.size : Int) := of_decide_eq_true zb2
               have hx11 := bt_at t436 x5_1
               replace p11 := eq_true p11
               replace q11 := eq_true q11
               have p48 : 0 ≤ ((ji45) : Int) := of_decide_eq_true zb2
               have q48 : (ji45) < (t436.size : Int) := of_decide_eq_true zb2
               have hx48 := bt_at t436 (ji45)
               replace p48 := eq_true p48
               replace q48 := eq_true q48
               go_wp2
               go_roundg k1
               case measure => have := HK1.out; omega
               case rel => exact ⟨(wrap64 (x5_1 + 1)), zb4, H', ⟨by have := HK1.out; omega⟩, ⟨by repeat (first | (with_reducible first | exact HB.out | apply below_alloc | apply pw_below_drewN | apply below_drew1) | exact HB.out)⟩⟩
             ·rw [if_neg c47] at H
              exact absurd H zb22
            ·rw [if_neg c46] at H
             exact absurd H zb22
         ·rw [if_neg c42] at H
          have c42b0 : ((bt t436 x5_1) == 45) = false := beq_eq_false_iff_ne.mpr c42
          have c42b1 : ((bt t436 x5_1) != 45) = true := bne_iff_ne.mpr c42
          obtain rfl := Option.some.inj H
          have p11 : 0 ≤ (x5_1 : Int) := of_decide_eq_true zb2
          have q11 : x5_1 < (t436.size : Int) := of_decide_eq_true zb2
          have hx11 := bt_at t436 x5_1
          replace p11 := eq_true p11
          replace q11 := eq_true q11
          go_wp2
          go_ret
          exact ⟨zb3, zb0⟩
      ·rw [if_neg c10] at H
       exact absurd H zb22
     ·rw [if_neg c9] at H
      have c9b0 : decide (x5_1 < (t436.size : Int)) = false := decide_eq_false c9
      clear c9
      replace H : (if (t436.size : Int) ≤ 20 then ((request_Slug.f t436).bind fun t437 => (some (t437.toList == t436.toList))) else (some false)) = some r := by first | (rw [if_pos rfl] at H; exact H) | (rw [if_pos trivial] at H; exact H)
      by_cases c50 : (t436.size : Int) ≤ 20
      ·rw [if_pos c50] at H
       have c50b0 : decide ((t436.size : Int) ≤ 20) = true := decide_eq_true c50
       have c50b1 : decide (t436.size ≤ 20) = true := decide_eq_true zb16
       clear c50
       replace H := Option.bind_eq_some_iff.mp H
       obtain ⟨t437, A510, H⟩ := H
       replace H : (some (t437.toList == t436.toList)) = some r := H
       have A51 := Aside0.mk A510
       clear A510
       obtain rfl := Option.some.inj H
       go_wp2_with (first | (go_at_call 22; (with_reducible refine (request_Slug.calls t436 t437 _ ?side1 A51.out).mono ?_); (case side1 => exact Glob.below hGA.out zb0); rintro e w52 ⟨rfl, hb⟩; have n0_ := Aside0.mk (below_step zb0 hb); clear HB; have HB := n0_; clear n0_; (try clear hb); (try clear hb2); (try clear hk); (try clear hi)))
       go_ret
       exact ⟨zb3, zb0⟩
      ·rw [if_neg c50] at H
       have c50b0 : decide ((t436.size : Int) ≤ 20) = false := decide_eq_false c50
       have c50b1 : decide (t436.size ≤ 20) = false := decide_eq_false zb16
       clear c50
       exact absurd ((Option.some.inj H).trans hr) zb19
 ·replace c3 := Bool.eq_false_iff.mpr c3
  subst c3
  replace H : (some false) = some r := by rw [if_neg (show ¬ (false = true) by decide)] at H; exact H
  exact absurd ((Option.some.inj H).trans hr) zb19
end Go.Proofs.YteonhdfjfjpbjaaGreatDoor.P
/- SpSlug -/
namespace Go.Proofs.YteonhdfjfjpbjaaGreatDoor.Sp
open Go Go.RowKit Go.Proofs.YteonhdfjfjpbjaaGreatDoorW.PrintWords Go.Proofs.YteonhdfjfjpbjaaGreatDoorW.PrintLast Go.Proofs.YteonhdfjfjpbjaaGreatDoor.O Go.Proofs.YteonhdfjfjpbjaaGreatDoor.P
set_option linter.unusedVariables false
theorem slB_chain2 {α : Type} (c : UInt8) (R D : α) : (if (c.toNat : Int) ≥ 97 then (if (c.toNat : Int) ≤ 122 then R else (if (c.toNat : Int) ≥ 48 then (if (c.toNat : Int) ≤ 57 then R else D) else D)) else (if (c.toNat : Int) ≥ 48 then (if (c.toNat : Int) ≤ 57 then R else D) else D)) = if slB c = true then R else D := by
  have key := slB_chain c (fun b => if b = true then R else D)
  simp only [if_true, Bool.false_eq_true, if_false, decide_eq_true_eq] at key
  exact key
theorem slug_l0 (t : L) (h : okL t) (hl : t.length ≤ 20) (hs : slugS t = t) : ∀ (d k i : Nat), i + d = t.length → d < k → broadsheetlaw20_RequestSlug.l0 k true (mk t) i = some true := by
  intro d
  induction d with
  | zero =>
    intro k i hi hk
    obtain ⟨k, rfl⟩ : ∃ k', k = k' + 1 := ⟨k - 1, by omega⟩
    rw [broadsheetlaw20_RequestSlug.l0, if_neg (by rw [mk_size]; omega), if_pos rfl, if_pos (by rw [mk_size]; omega), slugF t (by omega), hs]
    simp
  | succ d ih =>
    intro k i hi hk
    obtain ⟨k, rfl⟩ : ∃ k', k = k' + 1 := ⟨k - 1, by omega⟩
    obtain ⟨b, e1, e2⟩ := mk_bt t i (by omega)
    have hR : broadsheetlaw20_RequestSlug.l0 k true (mk t) (wrap64 ((i : Int) + 1)) = some true := by
      rw [w1 i (by omega)]
      exact ih k (i + 1) (by omega) (by omega)
    rw [broadsheetlaw20_RequestSlug.l0, if_pos (by rw [mk_size]; omega), if_pos (by omega), e2, hR, slB_chain2]
    by_cases hb : slB b = true
    · rw [if_pos hb]
    · rw [if_neg hb]
      have hdec : t = t.take i ++ b :: t.drop (i + 1) := by rw [← e1, List.take_append_drop]
      rcases h _ _ _ hdec with h1 | ⟨rfl, h2, h3, h4⟩
      · exact absurd h1 hb
      · have hi0 : i ≠ 0 := fun e => h2 (by subst e; rfl)
        have hi1 : i + 1 ≠ t.length := fun e => h3 (List.drop_eq_nil_of_le (by omega))
        obtain ⟨b', f1, f2⟩ := mk_bt t (i - 1) (by omega)
        have hw : wrap64 ((i : Int) - 1) = ((i - 1 : Nat) : Int) := by rw [wrap_id (by omega) (by omega)]; omega
        have hw2 : wrap64 ((t.length : Int) - 1) = ((t.length - 1 : Nat) : Int) := by rw [wrap_id (by omega) (by omega)]; omega
        have hb' : b' ≠ 45 := by
          rintro rfl
          refine h4 ?_
          have e5 : t.take i = t.take (i - 1) ++ [45] := by
            have := List.take_add (l := t) (i := i - 1) (j := 1)
            rw [show i - 1 + 1 = i by omega, f1] at this
            exact this
          rw [e5, List.getLast?_concat]
        have hne : ¬ (b'.toNat : Int) = 45 := fun e => hb' (UInt8.toNat_inj.1 (by simpa using (by omega : b'.toNat = 45)))
        rw [if_pos (by decide), if_neg (by omega), mk_size, hw2, if_neg (by omega), hw, if_pos (by omega), if_pos (by omega), f2, if_neg hne]
theorem slug_all (s : ByteArray) : ∃ k, broadsheetlaw20_RequestSlug.f k s = some true := by
  refine ⟨100000, ?_⟩
  rw [← mk_self s]
  generalize s.data.toList = l
  unfold broadsheetlaw20_RequestSlug.f
  rw [awake20, mk_size]
  simp only [Option.bind_some, if_true]
  by_cases h : (l.length : Int) > 2000
  · rw [if_pos h]
  rw [if_neg h, slugF l (by omega)]
  simp only [Option.bind_some]
  obtain ⟨h1, h2⟩ := slugS_ok l
  exact slug_l0 _ h1 h2 (slug_self l) (slugS l).length _ 0 (by omega) (by omega)
end Go.Proofs.YteonhdfjfjpbjaaGreatDoor.Sp
