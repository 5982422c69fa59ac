/- Texts of this seat, joined: lemmas and walks that its statements' proofs use. -/
import Derived.Test.YteonhdfjfjpbjaaGreatDoorK1
import Derived.Test.YteonhdfjfjpbjaaGreatDoorK3
import Derived.Test.YteonhdfjfjpbjaaGreatDoorK4
import Derived.Test.YteonhdfjfjpbjaaGreatDoorK5
/- Px47 -/
namespace Go.Proofs.YteonhdfjfjpbjaaGreatDoor.P
open Go.Proofs.YteonhdfjfjpbjaaGreatDoor.B
open Go.RowKit Go.Proofs.YteonhdfjfjpbjaaGreatDoorW.PrintWords Go.Proofs.YteonhdfjfjpbjaaGreatDoorW.PrintLast Go.Proofs.YteonhdfjfjpbjaaGreatDoorW.PrintMore
attribute [local go_sem] str_leq str_gtr str_geq max2_int min2_int max_two min_two max_three min_three max_four min_four
set_option linter.unusedVariables false
set_option linter.unusedSimpArgs false
open Go.Proofs.YteonhdfjfjpbjaaGreatDoor.O
def broadsheetlaw20_RequestSlugs.f (k : Nat) (a0 : ByteArray) : Option (Bool) := if (a0.size : Int) > 2000 then ((broadsheetlaw20_awake.f).bind fun t378 => (some t378)) else ((request_Percent.f k a0).bind fun bt379 => ((broadsheetref20_Percent.f k a0).bind fun bt381 => ((broadsheetlaw20_awake.f).bind fun t383 => (if t383 = true then (if bt379.1.toList = bt381.1.toList then (if (bt379.2 == bt381.2) = true then ((request_Slug.f a0).bind fun t384 => ((broadsheetref20_Slug.f k a0).bind fun t385 => (some (t384.toList == t385.toList)))) else (some false)) else (some false)) else (some false)))))
set_option maxHeartbeats 8000000 in
set_option maxRecDepth 100000 in
theorem broadsheetlaw20_RequestSlugs.calls (k : Nat) (a0 : ByteArray) (r : Bool) (w : World) (hG : Glob w) (h : broadsheetlaw20_RequestSlugs.f k a0 = some r) (hr : r = true) :
  Calls Tryz.prog 6 #[.string a0] w fun e w' => e = .returned (.bool r) ∧ Below w.heap.size w w' := by
 have HB := Aside0.mk (Below.refl w.heap.size w)
 have hGA := Aside0.mk hG
 clear hG
 have H : (if (a0.size : Int) > 2000 then ((broadsheetlaw20_awake.f).bind fun t378 => (some t378)) else ((request_Percent.f k a0).bind fun bt379 => ((broadsheetref20_Percent.f k a0).bind fun bt381 => ((broadsheetlaw20_awake.f).bind fun t383 => (if t383 = true then (if bt379.1.toList = bt381.1.toList then (if (bt379.2 == bt381.2) = true then ((request_Slug.f a0).bind fun t384 => ((broadsheetref20_Slug.f k a0).bind fun t385 => (some (t384.toList == t385.toList)))) else (some false)) else (some false)) else (some false)))))) = some r := h
 clear h
 by_cases c2 : (a0.size : Int) > 2000
 ·rw [if_pos c2] at H
  have c2b0 : decide (2000 < (a0.size : Int)) = true := decide_eq_true c2
  have c2b1 : decide (2000 < a0.size) = true := decide_eq_true zb16
  clear c2
  replace H := Option.bind_eq_some_iff.mp H
  obtain ⟨t378, A30, H⟩ := H
  replace H : (some t378) = some r := H
  have A3 := Aside0.mk A30
  clear A30
  obtain rfl := Option.some.inj H
  go_enter Tryz.func6, Tryz.ntmps6
  go_wp2_with (first | ((with_reducible refine gate_callee (f := 16) rfl ?_); refine goesL_ (some 10) rfl rfl Tryz.func16 zb12 rfl #[] rfl zb1 ?_; (with_reducible refine (broadsheetlaw20_awake.calls  t378 _ ?side1 A3.out (by first | rfl | exact hr)).mono ?_); (case side1 => exact Glob.below hGA.out zb0); rintro e w4 ⟨rfl, hb⟩; refine ⟨_, rfl, ?_⟩; have n0_ := Aside0.mk (below_step zb0 hb); clear HB; have HB := n0_; clear n0_; (try clear hb); (try clear hb2); (try clear hk); (try clear hi)))
  go_ret
  exact ⟨zb3, zb0⟩
 ·rw [if_neg c2] at H
  have c2b0 : decide (2000 < (a0.size : Int)) = false := decide_eq_false c2
  have c2b1 : decide (2000 < a0.size) = false := decide_eq_false zb16
  clear c2
  replace H := Option.bind_eq_some_iff.mp H
  obtain ⟨⟨t379, t380⟩, A50, H⟩ := H
  replace H : ((broadsheetref20_Percent.f k a0).bind fun bt381 => ((broadsheetlaw20_awake.f).bind fun t383 => (if t383 = true then (if t379.toList = bt381.1.toList then (if (t380 == bt381.2) = true then ((request_Slug.f a0).bind fun t384 => ((broadsheetref20_Slug.f k a0).bind fun t385 => (some (t384.toList == t385.toList)))) else (some false)) else (some false)) else (some false)))) = some r := H
  have A5 := Aside0.mk A50
  clear A50
  replace H := Option.bind_eq_some_iff.mp H
  obtain ⟨⟨t381, t382⟩, A60, H⟩ := H
  replace H : ((broadsheetlaw20_awake.f).bind fun t383 => (if t383 = true then (if t379.toList = t381.toList then (if (t380 == t382) = true then ((request_Slug.f a0).bind fun t384 => ((broadsheetref20_Slug.f k a0).bind fun t385 => (some (t384.toList == t385.toList)))) else (some false)) else (some false)) else (some false))) = some r := H
  have A6 := Aside0.mk A60
  clear A60
  replace H := Option.bind_eq_some_iff.mp H
  obtain ⟨t383, A70, H⟩ := H
  replace H : (if t383 = true then (if t379.toList = t381.toList then (if (t380 == t382) = true then ((request_Slug.f a0).bind fun t384 => ((broadsheetref20_Slug.f k a0).bind fun t385 => (some (t384.toList == t385.toList)))) else (some false)) else (some false)) else (some false)) = some r := H
  have A7 := Aside0.mk A70
  clear A70
  by_cases c8 : t383 = true
  ·subst c8
   replace H : (if t379.toList = t381.toList then (if (t380 == t382) = true then ((request_Slug.f a0).bind fun t384 => ((broadsheetref20_Slug.f k a0).bind fun t385 => (some (t384.toList == t385.toList)))) else (some false)) else (some false)) = some r := by rw [if_pos rfl] at H; exact H
   by_cases c9 : t379.toList = t381.toList
   ·rw [if_pos c9] at H
    have c9b0 : (t379.toList == t381.toList) = true := beq_iff_eq.mpr c9
    have c9b1 : (t379.toList != t381.toList) = false := bne_eq_false_iff_eq.mpr c9
    clear c9
    by_cases c10 : (t380 == t382) = true
    ·rw [if_pos c10] at H
     have c10b0 : (t380 == t382) = true := c10
     (try (have c10b1 : decide (t380 = t382) = true := by simpa using c10))
     (try (have c10b2 : (t380 == t382) = true := by simpa using c10))
     clear c10
     replace H := Option.bind_eq_some_iff.mp H
     obtain ⟨t384, A110, H⟩ := H
     replace H : ((broadsheetref20_Slug.f k a0).bind fun t385 => (some (t384.toList == t385.toList))) = some r := H
     have A11 := Aside0.mk A110
     clear A110
     replace H := Option.bind_eq_some_iff.mp H
     obtain ⟨t385, A120, H⟩ := H
     replace H : (some (t384.toList == t385.toList)) = some r := H
     have A12 := Aside0.mk A120
     clear A120
     obtain rfl := Option.some.inj H
     go_enter Tryz.func6, Tryz.ntmps6
     go_wp2_with (first | ((with_reducible refine gate_callee (f := 20) rfl ?_); refine goesL_ (some 13) rfl rfl Tryz.func20 zb12 rfl #[.string a0] rfl zb1 ?_; (with_reducible refine (request_Percent.calls k a0 t379 t380 _ ?side1 A5.out).mono ?_); (case side1 => exact Glob.below hGA.out zb0); rintro e w13 ⟨rfl, hb⟩; refine ⟨_, rfl, ?_⟩; have n0_ := Aside0.mk (below_step zb0 hb); clear HB; have HB := n0_; clear n0_; (try clear hb); (try clear hb2); (try clear hk); (try clear hi)) | ((with_reducible refine gate_callee (f := 21) rfl ?_); refine goesL_ (some 18) rfl rfl Tryz.func21 zb12 rfl #[.string a0] rfl zb1 ?_; (with_reducible refine (broadsheetref20_Percent.calls k a0 t381 t382 _ A6.out).mono ?_); rintro e w14 ⟨rfl, hb⟩; refine ⟨_, rfl, ?_⟩; have n0_ := Aside0.mk (below_step zb0 hb); clear HB; have HB := n0_; clear n0_; (try clear hb); (try clear hb2); (try clear hk); (try clear hi)) | ((with_reducible refine gate_callee (f := 16) rfl ?_); refine goesL_ (some 21) rfl rfl Tryz.func16 zb12 rfl #[] rfl zb1 ?_; (with_reducible refine (broadsheetlaw20_awake.calls  true _ ?side1 A7.out (by first | rfl | exact hr)).mono ?_); (case side1 => exact Glob.below hGA.out zb0); rintro e w15 ⟨rfl, hb⟩; refine ⟨_, rfl, ?_⟩; have n0_ := Aside0.mk (below_step zb0 hb); clear HB; have HB := n0_; clear n0_; (try clear hb); (try clear hb2); (try clear hk); (try clear hi)) | (go_at_call 22; (with_reducible refine (request_Slug.calls a0 t384 _ ?side1 A11.out).mono ?_); (case side1 => exact Glob.below hGA.out zb0); rintro e w16 ⟨rfl, hb⟩; have n0_ := Aside0.mk (below_step zb0 hb); clear HB; have HB := n0_; clear n0_; (try clear hb); (try clear hb2); (try clear hk); (try clear hi)) | (go_at_call 23; (with_reducible refine (broadsheetref20_Slug.calls k a0 t385 _ A12.out).mono ?_); rintro e w17 ⟨rfl, hb⟩; have n0_ := Aside0.mk (below_step zb0 hb); clear HB; have HB := n0_; clear n0_; (try clear hb); (try clear hb2); (try clear hk); (try clear hi)))
     go_ret
     exact ⟨zb3, zb0⟩
    ·rw [if_neg c10] at H
     have c10b0 : (t380 == t382) = false := by simpa using c10
     (try (have c10b1 : decide (t380 = t382) = false := by simpa using c10))
     (try (have c10b2 : (t380 == t382) = false := by simpa using c10))
     (try (have c10b3 : ¬ (t380 = t382) := by simpa using c10))
     clear c10
     exact absurd ((Option.some.inj H).trans hr) zb19
   ·rw [if_neg c9] at H
    have c9b0 : (t379.toList == t381.toList) = false := beq_eq_false_iff_ne.mpr c9
    have c9b1 : (t379.toList != t381.toList) = true := bne_iff_ne.mpr c9
    exact absurd ((Option.some.inj H).trans hr) zb19
  ·replace c8 := Bool.eq_false_iff.mpr c8
   subst c8
   replace H : (some false) = some r := by rw [if_neg (show ¬ (false = true) by decide)] at H; exact H
   exact absurd ((Option.some.inj H).trans hr) zb19
end Go.Proofs.YteonhdfjfjpbjaaGreatDoor.P
/- SpSlugs -/
namespace Go.Proofs.YteonhdfjfjpbjaaGreatDoor.Sp
open Go Go.RowKit Go.Proofs.YteonhdfjfjpbjaaGreatDoorW.PrintWords Go.Proofs.YteonhdfjfjpbjaaGreatDoorW.PrintLast Go.Proofs.YteonhdfjfjpbjaaGreatDoor.O Go.Proofs.YteonhdfjfjpbjaaGreatDoor.P
set_option linter.unusedVariables false
theorem slugs_all (s : ByteArray) : ∃ k, broadsheetlaw20_RequestSlugs.f k s = some true := by
  refine ⟨100000, ?_⟩
  rw [← mk_self s]
  generalize s.data.toList = l
  unfold broadsheetlaw20_RequestSlugs.f
  rw [awake20, mk_size]
  by_cases h : (l.length : Int) > 2000
  · rw [if_pos h]; rfl
  rw [if_neg h, percF l _ (by omega) (by omega), rpercF l _ (by omega) (by omega)]
  simp only [Option.bind_some, if_true]
  rw [slugF l (by omega), rslugF l _ (by omega) (by omega)]
  simp
end Go.Proofs.YteonhdfjfjpbjaaGreatDoor.Sp
