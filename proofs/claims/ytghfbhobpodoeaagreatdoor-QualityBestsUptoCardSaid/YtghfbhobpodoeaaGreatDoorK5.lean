/- Texts of this seat, joined: lemmas and walks that its statements' proofs use. -/
import Derived.Test.YtghfbhobpodoeaaGreatDoorK1
import Derived.Test.YtghfbhobpodoeaaGreatDoorK4
import Derived.Test.YtghfbhobpodoeaaGreatDoorK2
import Derived.Deep.Slices
import Derived.LaidLaws
import Derived.MakeChecks
import Derived.HandedShaped
import Derived.Lib.LaidU8
import Derived.Lib.LaidTab
import Derived.WalkKit
import Derived.ProofKit
import Derived.Test.YtghfbhobpodoeaaGreatDoorRows
import Derived.Deep.SlicePairs
import Derived.Deep.Strs
/- Px33 -/
namespace Go.Proofs.YtghfbhobpodoeaaGreatDoor.P
open Go.Proofs.YtghfbhobpodoeaaGreatDoor.B
open Go.RowKit Go.Proofs.YtghfbhobpodoeaaGreatDoorW.PrintWords Go.Proofs.YtghfbhobpodoeaaGreatDoorW.PrintLast Go.Proofs.YtghfbhobpodoeaaGreatDoorW.PrintMore
attribute [local go_sem] run_store_float str_leq str_gtr str_geq max2_int min2_int max_two min_two max_three min_three max_four min_four
set_option linter.unusedVariables false
set_option linter.unusedSimpArgs false
open Go.Proofs.YtghfbhobpodoeaaGreatDoor.O
def broadsheetlaw14_QualityBests.j0 : Nat → ByteArray → List (S40) → Bool → Option (Bool)
  | 0, _, _, _ => none
  | k + 1, x0, x1, x20 => if x20 = true then ((broadsheetlaw14_awake.f k).bind fun t272 => (some t272)) else ((quality_Best.f k x0 x1).bind fun bt273 => ((broadsheetref14_Best.f k x0 x1).bind fun bt275 => ((broadsheetlaw14_have.f).bind fun t277 => ((quality_Best.f k x0 t277).bind fun bt280 => ((broadsheetlaw14_have.f).bind fun t282 => ((broadsheetref14_Best.f k x0 t282).bind fun bt285 => ((broadsheetlaw14_awake.f k).bind fun t287 => (if t287 = true then (if bt273.1 = bt275.1 then ((broadsheetlaw14_same.f bt273.2 bt275.2).bind fun t288 => (if t288 = true then (if bt280.1 = bt285.1 then ((broadsheetlaw14_same.f bt280.2 bt285.2).bind fun t289 => (some t289)) else (some false)) else (some false))) else (some false)) else (some false)))))))))
def broadsheetlaw14_QualityBests.f (k : Nat) (a0 : ByteArray) (l1 : List (S40)) : Option (Bool) := if (a0.size : Int) > 1000 then (broadsheetlaw14_QualityBests.j0 k a0 l1 true) else ((broadsheetlaw14_few.f k l1).bind fun t271 => (broadsheetlaw14_QualityBests.j0 k a0 l1 (!t271)))
set_option maxHeartbeats 8000000 in
set_option maxRecDepth 100000 in
theorem broadsheetlaw14_QualityBests.calls (k : Nat) (a0 : ByteArray) (A1 : Option Addr) (c1 : Nat) (l1 : List (S40)) (r : Bool) (w : World) (hr1 : Kd.C k40 w A1 l1.length l1) (hc1 : l1.length ≤ c1) (hG : Glob w) (h : broadsheetlaw14_QualityBests.f k a0 l1 = some r) :
  Calls Tryz.prog 3 #[.string a0, .slice A1 l1.length c1] w fun e w' => e = .returned (.bool r) ∧ Below w.heap.size w w' := by
 have HR1 := Aside0.mk hr1
 have HC1 := Aside0.mk hc1
 clear hr1 hc1
 have HB := Aside0.mk (Below.refl w.heap.size w)
 have hGA := Aside0.mk hG
 clear hG
 have H : (if (a0.size : Int) > 1000 then (broadsheetlaw14_QualityBests.j0 k a0 l1 true) else ((broadsheetlaw14_few.f k l1).bind fun t271 => (broadsheetlaw14_QualityBests.j0 k a0 l1 (!t271)))) = some r := h
 clear h
 have HC3 := Aside0.mk H
 clear H
 go_enter Tryz.func3, Tryz.ntmps3
 go_upto_region 1 with (fail)
 go_cut [20] (fun v20 wc => ∃ (kq : Nat) (x20_2 : Bool), v20 = .bool x20_2 ∧ Aside0 (broadsheetlaw14_QualityBests.j0 kq a0 l1 x20_2 = some r) ∧ Aside0 (kq ≤ k) ∧ Aside0 (Below w.heap.size w wc))
 case first =>
  have H := HC3.out
  clear HC3
  by_cases c4 : (a0.size : Int) > 1000
  ·rw [if_pos c4] at H
   have c4b0 : decide (1000 < (a0.size : Int)) = true := decide_eq_true c4
   have c4b1 : decide (1000 < a0.size) = true := decide_eq_true zb42
   clear c4
   (first | rw [c4b0] | (simp only [i64_w, i32_w]; rw [c4b0]) | skip)
   have H' := Aside0.mk H
   clear H
   go_wp2
   go_meet
   case rel => exact ⟨_, (true), zb4, H', ⟨by first | omega | exact Nat.le_refl _⟩, ⟨by repeat (first | (with_reducible first | exact HB.out | apply below_alloc | apply pw_below_drewN | apply below_drew1) | exact HB.out)⟩⟩
  ·rw [if_neg c4] at H
   have c4b0 : decide (1000 < (a0.size : Int)) = false := decide_eq_false c4
   have c4b1 : decide (1000 < a0.size) = false := decide_eq_false zb42
   clear c4
   (first | rw [c4b0] | (simp only [i64_w, i32_w]; rw [c4b0]) | skip)
   replace H := Option.bind_eq_some_iff.mp H
   obtain ⟨t271, A50, H⟩ := H
   replace H : (broadsheetlaw14_QualityBests.j0 k a0 l1 (!t271)) = some r := H
   have A5 := Aside0.mk A50
   clear A50
   have H' := Aside0.mk H
   clear H
   go_wp2_with (first | (go_at_call 5; (with_reducible refine (broadsheetlaw14_few.calls k _ _ l1 t271 _ ?side1 ?side2 A5.out).mono ?_); (case side1 => repeat (first | exact (Kd.C_below HR1.out HB.out) | (with_reducible refine Kd.C_alloc ?_ _) | (with_reducible refine Kd.C_drewN ?_ _) | (with_reducible refine Kd.C_drew ?_))); (case side2 => exact HC1.out); rintro e w6 ⟨rfl, hb⟩; have n0_ := Aside0.mk (below_step zb0 hb); clear HB; have HB := n0_; clear n0_; (try clear hb); (try clear hb2); (try clear hk); (try clear hi)))
   go_meet
   case rel => exact ⟨_, (!t271), zb4, H', ⟨by first | omega | exact Nat.le_refl _⟩, ⟨by repeat (first | (with_reducible first | exact HB.out | apply below_alloc | apply pw_below_drewN | apply below_drew1) | exact HB.out)⟩⟩
 case rest =>
  clear HC3
  try clear c1
  try clear p2
  try clear c3
  try clear c4
  try clear c4b0
  try clear c4b1
  obtain ⟨kq, x20_2, rfl, HA, HJ2, HB⟩ := hcut
  cases kq with
  | zero => exact absurd HA.out (by simp [broadsheetlaw14_QualityBests.j0])
  | succ kj2 =>
   have H := HA.out
   clear HA
   simp only [broadsheetlaw14_QualityBests.j0] at H
   by_cases c7 : x20_2 = true
   ·subst c7
    replace H : ((broadsheetlaw14_awake.f kj2).bind fun t272 => (some t272)) = some r := by rw [if_pos rfl] at H; exact H
    replace H := Option.bind_eq_some_iff.mp H
    obtain ⟨t272, A80, H⟩ := H
    replace H : (some t272) = some r := H
    have A8 := Aside0.mk A80
    clear A80
    obtain rfl := Option.some.inj H
    go_wp2_with (first | ((with_reducible refine gate_callee (f := 6) rfl ?_); refine goesL_ (some 21) rfl rfl Tryz.func6 zb9 rfl #[] rfl zb2 ?_; (with_reducible refine (broadsheetlaw14_awake.calls kj2  t272 _ ?side1 A8.out).mono ?_); (case side1 => exact Glob.below hGA.out zb0); rintro e w9 ⟨rfl, hb⟩; refine ⟨_, rfl, ?_⟩; have n0_ := Aside0.mk (below_step zb0 hb); clear HB; have HB := n0_; clear n0_; (try clear hb); (try clear hb2); (try clear hk); (try clear hi)))
    go_ret
    exact ⟨zb6, zb0⟩
   ·replace c7 := Bool.eq_false_iff.mpr c7
    subst c7
    replace H : ((quality_Best.f kj2 a0 l1).bind fun bt273 => ((broadsheetref14_Best.f kj2 a0 l1).bind fun bt275 => ((broadsheetlaw14_have.f).bind fun t277 => ((quality_Best.f kj2 a0 t277).bind fun bt280 => ((broadsheetlaw14_have.f).bind fun t282 => ((broadsheetref14_Best.f kj2 a0 t282).bind fun bt285 => ((broadsheetlaw14_awake.f kj2).bind fun t287 => (if t287 = true then (if bt273.1 = bt275.1 then ((broadsheetlaw14_same.f bt273.2 bt275.2).bind fun t288 => (if t288 = true then (if bt280.1 = bt285.1 then ((broadsheetlaw14_same.f bt280.2 bt285.2).bind fun t289 => (some t289)) else (some false)) else (some false))) else (some false)) else (some false))))))))) = some r := by rw [if_neg (show ¬ (false = true) by decide)] at H; exact H
    replace H := Option.bind_eq_some_iff.mp H
    obtain ⟨⟨t273, t274⟩, A100, H⟩ := H
    replace H : ((broadsheetref14_Best.f kj2 a0 l1).bind fun bt275 => ((broadsheetlaw14_have.f).bind fun t277 => ((quality_Best.f kj2 a0 t277).bind fun bt280 => ((broadsheetlaw14_have.f).bind fun t282 => ((broadsheetref14_Best.f kj2 a0 t282).bind fun bt285 => ((broadsheetlaw14_awake.f kj2).bind fun t287 => (if t287 = true then (if t273 = bt275.1 then ((broadsheetlaw14_same.f t274 bt275.2).bind fun t288 => (if t288 = true then (if bt280.1 = bt285.1 then ((broadsheetlaw14_same.f bt280.2 bt285.2).bind fun t289 => (some t289)) else (some false)) else (some false))) else (some false)) else (some false)))))))) = some r := H
    have A10 := Aside0.mk A100
    clear A100
    replace H := Option.bind_eq_some_iff.mp H
    obtain ⟨⟨t275, t276⟩, A110, H⟩ := H
    replace H : ((broadsheetlaw14_have.f).bind fun t277 => ((quality_Best.f kj2 a0 t277).bind fun bt280 => ((broadsheetlaw14_have.f).bind fun t282 => ((broadsheetref14_Best.f kj2 a0 t282).bind fun bt285 => ((broadsheetlaw14_awake.f kj2).bind fun t287 => (if t287 = true then (if t273 = t275 then ((broadsheetlaw14_same.f t274 t276).bind fun t288 => (if t288 = true then (if bt280.1 = bt285.1 then ((broadsheetlaw14_same.f bt280.2 bt285.2).bind fun t289 => (some t289)) else (some false)) else (some false))) else (some false)) else (some false))))))) = some r := H
    have A11 := Aside0.mk A110
    clear A110
    replace H := Option.bind_eq_some_iff.mp H
    obtain ⟨t277, A120, H⟩ := H
    replace H : ((quality_Best.f kj2 a0 t277).bind fun bt280 => ((broadsheetlaw14_have.f).bind fun t282 => ((broadsheetref14_Best.f kj2 a0 t282).bind fun bt285 => ((broadsheetlaw14_awake.f kj2).bind fun t287 => (if t287 = true then (if t273 = t275 then ((broadsheetlaw14_same.f t274 t276).bind fun t288 => (if t288 = true then (if bt280.1 = bt285.1 then ((broadsheetlaw14_same.f bt280.2 bt285.2).bind fun t289 => (some t289)) else (some false)) else (some false))) else (some false)) else (some false)))))) = some r := H
    have A12 := Aside0.mk A120
    clear A120
    replace H := Option.bind_eq_some_iff.mp H
    obtain ⟨⟨t280, t281⟩, A130, H⟩ := H
    replace H : ((broadsheetlaw14_have.f).bind fun t282 => ((broadsheetref14_Best.f kj2 a0 t282).bind fun bt285 => ((broadsheetlaw14_awake.f kj2).bind fun t287 => (if t287 = true then (if t273 = t275 then ((broadsheetlaw14_same.f t274 t276).bind fun t288 => (if t288 = true then (if t280 = bt285.1 then ((broadsheetlaw14_same.f t281 bt285.2).bind fun t289 => (some t289)) else (some false)) else (some false))) else (some false)) else (some false))))) = some r := H
    have A13 := Aside0.mk A130
    clear A130
    replace H := Option.bind_eq_some_iff.mp H
    obtain ⟨t282, A140, H⟩ := H
    replace H : ((broadsheetref14_Best.f kj2 a0 t282).bind fun bt285 => ((broadsheetlaw14_awake.f kj2).bind fun t287 => (if t287 = true then (if t273 = t275 then ((broadsheetlaw14_same.f t274 t276).bind fun t288 => (if t288 = true then (if t280 = bt285.1 then ((broadsheetlaw14_same.f t281 bt285.2).bind fun t289 => (some t289)) else (some false)) else (some false))) else (some false)) else (some false)))) = some r := H
    have A14 := Aside0.mk A140
    clear A140
    replace H := Option.bind_eq_some_iff.mp H
    obtain ⟨⟨t285, t286⟩, A150, H⟩ := H
    replace H : ((broadsheetlaw14_awake.f kj2).bind fun t287 => (if t287 = true then (if t273 = t275 then ((broadsheetlaw14_same.f t274 t276).bind fun t288 => (if t288 = true then (if t280 = t285 then ((broadsheetlaw14_same.f t281 t286).bind fun t289 => (some t289)) else (some false)) else (some false))) else (some false)) else (some false))) = some r := H
    have A15 := Aside0.mk A150
    clear A150
    replace H := Option.bind_eq_some_iff.mp H
    obtain ⟨t287, A160, H⟩ := H
    replace H : (if t287 = true then (if t273 = t275 then ((broadsheetlaw14_same.f t274 t276).bind fun t288 => (if t288 = true then (if t280 = t285 then ((broadsheetlaw14_same.f t281 t286).bind fun t289 => (some t289)) else (some false)) else (some false))) else (some false)) else (some false)) = some r := H
    have A16 := Aside0.mk A160
    clear A160
    by_cases c17 : t287 = true
    ·subst c17
     replace H : (if t273 = t275 then ((broadsheetlaw14_same.f t274 t276).bind fun t288 => (if t288 = true then (if t280 = t285 then ((broadsheetlaw14_same.f t281 t286).bind fun t289 => (some t289)) else (some false)) else (some false))) else (some false)) = some r := by rw [if_pos rfl] at H; exact H
     by_cases c18 : t273 = t275
     ·rw [if_pos c18] at H
      have c18b0 : (t273 == t275) = true := beq_iff_eq.mpr c18
      have c18b1 : (t273 != t275) = false := bne_eq_false_iff_eq.mpr c18
      clear c18
      replace H := Option.bind_eq_some_iff.mp H
      obtain ⟨t288, A190, H⟩ := H
      replace H : (if t288 = true then (if t280 = t285 then ((broadsheetlaw14_same.f t281 t286).bind fun t289 => (some t289)) else (some false)) else (some false)) = some r := H
      have A19 := Aside0.mk A190
      clear A190
      by_cases c20 : t288 = true
      ·subst c20
       replace H : (if t280 = t285 then ((broadsheetlaw14_same.f t281 t286).bind fun t289 => (some t289)) else (some false)) = some r := by rw [if_pos rfl] at H; exact H
       by_cases c21 : t280 = t285
       ·rw [if_pos c21] at H
        have c21b0 : (t280 == t285) = true := beq_iff_eq.mpr c21
        have c21b1 : (t280 != t285) = false := bne_eq_false_iff_eq.mpr c21
        clear c21
        replace H := Option.bind_eq_some_iff.mp H
        obtain ⟨t289, A220, H⟩ := H
        replace H : (some t289) = some r := H
        have A22 := Aside0.mk A220
        clear A220
        obtain rfl := Option.some.inj H
        go_wp2_with (first | ((with_reducible refine gate_callee (f := 7) rfl ?_); refine goesL_ (some 25) rfl rfl Tryz.func7 zb9 rfl #[.string a0, .slice A1 l1.length c1] rfl zb2 ?_; (with_reducible refine (quality_Best.calls kj2 a0 _ _ l1 t273 t274 _ ?side1 ?side2 ?side3 A10.out).mono ?_); (case side1 => repeat (first | exact (Kd.C_below HR1.out HB.out) | (with_reducible refine Kd.C_alloc ?_ _) | (with_reducible refine Kd.C_drewN ?_ _) | (with_reducible refine Kd.C_drew ?_))); (case side2 => exact HC1.out); (case side3 => exact Glob.below hGA.out zb0); rintro e w23 ⟨rfl, hb⟩; refine ⟨_, rfl, ?_⟩; have n0_ := Aside0.mk (below_step zb0 hb); clear HB; have HB := n0_; clear n0_; (try clear hb); (try clear hb2); (try clear hk); (try clear hi)) | ((with_reducible refine gate_callee (f := 8) rfl ?_); refine goesL_ (some 31) rfl rfl Tryz.func8 zb9 rfl #[.string a0, .slice A1 l1.length c1] rfl zb2 ?_; (with_reducible refine (broadsheetref14_Best.calls kj2 a0 _ _ l1 t275 t276 _ ?side1 ?side2 A11.out).mono ?_); (case side1 => repeat (first | exact (Kd.C_below HR1.out HB.out) | (with_reducible refine Kd.C_alloc ?_ _) | (with_reducible refine Kd.C_drewN ?_ _) | (with_reducible refine Kd.C_drew ?_))); (case side2 => exact HC1.out); rintro e w24 ⟨rfl, hb⟩; refine ⟨_, rfl, ?_⟩; have n0_ := Aside0.mk (below_step zb0 hb); clear HB; have HB := n0_; clear n0_; (try clear hb); (try clear hb2); (try clear hk); (try clear hi)) | ((with_reducible refine gate_callee (f := 9) rfl ?_); refine goesL_ (some 36) rfl rfl Tryz.func9 zb9 rfl #[] rfl zb2 ?_; (with_reducible refine (broadsheetlaw14_have.calls  t277 _ A12.out).mono ?_); rintro e w25 ⟨v278, rfl, ho0, hb⟩; refine ⟨_, rfl, ?_⟩; have n0_ := Aside0.mk (Kd.N_lower (Kd.N_mono (ok' := fun k_ => True) ho0 (fun k_ hk_ => trivial)) (below_size zb0)); have n1_ := Aside0.mk (below_step zb0 hb); clear HB; have HO279 := n0_; have HB := n1_; clear n0_ n1_; (try clear hb); (try clear hb2); (try clear hk); (try clear hi); (try clear ho0); obtain ⟨Ao26, co26, eo26⟩ := Kd.N_slice HO279.out; subst eo26) | ((with_reducible refine gate_callee (f := 7) rfl ?_); refine goesL_ (some 37) rfl rfl Tryz.func7 zb9 rfl #[.string a0, .slice Ao26 t277.length co26] rfl zb2 ?_; (with_reducible refine (quality_Best.calls kj2 a0 _ _ t277 t280 t281 _ ?side1 ?side2 ?side3 A13.out).mono ?_); (case side1 => repeat (first | exact (Kd.N_reads' HO279.out).2.2 | (with_reducible refine Kd.C_alloc ?_ _) | (with_reducible refine Kd.C_drewN ?_ _) | (with_reducible refine Kd.C_drew ?_))); (case side2 => exact (Kd.N_reads' HO279.out).2.1); (case side3 => exact Glob.below hGA.out zb0); rintro e w27 ⟨rfl, hb⟩; refine ⟨_, rfl, ?_⟩; have n0_ := Aside0.mk (Kd.N_below zb13 hb); have n1_ := Aside0.mk (below_step zb0 hb); clear HO279; clear HB; have HO279 := n0_; have HB := n1_; clear n0_ n1_; (try clear hb); (try clear hb2); (try clear hk); (try clear hi)) | ((with_reducible refine gate_callee (f := 9) rfl ?_); refine goesL_ (some 42) rfl rfl Tryz.func9 zb9 rfl #[] rfl zb2 ?_; (with_reducible refine (broadsheetlaw14_have.calls  t282 _ A14.out).mono ?_); rintro e w28 ⟨v283, rfl, ho0, hb⟩; refine ⟨_, rfl, ?_⟩; have n0_ := Aside0.mk (Kd.N_elder' zb13 (Kd.N_base ho0) hb); have n1_ := Aside0.mk (Kd.N_lower (Kd.N_mono (ok' := fun k_ => some k_ ≠ (.slice Ao26 t277.length co26 : Value).ownBlock) ho0 (fun k_ hk_ => (Kd.fresh' (Kd.N_lt zb13) k_ hk_))) (below_size zb0)); have n2_ := Aside0.mk (below_step zb0 hb); clear HO279; clear HB; have HO279 := n0_; have HO284 := n1_; have HB := n2_; clear n0_ n1_ n2_; (try clear hb); (try clear hb2); (try clear hk); (try clear hi); (try clear ho0); obtain ⟨Ao29, co29, eo29⟩ := Kd.N_slice HO284.out; subst eo29) | ((with_reducible refine gate_callee (f := 8) rfl ?_); refine goesL_ (some 43) rfl rfl Tryz.func8 zb9 rfl #[.string a0, .slice Ao29 t282.length co29] rfl zb2 ?_; (with_reducible refine (broadsheetref14_Best.calls kj2 a0 _ _ t282 t285 t286 _ ?side1 ?side2 A15.out).mono ?_); (case side1 => repeat (first | exact (Kd.N_reads' HO284.out).2.2 | (with_reducible refine Kd.C_alloc ?_ _) | (with_reducible refine Kd.C_drewN ?_ _) | (with_reducible refine Kd.C_drew ?_))); (case side2 => exact (Kd.N_reads' HO284.out).2.1); rintro e w30 ⟨rfl, hb⟩; refine ⟨_, rfl, ?_⟩; have n0_ := Aside0.mk (Kd.N_below zb13 hb); have n1_ := Aside0.mk (Kd.N_below zb31 hb); have n2_ := Aside0.mk (below_step zb0 hb); clear HO279; clear HO284; clear HB; have HO279 := n0_; have HO284 := n1_; have HB := n2_; clear n0_ n1_ n2_; (try clear hb); (try clear hb2); (try clear hk); (try clear hi)) | ((with_reducible refine gate_callee (f := 6) rfl ?_); refine goesL_ (some 46) rfl rfl Tryz.func6 zb9 rfl #[] rfl zb2 ?_; (with_reducible refine (broadsheetlaw14_awake.calls kj2  true _ ?side1 A16.out).mono ?_); (case side1 => exact Glob.below hGA.out zb0); rintro e w31 ⟨rfl, hb⟩; refine ⟨_, rfl, ?_⟩; have n0_ := Aside0.mk (Kd.N_below zb13 hb); have n1_ := Aside0.mk (Kd.N_below zb31 hb); have n2_ := Aside0.mk (below_step zb0 hb); clear HO279; clear HO284; clear HB; have HO279 := n0_; have HO284 := n1_; have HB := n2_; clear n0_ n1_ n2_; (try clear hb); (try clear hb2); (try clear hk); (try clear hi)) | (go_at_call 10; (with_reducible refine (broadsheetlaw14_same.calls t274 t276 true _ A19.out).mono ?_); rintro e w' ⟨rfl, ⟨nd, rfl⟩⟩) | (go_at_call 10; (with_reducible refine (broadsheetlaw14_same.calls t281 t286 t289 _ A22.out).mono ?_); rintro e w' ⟨rfl, ⟨nd, rfl⟩⟩))
        go_ret
        exact ⟨zb6, zb0⟩
       ·rw [if_neg c21] at H
        have c21b0 : (t280 == t285) = false := beq_eq_false_iff_ne.mpr c21
        have c21b1 : (t280 != t285) = true := bne_iff_ne.mpr c21
        obtain rfl := Option.some.inj H
        go_wp2_with (first | ((with_reducible refine gate_callee (f := 7) rfl ?_); refine goesL_ (some 25) rfl rfl Tryz.func7 zb9 rfl #[.string a0, .slice A1 l1.length c1] rfl zb2 ?_; (with_reducible refine (quality_Best.calls kj2 a0 _ _ l1 t273 t274 _ ?side1 ?side2 ?side3 A10.out).mono ?_); (case side1 => repeat (first | exact (Kd.C_below HR1.out HB.out) | (with_reducible refine Kd.C_alloc ?_ _) | (with_reducible refine Kd.C_drewN ?_ _) | (with_reducible refine Kd.C_drew ?_))); (case side2 => exact HC1.out); (case side3 => exact Glob.below hGA.out zb0); rintro e w32 ⟨rfl, hb⟩; refine ⟨_, rfl, ?_⟩; have n0_ := Aside0.mk (below_step zb0 hb); clear HB; have HB := n0_; clear n0_; (try clear hb); (try clear hb2); (try clear hk); (try clear hi)) | ((with_reducible refine gate_callee (f := 8) rfl ?_); refine goesL_ (some 31) rfl rfl Tryz.func8 zb9 rfl #[.string a0, .slice A1 l1.length c1] rfl zb2 ?_; (with_reducible refine (broadsheetref14_Best.calls kj2 a0 _ _ l1 t275 t276 _ ?side1 ?side2 A11.out).mono ?_); (case side1 => repeat (first | exact (Kd.C_below HR1.out HB.out) | (with_reducible refine Kd.C_alloc ?_ _) | (with_reducible refine Kd.C_drewN ?_ _) | (with_reducible refine Kd.C_drew ?_))); (case side2 => exact HC1.out); rintro e w33 ⟨rfl, hb⟩; refine ⟨_, rfl, ?_⟩; have n0_ := Aside0.mk (below_step zb0 hb); clear HB; have HB := n0_; clear n0_; (try clear hb); (try clear hb2); (try clear hk); (try clear hi)) | ((with_reducible refine gate_callee (f := 9) rfl ?_); refine goesL_ (some 36) rfl rfl Tryz.func9 zb9 rfl #[] rfl zb2 ?_; (with_reducible refine (broadsheetlaw14_have.calls  t277 _ A12.out).mono ?_); rintro e w34 ⟨v278, rfl, ho0, hb⟩; refine ⟨_, rfl, ?_⟩; have n0_ := Aside0.mk (Kd.N_lower (Kd.N_mono (ok' := fun k_ => True) ho0 (fun k_ hk_ => trivial)) (below_size zb0)); have n1_ := Aside0.mk (below_step zb0 hb); clear HB; have HO279 := n0_; have HB := n1_; clear n0_ n1_; (try clear hb); (try clear hb2); (try clear hk); (try clear hi); (try clear ho0); obtain ⟨Ao35, co35, eo35⟩ := Kd.N_slice HO279.out; subst eo35) | ((with_reducible refine gate_callee (f := 7) rfl ?_); refine goesL_ (some 37) rfl rfl Tryz.func7 zb9 rfl #[.string a0, .slice Ao35 t277.length co35] rfl zb2 ?_; (with_reducible refine (quality_Best.calls kj2 a0 _ _ t277 t280 t281 _ ?side1 ?side2 ?side3 A13.out).mono ?_); (case side1 => repeat (first | exact (Kd.N_reads' HO279.out).2.2 | (with_reducible refine Kd.C_alloc ?_ _) | (with_reducible refine Kd.C_drewN ?_ _) | (with_reducible refine Kd.C_drew ?_))); (case side2 => exact (Kd.N_reads' HO279.out).2.1); (case side3 => exact Glob.below hGA.out zb0); rintro e w36 ⟨rfl, hb⟩; refine ⟨_, rfl, ?_⟩; have n0_ := Aside0.mk (Kd.N_below zb13 hb); have n1_ := Aside0.mk (below_step zb0 hb); clear HO279; clear HB; have HO279 := n0_; have HB := n1_; clear n0_ n1_; (try clear hb); (try clear hb2); (try clear hk); (try clear hi)) | ((with_reducible refine gate_callee (f := 9) rfl ?_); refine goesL_ (some 42) rfl rfl Tryz.func9 zb9 rfl #[] rfl zb2 ?_; (with_reducible refine (broadsheetlaw14_have.calls  t282 _ A14.out).mono ?_); rintro e w37 ⟨v283, rfl, ho0, hb⟩; refine ⟨_, rfl, ?_⟩; have n0_ := Aside0.mk (Kd.N_elder' zb13 (Kd.N_base ho0) hb); have n1_ := Aside0.mk (Kd.N_lower (Kd.N_mono (ok' := fun k_ => some k_ ≠ (.slice Ao35 t277.length co35 : Value).ownBlock) ho0 (fun k_ hk_ => (Kd.fresh' (Kd.N_lt zb13) k_ hk_))) (below_size zb0)); have n2_ := Aside0.mk (below_step zb0 hb); clear HO279; clear HB; have HO279 := n0_; have HO284 := n1_; have HB := n2_; clear n0_ n1_ n2_; (try clear hb); (try clear hb2); (try clear hk); (try clear hi); (try clear ho0); obtain ⟨Ao38, co38, eo38⟩ := Kd.N_slice HO284.out; subst eo38) | ((with_reducible refine gate_callee (f := 8) rfl ?_); refine goesL_ (some 43) rfl rfl Tryz.func8 zb9 rfl #[.string a0, .slice Ao38 t282.length co38] rfl zb2 ?_; (with_reducible refine (broadsheetref14_Best.calls kj2 a0 _ _ t282 t285 t286 _ ?side1 ?side2 A15.out).mono ?_); (case side1 => repeat (first | exact (Kd.N_reads' HO284.out).2.2 | (with_reducible refine Kd.C_alloc ?_ _) | (with_reducible refine Kd.C_drewN ?_ _) | (with_reducible refine Kd.C_drew ?_))); (case side2 => exact (Kd.N_reads' HO284.out).2.1); rintro e w39 ⟨rfl, hb⟩; refine ⟨_, rfl, ?_⟩; have n0_ := Aside0.mk (Kd.N_below zb13 hb); have n1_ := Aside0.mk (Kd.N_below zb31 hb); have n2_ := Aside0.mk (below_step zb0 hb); clear HO279; clear HO284; clear HB; have HO279 := n0_; have HO284 := n1_; have HB := n2_; clear n0_ n1_ n2_; (try clear hb); (try clear hb2); (try clear hk); (try clear hi)) | ((with_reducible refine gate_callee (f := 6) rfl ?_); refine goesL_ (some 46) rfl rfl Tryz.func6 zb9 rfl #[] rfl zb2 ?_; (with_reducible refine (broadsheetlaw14_awake.calls kj2  true _ ?side1 A16.out).mono ?_); (case side1 => exact Glob.below hGA.out zb0); rintro e w40 ⟨rfl, hb⟩; refine ⟨_, rfl, ?_⟩; have n0_ := Aside0.mk (Kd.N_below zb13 hb); have n1_ := Aside0.mk (Kd.N_below zb31 hb); have n2_ := Aside0.mk (below_step zb0 hb); clear HO279; clear HO284; clear HB; have HO279 := n0_; have HO284 := n1_; have HB := n2_; clear n0_ n1_ n2_; (try clear hb); (try clear hb2); (try clear hk); (try clear hi)) | (go_at_call 10; (with_reducible refine (broadsheetlaw14_same.calls t274 t276 true _ A19.out).mono ?_); rintro e w' ⟨rfl, ⟨nd, rfl⟩⟩))
        go_ret
        exact ⟨zb6, zb0⟩
      ·replace c20 := Bool.eq_false_iff.mpr c20
       subst c20
       replace H : (some false) = some r := by rw [if_neg (show ¬ (false = true) by decide)] at H; exact H
       obtain rfl := Option.some.inj H
       go_wp2_with (first | ((with_reducible refine gate_callee (f := 7) rfl ?_); refine goesL_ (some 25) rfl rfl Tryz.func7 zb9 rfl #[.string a0, .slice A1 l1.length c1] rfl zb2 ?_; (with_reducible refine (quality_Best.calls kj2 a0 _ _ l1 t273 t274 _ ?side1 ?side2 ?side3 A10.out).mono ?_); (case side1 => repeat (first | exact (Kd.C_below HR1.out HB.out) | (with_reducible refine Kd.C_alloc ?_ _) | (with_reducible refine Kd.C_drewN ?_ _) | (with_reducible refine Kd.C_drew ?_))); (case side2 => exact HC1.out); (case side3 => exact Glob.below hGA.out zb0); rintro e w41 ⟨rfl, hb⟩; refine ⟨_, rfl, ?_⟩; have n0_ := Aside0.mk (below_step zb0 hb); clear HB; have HB := n0_; clear n0_; (try clear hb); (try clear hb2); (try clear hk); (try clear hi)) | ((with_reducible refine gate_callee (f := 8) rfl ?_); refine goesL_ (some 31) rfl rfl Tryz.func8 zb9 rfl #[.string a0, .slice A1 l1.length c1] rfl zb2 ?_; (with_reducible refine (broadsheetref14_Best.calls kj2 a0 _ _ l1 t275 t276 _ ?side1 ?side2 A11.out).mono ?_); (case side1 => repeat (first | exact (Kd.C_below HR1.out HB.out) | (with_reducible refine Kd.C_alloc ?_ _) | (with_reducible refine Kd.C_drewN ?_ _) | (with_reducible refine Kd.C_drew ?_))); (case side2 => exact HC1.out); rintro e w42 ⟨rfl, hb⟩; refine ⟨_, rfl, ?_⟩; have n0_ := Aside0.mk (below_step zb0 hb); clear HB; have HB := n0_; clear n0_; (try clear hb); (try clear hb2); (try clear hk); (try clear hi)) | ((with_reducible refine gate_callee (f := 9) rfl ?_); refine goesL_ (some 36) rfl rfl Tryz.func9 zb9 rfl #[] rfl zb2 ?_; (with_reducible refine (broadsheetlaw14_have.calls  t277 _ A12.out).mono ?_); rintro e w43 ⟨v278, rfl, ho0, hb⟩; refine ⟨_, rfl, ?_⟩; have n0_ := Aside0.mk (Kd.N_lower (Kd.N_mono (ok' := fun k_ => True) ho0 (fun k_ hk_ => trivial)) (below_size zb0)); have n1_ := Aside0.mk (below_step zb0 hb); clear HB; have HO279 := n0_; have HB := n1_; clear n0_ n1_; (try clear hb); (try clear hb2); (try clear hk); (try clear hi); (try clear ho0); obtain ⟨Ao44, co44, eo44⟩ := Kd.N_slice HO279.out; subst eo44) | ((with_reducible refine gate_callee (f := 7) rfl ?_); refine goesL_ (some 37) rfl rfl Tryz.func7 zb9 rfl #[.string a0, .slice Ao44 t277.length co44] rfl zb2 ?_; (with_reducible refine (quality_Best.calls kj2 a0 _ _ t277 t280 t281 _ ?side1 ?side2 ?side3 A13.out).mono ?_); (case side1 => repeat (first | exact (Kd.N_reads' HO279.out).2.2 | (with_reducible refine Kd.C_alloc ?_ _) | (with_reducible refine Kd.C_drewN ?_ _) | (with_reducible refine Kd.C_drew ?_))); (case side2 => exact (Kd.N_reads' HO279.out).2.1); (case side3 => exact Glob.below hGA.out zb0); rintro e w45 ⟨rfl, hb⟩; refine ⟨_, rfl, ?_⟩; have n0_ := Aside0.mk (Kd.N_below zb13 hb); have n1_ := Aside0.mk (below_step zb0 hb); clear HO279; clear HB; have HO279 := n0_; have HB := n1_; clear n0_ n1_; (try clear hb); (try clear hb2); (try clear hk); (try clear hi)) | ((with_reducible refine gate_callee (f := 9) rfl ?_); refine goesL_ (some 42) rfl rfl Tryz.func9 zb9 rfl #[] rfl zb2 ?_; (with_reducible refine (broadsheetlaw14_have.calls  t282 _ A14.out).mono ?_); rintro e w46 ⟨v283, rfl, ho0, hb⟩; refine ⟨_, rfl, ?_⟩; have n0_ := Aside0.mk (Kd.N_elder' zb13 (Kd.N_base ho0) hb); have n1_ := Aside0.mk (Kd.N_lower (Kd.N_mono (ok' := fun k_ => some k_ ≠ (.slice Ao44 t277.length co44 : Value).ownBlock) ho0 (fun k_ hk_ => (Kd.fresh' (Kd.N_lt zb13) k_ hk_))) (below_size zb0)); have n2_ := Aside0.mk (below_step zb0 hb); clear HO279; clear HB; have HO279 := n0_; have HO284 := n1_; have HB := n2_; clear n0_ n1_ n2_; (try clear hb); (try clear hb2); (try clear hk); (try clear hi); (try clear ho0); obtain ⟨Ao47, co47, eo47⟩ := Kd.N_slice HO284.out; subst eo47) | ((with_reducible refine gate_callee (f := 8) rfl ?_); refine goesL_ (some 43) rfl rfl Tryz.func8 zb9 rfl #[.string a0, .slice Ao47 t282.length co47] rfl zb2 ?_; (with_reducible refine (broadsheetref14_Best.calls kj2 a0 _ _ t282 t285 t286 _ ?side1 ?side2 A15.out).mono ?_); (case side1 => repeat (first | exact (Kd.N_reads' HO284.out).2.2 | (with_reducible refine Kd.C_alloc ?_ _) | (with_reducible refine Kd.C_drewN ?_ _) | (with_reducible refine Kd.C_drew ?_))); (case side2 => exact (Kd.N_reads' HO284.out).2.1); rintro e w48 ⟨rfl, hb⟩; refine ⟨_, rfl, ?_⟩; have n0_ := Aside0.mk (Kd.N_below zb13 hb); have n1_ := Aside0.mk (Kd.N_below zb31 hb); have n2_ := Aside0.mk (below_step zb0 hb); clear HO279; clear HO284; clear HB; have HO279 := n0_; have HO284 := n1_; have HB := n2_; clear n0_ n1_ n2_; (try clear hb); (try clear hb2); (try clear hk); (try clear hi)) | ((with_reducible refine gate_callee (f := 6) rfl ?_); refine goesL_ (some 46) rfl rfl Tryz.func6 zb9 rfl #[] rfl zb2 ?_; (with_reducible refine (broadsheetlaw14_awake.calls kj2  true _ ?side1 A16.out).mono ?_); (case side1 => exact Glob.below hGA.out zb0); rintro e w49 ⟨rfl, hb⟩; refine ⟨_, rfl, ?_⟩; have n0_ := Aside0.mk (Kd.N_below zb13 hb); have n1_ := Aside0.mk (Kd.N_below zb31 hb); have n2_ := Aside0.mk (below_step zb0 hb); clear HO279; clear HO284; clear HB; have HO279 := n0_; have HO284 := n1_; have HB := n2_; clear n0_ n1_ n2_; (try clear hb); (try clear hb2); (try clear hk); (try clear hi)) | (go_at_call 10; (with_reducible refine (broadsheetlaw14_same.calls t274 t276 false _ A19.out).mono ?_); rintro e w' ⟨rfl, ⟨nd, rfl⟩⟩))
       go_ret
       exact ⟨zb6, zb0⟩
     ·rw [if_neg c18] at H
      have c18b0 : (t273 == t275) = false := beq_eq_false_iff_ne.mpr c18
      have c18b1 : (t273 != t275) = true := bne_iff_ne.mpr c18
      obtain rfl := Option.some.inj H
      go_wp2_with (first | ((with_reducible refine gate_callee (f := 7) rfl ?_); refine goesL_ (some 25) rfl rfl Tryz.func7 zb9 rfl #[.string a0, .slice A1 l1.length c1] rfl zb2 ?_; (with_reducible refine (quality_Best.calls kj2 a0 _ _ l1 t273 t274 _ ?side1 ?side2 ?side3 A10.out).mono ?_); (case side1 => repeat (first | exact (Kd.C_below HR1.out HB.out) | (with_reducible refine Kd.C_alloc ?_ _) | (with_reducible refine Kd.C_drewN ?_ _) | (with_reducible refine Kd.C_drew ?_))); (case side2 => exact HC1.out); (case side3 => exact Glob.below hGA.out zb0); rintro e w50 ⟨rfl, hb⟩; refine ⟨_, rfl, ?_⟩; have n0_ := Aside0.mk (below_step zb0 hb); clear HB; have HB := n0_; clear n0_; (try clear hb); (try clear hb2); (try clear hk); (try clear hi)) | ((with_reducible refine gate_callee (f := 8) rfl ?_); refine goesL_ (some 31) rfl rfl Tryz.func8 zb9 rfl #[.string a0, .slice A1 l1.length c1] rfl zb2 ?_; (with_reducible refine (broadsheetref14_Best.calls kj2 a0 _ _ l1 t275 t276 _ ?side1 ?side2 A11.out).mono ?_); (case side1 => repeat (first | exact (Kd.C_below HR1.out HB.out) | (with_reducible refine Kd.C_alloc ?_ _) | (with_reducible refine Kd.C_drewN ?_ _) | (with_reducible refine Kd.C_drew ?_))); (case side2 => exact HC1.out); rintro e w51 ⟨rfl, hb⟩; refine ⟨_, rfl, ?_⟩; have n0_ := Aside0.mk (below_step zb0 hb); clear HB; have HB := n0_; clear n0_; (try clear hb); (try clear hb2); (try clear hk); (try clear hi)) | ((with_reducible refine gate_callee (f := 9) rfl ?_); refine goesL_ (some 36) rfl rfl Tryz.func9 zb9 rfl #[] rfl zb2 ?_; (with_reducible refine (broadsheetlaw14_have.calls  t277 _ A12.out).mono ?_); rintro e w52 ⟨v278, rfl, ho0, hb⟩; refine ⟨_, rfl, ?_⟩; have n0_ := Aside0.mk (Kd.N_lower (Kd.N_mono (ok' := fun k_ => True) ho0 (fun k_ hk_ => trivial)) (below_size zb0)); have n1_ := Aside0.mk (below_step zb0 hb); clear HB; have HO279 := n0_; have HB := n1_; clear n0_ n1_; (try clear hb); (try clear hb2); (try clear hk); (try clear hi); (try clear ho0); obtain ⟨Ao53, co53, eo53⟩ := Kd.N_slice HO279.out; subst eo53) | ((with_reducible refine gate_callee (f := 7) rfl ?_); refine goesL_ (some 37) rfl rfl Tryz.func7 zb9 rfl #[.string a0, .slice Ao53 t277.length co53] rfl zb2 ?_; (with_reducible refine (quality_Best.calls kj2 a0 _ _ t277 t280 t281 _ ?side1 ?side2 ?side3 A13.out).mono ?_); (case side1 => repeat (first | exact (Kd.N_reads' HO279.out).2.2 | (with_reducible refine Kd.C_alloc ?_ _) | (with_reducible refine Kd.C_drewN ?_ _) | (with_reducible refine Kd.C_drew ?_))); (case side2 => exact (Kd.N_reads' HO279.out).2.1); (case side3 => exact Glob.below hGA.out zb0); rintro e w54 ⟨rfl, hb⟩; refine ⟨_, rfl, ?_⟩; have n0_ := Aside0.mk (Kd.N_below zb13 hb); have n1_ := Aside0.mk (below_step zb0 hb); clear HO279; clear HB; have HO279 := n0_; have HB := n1_; clear n0_ n1_; (try clear hb); (try clear hb2); (try clear hk); (try clear hi)) | ((with_reducible refine gate_callee (f := 9) rfl ?_); refine goesL_ (some 42) rfl rfl Tryz.func9 zb9 rfl #[] rfl zb2 ?_; (with_reducible refine (broadsheetlaw14_have.calls  t282 _ A14.out).mono ?_); rintro e w55 ⟨v283, rfl, ho0, hb⟩; refine ⟨_, rfl, ?_⟩; have n0_ := Aside0.mk (Kd.N_elder' zb13 (Kd.N_base ho0) hb); have n1_ := Aside0.mk (Kd.N_lower (Kd.N_mono (ok' := fun k_ => some k_ ≠ (.slice Ao53 t277.length co53 : Value).ownBlock) ho0 (fun k_ hk_ => (Kd.fresh' (Kd.N_lt zb13) k_ hk_))) (below_size zb0)); have n2_ := Aside0.mk (below_step zb0 hb); clear HO279; clear HB; have HO279 := n0_; have HO284 := n1_; have HB := n2_; clear n0_ n1_ n2_; (try clear hb); (try clear hb2); (try clear hk); (try clear hi); (try clear ho0); obtain ⟨Ao56, co56, eo56⟩ := Kd.N_slice HO284.out; subst eo56) | ((with_reducible refine gate_callee (f := 8) rfl ?_); refine goesL_ (some 43) rfl rfl Tryz.func8 zb9 rfl #[.string a0, .slice Ao56 t282.length co56] rfl zb2 ?_; (with_reducible refine (broadsheetref14_Best.calls kj2 a0 _ _ t282 t285 t286 _ ?side1 ?side2 A15.out).mono ?_); (case side1 => repeat (first | exact (Kd.N_reads' HO284.out).2.2 | (with_reducible refine Kd.C_alloc ?_ _) | (with_reducible refine Kd.C_drewN ?_ _) | (with_reducible refine Kd.C_drew ?_))); (case side2 => exact (Kd.N_reads' HO284.out).2.1); rintro e w57 ⟨rfl, hb⟩; refine ⟨_, rfl, ?_⟩; have n0_ := Aside0.mk (Kd.N_below zb13 hb); have n1_ := Aside0.mk (Kd.N_below zb31 hb); have n2_ := Aside0.mk (below_step zb0 hb); clear HO279; clear HO284; clear HB; have HO279 := n0_; have HO284 := n1_; have HB := n2_; clear n0_ n1_ n2_; (try clear hb); (try clear hb2); (try clear hk); (try clear hi)) | ((with_reducible refine gate_callee (f := 6) rfl ?_); refine goesL_ (some 46) rfl rfl Tryz.func6 zb9 rfl #[] rfl zb2 ?_; (with_reducible refine (broadsheetlaw14_awake.calls kj2  true _ ?side1 A16.out).mono ?_); (case side1 => exact Glob.below hGA.out zb0); rintro e w58 ⟨rfl, hb⟩; refine ⟨_, rfl, ?_⟩; have n0_ := Aside0.mk (Kd.N_below zb13 hb); have n1_ := Aside0.mk (Kd.N_below zb31 hb); have n2_ := Aside0.mk (below_step zb0 hb); clear HO279; clear HO284; clear HB; have HO279 := n0_; have HO284 := n1_; have HB := n2_; clear n0_ n1_ n2_; (try clear hb); (try clear hb2); (try clear hk); (try clear hi)))
      go_ret
      exact ⟨zb6, zb0⟩
    ·replace c17 := Bool.eq_false_iff.mpr c17
     subst c17
     replace H : (some false) = some r := by rw [if_neg (show ¬ (false = true) by decide)] at H; exact H
     obtain rfl := Option.some.inj H
     go_wp2_with (first | ((with_reducible refine gate_callee (f := 7) rfl ?_); refine goesL_ (some 25) rfl rfl Tryz.func7 zb9 rfl #[.string a0, .slice A1 l1.length c1] rfl zb2 ?_; (with_reducible refine (quality_Best.calls kj2 a0 _ _ l1 t273 t274 _ ?side1 ?side2 ?side3 A10.out).mono ?_); (case side1 => repeat (first | exact (Kd.C_below HR1.out HB.out) | (with_reducible refine Kd.C_alloc ?_ _) | (with_reducible refine Kd.C_drewN ?_ _) | (with_reducible refine Kd.C_drew ?_))); (case side2 => exact HC1.out); (case side3 => exact Glob.below hGA.out zb0); rintro e w59 ⟨rfl, hb⟩; refine ⟨_, rfl, ?_⟩; have n0_ := Aside0.mk (below_step zb0 hb); clear HB; have HB := n0_; clear n0_; (try clear hb); (try clear hb2); (try clear hk); (try clear hi)) | ((with_reducible refine gate_callee (f := 8) rfl ?_); refine goesL_ (some 31) rfl rfl Tryz.func8 zb9 rfl #[.string a0, .slice A1 l1.length c1] rfl zb2 ?_; (with_reducible refine (broadsheetref14_Best.calls kj2 a0 _ _ l1 t275 t276 _ ?side1 ?side2 A11.out).mono ?_); (case side1 => repeat (first | exact (Kd.C_below HR1.out HB.out) | (with_reducible refine Kd.C_alloc ?_ _) | (with_reducible refine Kd.C_drewN ?_ _) | (with_reducible refine Kd.C_drew ?_))); (case side2 => exact HC1.out); rintro e w60 ⟨rfl, hb⟩; refine ⟨_, rfl, ?_⟩; have n0_ := Aside0.mk (below_step zb0 hb); clear HB; have HB := n0_; clear n0_; (try clear hb); (try clear hb2); (try clear hk); (try clear hi)) | ((with_reducible refine gate_callee (f := 9) rfl ?_); refine goesL_ (some 36) rfl rfl Tryz.func9 zb9 rfl #[] rfl zb2 ?_; (with_reducible refine (broadsheetlaw14_have.calls  t277 _ A12.out).mono ?_); rintro e w61 ⟨v278, rfl, ho0, hb⟩; refine ⟨_, rfl, ?_⟩; have n0_ := Aside0.mk (Kd.N_lower (Kd.N_mono (ok' := fun k_ => True) ho0 (fun k_ hk_ => trivial)) (below_size zb0)); have n1_ := Aside0.mk (below_step zb0 hb); clear HB; have HO279 := n0_; have HB := n1_; clear n0_ n1_; (try clear hb); (try clear hb2); (try clear hk); (try clear hi); (try clear ho0); obtain ⟨Ao62, co62, eo62⟩ := Kd.N_slice HO279.out; subst eo62) | ((with_reducible refine gate_callee (f := 7) rfl ?_); refine goesL_ (some 37) rfl rfl Tryz.func7 zb9 rfl #[.string a0, .slice Ao62 t277.length co62] rfl zb2 ?_; (with_reducible refine (quality_Best.calls kj2 a0 _ _ t277 t280 t281 _ ?side1 ?side2 ?side3 A13.out).mono ?_); (case side1 => repeat (first | exact (Kd.N_reads' HO279.out).2.2 | (with_reducible refine Kd.C_alloc ?_ _) | (with_reducible refine Kd.C_drewN ?_ _) | (with_reducible refine Kd.C_drew ?_))); (case side2 => exact (Kd.N_reads' HO279.out).2.1); (case side3 => exact Glob.below hGA.out zb0); rintro e w63 ⟨rfl, hb⟩; refine ⟨_, rfl, ?_⟩; have n0_ := Aside0.mk (Kd.N_below zb13 hb); have n1_ := Aside0.mk (below_step zb0 hb); clear HO279; clear HB; have HO279 := n0_; have HB := n1_; clear n0_ n1_; (try clear hb); (try clear hb2); (try clear hk); (try clear hi)) | ((with_reducible refine gate_callee (f := 9) rfl ?_); refine goesL_ (some 42) rfl rfl Tryz.func9 zb9 rfl #[] rfl zb2 ?_; (with_reducible refine (broadsheetlaw14_have.calls  t282 _ A14.out).mono ?_); rintro e w64 ⟨v283, rfl, ho0, hb⟩; refine ⟨_, rfl, ?_⟩; have n0_ := Aside0.mk (Kd.N_elder' zb13 (Kd.N_base ho0) hb); have n1_ := Aside0.mk (Kd.N_lower (Kd.N_mono (ok' := fun k_ => some k_ ≠ (.slice Ao62 t277.length co62 : Value).ownBlock) ho0 (fun k_ hk_ => (Kd.fresh' (Kd.N_lt zb13) k_ hk_))) (below_size zb0)); have n2_ := Aside0.mk (below_step zb0 hb); clear HO279; clear HB; have HO279 := n0_; have HO284 := n1_; have HB := n2_; clear n0_ n1_ n2_; (try clear hb); (try clear hb2); (try clear hk); (try clear hi); (try clear ho0); obtain ⟨Ao65, co65, eo65⟩ := Kd.N_slice HO284.out; subst eo65) | ((with_reducible refine gate_callee (f := 8) rfl ?_); refine goesL_ (some 43) rfl rfl Tryz.func8 zb9 rfl #[.string a0, .slice Ao65 t282.length co65] rfl zb2 ?_; (with_reducible refine (broadsheetref14_Best.calls kj2 a0 _ _ t282 t285 t286 _ ?side1 ?side2 A15.out).mono ?_); (case side1 => repeat (first | exact (Kd.N_reads' HO284.out).2.2 | (with_reducible refine Kd.C_alloc ?_ _) | (with_reducible refine Kd.C_drewN ?_ _) | (with_reducible refine Kd.C_drew ?_))); (case side2 => exact (Kd.N_reads' HO284.out).2.1); rintro e w66 ⟨rfl, hb⟩; refine ⟨_, rfl, ?_⟩; have n0_ := Aside0.mk (Kd.N_below zb13 hb); have n1_ := Aside0.mk (Kd.N_below zb31 hb); have n2_ := Aside0.mk (below_step zb0 hb); clear HO279; clear HO284; clear HB; have HO279 := n0_; have HO284 := n1_; have HB := n2_; clear n0_ n1_ n2_; (try clear hb); (try clear hb2); (try clear hk); (try clear hi)) | ((with_reducible refine gate_callee (f := 6) rfl ?_); refine goesL_ (some 46) rfl rfl Tryz.func6 zb9 rfl #[] rfl zb2 ?_; (with_reducible refine (broadsheetlaw14_awake.calls kj2  false _ ?side1 A16.out).mono ?_); (case side1 => exact Glob.below hGA.out zb0); rintro e w67 ⟨rfl, hb⟩; refine ⟨_, rfl, ?_⟩; have n0_ := Aside0.mk (Kd.N_below zb13 hb); have n1_ := Aside0.mk (Kd.N_below zb31 hb); have n2_ := Aside0.mk (below_step zb0 hb); clear HO279; clear HO284; clear HB; have HO279 := n0_; have HO284 := n1_; have HB := n2_; clear n0_ n1_ n2_; (try clear hb); (try clear hb2); (try clear hk); (try clear hi)))
     go_ret
     exact ⟨zb6, zb0⟩
end Go.Proofs.YtghfbhobpodoeaaGreatDoor.P
/- SpBests -/
namespace Go.Proofs.YtghfbhobpodoeaaGreatDoor.Sp
open Go Go.RowKit Go.Proofs.YtghfbhobpodoeaaGreatDoorW.PrintWords Go.Proofs.YtghfbhobpodoeaaGreatDoorW.PrintLast Go.Proofs.YtghfbhobpodoeaaGreatDoor.O Go.Proofs.YtghfbhobpodoeaaGreatDoor.P
set_option linter.unusedVariables false
set_option linter.unusedSimpArgs false
theorem s92 : (⟨#[92]⟩ : ByteArray).size = 1 := rfl
theorem s34 : (⟨#[34]⟩ : ByteArray).size = 1 := rfl
theorem s61 : (⟨#[61]⟩ : ByteArray).size = 1 := rfl
theorem s47 : (⟨#[47]⟩ : ByteArray).size = 1 := rfl
theorem s5932 : (⟨#[59, 32]⟩ : ByteArray).size = 2 := rfl
theorem quo_l0 (v : L) (hv : v.length ≤ 2000000) : ∀ (d k i : Nat) (acc : ByteArray), i + d = v.length → d < k → acc.size + 2 * d ≤ 1000000000000000 →
    ∃ t, broadsheetref13_quote.l0 k (mk v) acc (i : Int) = some t ∧ acc.size + d ≤ t.size ∧ t.size ≤ acc.size + 2 * d + 1 := by
  intro d
  induction d with
  | zero =>
    intro k i acc hi hk ha
    obtain ⟨k, rfl⟩ : ∃ m, k = m + 1 := ⟨k - 1, by omega⟩
    rw [broadsheetref13_quote.l0, if_neg (by rw [mk_size]; omega), if_pos (by omega)]
    refine ⟨_, rfl, ?_, ?_⟩ <;> rw [ByteArray.size_append, s34] <;> omega
  | succ d ih =>
    intro k i acc hi hk ha
    obtain ⟨k, rfl⟩ : ∃ m, k = m + 1 := ⟨k - 1, by omega⟩
    have hx : ((mk v).extract ((i : Int)).toNat (((i + 1 : Nat) : Int)).toNat).size = 1 := by
      rw [Int.toNat_natCast, Int.toNat_natCast, ext_mk, mk_size, List.length_take, List.length_drop]
      omega
    rw [broadsheetref13_quote.l0, if_pos (by rw [mk_size]; omega), if_pos (by omega), w1_ i (by omega)]
    generalize (mk v).extract ((i : Int)).toNat (((i + 1 : Nat) : Int)).toNat = e at *
    have h2 : ∃ t, broadsheetref13_quote.l0 k (mk v) ((acc ++ (⟨#[92]⟩ : ByteArray)) ++ e) ((i + 1 : Nat) : Int) = some t ∧ acc.size + (d + 1) ≤ t.size ∧ t.size ≤ acc.size + 2 * (d + 1) + 1 := by
      obtain ⟨t, g1, g2, g3⟩ := ih k (i + 1) ((acc ++ (⟨#[92]⟩ : ByteArray)) ++ e) (by omega) (by omega) (by rw [ByteArray.size_append, ByteArray.size_append, s92]; omega)
      rw [ByteArray.size_append, ByteArray.size_append, s92] at g2 g3
      exact ⟨t, g1, by omega, by omega⟩
    have h3 : ∃ t, broadsheetref13_quote.l0 k (mk v) (acc ++ e) ((i + 1 : Nat) : Int) = some t ∧ acc.size + (d + 1) ≤ t.size ∧ t.size ≤ acc.size + 2 * (d + 1) + 1 := by
      obtain ⟨t, g1, g2, g3⟩ := ih k (i + 1) (acc ++ e) (by omega) (by omega) (by rw [ByteArray.size_append]; omega)
      rw [ByteArray.size_append] at g2 g3
      exact ⟨t, g1, by omega, by omega⟩
    have c1 : (i : Int) ≤ ((i + 1 : Nat) : Int) := by omega
    have c2 : ((i + 1 : Nat) : Int) ≤ ((mk v).size : Int) := by rw [mk_size]; omega
    have c3 : acc.size + 1 ≤ 9223372036854775807 := by omega
    have c4 : (acc ++ (⟨#[92]⟩ : ByteArray)).size + e.size ≤ 9223372036854775807 := by rw [ByteArray.size_append, s92]; omega
    have c5 : acc.size + e.size ≤ 9223372036854775807 := by omega
    rw [if_pos c3, if_pos c1, if_pos c2, if_pos c4, if_pos c5]
    by_cases h34 : bt (mk v) (i : Int) = 34
    · rw [if_pos h34]; exact h2
    · rw [if_neg h34]
      by_cases h92 : bt (mk v) (i : Int) = 92
      · rw [if_pos h92]; exact h2
      · rw [if_neg h92, if_pos c1, if_pos c2]; exact h3
theorem quoteF (v : L) (k : Nat) (hv : v.length ≤ 2000000) (hk : 2000010 ≤ k) : ∃ t, broadsheetref13_quote.f k (mk v) = some t ∧ v.length ≤ t.size ∧ t.size ≤ 2 * v.length + 2 := by
  have hj : ∀ x : Bool, ∃ t, broadsheetref13_quote.j0 k (mk v) x = some t ∧ v.length ≤ t.size ∧ t.size ≤ 2 * v.length + 2 := by
    intro x
    obtain ⟨k, rfl⟩ : ∃ m, k = m + 1 := ⟨k - 1, by omega⟩
    rw [broadsheetref13_quote.j0]
    cases x with
    | true => rw [if_pos rfl]; exact ⟨_, rfl, by rw [mk_size]; omega, by rw [mk_size]; omega⟩
    | false =>
      rw [if_neg Bool.false_ne_true]
      obtain ⟨t, g1, g2, g3⟩ := quo_l0 v hv v.length k 0 (⟨#[34]⟩ : ByteArray) (by omega) (by omega) (by rw [s34]; omega)
      rw [s34] at g2 g3
      exact ⟨t, g1, by omega, by omega⟩
  unfold broadsheetref13_quote.f
  rw [rtokF v k (by omega) (by omega), Option.bind_some]
  split
  · exact hj _
  · exact hj _
theorem prn_l0 (ps : List (L × L)) (a b : ByteArray) (hn : ps.length ≤ 2000000) (hp : ∀ p ∈ ps, p.1.length ≤ 2000000 ∧ p.2.length ≤ 2000000) : ∀ (d k i : Nat) (acc : ByteArray), i + d = ps.length → d + 3000000 ≤ k → acc.size + d * 6000010 ≤ 1000000000000000 →
    ∃ t, broadsheetref13_Print.l0 k acc (i : Int) a b (pairsB ps) = some t ∧ acc.size + d ≤ t.size ∧ ∀ p ∈ ps.drop i, p.1.length ≤ t.size ∧ p.2.length ≤ t.size := by
  intro d
  induction d with
  | zero =>
    intro k i acc hi hk ha
    obtain ⟨k, rfl⟩ : ∃ m, k = m + 1 := ⟨k - 1, by omega⟩
    rw [broadsheetref13_Print.l0, if_neg (by rw [pairsB_len]; omega), List.drop_eq_nil_of_le (by omega)]
    exact ⟨_, rfl, by omega, fun p hp => by simp at hp⟩
  | succ d ih =>
    intro k i acc hi hk ha
    obtain ⟨k, rfl⟩ : ∃ m, k = m + 1 := ⟨k - 1, by omega⟩
    have hlt : i < ps.length := by omega
    have hb := hp ps[i] (List.getElem_mem hlt)
    rw [broadsheetref13_Print.l0, if_pos (by rw [pairsB_len]; omega), rdp ps i ps[i] (List.getElem?_eq_getElem hlt), List.drop_eq_getElem_cons hlt]
    generalize ps[i] = p at *
    obtain ⟨p1, p2⟩ := p
    simp only at hb ⊢
    obtain ⟨q, q1, q2, q3⟩ := quoteF p2 k hb.2 (by omega)
    have e1 : (acc ++ (⟨#[59, 32]⟩ : ByteArray)).size = acc.size + 2 := by rw [ByteArray.size_append, s5932]
    have e2 : ((acc ++ (⟨#[59, 32]⟩ : ByteArray)) ++ mk p1).size = acc.size + 2 + p1.length := by rw [ByteArray.size_append, e1, mk_size]
    have e3 : (((acc ++ (⟨#[59, 32]⟩ : ByteArray)) ++ mk p1) ++ (⟨#[61]⟩ : ByteArray)).size = acc.size + 2 + p1.length + 1 := by rw [ByteArray.size_append, e2, s61]
    have e4 : ((((acc ++ (⟨#[59, 32]⟩ : ByteArray)) ++ mk p1) ++ (⟨#[61]⟩ : ByteArray)) ++ q).size = acc.size + 2 + p1.length + 1 + q.size := by rw [ByteArray.size_append, e3]
    rw [if_pos (by omega), if_pos (by omega), if_pos (by rw [e1, mk_size]; omega), if_pos (by rw [e2]; omega), q1, Option.bind_some, if_pos (by rw [e3]; omega), w1_ i (by omega)]
    obtain ⟨t, g1, g2, g3⟩ := ih k (i + 1) _ (by omega) (by omega) (by rw [e4]; omega)
    rw [e4] at g2
    refine ⟨t, g1, by omega, fun p hp => ?_⟩
    rcases List.mem_cons.1 hp with rfl | hp
    · exact ⟨by show p1.length ≤ _; omega, by show p2.length ≤ _; omega⟩
    · exact g3 p hp
theorem printF (m : Med) (k : Nat) (hm : MSm 2000000 m) (hk : 6000000 ≤ k) : ∃ t, broadsheetref13_Print.f k (mk m.t) (mk m.s) (pairsB m.ps) = some t ∧ (t.size ≤ 300 → MSm 300 m) := by
  have h1 := hm.t
  have h2 := hm.s
  have h3 := hm.n
  unfold broadsheetref13_Print.f
  have e1 : (mk m.t ++ (⟨#[47]⟩ : ByteArray)).size = m.t.length + 1 := by rw [ByteArray.size_append, s47, mk_size]
  have e2 : ((mk m.t ++ (⟨#[47]⟩ : ByteArray)) ++ mk m.s).size = m.t.length + 1 + m.s.length := by rw [ByteArray.size_append, e1, mk_size]
  rw [if_pos (by rw [mk_size]; omega), if_pos (by rw [e1, mk_size]; omega)]
  obtain ⟨t, g1, g2, g3⟩ := prn_l0 m.ps (mk m.t) (mk m.s) h3 hm.p m.ps.length k 0 _ (by omega) (by omega) (by rw [e2]; omega)
  rw [e2] at g2
  refine ⟨t, g1, fun ht => ⟨by omega, by omega, by omega, fun p hp => ?_⟩⟩
  have := g3 p (by simpa using hp)
  omega
theorem few_l0 (h : List Med) (hb : ∀ m ∈ h, MSm 2000000 m) (hn : h.length ≤ 2000000) : ∀ (d k i : Nat), i + d = h.length → 2 * d + 7000000 ≤ k →
    ∃ r, broadsheetlaw14_few.l0 k (h.map medB) (i : Int) = some r ∧ (r = true → h.length ≤ 20 ∧ ∀ m ∈ h.drop i, MSm 300 m) := by
  have hend : ∀ (k : Nat) (i : Int), ∃ r, broadsheetlaw14_few.j1 (k + 1) (h.map medB) i false = some r ∧ (r = true → h.length ≤ 20) := by
    intro k i
    rw [broadsheetlaw14_few.j1, if_neg Bool.false_ne_true]
    refine ⟨_, rfl, fun hr => ?_⟩
    have := of_decide_eq_true hr
    rw [List.length_map] at this
    omega
  intro d
  induction d with
  | zero =>
    intro k i hi hk
    obtain ⟨k, rfl⟩ : ∃ m, k = m + 1 + 1 := ⟨k - 2, by omega⟩
    rw [broadsheetlaw14_few.l0, if_neg (by rw [List.length_map]; omega), List.drop_eq_nil_of_le (by omega)]
    obtain ⟨r, h1, h2⟩ := hend k i
    exact ⟨r, h1, fun hr => ⟨h2 hr, fun m hm => by simp at hm⟩⟩
  | succ d ih =>
    intro k i hi hk
    obtain ⟨k, rfl⟩ : ∃ m, k = m + 1 + 1 := ⟨k - 2, by omega⟩
    have hlt : i < h.length := by omega
    have hm := hb h[i] (List.getElem_mem hlt)
    rw [broadsheetlaw14_few.l0, if_pos (by rw [List.length_map]; omega)]
    by_cases h20 : (i : Int) ≤ 20
    · rw [decide_eq_true h20, broadsheetlaw14_few.j1, if_pos rfl, if_pos (by omega), if_pos (by rw [List.length_map]; omega), rdm h i h[i] (List.getElem?_eq_getElem hlt), List.drop_eq_getElem_cons hlt]
      generalize h[i] = m at *
      show ∃ r, (broadsheetref13_Print.f k (mk m.t) (mk m.s) (pairsB m.ps)).bind _ = some r ∧ _
      obtain ⟨t, g1, g2⟩ := printF m k hm (by omega)
      rw [g1, Option.bind_some]
      by_cases h300 : (t.size : Int) > 300
      · rw [if_pos h300]
        exact ⟨_, rfl, fun x => by cases x⟩
      · rw [if_neg h300, w1_ i (by omega)]
        obtain ⟨r, r1, r2⟩ := ih k (i + 1) (by omega) (by omega)
        refine ⟨r, r1, fun hr => ⟨(r2 hr).1, fun x hx => ?_⟩⟩
        rcases List.mem_cons.1 hx with rfl | hx
        · exact g2 (by omega)
        · exact (r2 hr).2 x hx
    · rw [decide_eq_false h20]
      obtain ⟨r, h1, h2⟩ := hend k i
      exact ⟨r, h1, fun hr => by have := h2 hr; omega⟩
theorem fewF (h : List Med) (k : Nat) (hb : ∀ m ∈ h, MSm 2000000 m) (hn : h.length ≤ 2000000) (hk : 12000000 ≤ k) : ∃ r, broadsheetlaw14_few.f k (h.map medB) = some r ∧ (r = true → h.length ≤ 20 ∧ ∀ m ∈ h, MSm 300 m) := by
  unfold broadsheetlaw14_few.f
  have := few_l0 h hb hn h.length k 0 (by omega) (by omega)
  simpa using this
theorem msm_le {N M : Nat} {m : Med} (h : MSm N m) (hNM : N ≤ M) : MSm M m := by
  obtain ⟨c1, c2, c3, c4⟩ := h
  exact ⟨by omega, by omega, by omega, fun p hp => by have := c4 p hp; omega⟩
theorem quality_bests_med (u : L) (h : List Med) (hb : ∀ m ∈ h, MSm 2000000 m) (hn : h.length ≤ 2000000) : broadsheetlaw14_QualityBests.f 20000000 (mk u) (h.map medB) = some true := by
  unfold broadsheetlaw14_QualityBests.f
  have hj : ∀ k, 12000000 ≤ k → broadsheetlaw14_QualityBests.j0 k (mk u) (h.map medB) true = some true := by
    intro k hk
    obtain ⟨k, rfl⟩ : ∃ m, k = m + 1 := ⟨k - 1, by omega⟩
    rw [broadsheetlaw14_QualityBests.j0, if_pos rfl, awake14 _ (by omega)]
    rfl
  by_cases hu : ((mk u).size : Int) > 1000
  · rw [if_pos hu, hj _ (by omega)]
  · rw [if_neg hu]
    rw [mk_size] at hu
    obtain ⟨r, h1, h2⟩ := fewF h 20000000 hb hn (by omega)
    rw [h1, Option.bind_some]
    cases r with
    | false => exact hj _ (by omega)
    | true =>
      obtain ⟨g1, g2⟩ := h2 rfl
      have g3 : ∀ m ∈ h, MSm 1000000 m := fun m hm => msm_le (g2 m hm) (by omega)
      show broadsheetlaw14_QualityBests.j0 (19999999 + 1) (mk u) (h.map medB) false = some true
      rw [broadsheetlaw14_QualityBests.j0, if_neg Bool.false_ne_true, haveF]
      simp only [Option.bind_some]
      rw [bestF u h _ (by omega) g3 (by omega) (by omega), Option.bind_some, rbestF u h _ (by omega) g3 (by omega) (by omega), Option.bind_some, bestF u haveL _ (by omega) have_sm (by decide) (by omega), Option.bind_some, rbestF u haveL _ (by omega) have_sm (by decide) (by omega), Option.bind_some, awake14 _ (by omega), Option.bind_some, if_pos rfl, if_pos rfl, sameF_, same_self, Option.bind_some, if_pos rfl, if_pos rfl, sameF_, same_self]
      rfl
def unM (x : S40) : Med := ⟨x.f0.data.toList, x.f1.data.toList, x.f2.map fun y => (y.f0.data.toList, y.f1.data.toList)⟩
theorem medB_un (x : S40) : medB (unM x) = x := by
  obtain ⟨a, b, l⟩ := x
  unfold medB unM pairsB
  rw [mk_self, mk_self, List.map_map]
  congr 1
  conv => rhs; rw [← List.map_id l]
  refine List.map_congr_left (fun y _ => ?_)
  obtain ⟨c, d⟩ := y
  show (⟨mk c.data.toList, mk d.data.toList⟩ : S50) = _
  rw [mk_self, mk_self]
  rfl
theorem quality_bests_all (s : ByteArray) (l : List S40) (hn : l.length ≤ 2000000) (hb : ∀ x ∈ l, x.f0.size ≤ 2000000 ∧ x.f1.size ≤ 2000000 ∧ x.f2.length ≤ 2000000 ∧ ∀ y ∈ x.f2, y.f0.size ≤ 2000000 ∧ y.f1.size ≤ 2000000) : ∃ k, broadsheetlaw14_QualityBests.f k s l = some true := by
  refine ⟨20000000, ?_⟩
  have e : l = (l.map unM).map medB := by
    rw [List.map_map]
    conv => lhs; rw [← List.map_id l]
    exact List.map_congr_left (fun x _ => (medB_un x).symm)
  rw [← mk_self s, e]
  refine quality_bests_med _ _ (fun m hm => ?_) (by rw [List.length_map]; omega)
  obtain ⟨x, hx, rfl⟩ := List.mem_map.1 hm
  obtain ⟨b1, b2, b3, b4⟩ := hb x hx
  rw [Lib.size_eq] at b1 b2
  refine ⟨b1, b2, by show (x.f2.map _).length ≤ _; rw [List.length_map]; omega, fun p hp => ?_⟩
  obtain ⟨y, hy, rfl⟩ := List.mem_map.1 hp
  have := b4 y hy
  rw [Lib.size_eq, Lib.size_eq] at this
  exact this
end Go.Proofs.YtghfbhobpodoeaaGreatDoor.Sp
/- CardW -/
namespace Go.Proofs.YtghfbhobpodoeaaGreatDoor.Cg
open Go.RowKit Go.Proofs.YtghfbhobpodoeaaGreatDoor.P Go.Proofs.YtghfbhobpodoeaaGreatDoorW.PrintWords Go.Proofs.YtghfbhobpodoeaaGreatDoorW.PrintLast Go.Proofs.YtghfbhobpodoeaaGreatDoor.O
open Go.ChangeShapes Go.WideShapes Go.Deep
set_option linter.unusedVariables false
theorem var_iface {W : World} {n nm : String} {d : DataW Unit} {g t : Nat} {ms : Array (String × TypeId)} (h : Lib.VarReads Tryz.prog W n (.iface nm d)) (hg : Tryz.prog.globalNamed n = some g) (ht : (Tryz.prog.globals[g]?).map (·.type) = some t) (hi : Tryz.prog.underlying t = some (.interface ms)) :
    ∃ t p, W.var? Tryz.prog n = some #[.iface t p] := by
  obtain ⟨g', t', cs, fuel, p, hg', ht', hv, hd⟩ := h
  obtain rfl := Option.some.inj (hg.symm.trans hg')
  obtain rfl := Option.some.inj (ht.symm.trans ht')
  obtain ⟨_, u, v, e, _, _⟩ := iface_of_trod hi hd
  refine ⟨u, v, ?_⟩
  rw [hv]
  cases cs
  simp only at e
  rw [e]
theorem bulk_mem {H : Type} : ∀ {ds : List (DataW H)} {d : DataW H}, d ∈ ds → Rows.uptoBulk d ≤ Rows.uptoBulkAll ds
  | d0 :: r, d, hd => by
    rw [Rows.uptoBulkAll]
    rcases List.mem_cons.1 hd with rfl | hd
    · omega
    · have := bulk_mem hd
      omega
  | [], _, hd => by simp at hd
theorem bulk_one {H : Type} (d : DataW H) : 1 ≤ Rows.uptoBulk d := by
  cases d with
  | lit l => cases l <;> simp [Rows.uptoBulk]
  | nil => simp [Rows.uptoBulk]
  | ptr d => simp [Rows.uptoBulk]
  | slice a b => simp [Rows.uptoBulk]
  | agg a => simp [Rows.uptoBulk]
  | iface t d => simp [Rows.uptoBulk]
  | map e => simp [Rows.uptoBulk]
  | held h => simp [Rows.uptoBulk]
theorem bulk_len {H : Type} : ∀ ds : List (DataW H), ds.length ≤ Rows.uptoBulkAll ds
  | [] => by simp
  | d :: r => by
    have h1 := bulk_one d
    have h2 := bulk_len r
    rw [Rows.uptoBulkAll, List.length_cons]
    omega
theorem pairs_atb {H : Type} {enc : TypeId × Value → H} {W : World} {v : Value} {d : DataW H} {p : List MemPlace} {fuel : Nat} (hf : DataW.trod enc Tryz.prog W 0 (fun _ => true) true fuel 38 [v] = some (d, p)) :
    ∃ A c l, v = .slice A l.length c ∧ l.length ≤ c ∧ Kd.C k50 W A l.length l ∧ l.length ≤ Rows.uptoBulk d ∧ ∀ x ∈ l, x.f0.size ≤ Rows.uptoBulk d ∧ x.f1.size ≤ Rows.uptoBulk d := by
  rcases open_slice_pairs Tryz.underlying38 Tryz.underlying50 (by kernel_rfl) rfl rfl (by kernel_rfl) (by kernel_rfl) hf with ⟨hcs, _⟩ | ⟨a', len, cap, m, n, V0, V1, D0, D1, P0, P1, hcs, _, hl, hm, hmm, hx, hi⟩
  · obtain rfl : v = .slice none 0 0 := by simpa using hcs
    exact ⟨none, 0, [], rfl, Nat.le_refl _, ⟨rfl, by simp, fun h => absurd h (by simp)⟩, by simp, by simp⟩
  · obtain rfl : v = .slice (some a') len cap := by simpa using hcs
    have hlm : len ≤ m := by rw [hmm]; split <;> omega
    have hd : d = .slice ((List.range len).map fun i => .agg [D0 i, D1 i]) ((List.range (m - len)).map fun j => .agg [D0 (len + j), D1 (len + j)]) := congrArg Prod.fst hx
    have hB : Rows.uptoBulkAll ((List.range len).map fun i => (.agg [D0 i, D1 i] : DataW H)) ≤ Rows.uptoBulk d := by rw [hd, Rows.uptoBulk]; omega
    have key : ∀ i, ∃ r : S50, i < len → (r.f0.size ≤ Rows.uptoBulk d ∧ r.f1.size ≤ Rows.uptoBulk d) ∧ ∀ j u, [Value.string r.f0, .string r.f1][j]? = some u → W.cell? (a'.add (i * 2 + j)) = some u := by
      intro i
      by_cases hil : i < len
      · obtain ⟨f0, f1, t0, t1⟩ := hi i (by omega)
        obtain ⟨s0, e0, x0, _⟩ := DataW.trod_string Tryz.underlying9 t0
        obtain ⟨s1, e1, x1, _⟩ := DataW.trod_string Tryz.underlying9 t1
        have g0 : V0 i = .string s0 := by simpa using e0
        have g1 : V1 i = .string s1 := by simpa using e1
        have y0 : D0 i = .lit (.string s0.data.toList) := congrArg Prod.fst x0
        have y1 : D1 i = .lit (.string s1.data.toList) := congrArg Prod.fst x1
        have hw : Rows.uptoBulk (.agg [D0 i, D1 i] : DataW H) ≤ Rows.uptoBulk d := Nat.le_trans (bulk_mem (List.mem_map.2 ⟨i, List.mem_range.2 hil, rfl⟩)) hB
        rw [y0, y1] at hw
        simp only [Rows.uptoBulk, Rows.uptoBulkAll] at hw
        refine ⟨⟨s0, s1⟩, fun _ => ⟨⟨?_, ?_⟩, fun j u hu => ?_⟩⟩
        · rw [Lib.size_eq]; show s0.data.toList.length ≤ _; omega
        · rw [Lib.size_eq]; show s1.data.toList.length ≤ _; omega
        · have hj : j < 2 := (List.getElem?_eq_some_iff.1 hu).1
          have : j = 0 ∨ j = 1 := by omega
          rcases this with rfl | rfl
          · obtain rfl := Option.some.inj hu
            rw [← g0]; exact f0
          · obtain rfl := Option.some.inj hu
            rw [← g1]; exact f1
      · exact ⟨z50, fun h => absurd h hil⟩
    obtain ⟨f, hf'⟩ := Classical.axiomOfChoice key
    have hlen : ((List.range len).map f).length = len := by simp
    refine ⟨some a', cap, (List.range len).map f, by simp, by simpa using hl, ⟨rfl, ?_, fun _ => ⟨a', rfl, fun j x hx => ?_⟩⟩, ?_, ?_⟩
    · rw [hlen]; unfold maxLen at hm; omega
    · rw [List.getElem?_map] at hx
      obtain ⟨i, hi', rfl⟩ := Option.map_eq_some_iff.1 hx
      have hjl : j < len := by
        have := (List.getElem?_eq_some_iff.1 hi').1
        simpa using this
      have : i = j := by
        rw [List.getElem?_range hjl] at hi'
        exact (Option.some.inj hi').symm
      subst this
      exact ⟨_, rfl, k50_mk _ _, (hf' i hjl).2⟩
    · rw [hlen]
      have := bulk_len ((List.range len).map fun i => (.agg [D0 i, D1 i] : DataW H))
      rw [List.length_map, List.length_range] at this
      omega
    · intro x hx
      obtain ⟨i, hi', rfl⟩ := List.mem_map.1 hx
      exact (hf' i (List.mem_range.1 hi')).1
theorem three {α : Type} {cs : List α} (h : cs.length = 3) : ∃ a b c, cs = [a, b, c] := by
  match cs, h with
  | [a, b, c], _ => exact ⟨a, b, c, rfl⟩
theorem media_at {H : Type} {enc : TypeId × Value → H} {W : World} {d : DataW H} {p : List MemPlace} {n : Nat} {cs : List Value} (hc : cs.length = 3) (h : DataW.trod enc Tryz.prog W 0 (fun _ => true) true n 40 cs = some (d, p)) :
    ∃ r : S40, (r.f0.size ≤ Rows.uptoBulk d ∧ r.f1.size ≤ Rows.uptoBulk d ∧ r.f2.length ≤ Rows.uptoBulk d ∧ ∀ y ∈ r.f2, y.f0.size ≤ Rows.uptoBulk d ∧ y.f1.size ≤ Rows.uptoBulk d) ∧ k40.K W r cs := by
  obtain ⟨⟨y0, q0⟩, ⟨y1, q1⟩, ⟨y2, q2⟩, k, hxy, _, g0, g1, g2⟩ := trod_struct3 Tryz.underlying40 h
  obtain ⟨v0, v1, v2, rfl⟩ := three hc
  clear hc
  have c0 : Tryz.prog.cellsOf 9 = 1 := by kernel_rfl
  have c2 : Tryz.prog.cellsOf 38 = 1 := by kernel_rfl
  simp only [c0, c2] at g0 g1 g2
  have g0' : DataW.trod enc Tryz.prog W 0 (fun _ => true) true k 9 [v0] = some (y0, q0) := g0
  have g1' : DataW.trod enc Tryz.prog W 0 (fun _ => true) true k 9 [v1] = some (y1, q1) := g1
  have g2' : DataW.trod enc Tryz.prog W 0 (fun _ => true) true k 38 [v2] = some (y2, q2) := g2
  obtain ⟨s0, e0, x0, _⟩ := DataW.trod_string Tryz.underlying9 g0'
  obtain ⟨s1, e1, x1, _⟩ := DataW.trod_string Tryz.underlying9 g1'
  obtain ⟨A, c, l, g, b1, b2, b3, b4⟩ := pairs_atb g2'
  obtain rfl : v0 = .string s0 := by simpa using e0
  obtain rfl : v1 = .string s1 := by simpa using e1
  subst g
  have z0 : y0 = .lit (.string s0.data.toList) := congrArg Prod.fst x0
  have z1 : y1 = .lit (.string s1.data.toList) := congrArg Prod.fst x1
  have hd : d = .agg [y0, y1, y2] := congrArg Prod.fst hxy
  have hB : Rows.uptoBulk d = s0.data.toList.length + 1 + (s1.data.toList.length + 1 + (Rows.uptoBulk y2 + 0)) + 1 := by
    rw [hd, z0, z1]
    simp only [Rows.uptoBulk, Rows.uptoBulkAll]
  refine ⟨⟨s0, s1, l⟩, ⟨?_, ?_, ?_, fun y hy => ?_⟩, k40_mk W ⟨s0, s1, l⟩ b1 b2⟩
  · rw [Lib.size_eq]; show s0.data.toList.length ≤ _; omega
  · rw [Lib.size_eq]; show s1.data.toList.length ≤ _; omega
  · show l.length ≤ _; omega
  · have := b4 y hy
    omega
theorem medias_bulk {H : Type} {enc : TypeId × Value → H} {W : World} {v : Value} {d : DataW H} {p : List MemPlace} (h : DataW.Trod enc Tryz.prog W 0 (fun _ => true) true 22 v d p) (hv : ∃ a len cap, v = .slice a len cap) :
    ∃ A c l, v = .slice A l.length c ∧ l.length ≤ c ∧ Kd.C k40 W A l.length l ∧ l.length ≤ Rows.uptoBulk d ∧ ∀ x ∈ l, x.f0.size ≤ Rows.uptoBulk d ∧ x.f1.size ≤ Rows.uptoBulk d ∧ x.f2.length ≤ Rows.uptoBulk d ∧ ∀ y ∈ x.f2, y.f0.size ≤ Rows.uptoBulk d ∧ y.f1.size ≤ Rows.uptoBulk d := by
  obtain ⟨a, len, cap, rfl⟩ := hv
  obtain ⟨fuel, hf⟩ := h
  rcases open_slice Tryz.underlying22 hf with ⟨hcs, _⟩ | ⟨a', len', cap', m, n, D, Pl, hcs, _, hl, hm, hmm, hx, hi⟩
  · simp [Value.cells] at hcs
    obtain ⟨rfl, rfl, rfl⟩ := hcs
    exact ⟨none, 0, [], rfl, Nat.le_refl _, ⟨rfl, by simp, fun h => absurd h (by simp)⟩, by simp, by simp⟩
  · simp [Value.cells] at hcs
    obtain ⟨rfl, rfl, rfl⟩ := hcs
    have hlm : len ≤ m := by rw [hmm]; split <;> omega
    have hd : d = .slice ((List.range len).map D) ((List.range (m - len)).map fun j => D (len + j)) := congrArg Prod.fst hx
    have hB : Rows.uptoBulkAll ((List.range len).map D) ≤ Rows.uptoBulk d := by rw [hd, Rows.uptoBulk]; omega
    have ce : Tryz.prog.cellsOf 40 = 3 := by kernel_rfl
    have key : ∀ i, ∃ r : S40, i < len → (r.f0.size ≤ Rows.uptoBulk d ∧ r.f1.size ≤ Rows.uptoBulk d ∧ r.f2.length ≤ Rows.uptoBulk d ∧ ∀ y ∈ r.f2, y.f0.size ≤ Rows.uptoBulk d ∧ y.f1.size ≤ Rows.uptoBulk d) ∧ ∃ cs, cs.length = 3 ∧ k40.K W r cs ∧ ∀ j u, cs[j]? = some u → W.cell? (a'.add (i * 3 + j)) = some u := by
      intro i
      by_cases hil : i < len
      · obtain ⟨cs, h1, h2⟩ := hi i (by omega)
        rw [ce] at h1
        obtain ⟨_, hlen, hcell⟩ := World.cells?_some h1
        obtain ⟨r, ⟨r0, r1, r2, r3⟩, hK⟩ := media_at hlen h2
        have hw : Rows.uptoBulk (D i) ≤ Rows.uptoBulk d := Nat.le_trans (bulk_mem (List.mem_map.2 ⟨i, List.mem_range.2 hil, rfl⟩)) hB
        refine ⟨r, fun _ => ⟨⟨by omega, by omega, by omega, fun y hy => by have := r3 y hy; omega⟩, cs, hlen, hK, fun j u hu => ?_⟩⟩
        have hj : j < cs.length := (List.getElem?_eq_some_iff.1 hu).1
        have e := hcell j (by omega)
        rw [Deep.add_add] at e
        rw [e, hu]
      · exact ⟨z40, fun h => absurd h hil⟩
    obtain ⟨f, hf'⟩ := Classical.axiomOfChoice key
    have hlen : ((List.range len).map f).length = len := by simp
    refine ⟨some a', cap, (List.range len).map f, by simp, by simpa using hl, ⟨rfl, ?_, fun _ => ⟨a', rfl, fun j x hx => ?_⟩⟩, ?_, ?_⟩
    · rw [hlen]; unfold maxLen at hm; omega
    · rw [List.getElem?_map] at hx
      obtain ⟨i, hi', rfl⟩ := Option.map_eq_some_iff.1 hx
      have hjl : j < len := by
        have := (List.getElem?_eq_some_iff.1 hi').1
        simpa using this
      have : i = j := by
        rw [List.getElem?_range hjl] at hi'
        exact (Option.some.inj hi').symm
      subst this
      obtain ⟨_, cs, c1, c2, c3⟩ := hf' i hjl
      exact ⟨cs, c1, c2, c3⟩
    · rw [hlen]
      have := bulk_len ((List.range len).map D)
      rw [List.length_map, List.length_range] at this
      omega
    · intro x hx
      obtain ⟨i, hi', rfl⟩ := List.mem_map.1 hx
      exact (hf' i (List.mem_range.1 hi')).1
abbrev laidL : List (String × DataW Unit) := Rows.qualityBestsRow.laid
theorem glob_of {W : World} (h : laidMetH Tryz.prog laidL W) (hsh : W.ShapedOpen Tryz.prog) : Glob W := by
  rw [MakeChecks.laidMetH_plain _ _ _ (by kernel_rfl)] at h
  refine ⟨?_, ?_, ?_, ?_⟩
  · obtain ⟨g', t', cs, fuel, p, hg', ht', hv, hd⟩ := Lib.laidMet.reads h (n := "internal/strconv.uint64pow10") (d := Rows.laid_internal_strconv_uint64pow10) (.tail _ (.tail _ (.head _)))
    obtain rfl := Option.some.inj (gpow.symm.trans hg')
    obtain rfl := Option.some.inj ((show (Tryz.prog.globals[6]?).map (·.type) = some 145 by kernel_rfl).symm.trans ht')
    have hd' : DataW.trod (fun _ => ()) Tryz.prog W 0 (fun _ => true) false fuel 145 cs.toList = some (Lib.tabData .u64 (Lib.pow10Tab), p) := hd
    unfold Lib.TabIs
    rw [hv, ← Lib.cells_of_tab Tryz.underlying145 Tryz.underlying72 (by kernel_rfl) (by kernel_rfl) hd']
  · have hb : ((begin Tryz.prog (fun _ _ => 0) default).world.heap[1]?).bind Obj.row? = some (#[.int .i64 0], 3) := by kernel_rfl
    obtain ⟨m, hm⟩ := cell_of_shapedOpen_int hsh (of_decide_eq_true (by kernel_rfl)) hb rfl (by kernel_rfl) (by kernel_rfl) Tryz.underlying3
    obtain ⟨cs, hh, hs, _⟩ := hsh.1 _ _ _ (of_decide_eq_true (by kernel_rfl)) hb
    refine ⟨m, ?_⟩
    have h1 : 0 < cs.size := by rw [hs]; decide
    have hc : cs[0] = .int .i64 m := by
      have : W.cell? ⟨1, 0, none⟩ = some cs[0] := by simp [World.cell?, hh, h1]
      exact Option.some.inj (this.symm.trans hm)
    unfold World.var?
    rw [gmlen]
    simp only [Option.bind_some, hh]
    congr 1
    apply Array.ext
    · rw [hs]; rfl
    · intro i hi1 hi2
      have : i = 0 := by rw [hs] at hi1; simp at hi1; exact hi1
      subst this
      rw [hc]; rfl
  · exact var_iface (Lib.laidMet.reads h (n := "strconv.ErrSyntax") (d := Rows.laid_strconv_ErrSyntax) (.tail _ (.tail _ (.tail _ (.tail _ (.tail _ (.head _))))))) gsyn (by kernel_rfl) Tryz.underlying59
  · exact var_iface (Lib.laidMet.reads h (n := "strconv.ErrRange") (d := Rows.laid_strconv_ErrRange) (.tail _ (.tail _ (.tail _ (.tail _ (.head _)))))) grng (by kernel_rfl) Tryz.underlying59
end Go.Proofs.YtghfbhobpodoeaaGreatDoor.Cg
