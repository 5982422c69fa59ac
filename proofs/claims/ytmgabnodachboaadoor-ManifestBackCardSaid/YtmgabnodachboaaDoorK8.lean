/- Texts of this seat, joined: lemmas and walks that its statements' proofs use. -/
import Derived.Test.YtmgabnodachboaaDoorK1
import Derived.Test.YtmgabnodachboaaDoorK2
import Derived.Test.YtmgabnodachboaaDoorK3
/- Px24 -/
namespace Go.Proofs.YtmgabnodachboaaDoor.P
open Go.Proofs.YtmgabnodachboaaDoor.B
open Go.RowKit Go.Proofs.YtmgabnodachboaaDoorW.PrintWords Go.Proofs.YtmgabnodachboaaDoorW.PrintLast Go.Proofs.YtmgabnodachboaaDoorW.PrintMore
attribute [local go_sem] str_leq str_gtr str_geq max2_int min2_int max_two min_two max_three min_three max_four min_four   -- for this text's walks alone
set_option linter.unusedVariables false
set_option linter.unusedSimpArgs false

open Go.Proofs.YtmgabnodachboaaDoor.O
/-! ### broadsheetlaw03_ManifestBack: function 5 -/
def broadsheetlaw03_ManifestBack.j0 : Nat → ByteArray → Bool → Option (Bool)
  | 0, _, _ => none
  | k + 1, x2, x7 => if (x2.size : Int) > 5000 then (some x7) else ((manifest_Parse.f k x2).bind fun bt303 => ((manifest_Print.f k bt303.1 bt303.2.1).bind fun bt308 => (if x7 = true then (if bt303.2.2 = 0 then (if bt308.2 = 0 then (some (bt308.1.toList == x2.toList)) else (some false)) else (if bt303.1 = 0 then (if (bt303.2.1.length : Int) = 0 then (some true) else (some false)) else (some false))) else (some false))))
def broadsheetlaw03_ManifestBack.f (k : Nat) (a0 : Int) (l1 : List (S37)) (a2 : ByteArray) : Option (Bool) := (broadsheetlaw03_awake.f k).bind fun t293 => (if t293 = true then ((broadsheetlaw03_few.f k l1).bind fun t294 => (if t294 = true then ((manifest_Print.f k a0 l1).bind fun bt295 => (if bt295.2 = 0 then ((manifest_Parse.f k bt295.1).bind fun bt297 => (if bt297.2.2 = 0 then (if bt297.1 = a0 then ((broadsheetref03_Same.f k bt297.2.1 l1).bind fun t302 => (if t302 = true then (broadsheetlaw03_ManifestBack.j0 k a2 t293) else (some false))) else (some false)) else (some false))) else (broadsheetlaw03_ManifestBack.j0 k a2 t293))) else (broadsheetlaw03_ManifestBack.j0 k a2 t293))) else (some false))
theorem broadsheetlaw03_ManifestBack.mono_l : ∀ k, (∀ y0 y1, LeO (broadsheetlaw03_ManifestBack.j0 k y0 y1) (broadsheetlaw03_ManifestBack.j0 (k + 1) y0 y1))
  | 0 => fun _ _ r h => by simp [broadsheetlaw03_ManifestBack.j0] at h
  | k + 1 => by
    have ih0 := broadsheetlaw03_ManifestBack.mono_l k
    · intro y0 y1
      unfold broadsheetlaw03_ManifestBack.j0
      repeat' first
      | (with_reducible exact ih0 _ _)
      | (with_reducible exact broadsheetlaw03_awake.mono _)
      | (with_reducible exact broadsheetlaw03_few.mono _ _)
      | (with_reducible exact broadsheetref03_Same.mono _ _ _)
      | (with_reducible exact manifest_Parse.mono _ _)
      | (with_reducible exact manifest_Print.mono _ _ _)
      | (with_reducible exact LeO.refl _)
      | (with_reducible exact LeO.none _)
      | (with_reducible refine LeO.ite ?_ ?_)
      | (with_reducible refine LeO.bind ?_ (fun _ => ?_))
      | exact ih0 _ _
      | exact broadsheetlaw03_awake.mono _
      | exact broadsheetlaw03_few.mono _ _
      | exact broadsheetref03_Same.mono _ _ _
      | exact manifest_Parse.mono _ _
      | exact manifest_Print.mono _ _ _
      | exact LeO.none _
      | refine LeO.ite ?_ ?_
      | refine LeO.bind ?_ (fun _ => ?_)
theorem broadsheetlaw03_ManifestBack.mono : ∀ a0 a1 a2 k, LeO (broadsheetlaw03_ManifestBack.f k a0 a1 a2) (broadsheetlaw03_ManifestBack.f (k + 1) a0 a1 a2) := by
  intro a0 a1 a2 k
  have ih0 := broadsheetlaw03_ManifestBack.mono_l k
  unfold broadsheetlaw03_ManifestBack.f
  repeat' first
      | (with_reducible exact ih0 _ _)
      | (with_reducible exact broadsheetlaw03_awake.mono _)
      | (with_reducible exact broadsheetlaw03_few.mono _ _)
      | (with_reducible exact broadsheetref03_Same.mono _ _ _)
      | (with_reducible exact manifest_Parse.mono _ _)
      | (with_reducible exact manifest_Print.mono _ _ _)
      | (with_reducible exact LeO.refl _)
      | (with_reducible exact LeO.none _)
      | (with_reducible refine LeO.ite ?_ ?_)
      | (with_reducible refine LeO.bind ?_ (fun _ => ?_))
      | exact ih0 _ _
      | exact broadsheetlaw03_awake.mono _
      | exact broadsheetlaw03_few.mono _ _
      | exact broadsheetref03_Same.mono _ _ _
      | exact manifest_Parse.mono _ _
      | exact manifest_Print.mono _ _ _
      | exact LeO.none _
      | refine LeO.ite ?_ ?_
      | refine LeO.bind ?_ (fun _ => ?_)
set_option maxHeartbeats 8000000 in
set_option maxRecDepth 100000 in
theorem broadsheetlaw03_ManifestBack.calls (k : Nat) (a0 : Int) (A1 : Option Addr) (c1 : Nat) (l1 : List (S37)) (a2 : ByteArray) (r : Bool) (w : World) (hr1 : Kd.C k37 w A1 l1.length l1) (hc1 : l1.length ≤ c1) (hG : Glob w) (h : broadsheetlaw03_ManifestBack.f k a0 l1 a2 = some r) :
    Calls Tryd.prog 5 #[.int .i64 a0, .slice A1 l1.length c1, .string a2] w fun e w' => e = .returned (.bool r) ∧ Below w.heap.size w w' := by
  have HR1 := Aside0.mk hr1
  have HC1 := Aside0.mk hc1
  clear hr1 hc1
  have HB := Aside0.mk (Below.refl w.heap.size w)
  have hGA := Aside0.mk hG
  clear hG
  have H : ((broadsheetlaw03_awake.f k).bind fun t293 => (if t293 = true then ((broadsheetlaw03_few.f k l1).bind fun t294 => (if t294 = true then ((manifest_Print.f k a0 l1).bind fun bt295 => (if bt295.2 = 0 then ((manifest_Parse.f k bt295.1).bind fun bt297 => (if bt297.2.2 = 0 then (if bt297.1 = a0 then ((broadsheetref03_Same.f k bt297.2.1 l1).bind fun t302 => (if t302 = true then (broadsheetlaw03_ManifestBack.j0 k a2 t293) else (some false))) else (some false)) else (some false))) else (broadsheetlaw03_ManifestBack.j0 k a2 t293))) else (broadsheetlaw03_ManifestBack.j0 k a2 t293))) else (some false))) = some r := h
  clear h
  replace H := Option.bind_eq_some_iff.mp H
  obtain ⟨t293, A40, H⟩ := H
  replace H : (if t293 = true then ((broadsheetlaw03_few.f k l1).bind fun t294 => (if t294 = true then ((manifest_Print.f k a0 l1).bind fun bt295 => (if bt295.2 = 0 then ((manifest_Parse.f k bt295.1).bind fun bt297 => (if bt297.2.2 = 0 then (if bt297.1 = a0 then ((broadsheetref03_Same.f k bt297.2.1 l1).bind fun t302 => (if t302 = true then (broadsheetlaw03_ManifestBack.j0 k a2 t293) else (some false))) else (some false)) else (some false))) else (broadsheetlaw03_ManifestBack.j0 k a2 t293))) else (broadsheetlaw03_ManifestBack.j0 k a2 t293))) else (some false)) = some r := H
  have A4 := Aside0.mk A40
  clear A40
  by_cases c5 : t293 = true
  · subst c5
    have H1 : ((broadsheetlaw03_few.f k l1).bind fun t294 => (if t294 = true then ((manifest_Print.f k a0 l1).bind fun bt295 => (if bt295.2 = 0 then ((manifest_Parse.f k bt295.1).bind fun bt297 => (if bt297.2.2 = 0 then (if bt297.1 = a0 then ((broadsheetref03_Same.f k bt297.2.1 l1).bind fun t302 => (if t302 = true then (broadsheetlaw03_ManifestBack.j0 k a2 true) else (some false))) else (some false)) else (some false))) else (broadsheetlaw03_ManifestBack.j0 k a2 true))) else (broadsheetlaw03_ManifestBack.j0 k a2 true))) = some r := by rw [if_pos rfl] at H; exact H
    clear H
    have H := H1
    clear H1
    replace H := Option.bind_eq_some_iff.mp H
    obtain ⟨t294, A60, H⟩ := H
    replace H : (if t294 = true then ((manifest_Print.f k a0 l1).bind fun bt295 => (if bt295.2 = 0 then ((manifest_Parse.f k bt295.1).bind fun bt297 => (if bt297.2.2 = 0 then (if bt297.1 = a0 then ((broadsheetref03_Same.f k bt297.2.1 l1).bind fun t302 => (if t302 = true then (broadsheetlaw03_ManifestBack.j0 k a2 true) else (some false))) else (some false)) else (some false))) else (broadsheetlaw03_ManifestBack.j0 k a2 true))) else (broadsheetlaw03_ManifestBack.j0 k a2 true)) = some r := H
    have A6 := Aside0.mk A60
    clear A60
    have HC7 := Aside0.mk H
    clear H
    go_enter Tryd.func5, Tryd.ntmps5
    go_upto_if 22 with (first | ((with_reducible refine gate_callee (f := 8) rfl ?_); refine goesL_ (some 18) rfl rfl Tryd.func8 (by kernel_rfl) rfl #[] rfl (by (try simp only [List.map_toArray, List.map_cons, List.map_nil]); first | done | rfl | (simp only [List.length_drop, List.length_take]; rfl)) ?_; (with_reducible refine (broadsheetlaw03_awake.calls k  true _ ?side1 A4.out).mono ?_); (case side1 => exact Glob.below hGA.out (by repeat (first | (with_reducible first | exact HB.out | apply below_alloc | apply pw_below_drewN | apply below_drew1) | exact HB.out))); rintro e w8 ⟨rfl, hb⟩; refine ⟨_, rfl, ?_⟩; have n0_ := Aside0.mk (below_step (by repeat (first | (with_reducible first | exact HB.out | apply below_alloc | apply pw_below_drewN | apply below_drew1) | exact HB.out)) hb); clear HB; have HB := n0_; clear n0_; (try clear hb); (try clear hb2); (try clear hk); (try clear hi)) | ((with_reducible refine gate_callee (f := 7) rfl ?_); refine goesL_ (some 22) rfl rfl Tryd.func7 (by kernel_rfl) rfl #[.slice A1 l1.length c1] rfl (by (try simp only [List.map_toArray, List.map_cons, List.map_nil]); first | done | rfl | (simp only [List.length_drop, List.length_take]; rfl)) ?_; (with_reducible refine (broadsheetlaw03_few.calls k _ _ l1 t294 _ ?side1 ?side2 A6.out).mono ?_); (case side1 => repeat (first | exact (Kd.C_below HR1.out HB.out) | (with_reducible refine Kd.C_alloc ?_ _) | (with_reducible refine Kd.C_drewN ?_ _) | (with_reducible refine Kd.C_drew ?_))); (case side2 => exact HC1.out); rintro e w' ⟨rfl, ⟨nd, rfl⟩⟩; refine ⟨_, rfl, ?_⟩))
    (try simp only [Act.put, List.setIfInBounds_toArray, List.set_cons_zero, List.set_cons_succ])
    go_cut [] (fun wc => ∃ (kq : Nat), Aside0 (broadsheetlaw03_ManifestBack.j0 kq a2 true = some r) ∧ Aside0 (kq ≤ k) ∧ Aside0 (Below w.heap.size w wc))
    case first =>
      have H := HC7.out
      clear HC7
      by_cases c9 : t294 = true
      · subst c9
        have H1 : ((manifest_Print.f k a0 l1).bind fun bt295 => (if bt295.2 = 0 then ((manifest_Parse.f k bt295.1).bind fun bt297 => (if bt297.2.2 = 0 then (if bt297.1 = a0 then ((broadsheetref03_Same.f k bt297.2.1 l1).bind fun t302 => (if t302 = true then (broadsheetlaw03_ManifestBack.j0 k a2 true) else (some false))) else (some false)) else (some false))) else (broadsheetlaw03_ManifestBack.j0 k a2 true))) = some r := by rw [if_pos rfl] at H; exact H
        clear H
        have H := H1
        clear H1
        replace H := Option.bind_eq_some_iff.mp H
        obtain ⟨⟨t295, t296⟩, A100, H⟩ := H
        replace H : (if t296 = 0 then ((manifest_Parse.f k t295).bind fun bt297 => (if bt297.2.2 = 0 then (if bt297.1 = a0 then ((broadsheetref03_Same.f k bt297.2.1 l1).bind fun t302 => (if t302 = true then (broadsheetlaw03_ManifestBack.j0 k a2 true) else (some false))) else (some false)) else (some false))) else (broadsheetlaw03_ManifestBack.j0 k a2 true)) = some r := H
        have A10 := Aside0.mk A100
        clear A100
        by_cases c11 : t296 = 0
        · rw [if_pos c11] at H
          have c11b0 : (t296 == 0) = true := beq_iff_eq.mpr c11
          have c11b1 : (t296 != 0) = false := bne_eq_false_iff_eq.mpr c11
          clear c11
          (first | rw [c11b0] | (simp only [i64_w, i32_w]; rw [c11b0]) | skip)
          replace H := Option.bind_eq_some_iff.mp H
          obtain ⟨⟨t297, t298, t299⟩, A120, H⟩ := H
          replace H : (if t299 = 0 then (if t297 = a0 then ((broadsheetref03_Same.f k t298 l1).bind fun t302 => (if t302 = true then (broadsheetlaw03_ManifestBack.j0 k a2 true) else (some false))) else (some false)) else (some false)) = some r := H
          have A12 := Aside0.mk A120
          clear A120
          by_cases c13 : t299 = 0
          · rw [if_pos c13] at H
            have c13b0 : (t299 == 0) = true := beq_iff_eq.mpr c13
            have c13b1 : (t299 != 0) = false := bne_eq_false_iff_eq.mpr c13
            clear c13
            by_cases c14 : t297 = a0
            · rw [if_pos c14] at H
              have c14b0 : (t297 == a0) = true := beq_iff_eq.mpr c14
              have c14b1 : (t297 != a0) = false := bne_eq_false_iff_eq.mpr c14
              clear c14
              replace H := Option.bind_eq_some_iff.mp H
              obtain ⟨t302, A150, H⟩ := H
              replace H : (if t302 = true then (broadsheetlaw03_ManifestBack.j0 k a2 true) else (some false)) = some r := H
              have A15 := Aside0.mk A150
              clear A150
              by_cases c16 : t302 = true
              · subst c16
                have H1 : (broadsheetlaw03_ManifestBack.j0 k a2 true) = some r := by rw [if_pos rfl] at H; exact H
                clear H
                have H := H1
                clear H1
                have H' := Aside0.mk H
                clear H
                go_wp2_with (first | ((with_reducible refine gate_callee (f := 9) rfl ?_); refine goesL_ (some 26) rfl rfl Tryd.func9 (by kernel_rfl) rfl #[.int .i64 a0, .slice A1 l1.length c1] rfl (by (try simp only [List.map_toArray, List.map_cons, List.map_nil]); first | done | rfl | (simp only [List.length_drop, List.length_take]; rfl)) ?_; (with_reducible refine (manifest_Print.calls k a0 _ _ l1 t295 t296 _ ?side1 ?side2 ?side3 A10.out).mono ?_); (case side1 => repeat (first | exact (Kd.C_below HR1.out HB.out) | (with_reducible refine Kd.C_alloc ?_ _) | (with_reducible refine Kd.C_drewN ?_ _) | (with_reducible refine Kd.C_drew ?_))); (case side2 => exact HC1.out); (case side3 => exact Glob.below hGA.out (by repeat (first | (with_reducible first | exact HB.out | apply below_alloc | apply pw_below_drewN | apply below_drew1) | exact HB.out))); rintro e w17 ⟨rfl, hb⟩; refine ⟨_, rfl, ?_⟩; have n0_ := Aside0.mk (below_step (by repeat (first | (with_reducible first | exact HB.out | apply below_alloc | apply pw_below_drewN | apply below_drew1) | exact HB.out)) hb); clear HB; have HB := n0_; clear n0_; (try clear hb); (try clear hb2); (try clear hk); (try clear hi)) | ((with_reducible refine gate_callee (f := 11) rfl ?_); refine goesL_ (some 33) rfl rfl Tryd.func11 (by kernel_rfl) rfl #[.string t295] rfl (by (try simp only [List.map_toArray, List.map_cons, List.map_nil]); first | done | rfl | (simp only [List.length_drop, List.length_take]; rfl)) ?_; (with_reducible refine (manifest_Parse.calls k t295 t297 t298 t299 _ ?side1 A12.out).mono ?_); (case side1 => exact Glob.below hGA.out (by repeat (first | (with_reducible first | exact HB.out | apply below_alloc | apply pw_below_drewN | apply below_drew1) | exact HB.out))); rintro e w18 ⟨v300, rfl, ho0, hb⟩; refine ⟨_, rfl, ?_⟩; have n0_ := Aside0.mk (Kd.R_lower ho0 (below_size (by repeat (first | (with_reducible first | exact HB.out | apply below_alloc | apply pw_below_drewN | apply below_drew1) | exact HB.out)))); have n1_ := Aside0.mk (below_step (by repeat (first | (with_reducible first | exact HB.out | apply below_alloc | apply pw_below_drewN | apply below_drew1) | exact HB.out)) hb); clear HB; have HO301 := n0_; have HB := n1_; clear n0_ n1_; (try clear hb); (try clear hb2); (try clear hk); (try clear hi); (try clear ho0); obtain ⟨Ao19, co19, eo19⟩ := Kd.R_slice HO301.out; subst eo19) | (go_at_call 13; (with_reducible refine (broadsheetref03_Same.calls k _ _ t298 _ _ l1 true _ ?side1 ?side2 ?side3 ?side4 A15.out).mono ?_); (case side1 => repeat (first | exact (Kd.R_reads' HO301.out).2.2 | (with_reducible refine Kd.C_alloc ?_ _) | (with_reducible refine Kd.C_drewN ?_ _) | (with_reducible refine Kd.C_drew ?_))); (case side2 => exact (Kd.R_reads' HO301.out).2.1); (case side3 => repeat (first | exact (Kd.C_below HR1.out HB.out) | (with_reducible refine Kd.C_alloc ?_ _) | (with_reducible refine Kd.C_drewN ?_ _) | (with_reducible refine Kd.C_drew ?_))); (case side4 => exact HC1.out); rintro e w' ⟨rfl, ⟨nd, rfl⟩⟩))
                go_meet
                case rel => exact ⟨_, H', ⟨by first | omega | exact Nat.le_refl _⟩, ⟨by repeat (first | (with_reducible first | exact HB.out | apply below_alloc | apply pw_below_drewN | apply below_drew1) | exact HB.out)⟩⟩
              · replace c16 := Bool.eq_false_iff.mpr c16
                subst c16
                have H1 : (some false) = some r := by rw [if_neg (show ¬ (false = true) by decide)] at H; exact H
                clear H
                have H := H1
                clear H1
                obtain rfl := Option.some.inj H
                go_wp2_with (first | ((with_reducible refine gate_callee (f := 9) rfl ?_); refine goesL_ (some 26) rfl rfl Tryd.func9 (by kernel_rfl) rfl #[.int .i64 a0, .slice A1 l1.length c1] rfl (by (try simp only [List.map_toArray, List.map_cons, List.map_nil]); first | done | rfl | (simp only [List.length_drop, List.length_take]; rfl)) ?_; (with_reducible refine (manifest_Print.calls k a0 _ _ l1 t295 t296 _ ?side1 ?side2 ?side3 A10.out).mono ?_); (case side1 => repeat (first | exact (Kd.C_below HR1.out HB.out) | (with_reducible refine Kd.C_alloc ?_ _) | (with_reducible refine Kd.C_drewN ?_ _) | (with_reducible refine Kd.C_drew ?_))); (case side2 => exact HC1.out); (case side3 => exact Glob.below hGA.out (by repeat (first | (with_reducible first | exact HB.out | apply below_alloc | apply pw_below_drewN | apply below_drew1) | exact HB.out))); rintro e w20 ⟨rfl, hb⟩; refine ⟨_, rfl, ?_⟩; have n0_ := Aside0.mk (below_step (by repeat (first | (with_reducible first | exact HB.out | apply below_alloc | apply pw_below_drewN | apply below_drew1) | exact HB.out)) hb); clear HB; have HB := n0_; clear n0_; (try clear hb); (try clear hb2); (try clear hk); (try clear hi)) | ((with_reducible refine gate_callee (f := 11) rfl ?_); refine goesL_ (some 33) rfl rfl Tryd.func11 (by kernel_rfl) rfl #[.string t295] rfl (by (try simp only [List.map_toArray, List.map_cons, List.map_nil]); first | done | rfl | (simp only [List.length_drop, List.length_take]; rfl)) ?_; (with_reducible refine (manifest_Parse.calls k t295 t297 t298 t299 _ ?side1 A12.out).mono ?_); (case side1 => exact Glob.below hGA.out (by repeat (first | (with_reducible first | exact HB.out | apply below_alloc | apply pw_below_drewN | apply below_drew1) | exact HB.out))); rintro e w21 ⟨v300, rfl, ho0, hb⟩; refine ⟨_, rfl, ?_⟩; have n0_ := Aside0.mk (Kd.R_lower ho0 (below_size (by repeat (first | (with_reducible first | exact HB.out | apply below_alloc | apply pw_below_drewN | apply below_drew1) | exact HB.out)))); have n1_ := Aside0.mk (below_step (by repeat (first | (with_reducible first | exact HB.out | apply below_alloc | apply pw_below_drewN | apply below_drew1) | exact HB.out)) hb); clear HB; have HO301 := n0_; have HB := n1_; clear n0_ n1_; (try clear hb); (try clear hb2); (try clear hk); (try clear hi); (try clear ho0); obtain ⟨Ao22, co22, eo22⟩ := Kd.R_slice HO301.out; subst eo22) | (go_at_call 13; (with_reducible refine (broadsheetref03_Same.calls k _ _ t298 _ _ l1 false _ ?side1 ?side2 ?side3 ?side4 A15.out).mono ?_); (case side1 => repeat (first | exact (Kd.R_reads' HO301.out).2.2 | (with_reducible refine Kd.C_alloc ?_ _) | (with_reducible refine Kd.C_drewN ?_ _) | (with_reducible refine Kd.C_drew ?_))); (case side2 => exact (Kd.R_reads' HO301.out).2.1); (case side3 => repeat (first | exact (Kd.C_below HR1.out HB.out) | (with_reducible refine Kd.C_alloc ?_ _) | (with_reducible refine Kd.C_drewN ?_ _) | (with_reducible refine Kd.C_drew ?_))); (case side4 => exact HC1.out); rintro e w' ⟨rfl, ⟨nd, rfl⟩⟩))
                go_ret
                exact ⟨by first | rfl | (simp [errW_none, errW_some] <;> rfl) | (simp [*, errW_none, errW_some] <;> rfl), by repeat (first | (with_reducible first | exact HB.out | apply below_alloc | apply pw_below_drewN | apply below_drew1) | exact HB.out)⟩
            · rw [if_neg c14] at H
              have c14b0 : (t297 == a0) = false := beq_eq_false_iff_ne.mpr c14
              have c14b1 : (t297 != a0) = true := bne_iff_ne.mpr c14
              obtain rfl := Option.some.inj H
              go_wp2_with (first | ((with_reducible refine gate_callee (f := 9) rfl ?_); refine goesL_ (some 26) rfl rfl Tryd.func9 (by kernel_rfl) rfl #[.int .i64 a0, .slice A1 l1.length c1] rfl (by (try simp only [List.map_toArray, List.map_cons, List.map_nil]); first | done | rfl | (simp only [List.length_drop, List.length_take]; rfl)) ?_; (with_reducible refine (manifest_Print.calls k a0 _ _ l1 t295 t296 _ ?side1 ?side2 ?side3 A10.out).mono ?_); (case side1 => repeat (first | exact (Kd.C_below HR1.out HB.out) | (with_reducible refine Kd.C_alloc ?_ _) | (with_reducible refine Kd.C_drewN ?_ _) | (with_reducible refine Kd.C_drew ?_))); (case side2 => exact HC1.out); (case side3 => exact Glob.below hGA.out (by repeat (first | (with_reducible first | exact HB.out | apply below_alloc | apply pw_below_drewN | apply below_drew1) | exact HB.out))); rintro e w23 ⟨rfl, hb⟩; refine ⟨_, rfl, ?_⟩; have n0_ := Aside0.mk (below_step (by repeat (first | (with_reducible first | exact HB.out | apply below_alloc | apply pw_below_drewN | apply below_drew1) | exact HB.out)) hb); clear HB; have HB := n0_; clear n0_; (try clear hb); (try clear hb2); (try clear hk); (try clear hi)) | ((with_reducible refine gate_callee (f := 11) rfl ?_); refine goesL_ (some 33) rfl rfl Tryd.func11 (by kernel_rfl) rfl #[.string t295] rfl (by (try simp only [List.map_toArray, List.map_cons, List.map_nil]); first | done | rfl | (simp only [List.length_drop, List.length_take]; rfl)) ?_; (with_reducible refine (manifest_Parse.calls k t295 t297 t298 t299 _ ?side1 A12.out).mono ?_); (case side1 => exact Glob.below hGA.out (by repeat (first | (with_reducible first | exact HB.out | apply below_alloc | apply pw_below_drewN | apply below_drew1) | exact HB.out))); rintro e w24 ⟨v300, rfl, ho0, hb⟩; refine ⟨_, rfl, ?_⟩; have n0_ := Aside0.mk (Kd.R_lower ho0 (below_size (by repeat (first | (with_reducible first | exact HB.out | apply below_alloc | apply pw_below_drewN | apply below_drew1) | exact HB.out)))); have n1_ := Aside0.mk (below_step (by repeat (first | (with_reducible first | exact HB.out | apply below_alloc | apply pw_below_drewN | apply below_drew1) | exact HB.out)) hb); clear HB; have HO301 := n0_; have HB := n1_; clear n0_ n1_; (try clear hb); (try clear hb2); (try clear hk); (try clear hi); (try clear ho0)))
              go_ret
              exact ⟨by first | rfl | (simp [errW_none, errW_some] <;> rfl) | (simp [*, errW_none, errW_some] <;> rfl), by repeat (first | (with_reducible first | exact HB.out | apply below_alloc | apply pw_below_drewN | apply below_drew1) | exact HB.out)⟩
          · rw [if_neg c13] at H
            have c13b0 : (t299 == 0) = false := beq_eq_false_iff_ne.mpr c13
            have c13b1 : (t299 != 0) = true := bne_iff_ne.mpr c13
            obtain rfl := Option.some.inj H
            go_wp2_with (first | ((with_reducible refine gate_callee (f := 9) rfl ?_); refine goesL_ (some 26) rfl rfl Tryd.func9 (by kernel_rfl) rfl #[.int .i64 a0, .slice A1 l1.length c1] rfl (by (try simp only [List.map_toArray, List.map_cons, List.map_nil]); first | done | rfl | (simp only [List.length_drop, List.length_take]; rfl)) ?_; (with_reducible refine (manifest_Print.calls k a0 _ _ l1 t295 t296 _ ?side1 ?side2 ?side3 A10.out).mono ?_); (case side1 => repeat (first | exact (Kd.C_below HR1.out HB.out) | (with_reducible refine Kd.C_alloc ?_ _) | (with_reducible refine Kd.C_drewN ?_ _) | (with_reducible refine Kd.C_drew ?_))); (case side2 => exact HC1.out); (case side3 => exact Glob.below hGA.out (by repeat (first | (with_reducible first | exact HB.out | apply below_alloc | apply pw_below_drewN | apply below_drew1) | exact HB.out))); rintro e w25 ⟨rfl, hb⟩; refine ⟨_, rfl, ?_⟩; have n0_ := Aside0.mk (below_step (by repeat (first | (with_reducible first | exact HB.out | apply below_alloc | apply pw_below_drewN | apply below_drew1) | exact HB.out)) hb); clear HB; have HB := n0_; clear n0_; (try clear hb); (try clear hb2); (try clear hk); (try clear hi)) | ((with_reducible refine gate_callee (f := 11) rfl ?_); refine goesL_ (some 33) rfl rfl Tryd.func11 (by kernel_rfl) rfl #[.string t295] rfl (by (try simp only [List.map_toArray, List.map_cons, List.map_nil]); first | done | rfl | (simp only [List.length_drop, List.length_take]; rfl)) ?_; (with_reducible refine (manifest_Parse.calls k t295 t297 t298 t299 _ ?side1 A12.out).mono ?_); (case side1 => exact Glob.below hGA.out (by repeat (first | (with_reducible first | exact HB.out | apply below_alloc | apply pw_below_drewN | apply below_drew1) | exact HB.out))); rintro e w26 ⟨v300, rfl, ho0, hb⟩; refine ⟨_, rfl, ?_⟩; have n0_ := Aside0.mk (Kd.R_lower ho0 (below_size (by repeat (first | (with_reducible first | exact HB.out | apply below_alloc | apply pw_below_drewN | apply below_drew1) | exact HB.out)))); have n1_ := Aside0.mk (below_step (by repeat (first | (with_reducible first | exact HB.out | apply below_alloc | apply pw_below_drewN | apply below_drew1) | exact HB.out)) hb); clear HB; have HO301 := n0_; have HB := n1_; clear n0_ n1_; (try clear hb); (try clear hb2); (try clear hk); (try clear hi); (try clear ho0)))
            go_ret
            exact ⟨by first | rfl | (simp [errW_none, errW_some] <;> rfl) | (simp [*, errW_none, errW_some] <;> rfl), by repeat (first | (with_reducible first | exact HB.out | apply below_alloc | apply pw_below_drewN | apply below_drew1) | exact HB.out)⟩
        · rw [if_neg c11] at H
          have c11b0 : (t296 == 0) = false := beq_eq_false_iff_ne.mpr c11
          have c11b1 : (t296 != 0) = true := bne_iff_ne.mpr c11
          (first | rw [c11b0] | (simp only [i64_w, i32_w]; rw [c11b0]) | skip)
          have H' := Aside0.mk H
          clear H
          go_wp2_with (first | ((with_reducible refine gate_callee (f := 9) rfl ?_); refine goesL_ (some 26) rfl rfl Tryd.func9 (by kernel_rfl) rfl #[.int .i64 a0, .slice A1 l1.length c1] rfl (by (try simp only [List.map_toArray, List.map_cons, List.map_nil]); first | done | rfl | (simp only [List.length_drop, List.length_take]; rfl)) ?_; (with_reducible refine (manifest_Print.calls k a0 _ _ l1 t295 t296 _ ?side1 ?side2 ?side3 A10.out).mono ?_); (case side1 => repeat (first | exact (Kd.C_below HR1.out HB.out) | (with_reducible refine Kd.C_alloc ?_ _) | (with_reducible refine Kd.C_drewN ?_ _) | (with_reducible refine Kd.C_drew ?_))); (case side2 => exact HC1.out); (case side3 => exact Glob.below hGA.out (by repeat (first | (with_reducible first | exact HB.out | apply below_alloc | apply pw_below_drewN | apply below_drew1) | exact HB.out))); rintro e w27 ⟨rfl, hb⟩; refine ⟨_, rfl, ?_⟩; have n0_ := Aside0.mk (below_step (by repeat (first | (with_reducible first | exact HB.out | apply below_alloc | apply pw_below_drewN | apply below_drew1) | exact HB.out)) hb); clear HB; have HB := n0_; clear n0_; (try clear hb); (try clear hb2); (try clear hk); (try clear hi)))
          go_meet
          case rel => exact ⟨_, H', ⟨by first | omega | exact Nat.le_refl _⟩, ⟨by repeat (first | (with_reducible first | exact HB.out | apply below_alloc | apply pw_below_drewN | apply below_drew1) | exact HB.out)⟩⟩
      · replace c9 := Bool.eq_false_iff.mpr c9
        subst c9
        have H1 : (broadsheetlaw03_ManifestBack.j0 k a2 true) = some r := by rw [if_neg (show ¬ (false = true) by decide)] at H; exact H
        clear H
        have H := H1
        clear H1
        have H' := Aside0.mk H
        clear H
        go_wp2
        go_meet
        case rel => exact ⟨_, H', ⟨by first | omega | exact Nat.le_refl _⟩, ⟨by repeat (first | (with_reducible first | exact HB.out | apply below_alloc | apply pw_below_drewN | apply below_drew1) | exact HB.out)⟩⟩
    case rest =>
      clear HC7
      try clear c1
      try clear p2
      try clear c5
      try clear c7
      try clear c8
      try clear c9
      try clear c11
      try clear c11b0
      try clear c11b1
      try clear c13
      try clear c13b0
      try clear c13b1
      try clear c14
      try clear c14b0
      try clear c14b1
      try clear c16
      obtain ⟨kq, HA, HJ6, HB⟩ := hcut
      cases kq with
      | zero => exact absurd HA.out (by simp [broadsheetlaw03_ManifestBack.j0])
      | succ kj6 =>
        have H := HA.out
        clear HA
        simp only [broadsheetlaw03_ManifestBack.j0] at H
        by_cases c28 : (a2.size : Int) > 5000
        · rw [if_pos c28] at H
          have c28b0 : decide (5000 < (a2.size : Int)) = true := decide_eq_true c28
          have c28b1 : decide (5000 < a2.size) = true := decide_eq_true (by omega)
          clear c28
          obtain rfl := Option.some.inj H
          go_wp2
          go_ret
          exact ⟨by first | rfl | (simp [errW_none, errW_some] <;> rfl) | (simp [*, errW_none, errW_some] <;> rfl), by repeat (first | (with_reducible first | exact HB.out | apply below_alloc | apply pw_below_drewN | apply below_drew1) | exact HB.out)⟩
        · rw [if_neg c28] at H
          have c28b0 : decide (5000 < (a2.size : Int)) = false := decide_eq_false c28
          have c28b1 : decide (5000 < a2.size) = false := decide_eq_false (by omega)
          clear c28
          replace H := Option.bind_eq_some_iff.mp H
          obtain ⟨⟨t303, t304, t305⟩, A290, H⟩ := H
          replace H : ((manifest_Print.f kj6 t303 t304).bind fun bt308 => (if true = true then (if t305 = 0 then (if bt308.2 = 0 then (some (bt308.1.toList == a2.toList)) else (some false)) else (if t303 = 0 then (if (t304.length : Int) = 0 then (some true) else (some false)) else (some false))) else (some false))) = some r := H
          have A29 := Aside0.mk A290
          clear A290
          replace H := Option.bind_eq_some_iff.mp H
          obtain ⟨⟨t308, t309⟩, A300, H⟩ := H
          replace H : (if true = true then (if t305 = 0 then (if t309 = 0 then (some (t308.toList == a2.toList)) else (some false)) else (if t303 = 0 then (if (t304.length : Int) = 0 then (some true) else (some false)) else (some false))) else (some false)) = some r := H
          have A30 := Aside0.mk A300
          clear A300
          have H1 : (if t305 = 0 then (if t309 = 0 then (some (t308.toList == a2.toList)) else (some false)) else (if t303 = 0 then (if (t304.length : Int) = 0 then (some true) else (some false)) else (some false))) = some r := by rw [if_pos rfl] at H; exact H
          clear H
          have H := H1
          clear H1
          by_cases c31 : t305 = 0
          · rw [if_pos c31] at H
            have c31b0 : (t305 == 0) = true := beq_iff_eq.mpr c31
            have c31b1 : (t305 != 0) = false := bne_eq_false_iff_eq.mpr c31
            clear c31
            by_cases c32 : t309 = 0
            · rw [if_pos c32] at H
              have c32b0 : (t309 == 0) = true := beq_iff_eq.mpr c32
              have c32b1 : (t309 != 0) = false := bne_eq_false_iff_eq.mpr c32
              clear c32
              obtain rfl := Option.some.inj H
              go_wp2_with (first | ((with_reducible refine gate_callee (f := 11) rfl ?_); refine goesL_ (some 56) rfl rfl Tryd.func11 (by kernel_rfl) rfl #[.string a2] rfl (by (try simp only [List.map_toArray, List.map_cons, List.map_nil]); first | done | rfl | (simp only [List.length_drop, List.length_take]; rfl)) ?_; (with_reducible refine (manifest_Parse.calls kj6 a2 t303 t304 t305 _ ?side1 A29.out).mono ?_); (case side1 => exact Glob.below hGA.out (by repeat (first | (with_reducible first | exact HB.out | apply below_alloc | apply pw_below_drewN | apply below_drew1) | exact HB.out))); rintro e w33 ⟨v306, rfl, ho0, hb⟩; refine ⟨_, rfl, ?_⟩; have n0_ := Aside0.mk (Kd.R_lower ho0 (below_size (by repeat (first | (with_reducible first | exact HB.out | apply below_alloc | apply pw_below_drewN | apply below_drew1) | exact HB.out)))); have n1_ := Aside0.mk (below_step (by repeat (first | (with_reducible first | exact HB.out | apply below_alloc | apply pw_below_drewN | apply below_drew1) | exact HB.out)) hb); clear HB; have HO307 := n0_; have HB := n1_; clear n0_ n1_; (try clear hb); (try clear hb2); (try clear hk); (try clear hi); (try clear ho0); obtain ⟨Ao34, co34, eo34⟩ := Kd.R_slice HO307.out; subst eo34) | ((with_reducible refine gate_callee (f := 9) rfl ?_); refine goesL_ (some 63) rfl rfl Tryd.func9 (by kernel_rfl) rfl #[.int .i64 t303, .slice Ao34 t304.length co34] rfl (by (try simp only [List.map_toArray, List.map_cons, List.map_nil]); first | done | rfl | (simp only [List.length_drop, List.length_take]; rfl)) ?_; (with_reducible refine (manifest_Print.calls kj6 t303 _ _ t304 t308 t309 _ ?side1 ?side2 ?side3 A30.out).mono ?_); (case side1 => repeat (first | exact (Kd.R_reads' HO307.out).2.2 | (with_reducible refine Kd.C_alloc ?_ _) | (with_reducible refine Kd.C_drewN ?_ _) | (with_reducible refine Kd.C_drew ?_))); (case side2 => exact (Kd.R_reads' HO307.out).2.1); (case side3 => exact Glob.below hGA.out (by repeat (first | (with_reducible first | exact HB.out | apply below_alloc | apply pw_below_drewN | apply below_drew1) | exact HB.out))); rintro e w35 ⟨rfl, hb⟩; refine ⟨_, rfl, ?_⟩; have n0_ := Aside0.mk (Kd.R_below (by (with_reducible repeat (first | apply Kd.R_alloc | apply Kd.R_drewN | apply Kd.R_drew)); exact HO307.out) hb); have n1_ := Aside0.mk (below_step (by repeat (first | (with_reducible first | exact HB.out | apply below_alloc | apply pw_below_drewN | apply below_drew1) | exact HB.out)) hb); clear HO307; clear HB; have HO307 := n0_; have HB := n1_; clear n0_ n1_; (try clear hb); (try clear hb2); (try clear hk); (try clear hi)))
              go_ret
              exact ⟨by first | rfl | (simp [errW_none, errW_some] <;> rfl) | (simp [*, errW_none, errW_some] <;> rfl), by repeat (first | (with_reducible first | exact HB.out | apply below_alloc | apply pw_below_drewN | apply below_drew1) | exact HB.out)⟩
            · rw [if_neg c32] at H
              have c32b0 : (t309 == 0) = false := beq_eq_false_iff_ne.mpr c32
              have c32b1 : (t309 != 0) = true := bne_iff_ne.mpr c32
              obtain rfl := Option.some.inj H
              go_wp2_with (first | ((with_reducible refine gate_callee (f := 11) rfl ?_); refine goesL_ (some 56) rfl rfl Tryd.func11 (by kernel_rfl) rfl #[.string a2] rfl (by (try simp only [List.map_toArray, List.map_cons, List.map_nil]); first | done | rfl | (simp only [List.length_drop, List.length_take]; rfl)) ?_; (with_reducible refine (manifest_Parse.calls kj6 a2 t303 t304 t305 _ ?side1 A29.out).mono ?_); (case side1 => exact Glob.below hGA.out (by repeat (first | (with_reducible first | exact HB.out | apply below_alloc | apply pw_below_drewN | apply below_drew1) | exact HB.out))); rintro e w36 ⟨v306, rfl, ho0, hb⟩; refine ⟨_, rfl, ?_⟩; have n0_ := Aside0.mk (Kd.R_lower ho0 (below_size (by repeat (first | (with_reducible first | exact HB.out | apply below_alloc | apply pw_below_drewN | apply below_drew1) | exact HB.out)))); have n1_ := Aside0.mk (below_step (by repeat (first | (with_reducible first | exact HB.out | apply below_alloc | apply pw_below_drewN | apply below_drew1) | exact HB.out)) hb); clear HB; have HO307 := n0_; have HB := n1_; clear n0_ n1_; (try clear hb); (try clear hb2); (try clear hk); (try clear hi); (try clear ho0); obtain ⟨Ao37, co37, eo37⟩ := Kd.R_slice HO307.out; subst eo37) | ((with_reducible refine gate_callee (f := 9) rfl ?_); refine goesL_ (some 63) rfl rfl Tryd.func9 (by kernel_rfl) rfl #[.int .i64 t303, .slice Ao37 t304.length co37] rfl (by (try simp only [List.map_toArray, List.map_cons, List.map_nil]); first | done | rfl | (simp only [List.length_drop, List.length_take]; rfl)) ?_; (with_reducible refine (manifest_Print.calls kj6 t303 _ _ t304 t308 t309 _ ?side1 ?side2 ?side3 A30.out).mono ?_); (case side1 => repeat (first | exact (Kd.R_reads' HO307.out).2.2 | (with_reducible refine Kd.C_alloc ?_ _) | (with_reducible refine Kd.C_drewN ?_ _) | (with_reducible refine Kd.C_drew ?_))); (case side2 => exact (Kd.R_reads' HO307.out).2.1); (case side3 => exact Glob.below hGA.out (by repeat (first | (with_reducible first | exact HB.out | apply below_alloc | apply pw_below_drewN | apply below_drew1) | exact HB.out))); rintro e w38 ⟨rfl, hb⟩; refine ⟨_, rfl, ?_⟩; have n0_ := Aside0.mk (Kd.R_below (by (with_reducible repeat (first | apply Kd.R_alloc | apply Kd.R_drewN | apply Kd.R_drew)); exact HO307.out) hb); have n1_ := Aside0.mk (below_step (by repeat (first | (with_reducible first | exact HB.out | apply below_alloc | apply pw_below_drewN | apply below_drew1) | exact HB.out)) hb); clear HO307; clear HB; have HO307 := n0_; have HB := n1_; clear n0_ n1_; (try clear hb); (try clear hb2); (try clear hk); (try clear hi)))
              go_ret
              exact ⟨by first | rfl | (simp [errW_none, errW_some] <;> rfl) | (simp [*, errW_none, errW_some] <;> rfl), by repeat (first | (with_reducible first | exact HB.out | apply below_alloc | apply pw_below_drewN | apply below_drew1) | exact HB.out)⟩
          · rw [if_neg c31] at H
            have c31b0 : (t305 == 0) = false := beq_eq_false_iff_ne.mpr c31
            have c31b1 : (t305 != 0) = true := bne_iff_ne.mpr c31
            by_cases c39 : t303 = 0
            · rw [if_pos c39] at H
              have c39b0 : (t303 == 0) = true := beq_iff_eq.mpr c39
              have c39b1 : (t303 != 0) = false := bne_eq_false_iff_eq.mpr c39
              clear c39
              by_cases c40 : (t304.length : Int) = 0
              · rw [if_pos c40] at H
                have c40b0 : ((t304.length : Int) == 0) = true := beq_iff_eq.mpr c40
                have c40b1 : ((t304.length : Int) != 0) = false := bne_eq_false_iff_eq.mpr c40
                clear c40
                obtain rfl := Option.some.inj H
                go_wp2_with (first | ((with_reducible refine gate_callee (f := 11) rfl ?_); refine goesL_ (some 56) rfl rfl Tryd.func11 (by kernel_rfl) rfl #[.string a2] rfl (by (try simp only [List.map_toArray, List.map_cons, List.map_nil]); first | done | rfl | (simp only [List.length_drop, List.length_take]; rfl)) ?_; (with_reducible refine (manifest_Parse.calls kj6 a2 t303 t304 t305 _ ?side1 A29.out).mono ?_); (case side1 => exact Glob.below hGA.out (by repeat (first | (with_reducible first | exact HB.out | apply below_alloc | apply pw_below_drewN | apply below_drew1) | exact HB.out))); rintro e w41 ⟨v306, rfl, ho0, hb⟩; refine ⟨_, rfl, ?_⟩; have n0_ := Aside0.mk (Kd.R_lower ho0 (below_size (by repeat (first | (with_reducible first | exact HB.out | apply below_alloc | apply pw_below_drewN | apply below_drew1) | exact HB.out)))); have n1_ := Aside0.mk (below_step (by repeat (first | (with_reducible first | exact HB.out | apply below_alloc | apply pw_below_drewN | apply below_drew1) | exact HB.out)) hb); clear HB; have HO307 := n0_; have HB := n1_; clear n0_ n1_; (try clear hb); (try clear hb2); (try clear hk); (try clear hi); (try clear ho0); obtain ⟨Ao42, co42, eo42⟩ := Kd.R_slice HO307.out; subst eo42) | ((with_reducible refine gate_callee (f := 9) rfl ?_); refine goesL_ (some 63) rfl rfl Tryd.func9 (by kernel_rfl) rfl #[.int .i64 t303, .slice Ao42 t304.length co42] rfl (by (try simp only [List.map_toArray, List.map_cons, List.map_nil]); first | done | rfl | (simp only [List.length_drop, List.length_take]; rfl)) ?_; (with_reducible refine (manifest_Print.calls kj6 t303 _ _ t304 t308 t309 _ ?side1 ?side2 ?side3 A30.out).mono ?_); (case side1 => repeat (first | exact (Kd.R_reads' HO307.out).2.2 | (with_reducible refine Kd.C_alloc ?_ _) | (with_reducible refine Kd.C_drewN ?_ _) | (with_reducible refine Kd.C_drew ?_))); (case side2 => exact (Kd.R_reads' HO307.out).2.1); (case side3 => exact Glob.below hGA.out (by repeat (first | (with_reducible first | exact HB.out | apply below_alloc | apply pw_below_drewN | apply below_drew1) | exact HB.out))); rintro e w43 ⟨rfl, hb⟩; refine ⟨_, rfl, ?_⟩; have n0_ := Aside0.mk (Kd.R_below (by (with_reducible repeat (first | apply Kd.R_alloc | apply Kd.R_drewN | apply Kd.R_drew)); exact HO307.out) hb); have n1_ := Aside0.mk (below_step (by repeat (first | (with_reducible first | exact HB.out | apply below_alloc | apply pw_below_drewN | apply below_drew1) | exact HB.out)) hb); clear HO307; clear HB; have HO307 := n0_; have HB := n1_; clear n0_ n1_; (try clear hb); (try clear hb2); (try clear hk); (try clear hi)))
                go_ret
                exact ⟨by first | rfl | (simp [errW_none, errW_some] <;> rfl) | (simp [*, errW_none, errW_some] <;> rfl), by repeat (first | (with_reducible first | exact HB.out | apply below_alloc | apply pw_below_drewN | apply below_drew1) | exact HB.out)⟩
              · rw [if_neg c40] at H
                have c40b0 : ((t304.length : Int) == 0) = false := beq_eq_false_iff_ne.mpr c40
                have c40b1 : ((t304.length : Int) != 0) = true := bne_iff_ne.mpr c40
                have c40b2 : ¬ (t304 = []) := fun h_ => c40 (by rw [h_]; rfl)
                obtain rfl := Option.some.inj H
                go_wp2_with (first | ((with_reducible refine gate_callee (f := 11) rfl ?_); refine goesL_ (some 56) rfl rfl Tryd.func11 (by kernel_rfl) rfl #[.string a2] rfl (by (try simp only [List.map_toArray, List.map_cons, List.map_nil]); first | done | rfl | (simp only [List.length_drop, List.length_take]; rfl)) ?_; (with_reducible refine (manifest_Parse.calls kj6 a2 t303 t304 t305 _ ?side1 A29.out).mono ?_); (case side1 => exact Glob.below hGA.out (by repeat (first | (with_reducible first | exact HB.out | apply below_alloc | apply pw_below_drewN | apply below_drew1) | exact HB.out))); rintro e w44 ⟨v306, rfl, ho0, hb⟩; refine ⟨_, rfl, ?_⟩; have n0_ := Aside0.mk (Kd.R_lower ho0 (below_size (by repeat (first | (with_reducible first | exact HB.out | apply below_alloc | apply pw_below_drewN | apply below_drew1) | exact HB.out)))); have n1_ := Aside0.mk (below_step (by repeat (first | (with_reducible first | exact HB.out | apply below_alloc | apply pw_below_drewN | apply below_drew1) | exact HB.out)) hb); clear HB; have HO307 := n0_; have HB := n1_; clear n0_ n1_; (try clear hb); (try clear hb2); (try clear hk); (try clear hi); (try clear ho0); obtain ⟨Ao45, co45, eo45⟩ := Kd.R_slice HO307.out; subst eo45) | ((with_reducible refine gate_callee (f := 9) rfl ?_); refine goesL_ (some 63) rfl rfl Tryd.func9 (by kernel_rfl) rfl #[.int .i64 t303, .slice Ao45 t304.length co45] rfl (by (try simp only [List.map_toArray, List.map_cons, List.map_nil]); first | done | rfl | (simp only [List.length_drop, List.length_take]; rfl)) ?_; (with_reducible refine (manifest_Print.calls kj6 t303 _ _ t304 t308 t309 _ ?side1 ?side2 ?side3 A30.out).mono ?_); (case side1 => repeat (first | exact (Kd.R_reads' HO307.out).2.2 | (with_reducible refine Kd.C_alloc ?_ _) | (with_reducible refine Kd.C_drewN ?_ _) | (with_reducible refine Kd.C_drew ?_))); (case side2 => exact (Kd.R_reads' HO307.out).2.1); (case side3 => exact Glob.below hGA.out (by repeat (first | (with_reducible first | exact HB.out | apply below_alloc | apply pw_below_drewN | apply below_drew1) | exact HB.out))); rintro e w46 ⟨rfl, hb⟩; refine ⟨_, rfl, ?_⟩; have n0_ := Aside0.mk (Kd.R_below (by (with_reducible repeat (first | apply Kd.R_alloc | apply Kd.R_drewN | apply Kd.R_drew)); exact HO307.out) hb); have n1_ := Aside0.mk (below_step (by repeat (first | (with_reducible first | exact HB.out | apply below_alloc | apply pw_below_drewN | apply below_drew1) | exact HB.out)) hb); clear HO307; clear HB; have HO307 := n0_; have HB := n1_; clear n0_ n1_; (try clear hb); (try clear hb2); (try clear hk); (try clear hi)))
                go_ret
                exact ⟨by first | rfl | (simp [errW_none, errW_some] <;> rfl) | (simp [*, errW_none, errW_some] <;> rfl), by repeat (first | (with_reducible first | exact HB.out | apply below_alloc | apply pw_below_drewN | apply below_drew1) | exact HB.out)⟩
            · rw [if_neg c39] at H
              have c39b0 : (t303 == 0) = false := beq_eq_false_iff_ne.mpr c39
              have c39b1 : (t303 != 0) = true := bne_iff_ne.mpr c39
              obtain rfl := Option.some.inj H
              go_wp2_with (first | ((with_reducible refine gate_callee (f := 11) rfl ?_); refine goesL_ (some 56) rfl rfl Tryd.func11 (by kernel_rfl) rfl #[.string a2] rfl (by (try simp only [List.map_toArray, List.map_cons, List.map_nil]); first | done | rfl | (simp only [List.length_drop, List.length_take]; rfl)) ?_; (with_reducible refine (manifest_Parse.calls kj6 a2 t303 t304 t305 _ ?side1 A29.out).mono ?_); (case side1 => exact Glob.below hGA.out (by repeat (first | (with_reducible first | exact HB.out | apply below_alloc | apply pw_below_drewN | apply below_drew1) | exact HB.out))); rintro e w47 ⟨v306, rfl, ho0, hb⟩; refine ⟨_, rfl, ?_⟩; have n0_ := Aside0.mk (Kd.R_lower ho0 (below_size (by repeat (first | (with_reducible first | exact HB.out | apply below_alloc | apply pw_below_drewN | apply below_drew1) | exact HB.out)))); have n1_ := Aside0.mk (below_step (by repeat (first | (with_reducible first | exact HB.out | apply below_alloc | apply pw_below_drewN | apply below_drew1) | exact HB.out)) hb); clear HB; have HO307 := n0_; have HB := n1_; clear n0_ n1_; (try clear hb); (try clear hb2); (try clear hk); (try clear hi); (try clear ho0); obtain ⟨Ao48, co48, eo48⟩ := Kd.R_slice HO307.out; subst eo48) | ((with_reducible refine gate_callee (f := 9) rfl ?_); refine goesL_ (some 63) rfl rfl Tryd.func9 (by kernel_rfl) rfl #[.int .i64 t303, .slice Ao48 t304.length co48] rfl (by (try simp only [List.map_toArray, List.map_cons, List.map_nil]); first | done | rfl | (simp only [List.length_drop, List.length_take]; rfl)) ?_; (with_reducible refine (manifest_Print.calls kj6 t303 _ _ t304 t308 t309 _ ?side1 ?side2 ?side3 A30.out).mono ?_); (case side1 => repeat (first | exact (Kd.R_reads' HO307.out).2.2 | (with_reducible refine Kd.C_alloc ?_ _) | (with_reducible refine Kd.C_drewN ?_ _) | (with_reducible refine Kd.C_drew ?_))); (case side2 => exact (Kd.R_reads' HO307.out).2.1); (case side3 => exact Glob.below hGA.out (by repeat (first | (with_reducible first | exact HB.out | apply below_alloc | apply pw_below_drewN | apply below_drew1) | exact HB.out))); rintro e w49 ⟨rfl, hb⟩; refine ⟨_, rfl, ?_⟩; have n0_ := Aside0.mk (Kd.R_below (by (with_reducible repeat (first | apply Kd.R_alloc | apply Kd.R_drewN | apply Kd.R_drew)); exact HO307.out) hb); have n1_ := Aside0.mk (below_step (by repeat (first | (with_reducible first | exact HB.out | apply below_alloc | apply pw_below_drewN | apply below_drew1) | exact HB.out)) hb); clear HO307; clear HB; have HO307 := n0_; have HB := n1_; clear n0_ n1_; (try clear hb); (try clear hb2); (try clear hk); (try clear hi)))
              go_ret
              exact ⟨by first | rfl | (simp [errW_none, errW_some] <;> rfl) | (simp [*, errW_none, errW_some] <;> rfl), by repeat (first | (with_reducible first | exact HB.out | apply below_alloc | apply pw_below_drewN | apply below_drew1) | exact HB.out)⟩
  · replace c5 := Bool.eq_false_iff.mpr c5
    subst c5
    have H1 : (some false) = some r := by rw [if_neg (show ¬ (false = true) by decide)] at H; exact H
    clear H
    have H := H1
    clear H1
    obtain rfl := Option.some.inj H
    go_enter Tryd.func5, Tryd.ntmps5
    go_wp2_with (first | ((with_reducible refine gate_callee (f := 8) rfl ?_); refine goesL_ (some 18) rfl rfl Tryd.func8 (by kernel_rfl) rfl #[] rfl (by (try simp only [List.map_toArray, List.map_cons, List.map_nil]); first | done | rfl | (simp only [List.length_drop, List.length_take]; rfl)) ?_; (with_reducible refine (broadsheetlaw03_awake.calls k  false _ ?side1 A4.out).mono ?_); (case side1 => exact Glob.below hGA.out (by repeat (first | (with_reducible first | exact HB.out | apply below_alloc | apply pw_below_drewN | apply below_drew1) | exact HB.out))); rintro e w50 ⟨rfl, hb⟩; refine ⟨_, rfl, ?_⟩; have n0_ := Aside0.mk (below_step (by repeat (first | (with_reducible first | exact HB.out | apply below_alloc | apply pw_below_drewN | apply below_drew1) | exact HB.out)) hb); clear HB; have HB := n0_; clear n0_; (try clear hb); (try clear hb2); (try clear hk); (try clear hi)))
    go_ret
    exact ⟨by first | rfl | (simp [errW_none, errW_some] <;> rfl) | (simp [*, errW_none, errW_some] <;> rfl), by repeat (first | (with_reducible first | exact HB.out | apply below_alloc | apply pw_below_drewN | apply below_drew1) | exact HB.out)⟩

end Go.Proofs.YtmgabnodachboaaDoor.P

/- ManFc -/
namespace Go.Proofs.YtmgabnodachboaaDoor.Mn
open Go.RowKit Go.Proofs.YtmgabnodachboaaDoor.P Go.Proofs.YtmgabnodachboaaDoorW.PrintWords Go.Proofs.YtmgabnodachboaaDoorW.PrintLast Go.Proofs.YtmgabnodachboaaDoor.O Go.Proofs.YtmgabnodachboaaDoor.Ad
set_option linter.unusedVariables false
set_option linter.unusedSimpArgs false

theorem rows_le {s : ByteArray} {n : Int} {l : List S37} (h : pr n l = (s, 0)) : l.length + 3 ≤ s.size + 1 := by
  obtain ⟨q1, q2, q3⟩ := pr_ok h
  obtain ⟨x, ex, _⟩ := full_cut n l q2
  have hcl := cut_len 10 s.data.toList
  rw [← Lib.size_eq, q3, ex] at hcl
  simp at hcl
  omega
theorem pr_zero {n : Int} {l : List S37} (h : (pr n l).2 = 0) : pr n l = ((pr n l).1, 0) := Prod.ext rfl h
theorem back_j0 (s : ByteArray) (k : Nat) (hk : 2000000 ≤ k) : broadsheetlaw03_ManifestBack.j0 (k + 1) s true = some true := by
  rw [broadsheetlaw03_ManifestBack.j0]
  by_cases h : (s.size : Int) > 5000
  · rw [if_pos h]
  rw [if_neg h]
  obtain ⟨q, e1, e2⟩ := parse_eq s (by omega) k (by omega)
  rw [e1]
  simp only [Option.bind_some]
  rcases e2.1 with e | ⟨n, l, e, e3⟩
  · rw [e]
    simp only [err]
    rw [print_eq 0 [] k (by simp) (by simp; omega)]
    simp
  · rw [e]
    have := rows_le e3
    simp only
    rw [print_eq n l k (by omega) (by omega), e3]
    simp
theorem back (n : Int) (l : List S37) (s : ByteArray) : ∃ k, broadsheetlaw03_ManifestBack.f k n l s = some true := by
  refine ⟨2000000 + 1, ?_⟩
  unfold broadsheetlaw03_ManifestBack.f
  rw [awake_ _ (by omega)]
  simp only [Option.bind_some]
  rw [if_pos trivial]
  obtain ⟨v, ev, hv⟩ := few_eq l (2000000 + 1) (by omega)
  rw [ev]
  simp only [Option.bind_some]
  cases v with
  | false => rw [if_neg (by decide)]; exact back_j0 s _ (Nat.le_refl _)
  | true =>
    have hl := hv rfl
    rw [if_pos rfl, print_eq n l _ (by omega) (by omega)]
    simp only [Option.bind_some]
    by_cases h : (pr n l).2 = 0
    · rw [if_pos h]
      obtain ⟨q, e1, e2⟩ := parse_eq (pr n l).1 (pr_len (by omega)) (2000000 + 1) (by omega)
      rw [e1, e2.2 n l (pr_zero h)]
      simp only [Option.bind_some, if_true]
      rw [same_eq l (by omega) _ (by omega)]
      simp only [Option.bind_some, if_true]
      exact back_j0 s _ (Nat.le_refl _)
    · rw [if_neg h]
      exact back_j0 s _ (Nat.le_refl _)

end Go.Proofs.YtmgabnodachboaaDoor.Mn
