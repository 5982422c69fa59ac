/- Each Go function named below comes to what the Lean function of its name says (written by this session's program mkprint.py over the kit's print). -/
import Derived.Test.YtbdhiipmaloccaaPx0
import Derived.Test.YtbdhiipmaloccaaPx1
import Derived.Test.YtbdhiipmaloccaaPx5
import Derived.Test.YtbdhiipmaloccaaOadler
namespace Go.Proofs.Ytbdhiipmaloccaa.P
open Go.RowKit Go.Proofs.YtbdhiipmaloccaaW.PrintWords Go.Proofs.YtbdhiipmaloccaaW.PrintLast Go.Proofs.YtbdhiipmaloccaaW.PrintMore
attribute [local go_sem] max2_int min2_int max_two min_two max_three min_three max_four min_four   -- for this text's walks alone
set_option linter.unusedVariables false
set_option linter.unusedSimpArgs false

open Go.Proofs.Ytbdhiipmaloccaa.O
/-! ### broadsheetlaw02_AdlerTwo: function 6 -/
def broadsheetlaw02_AdlerTwo.j0 : Nat → ByteArray → ByteArray → Bool → Bool → Option (Bool)
  | 0, _, _, _, _ => none
  | k + 1, x0, x1, x5, x16 => if x16 = true then (some x5) else (if x5 = true then (if x0.size + x1.size ≤ 9223372036854775807 then ((adler_Sum.f (x0 ++ x1)).bind fun t116 => ((adler_Sum.f x0).bind fun t117 => ((adler_Sum.f x1).bind fun t118 => ((adler_Join.f t117 t118 (x1.size : Int)).bind fun t119 => (some (t116 == t119)))))) else (none)) else (some false))
def broadsheetlaw02_AdlerTwo.f (k : Nat) (a0 : ByteArray) (a1 : ByteArray) : Option (Bool) := (broadsheetlaw02_awake.f).bind fun t115 => (if t115 = true then (if (a0.size : Int) > 10000 then (broadsheetlaw02_AdlerTwo.j0 k a0 a1 t115 true) else (broadsheetlaw02_AdlerTwo.j0 k a0 a1 t115 (decide ((a1.size : Int) > 10000)))) else (some false))
theorem broadsheetlaw02_AdlerTwo.mono_l : ∀ k, (∀ y0 y1 y2 y3, LeO (broadsheetlaw02_AdlerTwo.j0 k y0 y1 y2 y3) (broadsheetlaw02_AdlerTwo.j0 (k + 1) y0 y1 y2 y3))
  | 0 => fun _ _ _ _ r h => by simp [broadsheetlaw02_AdlerTwo.j0] at h
  | k + 1 => by
    have ih0 := broadsheetlaw02_AdlerTwo.mono_l k
    · intro y0 y1 y2 y3
      unfold broadsheetlaw02_AdlerTwo.j0
      repeat' first
      | (with_reducible exact ih0 _ _ _ _)
      | (with_reducible exact LeO.refl _)
      | (with_reducible exact LeO.none _)
      | (with_reducible refine LeO.ite ?_ ?_)
      | (with_reducible refine LeO.bind ?_ (fun _ => ?_))
      | exact ih0 _ _ _ _
      | exact LeO.none _
      | refine LeO.ite ?_ ?_
      | refine LeO.bind ?_ (fun _ => ?_)
theorem broadsheetlaw02_AdlerTwo.mono : ∀ a0 a1 k, LeO (broadsheetlaw02_AdlerTwo.f k a0 a1) (broadsheetlaw02_AdlerTwo.f (k + 1) a0 a1) := by
  intro a0 a1 k
  have ih0 := broadsheetlaw02_AdlerTwo.mono_l k
  unfold broadsheetlaw02_AdlerTwo.f
  repeat' first
      | (with_reducible exact ih0 _ _ _ _)
      | (with_reducible exact LeO.refl _)
      | (with_reducible exact LeO.none _)
      | (with_reducible refine LeO.ite ?_ ?_)
      | (with_reducible refine LeO.bind ?_ (fun _ => ?_))
      | exact ih0 _ _ _ _
      | exact LeO.none _
      | refine LeO.ite ?_ ?_
      | refine LeO.bind ?_ (fun _ => ?_)
set_option maxHeartbeats 8000000 in
set_option maxRecDepth 100000 in
theorem broadsheetlaw02_AdlerTwo.calls (k : Nat) (a0 : ByteArray) (a1 : ByteArray) (r : Bool) (w : World) (h : broadsheetlaw02_AdlerTwo.f k a0 a1 = some r) :
    Calls Try.prog 6 #[.string a0, .string a1] w fun e w' => e = .returned (.bool r) ∧ Below w.heap.size w w' := by
  have HB := Aside0.mk (Below.refl w.heap.size w)
  have H : ((broadsheetlaw02_awake.f).bind fun t115 => (if t115 = true then (if (a0.size : Int) > 10000 then (broadsheetlaw02_AdlerTwo.j0 k a0 a1 t115 true) else (broadsheetlaw02_AdlerTwo.j0 k a0 a1 t115 (decide ((a1.size : Int) > 10000)))) else (some false))) = some r := h
  clear h
  replace H := Option.bind_eq_some_iff.mp H
  obtain ⟨t115, A30, H⟩ := H
  replace H : (if t115 = true then (if (a0.size : Int) > 10000 then (broadsheetlaw02_AdlerTwo.j0 k a0 a1 t115 true) else (broadsheetlaw02_AdlerTwo.j0 k a0 a1 t115 (decide ((a1.size : Int) > 10000)))) else (some false)) = some r := H
  have A3 := Aside0.mk A30
  clear A30
  by_cases c4 : t115 = true
  · subst c4
    have H1 : (if (a0.size : Int) > 10000 then (broadsheetlaw02_AdlerTwo.j0 k a0 a1 true true) else (broadsheetlaw02_AdlerTwo.j0 k a0 a1 true (decide ((a1.size : Int) > 10000)))) = some r := by rw [if_pos rfl] at H; exact H
    clear H
    have H := H1
    clear H1
    have HC5 := Aside0.mk H
    clear H
    go_enter Try.func6, Try.ntmps6
    go_upto_region 4 with (first | ((with_reducible refine gate_callee (f := 7) rfl ?_); refine goesL_ (some 6) rfl rfl Try.func7 (by kernel_rfl) rfl #[] rfl (by (try simp only [List.map_toArray, List.map_cons, List.map_nil]); first | done | rfl | (simp only [List.length_drop, List.length_take]; rfl)) ?_; (with_reducible refine (broadsheetlaw02_awake.calls  true _ A3.out).mono ?_); rintro e w6 ⟨rfl, hb⟩; refine ⟨_, rfl, ?_⟩; have n0_ := Aside0.mk (below_step (by repeat (first | (with_reducible first | exact HB.out | apply below_alloc | apply pw_below_drewN | apply below_drew1) | exact HB.out)) hb); clear HB; have HB := n0_; clear n0_; (try clear hb); (try clear hb2); (try clear hk); (try clear hi)))
    (try simp only [Act.put, List.setIfInBounds_toArray, List.set_cons_zero, List.set_cons_succ])
    go_cut [16] (fun v16 wc => ∃ (kq : Nat) (x16_4 : Bool), v16 = .bool x16_4 ∧ Aside0 (broadsheetlaw02_AdlerTwo.j0 kq a0 a1 true x16_4 = some r) ∧ Aside0 (kq ≤ k) ∧ Aside0 (Below w.heap.size w wc))
    case first =>
      have H := HC5.out
      clear HC5
      by_cases c7 : (a0.size : Int) > 10000
      · rw [if_pos c7] at H
        have c7b0 : decide (10000 < (a0.size : Int)) = true := decide_eq_true c7
        have c7b1 : decide (10000 < a0.size) = true := decide_eq_true (by omega)
        clear c7
        (first | rw [c7b0] | (simp only [i64_w, i32_w]; rw [c7b0]) | skip)
        have H' := Aside0.mk H
        clear H
        go_wp2
        go_meet
        case rel => exact ⟨_, (true), (by first | rfl | (simp; done) | (simp [*]; done)), H', ⟨by first | omega | exact Nat.le_refl _⟩, ⟨by repeat (first | (with_reducible first | exact HB.out | apply below_alloc | apply pw_below_drewN | apply below_drew1) | exact HB.out)⟩⟩
      · rw [if_neg c7] at H
        have c7b0 : decide (10000 < (a0.size : Int)) = false := decide_eq_false c7
        have c7b1 : decide (10000 < a0.size) = false := decide_eq_false (by omega)
        clear c7
        (first | rw [c7b0] | (simp only [i64_w, i32_w]; rw [c7b0]) | skip)
        have H' := Aside0.mk H
        clear H
        go_wp2
        go_meet
        case rel => exact ⟨_, (decide ((a1.size : Int) > 10000)), (by first | rfl | (simp; done) | (simp [*]; done)), H', ⟨by first | omega | exact Nat.le_refl _⟩, ⟨by repeat (first | (with_reducible first | exact HB.out | apply below_alloc | apply pw_below_drewN | apply below_drew1) | exact HB.out)⟩⟩
    case rest =>
      clear HC5
      try clear p2
      try clear c4
      try clear c6
      try clear c7
      try clear c7b0
      try clear c7b1
      obtain ⟨kq, x16_4, rfl, HA, HJ4, HB⟩ := hcut
      cases kq with
      | zero => exact absurd HA.out (by simp [broadsheetlaw02_AdlerTwo.j0])
      | succ kj4 =>
        have H := HA.out
        clear HA
        simp only [broadsheetlaw02_AdlerTwo.j0] at H
        by_cases c8 : x16_4 = true
        · subst c8
          have H1 : (some true) = some r := by rw [if_pos rfl] at H; exact H
          clear H
          have H := H1
          clear H1
          obtain rfl := Option.some.inj H
          go_wp2
          go_ret
          exact ⟨by first | rfl | (simp [errW_none, errW_some] <;> rfl) | (simp [*, errW_none, errW_some] <;> rfl), by repeat (first | (with_reducible first | exact HB.out | apply below_alloc | apply pw_below_drewN | apply below_drew1) | exact HB.out)⟩
        · replace c8 := Bool.eq_false_iff.mpr c8
          subst c8
          have H1 : (if true = true then (if a0.size + a1.size ≤ 9223372036854775807 then ((adler_Sum.f (a0 ++ a1)).bind fun t116 => ((adler_Sum.f a0).bind fun t117 => ((adler_Sum.f a1).bind fun t118 => ((adler_Join.f t117 t118 (a1.size : Int)).bind fun t119 => (some (t116 == t119)))))) else (none)) else (some false)) = some r := by rw [if_neg (show ¬ (false = true) by decide)] at H; exact H
          clear H
          have H := H1
          clear H1
          have H1 : (if a0.size + a1.size ≤ 9223372036854775807 then ((adler_Sum.f (a0 ++ a1)).bind fun t116 => ((adler_Sum.f a0).bind fun t117 => ((adler_Sum.f a1).bind fun t118 => ((adler_Join.f t117 t118 (a1.size : Int)).bind fun t119 => (some (t116 == t119)))))) else (none)) = some r := by rw [if_pos rfl] at H; exact H
          clear H
          have H := H1
          clear H1
          by_cases c9 : a0.size + a1.size ≤ 9223372036854775807
          · rw [if_pos c9] at H
            have c9b0 := eq_true c9
            have c9b1 : decide (a0.size + a1.size ≤ 9223372036854775807) = true := decide_eq_true c9
            try have c9b2 : (9223372036854775807 < a0.size + a1.size) = False := eq_false (Nat.not_lt.2 c9)
            replace H := Option.bind_eq_some_iff.mp H
            obtain ⟨t116, A100, H⟩ := H
            replace H : ((adler_Sum.f a0).bind fun t117 => ((adler_Sum.f a1).bind fun t118 => ((adler_Join.f t117 t118 (a1.size : Int)).bind fun t119 => (some (t116 == t119))))) = some r := H
            have A10 := Aside0.mk A100
            clear A100
            replace H := Option.bind_eq_some_iff.mp H
            obtain ⟨t117, A110, H⟩ := H
            replace H : ((adler_Sum.f a1).bind fun t118 => ((adler_Join.f t117 t118 (a1.size : Int)).bind fun t119 => (some (t116 == t119)))) = some r := H
            have A11 := Aside0.mk A110
            clear A110
            replace H := Option.bind_eq_some_iff.mp H
            obtain ⟨t118, A120, H⟩ := H
            replace H : ((adler_Join.f t117 t118 (a1.size : Int)).bind fun t119 => (some (t116 == t119))) = some r := H
            have A12 := Aside0.mk A120
            clear A120
            replace H := Option.bind_eq_some_iff.mp H
            obtain ⟨t119, A130, H⟩ := H
            replace H : (some (t116 == t119)) = some r := H
            have A13 := Aside0.mk A130
            clear A130
            obtain rfl := Option.some.inj H
            go_wp2_with (first | (go_at_call 8; (with_reducible refine (adler_Sum.calls (a0 ++ a1) t116 _ A10.out).mono ?_); rintro e w14 ⟨rfl, hb⟩; have n0_ := Aside0.mk (below_step (by repeat (first | (with_reducible first | exact HB.out | apply below_alloc | apply pw_below_drewN | apply below_drew1) | exact HB.out)) hb); clear HB; have HB := n0_; clear n0_; (try clear hb); (try clear hb2); (try clear hk); (try clear hi)) | (go_at_call 8; (with_reducible refine (adler_Sum.calls a0 t117 _ A11.out).mono ?_); rintro e w15 ⟨rfl, hb⟩; have n0_ := Aside0.mk (below_step (by repeat (first | (with_reducible first | exact HB.out | apply below_alloc | apply pw_below_drewN | apply below_drew1) | exact HB.out)) hb); clear HB; have HB := n0_; clear n0_; (try clear hb); (try clear hb2); (try clear hk); (try clear hi)) | (go_at_call 8; (with_reducible refine (adler_Sum.calls a1 t118 _ A12.out).mono ?_); rintro e w16 ⟨rfl, hb⟩; have n0_ := Aside0.mk (below_step (by repeat (first | (with_reducible first | exact HB.out | apply below_alloc | apply pw_below_drewN | apply below_drew1) | exact HB.out)) hb); clear HB; have HB := n0_; clear n0_; (try clear hb); (try clear hb2); (try clear hk); (try clear hi)) | (go_at_call 10; (with_reducible refine (adler_Join.calls t117 t118 (a1.size : Int) t119 _ A13.out).mono ?_); rintro e w' ⟨rfl, ⟨nd, rfl⟩⟩))
            go_ret
            exact ⟨by first | rfl | (simp [errW_none, errW_some] <;> rfl) | (simp [*, errW_none, errW_some] <;> rfl), by repeat (first | (with_reducible first | exact HB.out | apply below_alloc | apply pw_below_drewN | apply below_drew1) | exact HB.out)⟩
          · rw [if_neg c9] at H
            exact absurd H (by simp)
  · replace c4 := Bool.eq_false_iff.mpr c4
    subst c4
    have H1 : (some false) = some r := by rw [if_neg (show ¬ (false = true) by decide)] at H; exact H
    clear H
    have H := H1
    clear H1
    obtain rfl := Option.some.inj H
    go_enter Try.func6, Try.ntmps6
    go_wp2_with (first | ((with_reducible refine gate_callee (f := 7) rfl ?_); refine goesL_ (some 6) rfl rfl Try.func7 (by kernel_rfl) rfl #[] rfl (by (try simp only [List.map_toArray, List.map_cons, List.map_nil]); first | done | rfl | (simp only [List.length_drop, List.length_take]; rfl)) ?_; (with_reducible refine (broadsheetlaw02_awake.calls  false _ A3.out).mono ?_); rintro e w17 ⟨rfl, hb⟩; refine ⟨_, rfl, ?_⟩; have n0_ := Aside0.mk (below_step (by repeat (first | (with_reducible first | exact HB.out | apply below_alloc | apply pw_below_drewN | apply below_drew1) | exact HB.out)) hb); clear HB; have HB := n0_; clear n0_; (try clear hb); (try clear hb2); (try clear hk); (try clear hi)))
    go_ret
    exact ⟨by first | rfl | (simp [errW_none, errW_some] <;> rfl) | (simp [*, errW_none, errW_some] <;> rfl), by repeat (first | (with_reducible first | exact HB.out | apply below_alloc | apply pw_below_drewN | apply below_drew1) | exact HB.out)⟩

/-- THE ONE PURE STATEMENT of broadsheetlaw02_AdlerTwo: yours. -/
def broadsheetlaw02_AdlerTwo.Pure : Prop := ∀ (a0 : ByteArray) (a1 : ByteArray), a0.size ≤ 140737488351232 → a1.size ≤ 140737488351232 → ∃ k, broadsheetlaw02_AdlerTwo.f k a0 a1 = some true
theorem broadsheetlaw02_AdlerTwo.walk (P : broadsheetlaw02_AdlerTwo.Pure) (a0 : ByteArray) (a1 : ByteArray) (w : World) (w0 : a0.size ≤ 140737488351232) (w1 : a1.size ≤ 140737488351232) :
    Calls Try.prog 6 #[.string a0, .string a1] w fun e w' => e = .returned (.bool true) ∧ Below w.heap.size w w' := by
  obtain ⟨k, h⟩ := P a0 a1 w0 w1
  refine (broadsheetlaw02_AdlerTwo.calls k a0 a1 true w h).mono ?_
  rintro e w' ⟨rfl, hd⟩
  exact ⟨rfl, hd⟩

end Go.Proofs.Ytbdhiipmaloccaa.P
