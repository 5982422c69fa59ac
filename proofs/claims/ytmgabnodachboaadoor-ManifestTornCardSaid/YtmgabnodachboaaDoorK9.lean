/- Texts of this seat, joined: lemmas and walks that its statements' proofs use. -/
import Derived.Test.YtmgabnodachboaaDoorK1
import Derived.Test.YtmgabnodachboaaDoorK2
import Derived.Test.YtmgabnodachboaaDoorK3
/- Px25 -/
namespace Go.Proofs.YtmgabnodachboaaDoor.P
open Go.Proofs.YtmgabnodachboaaDoor.B
open Go.RowKit Go.Proofs.YtmgabnodachboaaDoorW.PrintWords Go.Proofs.YtmgabnodachboaaDoorW.PrintLast Go.Proofs.YtmgabnodachboaaDoorW.PrintMore
attribute [local go_sem] str_leq str_gtr str_geq max2_int min2_int max_two min_two max_three min_three max_four min_four   -- for this text's walks alone
set_option linter.unusedVariables false
set_option linter.unusedSimpArgs false

open Go.Proofs.YtmgabnodachboaaDoor.O
/-! ### broadsheetlaw03_ManifestTorn: function 6 -/
mutual
def broadsheetlaw03_ManifestTorn.j0 : Nat → Int → List (S37) → Int → Int → Bool → Bool → Option (Bool)
  | 0, _, _, _, _, _, _ => none
  | k + 1, x0, x1, x2, x3, x9, x29 => if x29 = true then (some x9) else ((manifest_Print.f k x0 x1).bind fun bt312 => (if bt312.2 = 0 then (broadsheetlaw03_ManifestTorn.j1 k x2 x3 x9 bt312.1 (bt312.1.toList == ([] : List UInt8))) else (broadsheetlaw03_ManifestTorn.j1 k x2 x3 x9 bt312.1 true)))
def broadsheetlaw03_ManifestTorn.j1 : Nat → Int → Int → Bool → ByteArray → Bool → Option (Bool)
  | 0, _, _, _, _, _ => none
  | k + 1, x2, x3, x9, x10, x42 => if x42 = true then (if x9 = true then (some (x10.toList == ([] : List UInt8))) else (some false)) else (if (x10.size : Int) = 0 then (none) else (if 0 ≤ (Int.tmod (Go.bits .and .i64 x2 1048575) (x10.size : Int)) then (if (Int.tmod (Go.bits .and .i64 x2 1048575) (x10.size : Int)) < (x10.size : Int) then (if ([] : List Int).length < 140737488355328 then ((some (([] : List Int) ++ [Go.bits .xor .u8 (bt x10 (Int.tmod (Go.bits .and .i64 x2 1048575) (x10.size : Int))) x3] : List Int)).bind fun y314 => (if (Int.tmod (Go.bits .and .i64 x2 1048575) (x10.size : Int)) ≤ (x10.size : Int) then (if (x10.extract 0 ((Int.tmod (Go.bits .and .i64 x2 1048575) (x10.size : Int)) : Int).toNat).size + (strOfNums y314).size ≤ 9223372036854775807 then (if 0 ≤ (wrap64 ((Int.tmod (Go.bits .and .i64 x2 1048575) (x10.size : Int)) + 1)) then (if (wrap64 ((Int.tmod (Go.bits .and .i64 x2 1048575) (x10.size : Int)) + 1)) ≤ (x10.size : Int) then (if ((x10.extract 0 ((Int.tmod (Go.bits .and .i64 x2 1048575) (x10.size : Int)) : Int).toNat) ++ (strOfNums y314)).size + (x10.extract ((wrap64 ((Int.tmod (Go.bits .and .i64 x2 1048575) (x10.size : Int)) + 1)) : Int).toNat x10.size).size ≤ 9223372036854775807 then ((manifest_Parse.f k (((x10.extract 0 ((Int.tmod (Go.bits .and .i64 x2 1048575) (x10.size : Int)) : Int).toNat) ++ (strOfNums y314)) ++ (x10.extract ((wrap64 ((Int.tmod (Go.bits .and .i64 x2 1048575) (x10.size : Int)) + 1)) : Int).toNat x10.size))).bind fun bt317 => ((manifest_Parse.f k (x10.extract 0 ((Int.tmod (Go.bits .and .i64 x2 1048575) (x10.size : Int)) : Int).toNat)).bind fun bt322 => (if x9 = true then (if bt317.2.2 = 30 then (some (bt322.2.2 == 30)) else (some false)) else (some false)))) else (none)) else (none)) else (none)) else (none)) else (none))) else (none)) else (none)) else (none)))
end
def broadsheetlaw03_ManifestTorn.f (k : Nat) (a0 : Int) (l1 : List (S37)) (a2 : Int) (a3 : Int) : Option (Bool) := (broadsheetlaw03_awake.f k).bind fun t310 => (if t310 = true then ((broadsheetlaw03_few.f k l1).bind fun t311 => (if t311 = true then (broadsheetlaw03_ManifestTorn.j0 k a0 l1 a2 a3 t310 (a3 == 0)) else (broadsheetlaw03_ManifestTorn.j0 k a0 l1 a2 a3 t310 true))) else (some false))
theorem broadsheetlaw03_ManifestTorn.mono_l : ∀ k, (∀ y0 y1 y2 y3 y4 y5, LeO (broadsheetlaw03_ManifestTorn.j0 k y0 y1 y2 y3 y4 y5) (broadsheetlaw03_ManifestTorn.j0 (k + 1) y0 y1 y2 y3 y4 y5)) ∧ (∀ y0 y1 y2 y3 y4, LeO (broadsheetlaw03_ManifestTorn.j1 k y0 y1 y2 y3 y4) (broadsheetlaw03_ManifestTorn.j1 (k + 1) y0 y1 y2 y3 y4))
  | 0 => ⟨fun _ _ _ _ _ _ r h => by simp [broadsheetlaw03_ManifestTorn.j0] at h, fun _ _ _ _ _ r h => by simp [broadsheetlaw03_ManifestTorn.j1] at h⟩
  | k + 1 => by
    obtain ⟨ih0, ih1⟩ := broadsheetlaw03_ManifestTorn.mono_l k
    refine ⟨?_, ?_⟩
    · intro y0 y1 y2 y3 y4 y5
      unfold broadsheetlaw03_ManifestTorn.j0
      repeat' first
      | (with_reducible exact ih0 _ _ _ _ _ _)
      | (with_reducible exact ih1 _ _ _ _ _)
      | (with_reducible exact broadsheetlaw03_awake.mono _)
      | (with_reducible exact broadsheetlaw03_few.mono _ _)
      | (with_reducible exact manifest_Parse.mono _ _)
      | (with_reducible exact manifest_Print.mono _ _ _)
      | (with_reducible exact LeO.refl _)
      | (with_reducible exact LeO.none _)
      | (with_reducible refine LeO.ite ?_ ?_)
      | (with_reducible refine LeO.bind ?_ (fun _ => ?_))
      | exact ih0 _ _ _ _ _ _
      | exact ih1 _ _ _ _ _
      | exact broadsheetlaw03_awake.mono _
      | exact broadsheetlaw03_few.mono _ _
      | exact manifest_Parse.mono _ _
      | exact manifest_Print.mono _ _ _
      | exact LeO.none _
      | refine LeO.ite ?_ ?_
      | refine LeO.bind ?_ (fun _ => ?_)
    · intro y0 y1 y2 y3 y4
      unfold broadsheetlaw03_ManifestTorn.j1
      repeat' first
      | (with_reducible exact ih0 _ _ _ _ _ _)
      | (with_reducible exact ih1 _ _ _ _ _)
      | (with_reducible exact broadsheetlaw03_awake.mono _)
      | (with_reducible exact broadsheetlaw03_few.mono _ _)
      | (with_reducible exact manifest_Parse.mono _ _)
      | (with_reducible exact manifest_Print.mono _ _ _)
      | (with_reducible exact LeO.refl _)
      | (with_reducible exact LeO.none _)
      | (with_reducible refine LeO.ite ?_ ?_)
      | (with_reducible refine LeO.bind ?_ (fun _ => ?_))
      | exact ih0 _ _ _ _ _ _
      | exact ih1 _ _ _ _ _
      | exact broadsheetlaw03_awake.mono _
      | exact broadsheetlaw03_few.mono _ _
      | exact manifest_Parse.mono _ _
      | exact manifest_Print.mono _ _ _
      | exact LeO.none _
      | refine LeO.ite ?_ ?_
      | refine LeO.bind ?_ (fun _ => ?_)
theorem broadsheetlaw03_ManifestTorn.mono : ∀ a0 a1 a2 a3 k, LeO (broadsheetlaw03_ManifestTorn.f k a0 a1 a2 a3) (broadsheetlaw03_ManifestTorn.f (k + 1) a0 a1 a2 a3) := by
  intro a0 a1 a2 a3 k
  obtain ⟨ih0, ih1⟩ := broadsheetlaw03_ManifestTorn.mono_l k
  unfold broadsheetlaw03_ManifestTorn.f
  repeat' first
      | (with_reducible exact ih0 _ _ _ _ _ _)
      | (with_reducible exact ih1 _ _ _ _ _)
      | (with_reducible exact broadsheetlaw03_awake.mono _)
      | (with_reducible exact broadsheetlaw03_few.mono _ _)
      | (with_reducible exact manifest_Parse.mono _ _)
      | (with_reducible exact manifest_Print.mono _ _ _)
      | (with_reducible exact LeO.refl _)
      | (with_reducible exact LeO.none _)
      | (with_reducible refine LeO.ite ?_ ?_)
      | (with_reducible refine LeO.bind ?_ (fun _ => ?_))
      | exact ih0 _ _ _ _ _ _
      | exact ih1 _ _ _ _ _
      | exact broadsheetlaw03_awake.mono _
      | exact broadsheetlaw03_few.mono _ _
      | exact manifest_Parse.mono _ _
      | exact manifest_Print.mono _ _ _
      | exact LeO.none _
      | refine LeO.ite ?_ ?_
      | refine LeO.bind ?_ (fun _ => ?_)
def broadsheetlaw03_ManifestTorn.T12 : Bool × List (List Nat × List Nat) := (true, [([], []), ([], []), ([0, 1], [0, 1]), ([], []), ([3], [3]), ([2, 4], [2, 4]), ([], []), ([], []), ([7], [7]), ([6, 8], [6, 8]), ([5, 9], [5, 9]), ([10], [10]), ([11], [11]), ([12], [12]), ([12], [12]), ([12], [12]), ([13, 11, 0, 1, 2, 3, 4, 5, 6, 7, 8, 9, 10, 11, 12, 13], [13]), ([14, 16, 0, 1, 2, 3, 4, 5, 6, 7, 8, 9, 10, 11, 12, 13, 14, 16], [14]), ([15, 17, 0, 1, 2, 3, 4, 5, 6, 7, 8, 9, 10, 11, 12, 13, 14, 15, 16, 17], [15])])
def broadsheetlaw03_ManifestTorn.B12 : List Nat := [0, 0, 3, 0, 8, 31, 0, 0, 128, 448, 1023, 2047, 4095, 8191, 8191, 8191, 16383, 98303, 262143]
theorem broadsheetlaw03_ManifestTorn.tab12 : rtab .any (opsOf Tryd.f6 12) = broadsheetlaw03_ManifestTorn.T12 := by kernel_rfl
theorem broadsheetlaw03_ManifestTorn.bits12 : waitsOk broadsheetlaw03_ManifestTorn.T12.2 broadsheetlaw03_ManifestTorn.B12 = true := by kernel_rfl
set_option maxHeartbeats 8000000 in
set_option maxRecDepth 100000 in
theorem broadsheetlaw03_ManifestTorn.calls (k : Nat) (a0 : Int) (A1 : Option Addr) (c1 : Nat) (l1 : List (S37)) (a2 : Int) (a3 : Int) (r : Bool) (w : World) (hr1 : Kd.C k37 w A1 l1.length l1) (hc1 : l1.length ≤ c1) (hG : Glob w) (h : broadsheetlaw03_ManifestTorn.f k a0 l1 a2 a3 = some r) :
    Calls Tryd.prog 6 #[.int .i64 a0, .slice A1 l1.length c1, .int .i64 a2, .int .u8 a3] w fun e w' => e = .returned (.bool r) ∧ Below w.heap.size w w' := by
  have HR1 := Aside0.mk hr1
  have HC1 := Aside0.mk hc1
  clear hr1 hc1
  have HB := Aside0.mk (Below.refl w.heap.size w)
  have hGA := Aside0.mk hG
  clear hG
  have H : ((broadsheetlaw03_awake.f k).bind fun t310 => (if t310 = true then ((broadsheetlaw03_few.f k l1).bind fun t311 => (if t311 = true then (broadsheetlaw03_ManifestTorn.j0 k a0 l1 a2 a3 t310 (a3 == 0)) else (broadsheetlaw03_ManifestTorn.j0 k a0 l1 a2 a3 t310 true))) else (some false))) = some r := h
  clear h
  replace H := Option.bind_eq_some_iff.mp H
  obtain ⟨t310, A50, H⟩ := H
  replace H : (if t310 = true then ((broadsheetlaw03_few.f k l1).bind fun t311 => (if t311 = true then (broadsheetlaw03_ManifestTorn.j0 k a0 l1 a2 a3 t310 (a3 == 0)) else (broadsheetlaw03_ManifestTorn.j0 k a0 l1 a2 a3 t310 true))) else (some false)) = some r := H
  have A5 := Aside0.mk A50
  clear A50
  by_cases c6 : t310 = true
  · subst c6
    have H1 : ((broadsheetlaw03_few.f k l1).bind fun t311 => (if t311 = true then (broadsheetlaw03_ManifestTorn.j0 k a0 l1 a2 a3 true (a3 == 0)) else (broadsheetlaw03_ManifestTorn.j0 k a0 l1 a2 a3 true true))) = some r := by rw [if_pos rfl] at H; exact H
    clear H
    have H := H1
    clear H1
    have HC7 := Aside0.mk H
    clear H
    go_enter Tryd.func6, Tryd.ntmps6
    go_upto_region 4 with (first | ((with_reducible refine gate_callee (f := 8) rfl ?_); refine goesL_ (some 20) rfl rfl Tryd.func8 (by kernel_rfl) rfl #[] rfl (by (try simp only [List.map_toArray, List.map_cons, List.map_nil]); first | done | rfl | (simp only [List.length_drop, List.length_take]; rfl)) ?_; (with_reducible refine (broadsheetlaw03_awake.calls k  true _ ?side1 A5.out).mono ?_); (case side1 => exact Glob.below hGA.out (by repeat (first | (with_reducible first | exact HB.out | apply below_alloc | apply pw_below_drewN | apply below_drew1) | exact HB.out))); rintro e w8 ⟨rfl, hb⟩; refine ⟨_, rfl, ?_⟩; have n0_ := Aside0.mk (below_step (by repeat (first | (with_reducible first | exact HB.out | apply below_alloc | apply pw_below_drewN | apply below_drew1) | exact HB.out)) hb); clear HB; have HB := n0_; clear n0_; (try clear hb); (try clear hb2); (try clear hk); (try clear hi)))
    (try simp only [Act.put, List.setIfInBounds_toArray, List.set_cons_zero, List.set_cons_succ])
    go_cut [29] (fun v29 wc => ∃ (kq : Nat) (x29_6 : Bool), v29 = .bool x29_6 ∧ Aside0 (broadsheetlaw03_ManifestTorn.j0 kq a0 l1 a2 a3 true x29_6 = some r) ∧ Aside0 (kq ≤ k) ∧ Aside0 (Below w.heap.size w wc))
    case first =>
      have H := HC7.out
      clear HC7
      replace H := Option.bind_eq_some_iff.mp H
      obtain ⟨t311, A90, H⟩ := H
      replace H : (if t311 = true then (broadsheetlaw03_ManifestTorn.j0 k a0 l1 a2 a3 true (a3 == 0)) else (broadsheetlaw03_ManifestTorn.j0 k a0 l1 a2 a3 true true)) = some r := H
      have A9 := Aside0.mk A90
      clear A90
      by_cases c10 : t311 = true
      · subst c10
        have H1 : (broadsheetlaw03_ManifestTorn.j0 k a0 l1 a2 a3 true (a3 == 0)) = some r := by rw [if_pos rfl] at H; exact H
        clear H
        have H := H1
        clear H1
        have H' := Aside0.mk H
        clear H
        go_wp2_with (first | ((with_reducible refine gate_callee (f := 7) rfl ?_); refine goesL_ (some 24) rfl rfl Tryd.func7 (by kernel_rfl) rfl #[.slice A1 l1.length c1] rfl (by (try simp only [List.map_toArray, List.map_cons, List.map_nil]); first | done | rfl | (simp only [List.length_drop, List.length_take]; rfl)) ?_; (with_reducible refine (broadsheetlaw03_few.calls k _ _ l1 true _ ?side1 ?side2 A9.out).mono ?_); (case side1 => repeat (first | exact (Kd.C_below HR1.out HB.out) | (with_reducible refine Kd.C_alloc ?_ _) | (with_reducible refine Kd.C_drewN ?_ _) | (with_reducible refine Kd.C_drew ?_))); (case side2 => exact HC1.out); rintro e w' ⟨rfl, ⟨nd, rfl⟩⟩; refine ⟨_, rfl, ?_⟩))
        go_meet
        case rel => exact ⟨_, ((a3 == 0)), (by first | rfl | (simp; done) | (simp [*]; done)), H', ⟨by first | omega | exact Nat.le_refl _⟩, ⟨by repeat (first | (with_reducible first | exact HB.out | apply below_alloc | apply pw_below_drewN | apply below_drew1) | exact HB.out)⟩⟩
      · replace c10 := Bool.eq_false_iff.mpr c10
        subst c10
        have H1 : (broadsheetlaw03_ManifestTorn.j0 k a0 l1 a2 a3 true true) = some r := by rw [if_neg (show ¬ (false = true) by decide)] at H; exact H
        clear H
        have H := H1
        clear H1
        have H' := Aside0.mk H
        clear H
        go_wp2_with (first | ((with_reducible refine gate_callee (f := 7) rfl ?_); refine goesL_ (some 24) rfl rfl Tryd.func7 (by kernel_rfl) rfl #[.slice A1 l1.length c1] rfl (by (try simp only [List.map_toArray, List.map_cons, List.map_nil]); first | done | rfl | (simp only [List.length_drop, List.length_take]; rfl)) ?_; (with_reducible refine (broadsheetlaw03_few.calls k _ _ l1 false _ ?side1 ?side2 A9.out).mono ?_); (case side1 => repeat (first | exact (Kd.C_below HR1.out HB.out) | (with_reducible refine Kd.C_alloc ?_ _) | (with_reducible refine Kd.C_drewN ?_ _) | (with_reducible refine Kd.C_drew ?_))); (case side2 => exact HC1.out); rintro e w' ⟨rfl, ⟨nd, rfl⟩⟩; refine ⟨_, rfl, ?_⟩))
        go_meet
        case rel => exact ⟨_, (true), (by first | rfl | (simp; done) | (simp [*]; done)), H', ⟨by first | omega | exact Nat.le_refl _⟩, ⟨by repeat (first | (with_reducible first | exact HB.out | apply below_alloc | apply pw_below_drewN | apply below_drew1) | exact HB.out)⟩⟩
    case rest =>
      clear HC7
      try clear c1
      try clear p2
      try clear c6
      try clear c7
      try clear c8
      try clear c10
      obtain ⟨kq, x29_6, rfl, HA, HJ6, HB⟩ := hcut
      cases kq with
      | zero => exact absurd HA.out (by simp [broadsheetlaw03_ManifestTorn.j0])
      | succ kj6 =>
        have H := HA.out
        clear HA
        simp only [broadsheetlaw03_ManifestTorn.j0] at H
        by_cases c11 : x29_6 = true
        · subst c11
          have H1 : (some true) = some r := by rw [if_pos rfl] at H; exact H
          clear H
          have H := H1
          clear H1
          obtain rfl := Option.some.inj H
          go_wp2
          go_ret
          exact ⟨by first | rfl | (simp [errW_none, errW_some] <;> rfl) | (simp [*, errW_none, errW_some] <;> rfl), by repeat (first | (with_reducible first | exact HB.out | apply below_alloc | apply pw_below_drewN | apply below_drew1) | exact HB.out)⟩
        · replace c11 := Bool.eq_false_iff.mpr c11
          subst c11
          have H1 : ((manifest_Print.f kj6 a0 l1).bind fun bt312 => (if bt312.2 = 0 then (broadsheetlaw03_ManifestTorn.j1 kj6 a2 a3 true bt312.1 (bt312.1.toList == ([] : List UInt8))) else (broadsheetlaw03_ManifestTorn.j1 kj6 a2 a3 true bt312.1 true))) = some r := by rw [if_neg (show ¬ (false = true) by decide)] at H; exact H
          clear H
          have H := H1
          clear H1
          replace H := Option.bind_eq_some_iff.mp H
          obtain ⟨⟨t312, t313⟩, A120, H⟩ := H
          replace H : (if t313 = 0 then (broadsheetlaw03_ManifestTorn.j1 kj6 a2 a3 true t312 (t312.toList == ([] : List UInt8))) else (broadsheetlaw03_ManifestTorn.j1 kj6 a2 a3 true t312 true)) = some r := H
          have A12 := Aside0.mk A120
          clear A120
          have HC13 := Aside0.mk H
          clear H
          go_upto_region 7 with (first | ((with_reducible refine gate_callee (f := 9) rfl ?_); refine goesL_ (some 34) rfl rfl Tryd.func9 (by kernel_rfl) rfl #[.int .i64 a0, .slice A1 l1.length c1] rfl (by (try simp only [List.map_toArray, List.map_cons, List.map_nil]); first | done | rfl | (simp only [List.length_drop, List.length_take]; rfl)) ?_; (with_reducible refine (manifest_Print.calls kj6 a0 _ _ l1 t312 t313 _ ?side1 ?side2 ?side3 A12.out).mono ?_); (case side1 => repeat (first | exact (Kd.C_below HR1.out HB.out) | (with_reducible refine Kd.C_alloc ?_ _) | (with_reducible refine Kd.C_drewN ?_ _) | (with_reducible refine Kd.C_drew ?_))); (case side2 => exact HC1.out); (case side3 => exact Glob.below hGA.out (by repeat (first | (with_reducible first | exact HB.out | apply below_alloc | apply pw_below_drewN | apply below_drew1) | exact HB.out))); rintro e w14 ⟨rfl, hb⟩; refine ⟨_, rfl, ?_⟩; have n0_ := Aside0.mk (below_step (by repeat (first | (with_reducible first | exact HB.out | apply below_alloc | apply pw_below_drewN | apply below_drew1) | exact HB.out)) hb); clear HB; have HB := n0_; clear n0_; (try clear hb); (try clear hb2); (try clear hk); (try clear hi)))
          (try simp only [Act.put, List.setIfInBounds_toArray, List.set_cons_zero, List.set_cons_succ])
          go_cut [42] (fun v42 wc => ∃ (kq : Nat) (x42_12 : Bool), v42 = .bool x42_12 ∧ Aside0 (broadsheetlaw03_ManifestTorn.j1 kq a2 a3 true t312 x42_12 = some r) ∧ Aside0 (kq ≤ kj6) ∧ Aside0 (Below w.heap.size w wc))
          case first =>
            have H := HC13.out
            clear HC13
            by_cases c15 : t313 = 0
            · rw [if_pos c15] at H
              have c15b0 : (t313 == 0) = true := beq_iff_eq.mpr c15
              have c15b1 : (t313 != 0) = false := bne_eq_false_iff_eq.mpr c15
              clear c15
              (first | rw [c15b0] | (simp only [i64_w, i32_w]; rw [c15b0]) | skip)
              have H' := Aside0.mk H
              clear H
              go_wp2
              go_meet
              case rel => exact ⟨_, ((t312.toList == ([] : List UInt8))), (by first | rfl | (simp; done) | (simp [*]; done)), H', ⟨by have := HJ6.out; first | omega | exact Nat.le_refl _⟩, ⟨by repeat (first | (with_reducible first | exact HB.out | apply below_alloc | apply pw_below_drewN | apply below_drew1) | exact HB.out)⟩⟩
            · rw [if_neg c15] at H
              have c15b0 : (t313 == 0) = false := beq_eq_false_iff_ne.mpr c15
              have c15b1 : (t313 != 0) = true := bne_iff_ne.mpr c15
              (first | rw [c15b0] | (simp only [i64_w, i32_w]; rw [c15b0]) | skip)
              have H' := Aside0.mk H
              clear H
              go_wp2
              go_meet
              case rel => exact ⟨_, (true), (by first | rfl | (simp; done) | (simp [*]; done)), H', ⟨by have := HJ6.out; first | omega | exact Nat.le_refl _⟩, ⟨by repeat (first | (with_reducible first | exact HB.out | apply below_alloc | apply pw_below_drewN | apply below_drew1) | exact HB.out)⟩⟩
          case rest =>
            clear HC13
            try clear c1
            try clear p2
            try clear c6
            try clear c7
            try clear c8
            try clear c9
            try clear c10
            try clear c11
            try clear c15
            try clear c15b0
            try clear c15b1
            try clear p2
            obtain ⟨kq, x42_12, rfl, HA, HJ12, HB⟩ := hcut
            cases kq with
            | zero => exact absurd HA.out (by simp [broadsheetlaw03_ManifestTorn.j1])
            | succ kj12 =>
              have H := HA.out
              clear HA
              simp only [broadsheetlaw03_ManifestTorn.j1] at H
              by_cases c16 : x42_12 = true
              · subst c16
                have H1 : (if true = true then (some (t312.toList == ([] : List UInt8))) else (some false)) = some r := by rw [if_pos rfl] at H; exact H
                clear H
                have H := H1
                clear H1
                have H1 : (some (t312.toList == ([] : List UInt8))) = some r := by rw [if_pos rfl] at H; exact H
                clear H
                have H := H1
                clear H1
                obtain rfl := Option.some.inj H
                go_wp2
                go_ret
                exact ⟨by first | rfl | (simp [errW_none, errW_some] <;> rfl) | (simp [*, errW_none, errW_some] <;> rfl), by repeat (first | (with_reducible first | exact HB.out | apply below_alloc | apply pw_below_drewN | apply below_drew1) | exact HB.out)⟩
              · replace c16 := Bool.eq_false_iff.mpr c16
                subst c16
                have H1 : (if (t312.size : Int) = 0 then (none) else (if 0 ≤ (Int.tmod (Go.bits .and .i64 a2 1048575) (t312.size : Int)) then (if (Int.tmod (Go.bits .and .i64 a2 1048575) (t312.size : Int)) < (t312.size : Int) then (if ([] : List Int).length < 140737488355328 then ((some (([] : List Int) ++ [Go.bits .xor .u8 (bt t312 (Int.tmod (Go.bits .and .i64 a2 1048575) (t312.size : Int))) a3] : List Int)).bind fun y314 => (if (Int.tmod (Go.bits .and .i64 a2 1048575) (t312.size : Int)) ≤ (t312.size : Int) then (if (t312.extract 0 ((Int.tmod (Go.bits .and .i64 a2 1048575) (t312.size : Int)) : Int).toNat).size + (strOfNums y314).size ≤ 9223372036854775807 then (if 0 ≤ (wrap64 ((Int.tmod (Go.bits .and .i64 a2 1048575) (t312.size : Int)) + 1)) then (if (wrap64 ((Int.tmod (Go.bits .and .i64 a2 1048575) (t312.size : Int)) + 1)) ≤ (t312.size : Int) then (if ((t312.extract 0 ((Int.tmod (Go.bits .and .i64 a2 1048575) (t312.size : Int)) : Int).toNat) ++ (strOfNums y314)).size + (t312.extract ((wrap64 ((Int.tmod (Go.bits .and .i64 a2 1048575) (t312.size : Int)) + 1)) : Int).toNat t312.size).size ≤ 9223372036854775807 then ((manifest_Parse.f kj12 (((t312.extract 0 ((Int.tmod (Go.bits .and .i64 a2 1048575) (t312.size : Int)) : Int).toNat) ++ (strOfNums y314)) ++ (t312.extract ((wrap64 ((Int.tmod (Go.bits .and .i64 a2 1048575) (t312.size : Int)) + 1)) : Int).toNat t312.size))).bind fun bt317 => ((manifest_Parse.f kj12 (t312.extract 0 ((Int.tmod (Go.bits .and .i64 a2 1048575) (t312.size : Int)) : Int).toNat)).bind fun bt322 => (if true = true then (if bt317.2.2 = 30 then (some (bt322.2.2 == 30)) else (some false)) else (some false)))) else (none)) else (none)) else (none)) else (none)) else (none))) else (none)) else (none)) else (none))) = some r := by rw [if_neg (show ¬ (false = true) by decide)] at H; exact H
                clear H
                have H := H1
                clear H1
                by_cases c17 : (t312.size : Int) = 0
                · rw [if_pos c17] at H
                  exact absurd H (by simp)
                · rw [if_neg c17] at H
                  have c17b0 : ((t312.size : Int) == 0) = false := beq_eq_false_iff_ne.mpr c17
                  have c17b1 : ((t312.size : Int) != 0) = true := bne_iff_ne.mpr c17
                  obtain ⟨ji18, hji18⟩ : ∃ j_ : Int, (Int.tmod (Go.bits .and .i64 a2 1048575) (t312.size : Int)) = j_ := ⟨_, rfl⟩
                  replace H : (if 0 ≤ (ji18) then (if (ji18) < (t312.size : Int) then (if ([] : List Int).length < 140737488355328 then ((some (([] : List Int) ++ [Go.bits .xor .u8 (bt t312 (ji18)) a3] : List Int)).bind fun y314 => (if (ji18) ≤ (t312.size : Int) then (if (t312.extract 0 ((ji18) : Int).toNat).size + (strOfNums y314).size ≤ 9223372036854775807 then (if 0 ≤ (wrap64 ((ji18) + 1)) then (if (wrap64 ((ji18) + 1)) ≤ (t312.size : Int) then (if ((t312.extract 0 ((ji18) : Int).toNat) ++ (strOfNums y314)).size + (t312.extract ((wrap64 ((ji18) + 1)) : Int).toNat t312.size).size ≤ 9223372036854775807 then ((manifest_Parse.f kj12 (((t312.extract 0 ((ji18) : Int).toNat) ++ (strOfNums y314)) ++ (t312.extract ((wrap64 ((ji18) + 1)) : Int).toNat t312.size))).bind fun bt317 => ((manifest_Parse.f kj12 (t312.extract 0 ((ji18) : Int).toNat)).bind fun bt322 => (if true = true then (if bt317.2.2 = 30 then (some (bt322.2.2 == 30)) else (some false)) else (some false)))) else (none)) else (none)) else (none)) else (none)) else (none))) else (none)) else (none)) else (none)) = some r := by first | (rw [hji18] at H; exact H) | (simp only [hji18] at H ⊢; exact H)
                  by_cases c19 : 0 ≤ (ji18)
                  · rw [if_pos c19] at H
                    have c19b0 : decide (0 ≤ (ji18)) = true := decide_eq_true c19
                    clear c19
                    by_cases c20 : (ji18) < (t312.size : Int)
                    · rw [if_pos c20] at H
                      have c20b0 : decide ((ji18) < (t312.size : Int)) = true := decide_eq_true c20
                      clear c20
                      by_cases c22 : ([] : List Int).length < 140737488355328
                      · rw [if_pos c22] at H
                        have LMc22 := Aside0.mk c22
                        clear c22
                        obtain ⟨y314, hy314⟩ : ∃ y_ : List Int, y_ = (([] : List Int) ++ [Go.bits .xor .u8 (bt t312 (ji18)) a3]) := ⟨_, rfl⟩
                        replace H : (if (ji18) ≤ (t312.size : Int) then (if (t312.extract 0 ((ji18) : Int).toNat).size + (strOfNums y314).size ≤ 9223372036854775807 then (if 0 ≤ (wrap64 ((ji18) + 1)) then (if (wrap64 ((ji18) + 1)) ≤ (t312.size : Int) then (if ((t312.extract 0 ((ji18) : Int).toNat) ++ (strOfNums y314)).size + (t312.extract ((wrap64 ((ji18) + 1)) : Int).toNat t312.size).size ≤ 9223372036854775807 then ((manifest_Parse.f kj12 (((t312.extract 0 ((ji18) : Int).toNat) ++ (strOfNums y314)) ++ (t312.extract ((wrap64 ((ji18) + 1)) : Int).toNat t312.size))).bind fun bt317 => ((manifest_Parse.f kj12 (t312.extract 0 ((ji18) : Int).toNat)).bind fun bt322 => (if true = true then (if bt317.2.2 = 30 then (some (bt322.2.2 == 30)) else (some false)) else (some false)))) else (none)) else (none)) else (none)) else (none)) else (none)) = some r := by first | (rw [hy314]; with_reducible exact H) | (have H2_ := (Option.bind_some _ _).symm.trans H; rw [hy314]; with_reducible exact H2_) | (have H2_ := (Option.bind_some _ _).symm.trans H; with_reducible exact H2_) | with_reducible exact H | (rw [hy314]; exact H) | exact H
                        have Ny314 := Aside0.mk hy314
                        clear hy314
                        have c23b0 := eq_true (of_decide_eq_true (by first | (with_reducible assumption) | assumption) : 0 ≤ (ji18))
                        by_cases c24 : (ji18) ≤ (t312.size : Int)
                        · rw [if_pos c24] at H
                          have c24b0 := eq_true c24
                          have c24b1 : decide ((ji18) ≤ (t312.size : Int)) = true := decide_eq_true c24
                          clear c24
                          by_cases c25 : (t312.extract 0 ((ji18) : Int).toNat).size + (strOfNums y314).size ≤ 9223372036854775807
                          · rw [if_pos c25] at H
                            have c25b0 := eq_true c25
                            have c25b1 : decide ((t312.extract 0 ((ji18) : Int).toNat).size + (strOfNums y314).size ≤ 9223372036854775807) = true := decide_eq_true c25
                            try have c25b2 : (9223372036854775807 < (t312.extract 0 ((ji18) : Int).toNat).size + (strOfNums y314).size) = False := eq_false (Nat.not_lt.2 c25)
                            obtain ⟨nc25, hc25⟩ : ∃ n_ : Nat, n_ = (t312.extract 0 ((ji18) : Int).toNat).size + (strOfNums y314).size := ⟨_, rfl⟩
                            have c25m0 : nc25 ≤ 9223372036854775807 := by rw [hc25]; exact c25
                            (first | simp [go_sem, c24b0] at hc25 | simp [go_sem] at hc25 | skip)
                            rw [hc25] at c25m0
                            have c25m1 := eq_false (Nat.not_lt.2 c25m0)
                            have c25m2 := decide_eq_true c25m0
                            clear hc25 c25m0
                            obtain ⟨ji26, hji26⟩ : ∃ j_ : Int, (wrap64 ((ji18) + 1)) = j_ := ⟨_, rfl⟩
                            replace H : (if 0 ≤ (ji26) then (if (ji26) ≤ (t312.size : Int) then (if ((t312.extract 0 ((ji18) : Int).toNat) ++ (strOfNums y314)).size + (t312.extract ((ji26) : Int).toNat t312.size).size ≤ 9223372036854775807 then ((manifest_Parse.f kj12 (((t312.extract 0 ((ji18) : Int).toNat) ++ (strOfNums y314)) ++ (t312.extract ((ji26) : Int).toNat t312.size))).bind fun bt317 => ((manifest_Parse.f kj12 (t312.extract 0 ((ji18) : Int).toNat)).bind fun bt322 => (if true = true then (if bt317.2.2 = 30 then (some (bt322.2.2 == 30)) else (some false)) else (some false)))) else (none)) else (none)) else (none)) = some r := by first | (rw [hji26] at H; exact H) | (simp only [hji26] at H ⊢; exact H)
                            have hji26w : (IntKind.i64.wrap ((ji18) + 1)) = ji26 := (i64_w _).trans hji26
                            by_cases c27 : 0 ≤ (ji26)
                            · rw [if_pos c27] at H
                              have c27b0 := eq_true c27
                              have c27b1 : decide (0 ≤ (ji26)) = true := decide_eq_true c27
                              clear c27
                              by_cases c28 : (ji26) ≤ (t312.size : Int)
                              · rw [if_pos c28] at H
                                have c28b0 := eq_true c28
                                have c28b1 : decide ((ji26) ≤ (t312.size : Int)) = true := decide_eq_true c28
                                clear c28
                                by_cases c29 : ((t312.extract 0 ((ji18) : Int).toNat) ++ (strOfNums y314)).size + (t312.extract ((ji26) : Int).toNat t312.size).size ≤ 9223372036854775807
                                · rw [if_pos c29] at H
                                  have c29b0 := eq_true c29
                                  have c29b1 : decide (((t312.extract 0 ((ji18) : Int).toNat) ++ (strOfNums y314)).size + (t312.extract ((ji26) : Int).toNat t312.size).size ≤ 9223372036854775807) = true := decide_eq_true c29
                                  try have c29b2 : (9223372036854775807 < ((t312.extract 0 ((ji18) : Int).toNat) ++ (strOfNums y314)).size + (t312.extract ((ji26) : Int).toNat t312.size).size) = False := eq_false (Nat.not_lt.2 c29)
                                  obtain ⟨nc29, hc29⟩ : ∃ n_ : Nat, n_ = ((t312.extract 0 ((ji18) : Int).toNat) ++ (strOfNums y314)).size + (t312.extract ((ji26) : Int).toNat t312.size).size := ⟨_, rfl⟩
                                  have c29m0 : nc29 ≤ 9223372036854775807 := by rw [hc29]; exact c29
                                  (first | simp [go_sem, c24b0, c25b0, c27b0, c28b0] at hc29 | simp [go_sem] at hc29 | skip)
                                  rw [hc29] at c29m0
                                  have c29m1 := eq_false (Nat.not_lt.2 c29m0)
                                  have c29m2 := decide_eq_true c29m0
                                  clear hc29 c29m0
                                  replace H := Option.bind_eq_some_iff.mp H
                                  obtain ⟨⟨t317, t318, t319⟩, A300, H⟩ := H
                                  replace H : ((manifest_Parse.f kj12 (t312.extract 0 ((ji18) : Int).toNat)).bind fun bt322 => (if true = true then (if t319 = 30 then (some (bt322.2.2 == 30)) else (some false)) else (some false))) = some r := H
                                  have A30 := Aside0.mk A300
                                  clear A300
                                  have c31b0 := eq_true (of_decide_eq_true (by first | (with_reducible assumption) | assumption) : 0 ≤ (ji18))
                                  have c32b0 := eq_true (of_decide_eq_true (by first | (with_reducible assumption) | assumption) : (ji18) ≤ (t312.size : Int))
                                  replace H := Option.bind_eq_some_iff.mp H
                                  obtain ⟨⟨t322, t323, t324⟩, A330, H⟩ := H
                                  replace H : (if true = true then (if t319 = 30 then (some (t324 == 30)) else (some false)) else (some false)) = some r := H
                                  have A33 := Aside0.mk A330
                                  clear A330
                                  have H1 : (if t319 = 30 then (some (t324 == 30)) else (some false)) = some r := by rw [if_pos rfl] at H; exact H
                                  clear H
                                  have H := H1
                                  clear H1
                                  by_cases c34 : t319 = 30
                                  · rw [if_pos c34] at H
                                    have c34b0 : (t319 == 30) = true := beq_iff_eq.mpr c34
                                    have c34b1 : (t319 != 30) = false := bne_eq_false_iff_eq.mpr c34
                                    clear c34
                                    obtain rfl := Option.some.inj H
                                    have p21 : 0 ≤ ((ji18) : Int) := of_decide_eq_true (by first | (with_reducible assumption) | assumption)
                                    have q21 : (ji18) < (t312.size : Int) := of_decide_eq_true (by first | (with_reducible assumption) | assumption)
                                    have hx21 := bt_at t312 (ji18)
                                    replace p21 := eq_true p21
                                    replace q21 := eq_true q21
                                    try go_wp2_with (first | ((with_reducible refine gate_builtin (b := .append) (xs := #[.tmp 53, .tmp 59]) rfl ?_); at_builtin; refine Kd.R_append (Kd.int .u8) (w0 := w) w.heap.size rfl (.tmp 53) (.tmp 59) 34 5 (.int .u8 0) 1 rfl Tryd.underlying34 info5 rfl (by decide) (by omega) (.slice none 0 0) ([] : List Int) (Go.bits .xor .u8 (bt t312 (ji18)) a3) [.int .u8 (Go.bits .xor .u8 (bt t312 (ji18)) a3)] (fun _ => True) (fun _ => False) rfl rfl ?aP (fun _ hk => hk.elim) ?aF ?aO ?aB ?aS ?aL ?_; (case aP => exact rfl); (case aB => exact (by repeat (first | (with_reducible first | exact HB.out | apply below_alloc | apply pw_below_drewN | apply below_drew1) | exact HB.out))); (case aF => exact (fun _ _ => trivial)); (case aO => exact ((Kd.R_nil _ _ _ _ (fun _ => True)))); (case aS => exact (below_size (by repeat (first | (with_reducible first | exact HB.out | apply below_alloc | apply pw_below_drewN | apply below_drew1) | exact HB.out)))); (case aL => have := LMc22.out; omega); intro v315 w35 ho hb hg hat; rw [← Ny314.out] at ho; have n0_ := Aside0.mk (hb); have n1_ := Aside0.mk (ho); clear HB; have HB := n0_; have HO316 := n1_; clear n0_ n1_; clear ho hb hg hat))
                                    have n0_ := Aside0.mk (Kd.R_drew HO316.out)
                                    have n1_ := Aside0.mk (below_drew1 HB.out)
                                    clear HO316
                                    clear HB
                                    have HO316 := n0_
                                    have HB := n1_
                                    clear n0_ n1_
                                    refine start_ (n := 19) (S := fun w' => True) (ds := []) #[false, false, false, false, false, false, false, false, false, false, false, false, false, false, false, false, false, false, false] (by kernel_rfl) rfl rfl trivial (fun hHeld => ?_); refine with_tabW broadsheetlaw03_ManifestTorn.tab12 broadsheetlaw03_ManifestTorn.bits12 (fun HT_ HW_ => ?_)
                                    generalize w35.drew = w36 at HO316 HB hHeld ⊢
                                    refine pure_ (i := 0) (N := some 62) (v := ?_) (a' := ?_) #[true, false, false, false, false, false, false, false, false, false, false, false, false, false, false, false, false, false, false] rfl rfl (any_of HT_.out (by kernel_rfl)) (fun _ _ _ h => h) (Or.inl ⟨by rfl, ?_⟩) ?_ ?_
                                    rotate_left
                                    · intro w'
                                      go_simp
                                      first | with_reducible rfl | (rw [if_neg (by intro h_; simp only [ByteArray.size_append, ByteArray.size_extract, eq_iff_iff, iff_true, iff_false, decide_eq_true_eq] at *; omega)])
                                    rotate_left
                                    · simp only [Act.put, List.setIfInBounds_toArray, List.set_cons_zero, List.set_cons_succ, i64_w, i32_w]
                                      rfl
                                    refine pure_ (i := 1) (N := some 63) (v := ?_) (a' := ?_) #[true, true, false, false, false, false, false, false, false, false, false, false, false, false, false, false, false, false, false] rfl rfl (any_of HT_.out (by kernel_rfl)) (fun _ _ _ h => h) (Or.inl ⟨by rfl, ?_⟩) ?_ ?_
                                    rotate_left
                                    · intro w'
                                      go_simp
                                      first | with_reducible rfl | (rw [if_neg (by intro h_; simp only [ByteArray.size_append, ByteArray.size_extract, eq_iff_iff, iff_true, iff_false, decide_eq_true_eq] at *; omega)])
                                    rotate_left
                                    · simp only [Act.put, List.setIfInBounds_toArray, List.set_cons_zero, List.set_cons_succ, i64_w, i32_w]
                                      rfl
                                    refine pure_ (i := 2) (N := some 64) (v := ?_) (a' := ?_) #[true, true, true, false, false, false, false, false, false, false, false, false, false, false, false, false, false, false, false] rfl rfl (any_of HT_.out (by kernel_rfl)) (fun _ _ _ h => h) (Or.inl ⟨by rfl, ?_⟩) ?_ ?_
                                    rotate_left
                                    · intro w'
                                      go_simp
                                      first | with_reducible rfl | (rw [if_neg (by intro h_; simp only [ByteArray.size_append, ByteArray.size_extract, eq_iff_iff, iff_true, iff_false, decide_eq_true_eq] at *; omega)])
                                    rotate_left
                                    · simp only [Act.put, List.setIfInBounds_toArray, List.set_cons_zero, List.set_cons_succ, i64_w, i32_w]
                                      rfl
                                    refine pure_ (i := 3) (N := some 65) (v := ?_) (a' := ?_) #[true, true, true, true, false, false, false, false, false, false, false, false, false, false, false, false, false, false, false] rfl rfl (any_of HT_.out (by kernel_rfl)) (fun _ _ _ h => h) (Or.inl ⟨by rfl, ?_⟩) ?_ ?_
                                    rotate_left
                                    · intro w'
                                      go_simp
                                      first | with_reducible rfl | (rw [if_neg (by intro h_; simp only [ByteArray.size_append, ByteArray.size_extract, eq_iff_iff, iff_true, iff_false, decide_eq_true_eq] at *; omega)])
                                    rotate_left
                                    · simp only [Act.put, List.setIfInBounds_toArray, List.set_cons_zero, List.set_cons_succ, i64_w, i32_w]
                                      rfl
                                    refine pure_ (i := 6) (N := some 68) (v := ?_) (a' := ?_) #[true, true, true, true, false, false, true, false, false, false, false, false, false, false, false, false, false, false, false] rfl rfl (any_of HT_.out (by kernel_rfl)) (fun _ _ _ h => h) (Or.inl ⟨by rfl, ?_⟩) ?_ ?_
                                    rotate_left
                                    · intro w'
                                      go_simp
                                      first | with_reducible rfl | (rw [if_neg (by intro h_; simp only [ByteArray.size_append, ByteArray.size_extract, eq_iff_iff, iff_true, iff_false, decide_eq_true_eq] at *; omega)])
                                    rotate_left
                                    · simp only [Act.put, List.setIfInBounds_toArray, List.set_cons_zero, List.set_cons_succ, i64_w, i32_w]
                                      rfl
                                    refine pure_ (i := 7) (N := some 69) (v := ?_) (a' := ?_) #[true, true, true, true, false, false, true, true, false, false, false, false, false, false, false, false, false, false, false] rfl rfl (any_of HT_.out (by kernel_rfl)) (fun _ _ _ h => h) (Or.inl ⟨by rfl, ?_⟩) ?_ ?_
                                    rotate_left
                                    · intro w'
                                      go_simp
                                      first | with_reducible rfl | (rw [if_neg (by intro h_; simp only [ByteArray.size_append, ByteArray.size_extract, eq_iff_iff, iff_true, iff_false, decide_eq_true_eq] at *; omega)])
                                    rotate_left
                                    · simp only [Act.put, List.setIfInBounds_toArray, List.set_cons_zero, List.set_cons_succ, i64_w, i32_w]
                                      rfl
                                    refine pure_ (i := 8) (N := some 70) (v := ?_) (a' := ?_) #[true, true, true, true, false, false, true, true, true, false, false, false, false, false, false, false, false, false, false] rfl rfl (any_of HT_.out (by kernel_rfl)) (fun _ _ _ h => h) (Or.inl ⟨by rfl, ?_⟩) ?_ ?_
                                    rotate_left
                                    · intro w'
                                      go_simp
                                      first | with_reducible rfl | (rw [if_neg (by intro h_; simp only [ByteArray.size_append, ByteArray.size_extract, eq_iff_iff, iff_true, iff_false, decide_eq_true_eq] at *; omega)])
                                    rotate_left
                                    · simp only [Act.put, List.setIfInBounds_toArray, List.set_cons_zero, List.set_cons_succ, i64_w, i32_w]
                                      rfl
                                    refine pure_ (i := 9) (N := some 71) (v := ?_) (a' := ?_) #[true, true, true, true, false, false, true, true, true, true, false, false, false, false, false, false, false, false, false] rfl rfl (any_of HT_.out (by kernel_rfl)) (fun _ _ _ h => h) (Or.inl ⟨by rfl, ?_⟩) ?_ ?_
                                    rotate_left
                                    · intro w'
                                      go_simp
                                      first | with_reducible rfl | (rw [if_neg (by intro h_; simp only [ByteArray.size_append, ByteArray.size_extract, eq_iff_iff, iff_true, iff_false, decide_eq_true_eq] at *; omega)])
                                    rotate_left
                                    · simp only [Act.put, List.setIfInBounds_toArray, List.set_cons_zero, List.set_cons_succ, i64_w, i32_w]
                                      rfl
                                    refine one_ (i := 4) (N := some 66) #[true, true, true, true, true, false, true, true, true, true, false, false, false, false, false, false, false, false, false] rfl rfl (one_of HT_.out (by kernel_rfl)) (by decide) (fun K hK => ?_)
                                    have hcv37 := own_string (P := Tryd.prog) Tryd.underlying34 Tryd.underlying5 Tryd.underlying9 (Kd.own_of_R HO316.out)
                                    refine value_ (w1 := ?_) (v := ?_) (by rfl) rfl ?_ ?_
                                    rotate_left 2
                                    · go_simp
                                      constructor
                                      · rfl
                                      · rfl
                                    clear hcv37
                                    refine hK.out _ _ trivial (fun hHeld => ?_)
                                    clear hK K
                                    refine norm_ (a' := ?_) ?_ ?_
                                    rotate_left
                                    · show Act.put _ (some 66) _ = _
                                      simp only [Act.put, List.setIfInBounds_toArray, List.set_cons_zero, List.set_cons_succ, i64_w, i32_w]
                                      rfl
                                    refine pure_ (i := 5) (N := some 67) (v := ?_) (a' := ?_) #[true, true, true, true, true, true, true, true, true, true, false, false, false, false, false, false, false, false, false] rfl rfl (any_of HT_.out (by kernel_rfl)) (fun _ _ _ h => h) (Or.inl ⟨by rfl, ?_⟩) ?_ ?_
                                    rotate_left
                                    · intro w'
                                      go_simp
                                      first | with_reducible rfl | (rw [if_neg (by intro h_; simp only [ByteArray.size_append, ByteArray.size_extract, eq_iff_iff, iff_true, iff_false, decide_eq_true_eq] at *; omega)])
                                    rotate_left
                                    · simp only [Act.put, List.setIfInBounds_toArray, List.set_cons_zero, List.set_cons_succ, i64_w, i32_w]
                                      rfl
                                    refine pure_ (i := 10) (N := some 72) (v := ?_) (a' := ?_) #[true, true, true, true, true, true, true, true, true, true, true, false, false, false, false, false, false, false, false] rfl rfl (any_of HT_.out (by kernel_rfl)) (fun _ _ _ h => h) (Or.inl ⟨by rfl, ?_⟩) ?_ ?_
                                    rotate_left
                                    · intro w'
                                      go_simp
                                      first | with_reducible rfl | (rw [if_neg (by intro h_; simp only [ByteArray.size_append, ByteArray.size_extract, eq_iff_iff, iff_true, iff_false, decide_eq_true_eq] at *; omega)])
                                    rotate_left
                                    · simp only [Act.put, List.setIfInBounds_toArray, List.set_cons_zero, List.set_cons_succ, i64_w, i32_w]
                                      rfl
                                    refine one_ (i := 11) (N := some 73) #[true, true, true, true, true, true, true, true, true, true, true, true, false, false, false, false, false, false, false] rfl rfl (one_of HT_.out (by kernel_rfl)) (by decide) (fun K hK => ?_)
                                    refine goes_ Tryd.func11 (by kernel_rfl) rfl #[.string (((t312.extract 0 ((ji18) : Int).toNat) ++ (strOfNums y314)) ++ (t312.extract ((ji26) : Int).toNat t312.size))] (by rfl) rfl rfl (by (try simp only [List.map_toArray, List.map_cons, List.map_nil]); first | done | (simp only [hji18, hji26]; rfl) | rfl | (simp only [List.length_drop, List.length_take]; rfl)) ?_
                                    with_reducible refine (manifest_Parse.calls kj12 (((t312.extract 0 ((ji18) : Int).toNat) ++ (strOfNums y314)) ++ (t312.extract ((ji26) : Int).toNat t312.size)) t317 t318 t319 _ ?side1 A30.out).mono ?_
                                    (case side1 => exact Glob.below hGA.out (by repeat (first | (with_reducible first | exact HB.out | apply below_alloc | apply pw_below_drewN | apply below_drew1) | exact HB.out)))
                                    rintro e w38 ⟨v320, rfl, ho0, hb⟩
                                    refine ⟨_, rfl, ?_⟩
                                    have n0_ := Aside0.mk (Kd.R_below (by (with_reducible repeat (first | apply Kd.R_alloc | apply Kd.R_drewN | apply Kd.R_drew)); exact HO316.out) hb)
                                    have n1_ := Aside0.mk (Kd.R_lower ho0 (below_size (by repeat (first | (with_reducible first | exact HB.out | apply below_alloc | apply pw_below_drewN | apply below_drew1) | exact HB.out))))
                                    have n2_ := Aside0.mk (below_step (by repeat (first | (with_reducible first | exact HB.out | apply below_alloc | apply pw_below_drewN | apply below_drew1) | exact HB.out)) hb)
                                    clear HO316
                                    clear HB
                                    have HO316 := n0_
                                    have HO321 := n1_
                                    have HB := n2_
                                    clear n0_ n1_ n2_
                                    (try clear hb)
                                    (try clear hb2)
                                    (try clear hk)
                                    (try clear hi)
                                    (try clear ho0)
                                    refine hK.out _ _ trivial (fun hHeld => ?_)
                                    clear hK K
                                    refine norm_ (a' := ?_) ?_ ?_
                                    rotate_left
                                    · show Act.put _ (some 73) _ = _
                                      simp only [Act.put, List.setIfInBounds_toArray, List.set_cons_zero, List.set_cons_succ, i64_w, i32_w]
                                      rfl
                                    refine pure_ (i := 12) (N := some 61) (v := ?_) (a' := ?_) #[true, true, true, true, true, true, true, true, true, true, true, true, true, false, false, false, false, false, false] rfl rfl (any_of HT_.out (by kernel_rfl)) (fun _ _ _ h => h) (Or.inl ⟨by rfl, ?_⟩) ?_ ?_
                                    rotate_left
                                    · intro w'
                                      go_simp
                                      first | with_reducible rfl | (rw [if_neg (by intro h_; simp only [ByteArray.size_append, ByteArray.size_extract, eq_iff_iff, iff_true, iff_false, decide_eq_true_eq] at *; omega)])
                                    rotate_left
                                    · simp only [Act.put, List.setIfInBounds_toArray, List.set_cons_zero, List.set_cons_succ, i64_w, i32_w]
                                      rfl
                                    refine pure_ (i := 13) (N := some 74) (v := ?_) (a' := ?_) #[true, true, true, true, true, true, true, true, true, true, true, true, true, true, false, false, false, false, false] rfl rfl (any_of HT_.out (by kernel_rfl)) (fun _ _ _ h => h) (Or.inl ⟨by rfl, ?_⟩) ?_ ?_
                                    rotate_left
                                    · intro w'
                                      go_simp
                                      first | with_reducible rfl | (rw [if_neg (by intro h_; simp only [ByteArray.size_append, ByteArray.size_extract, eq_iff_iff, iff_true, iff_false, decide_eq_true_eq] at *; omega)])
                                    rotate_left
                                    · simp only [Act.put, List.setIfInBounds_toArray, List.set_cons_zero, List.set_cons_succ, i64_w, i32_w]
                                      rfl
                                    refine pure_ (i := 14) (N := some 75) (v := ?_) (a' := ?_) #[true, true, true, true, true, true, true, true, true, true, true, true, true, true, true, false, false, false, false] rfl rfl (any_of HT_.out (by kernel_rfl)) (fun _ _ _ h => h) (Or.inl ⟨by rfl, ?_⟩) ?_ ?_
                                    rotate_left
                                    · intro w'
                                      go_simp
                                      first | with_reducible rfl | (rw [if_neg (by intro h_; simp only [ByteArray.size_append, ByteArray.size_extract, eq_iff_iff, iff_true, iff_false, decide_eq_true_eq] at *; omega)])
                                    rotate_left
                                    · simp only [Act.put, List.setIfInBounds_toArray, List.set_cons_zero, List.set_cons_succ, i64_w, i32_w]
                                      rfl
                                    refine pure_ (i := 15) (N := some 76) (v := ?_) (a' := ?_) #[true, true, true, true, true, true, true, true, true, true, true, true, true, true, true, true, false, false, false] rfl rfl (any_of HT_.out (by kernel_rfl)) (fun _ _ _ h => h) (Or.inl ⟨by rfl, ?_⟩) ?_ ?_
                                    rotate_left
                                    · intro w'
                                      go_simp
                                      first | with_reducible rfl | (rw [if_neg (by intro h_; simp only [ByteArray.size_append, ByteArray.size_extract, eq_iff_iff, iff_true, iff_false, decide_eq_true_eq] at *; omega)])
                                    rotate_left
                                    · simp only [Act.put, List.setIfInBounds_toArray, List.set_cons_zero, List.set_cons_succ, i64_w, i32_w]
                                      rfl
                                    refine pure_ (i := 16) (N := some 14) (v := ?_) (a' := ?_) #[true, true, true, true, true, true, true, true, true, true, true, true, true, true, true, true, true, false, false] rfl rfl (any_of HT_.out (by kernel_rfl)) (fun _ _ _ h => h) (Or.inl ⟨by rfl, ?_⟩) ?_ ?_
                                    rotate_left
                                    · intro w'
                                      go_simp
                                      first | with_reducible rfl | (rw [if_neg (by intro h_; simp only [ByteArray.size_append, ByteArray.size_extract, eq_iff_iff, iff_true, iff_false, decide_eq_true_eq] at *; omega)])
                                    rotate_left
                                    · simp only [Act.put, List.setIfInBounds_toArray, List.set_cons_zero, List.set_cons_succ, i64_w, i32_w]
                                      rfl
                                    refine pure_ (i := 17) (N := some 15) (v := ?_) (a' := ?_) #[true, true, true, true, true, true, true, true, true, true, true, true, true, true, true, true, true, true, false] rfl rfl (any_of HT_.out (by kernel_rfl)) (fun _ _ _ h => h) (Or.inl ⟨by rfl, ?_⟩) ?_ ?_
                                    rotate_left
                                    · intro w'
                                      go_simp
                                      first | with_reducible rfl | (rw [if_neg (by intro h_; simp only [ByteArray.size_append, ByteArray.size_extract, eq_iff_iff, iff_true, iff_false, decide_eq_true_eq] at *; omega)])
                                    rotate_left
                                    · simp only [Act.put, List.setIfInBounds_toArray, List.set_cons_zero, List.set_cons_succ, i64_w, i32_w]
                                      rfl
                                    refine pure_ (i := 18) (N := some 16) (v := ?_) (a' := ?_) #[true, true, true, true, true, true, true, true, true, true, true, true, true, true, true, true, true, true, true] rfl rfl (any_of HT_.out (by kernel_rfl)) (fun _ _ _ h => h) (Or.inl ⟨by rfl, ?_⟩) ?_ ?_
                                    rotate_left
                                    · intro w'
                                      go_simp
                                      first | with_reducible rfl | (rw [if_neg (by intro h_; simp only [ByteArray.size_append, ByteArray.size_extract, eq_iff_iff, iff_true, iff_false, decide_eq_true_eq] at *; omega)])
                                    rotate_left
                                    · simp only [Act.put, List.setIfInBounds_toArray, List.set_cons_zero, List.set_cons_succ, i64_w, i32_w]
                                      rfl
                                    refine done_ (done_of HT_.out (by kernel_rfl)) ?_
                                    try go_wp2_with (first | ((with_reducible refine gate_callee (f := 11) rfl ?_); refine goesL_ (some 81) rfl rfl Tryd.func11 (by kernel_rfl) rfl #[.string (t312.extract 0 ((ji18) : Int).toNat)] rfl (by (try simp only [List.map_toArray, List.map_cons, List.map_nil]); first | done | (simp only [hji18]; rfl) | rfl | (simp only [List.length_drop, List.length_take]; rfl)) ?_; (with_reducible refine (manifest_Parse.calls kj12 (t312.extract 0 ((ji18) : Int).toNat) t322 t323 t324 _ ?side1 A33.out).mono ?_); (case side1 => exact Glob.below hGA.out (by repeat (first | (with_reducible first | exact HB.out | apply below_alloc | apply pw_below_drewN | apply below_drew1) | exact HB.out))); rintro e w39 ⟨v325, rfl, ho0, hb⟩; refine ⟨_, rfl, ?_⟩; have n0_ := Aside0.mk (Kd.R_below (by (with_reducible repeat (first | apply Kd.R_alloc | apply Kd.R_drewN | apply Kd.R_drew)); exact HO316.out) hb); have n1_ := Aside0.mk (Kd.R_elder' (by (with_reducible repeat (first | apply Kd.R_alloc | apply Kd.R_drewN | apply Kd.R_drew)); exact HO321.out) (Kd.R_base ho0) hb); have n2_ := Aside0.mk (Kd.R_lower (Kd.R_new' ho0 (Kd.R_lt (by (with_reducible repeat (first | apply Kd.R_alloc | apply Kd.R_drewN | apply Kd.R_drew)); exact HO321.out))) (below_size (by repeat (first | (with_reducible first | exact HB.out | apply below_alloc | apply pw_below_drewN | apply below_drew1) | exact HB.out)))); have n3_ := Aside0.mk (below_step (by repeat (first | (with_reducible first | exact HB.out | apply below_alloc | apply pw_below_drewN | apply below_drew1) | exact HB.out)) hb); clear HO316; clear HO321; clear HB; have HO316 := n0_; have HO321 := n1_; have HO326 := n2_; have HB := n3_; clear n0_ n1_ n2_ n3_; (try clear hb); (try clear hb2); (try clear hk); (try clear hi); (try clear ho0)))
                                    go_ret
                                    exact ⟨by first | rfl | (simp [errW_none, errW_some] <;> rfl) | (simp only [← hji18, ← hji26]; first | rfl | (simp [errW_none, errW_some] <;> rfl)) | (simp [*, errW_none, errW_some] <;> rfl), by repeat (first | (with_reducible first | exact HB.out | apply below_alloc | apply pw_below_drewN | apply below_drew1) | exact HB.out)⟩
                                  · rw [if_neg c34] at H
                                    have c34b0 : (t319 == 30) = false := beq_eq_false_iff_ne.mpr c34
                                    have c34b1 : (t319 != 30) = true := bne_iff_ne.mpr c34
                                    obtain rfl := Option.some.inj H
                                    have p21 : 0 ≤ ((ji18) : Int) := of_decide_eq_true (by first | (with_reducible assumption) | assumption)
                                    have q21 : (ji18) < (t312.size : Int) := of_decide_eq_true (by first | (with_reducible assumption) | assumption)
                                    have hx21 := bt_at t312 (ji18)
                                    replace p21 := eq_true p21
                                    replace q21 := eq_true q21
                                    try go_wp2_with (first | ((with_reducible refine gate_builtin (b := .append) (xs := #[.tmp 53, .tmp 59]) rfl ?_); at_builtin; refine Kd.R_append (Kd.int .u8) (w0 := w) w.heap.size rfl (.tmp 53) (.tmp 59) 34 5 (.int .u8 0) 1 rfl Tryd.underlying34 info5 rfl (by decide) (by omega) (.slice none 0 0) ([] : List Int) (Go.bits .xor .u8 (bt t312 (ji18)) a3) [.int .u8 (Go.bits .xor .u8 (bt t312 (ji18)) a3)] (fun _ => True) (fun _ => False) rfl rfl ?aP (fun _ hk => hk.elim) ?aF ?aO ?aB ?aS ?aL ?_; (case aP => exact rfl); (case aB => exact (by repeat (first | (with_reducible first | exact HB.out | apply below_alloc | apply pw_below_drewN | apply below_drew1) | exact HB.out))); (case aF => exact (fun _ _ => trivial)); (case aO => exact ((Kd.R_nil _ _ _ _ (fun _ => True)))); (case aS => exact (below_size (by repeat (first | (with_reducible first | exact HB.out | apply below_alloc | apply pw_below_drewN | apply below_drew1) | exact HB.out)))); (case aL => have := LMc22.out; omega); intro v315 w40 ho hb hg hat; rw [← Ny314.out] at ho; have n0_ := Aside0.mk (hb); have n1_ := Aside0.mk (ho); clear HB; have HB := n0_; have HO316 := n1_; clear n0_ n1_; clear ho hb hg hat))
                                    have n0_ := Aside0.mk (Kd.R_drew HO316.out)
                                    have n1_ := Aside0.mk (below_drew1 HB.out)
                                    clear HO316
                                    clear HB
                                    have HO316 := n0_
                                    have HB := n1_
                                    clear n0_ n1_
                                    refine start_ (n := 19) (S := fun w' => True) (ds := []) #[false, false, false, false, false, false, false, false, false, false, false, false, false, false, false, false, false, false, false] (by kernel_rfl) rfl rfl trivial (fun hHeld => ?_); refine with_tabW broadsheetlaw03_ManifestTorn.tab12 broadsheetlaw03_ManifestTorn.bits12 (fun HT_ HW_ => ?_)
                                    generalize w40.drew = w41 at HO316 HB hHeld ⊢
                                    refine pure_ (i := 0) (N := some 62) (v := ?_) (a' := ?_) #[true, false, false, false, false, false, false, false, false, false, false, false, false, false, false, false, false, false, false] rfl rfl (any_of HT_.out (by kernel_rfl)) (fun _ _ _ h => h) (Or.inl ⟨by rfl, ?_⟩) ?_ ?_
                                    rotate_left
                                    · intro w'
                                      go_simp
                                      first | with_reducible rfl | (rw [if_neg (by intro h_; simp only [ByteArray.size_append, ByteArray.size_extract, eq_iff_iff, iff_true, iff_false, decide_eq_true_eq] at *; omega)])
                                    rotate_left
                                    · simp only [Act.put, List.setIfInBounds_toArray, List.set_cons_zero, List.set_cons_succ, i64_w, i32_w]
                                      rfl
                                    refine pure_ (i := 1) (N := some 63) (v := ?_) (a' := ?_) #[true, true, false, false, false, false, false, false, false, false, false, false, false, false, false, false, false, false, false] rfl rfl (any_of HT_.out (by kernel_rfl)) (fun _ _ _ h => h) (Or.inl ⟨by rfl, ?_⟩) ?_ ?_
                                    rotate_left
                                    · intro w'
                                      go_simp
                                      first | with_reducible rfl | (rw [if_neg (by intro h_; simp only [ByteArray.size_append, ByteArray.size_extract, eq_iff_iff, iff_true, iff_false, decide_eq_true_eq] at *; omega)])
                                    rotate_left
                                    · simp only [Act.put, List.setIfInBounds_toArray, List.set_cons_zero, List.set_cons_succ, i64_w, i32_w]
                                      rfl
                                    refine pure_ (i := 2) (N := some 64) (v := ?_) (a' := ?_) #[true, true, true, false, false, false, false, false, false, false, false, false, false, false, false, false, false, false, false] rfl rfl (any_of HT_.out (by kernel_rfl)) (fun _ _ _ h => h) (Or.inl ⟨by rfl, ?_⟩) ?_ ?_
                                    rotate_left
                                    · intro w'
                                      go_simp
                                      first | with_reducible rfl | (rw [if_neg (by intro h_; simp only [ByteArray.size_append, ByteArray.size_extract, eq_iff_iff, iff_true, iff_false, decide_eq_true_eq] at *; omega)])
                                    rotate_left
                                    · simp only [Act.put, List.setIfInBounds_toArray, List.set_cons_zero, List.set_cons_succ, i64_w, i32_w]
                                      rfl
                                    refine pure_ (i := 3) (N := some 65) (v := ?_) (a' := ?_) #[true, true, true, true, false, false, false, false, false, false, false, false, false, false, false, false, false, false, false] rfl rfl (any_of HT_.out (by kernel_rfl)) (fun _ _ _ h => h) (Or.inl ⟨by rfl, ?_⟩) ?_ ?_
                                    rotate_left
                                    · intro w'
                                      go_simp
                                      first | with_reducible rfl | (rw [if_neg (by intro h_; simp only [ByteArray.size_append, ByteArray.size_extract, eq_iff_iff, iff_true, iff_false, decide_eq_true_eq] at *; omega)])
                                    rotate_left
                                    · simp only [Act.put, List.setIfInBounds_toArray, List.set_cons_zero, List.set_cons_succ, i64_w, i32_w]
                                      rfl
                                    refine pure_ (i := 6) (N := some 68) (v := ?_) (a' := ?_) #[true, true, true, true, false, false, true, false, false, false, false, false, false, false, false, false, false, false, false] rfl rfl (any_of HT_.out (by kernel_rfl)) (fun _ _ _ h => h) (Or.inl ⟨by rfl, ?_⟩) ?_ ?_
                                    rotate_left
                                    · intro w'
                                      go_simp
                                      first | with_reducible rfl | (rw [if_neg (by intro h_; simp only [ByteArray.size_append, ByteArray.size_extract, eq_iff_iff, iff_true, iff_false, decide_eq_true_eq] at *; omega)])
                                    rotate_left
                                    · simp only [Act.put, List.setIfInBounds_toArray, List.set_cons_zero, List.set_cons_succ, i64_w, i32_w]
                                      rfl
                                    refine pure_ (i := 7) (N := some 69) (v := ?_) (a' := ?_) #[true, true, true, true, false, false, true, true, false, false, false, false, false, false, false, false, false, false, false] rfl rfl (any_of HT_.out (by kernel_rfl)) (fun _ _ _ h => h) (Or.inl ⟨by rfl, ?_⟩) ?_ ?_
                                    rotate_left
                                    · intro w'
                                      go_simp
                                      first | with_reducible rfl | (rw [if_neg (by intro h_; simp only [ByteArray.size_append, ByteArray.size_extract, eq_iff_iff, iff_true, iff_false, decide_eq_true_eq] at *; omega)])
                                    rotate_left
                                    · simp only [Act.put, List.setIfInBounds_toArray, List.set_cons_zero, List.set_cons_succ, i64_w, i32_w]
                                      rfl
                                    refine pure_ (i := 8) (N := some 70) (v := ?_) (a' := ?_) #[true, true, true, true, false, false, true, true, true, false, false, false, false, false, false, false, false, false, false] rfl rfl (any_of HT_.out (by kernel_rfl)) (fun _ _ _ h => h) (Or.inl ⟨by rfl, ?_⟩) ?_ ?_
                                    rotate_left
                                    · intro w'
                                      go_simp
                                      first | with_reducible rfl | (rw [if_neg (by intro h_; simp only [ByteArray.size_append, ByteArray.size_extract, eq_iff_iff, iff_true, iff_false, decide_eq_true_eq] at *; omega)])
                                    rotate_left
                                    · simp only [Act.put, List.setIfInBounds_toArray, List.set_cons_zero, List.set_cons_succ, i64_w, i32_w]
                                      rfl
                                    refine pure_ (i := 9) (N := some 71) (v := ?_) (a' := ?_) #[true, true, true, true, false, false, true, true, true, true, false, false, false, false, false, false, false, false, false] rfl rfl (any_of HT_.out (by kernel_rfl)) (fun _ _ _ h => h) (Or.inl ⟨by rfl, ?_⟩) ?_ ?_
                                    rotate_left
                                    · intro w'
                                      go_simp
                                      first | with_reducible rfl | (rw [if_neg (by intro h_; simp only [ByteArray.size_append, ByteArray.size_extract, eq_iff_iff, iff_true, iff_false, decide_eq_true_eq] at *; omega)])
                                    rotate_left
                                    · simp only [Act.put, List.setIfInBounds_toArray, List.set_cons_zero, List.set_cons_succ, i64_w, i32_w]
                                      rfl
                                    refine one_ (i := 4) (N := some 66) #[true, true, true, true, true, false, true, true, true, true, false, false, false, false, false, false, false, false, false] rfl rfl (one_of HT_.out (by kernel_rfl)) (by decide) (fun K hK => ?_)
                                    have hcv42 := own_string (P := Tryd.prog) Tryd.underlying34 Tryd.underlying5 Tryd.underlying9 (Kd.own_of_R HO316.out)
                                    refine value_ (w1 := ?_) (v := ?_) (by rfl) rfl ?_ ?_
                                    rotate_left 2
                                    · go_simp
                                      constructor
                                      · rfl
                                      · rfl
                                    clear hcv42
                                    refine hK.out _ _ trivial (fun hHeld => ?_)
                                    clear hK K
                                    refine norm_ (a' := ?_) ?_ ?_
                                    rotate_left
                                    · show Act.put _ (some 66) _ = _
                                      simp only [Act.put, List.setIfInBounds_toArray, List.set_cons_zero, List.set_cons_succ, i64_w, i32_w]
                                      rfl
                                    refine pure_ (i := 5) (N := some 67) (v := ?_) (a' := ?_) #[true, true, true, true, true, true, true, true, true, true, false, false, false, false, false, false, false, false, false] rfl rfl (any_of HT_.out (by kernel_rfl)) (fun _ _ _ h => h) (Or.inl ⟨by rfl, ?_⟩) ?_ ?_
                                    rotate_left
                                    · intro w'
                                      go_simp
                                      first | with_reducible rfl | (rw [if_neg (by intro h_; simp only [ByteArray.size_append, ByteArray.size_extract, eq_iff_iff, iff_true, iff_false, decide_eq_true_eq] at *; omega)])
                                    rotate_left
                                    · simp only [Act.put, List.setIfInBounds_toArray, List.set_cons_zero, List.set_cons_succ, i64_w, i32_w]
                                      rfl
                                    refine pure_ (i := 10) (N := some 72) (v := ?_) (a' := ?_) #[true, true, true, true, true, true, true, true, true, true, true, false, false, false, false, false, false, false, false] rfl rfl (any_of HT_.out (by kernel_rfl)) (fun _ _ _ h => h) (Or.inl ⟨by rfl, ?_⟩) ?_ ?_
                                    rotate_left
                                    · intro w'
                                      go_simp
                                      first | with_reducible rfl | (rw [if_neg (by intro h_; simp only [ByteArray.size_append, ByteArray.size_extract, eq_iff_iff, iff_true, iff_false, decide_eq_true_eq] at *; omega)])
                                    rotate_left
                                    · simp only [Act.put, List.setIfInBounds_toArray, List.set_cons_zero, List.set_cons_succ, i64_w, i32_w]
                                      rfl
                                    refine one_ (i := 11) (N := some 73) #[true, true, true, true, true, true, true, true, true, true, true, true, false, false, false, false, false, false, false] rfl rfl (one_of HT_.out (by kernel_rfl)) (by decide) (fun K hK => ?_)
                                    refine goes_ Tryd.func11 (by kernel_rfl) rfl #[.string (((t312.extract 0 ((ji18) : Int).toNat) ++ (strOfNums y314)) ++ (t312.extract ((ji26) : Int).toNat t312.size))] (by rfl) rfl rfl (by (try simp only [List.map_toArray, List.map_cons, List.map_nil]); first | done | (simp only [hji18, hji26]; rfl) | rfl | (simp only [List.length_drop, List.length_take]; rfl)) ?_
                                    with_reducible refine (manifest_Parse.calls kj12 (((t312.extract 0 ((ji18) : Int).toNat) ++ (strOfNums y314)) ++ (t312.extract ((ji26) : Int).toNat t312.size)) t317 t318 t319 _ ?side1 A30.out).mono ?_
                                    (case side1 => exact Glob.below hGA.out (by repeat (first | (with_reducible first | exact HB.out | apply below_alloc | apply pw_below_drewN | apply below_drew1) | exact HB.out)))
                                    rintro e w43 ⟨v320, rfl, ho0, hb⟩
                                    refine ⟨_, rfl, ?_⟩
                                    have n0_ := Aside0.mk (Kd.R_below (by (with_reducible repeat (first | apply Kd.R_alloc | apply Kd.R_drewN | apply Kd.R_drew)); exact HO316.out) hb)
                                    have n1_ := Aside0.mk (Kd.R_lower ho0 (below_size (by repeat (first | (with_reducible first | exact HB.out | apply below_alloc | apply pw_below_drewN | apply below_drew1) | exact HB.out))))
                                    have n2_ := Aside0.mk (below_step (by repeat (first | (with_reducible first | exact HB.out | apply below_alloc | apply pw_below_drewN | apply below_drew1) | exact HB.out)) hb)
                                    clear HO316
                                    clear HB
                                    have HO316 := n0_
                                    have HO321 := n1_
                                    have HB := n2_
                                    clear n0_ n1_ n2_
                                    (try clear hb)
                                    (try clear hb2)
                                    (try clear hk)
                                    (try clear hi)
                                    (try clear ho0)
                                    refine hK.out _ _ trivial (fun hHeld => ?_)
                                    clear hK K
                                    refine norm_ (a' := ?_) ?_ ?_
                                    rotate_left
                                    · show Act.put _ (some 73) _ = _
                                      simp only [Act.put, List.setIfInBounds_toArray, List.set_cons_zero, List.set_cons_succ, i64_w, i32_w]
                                      rfl
                                    refine pure_ (i := 12) (N := some 61) (v := ?_) (a' := ?_) #[true, true, true, true, true, true, true, true, true, true, true, true, true, false, false, false, false, false, false] rfl rfl (any_of HT_.out (by kernel_rfl)) (fun _ _ _ h => h) (Or.inl ⟨by rfl, ?_⟩) ?_ ?_
                                    rotate_left
                                    · intro w'
                                      go_simp
                                      first | with_reducible rfl | (rw [if_neg (by intro h_; simp only [ByteArray.size_append, ByteArray.size_extract, eq_iff_iff, iff_true, iff_false, decide_eq_true_eq] at *; omega)])
                                    rotate_left
                                    · simp only [Act.put, List.setIfInBounds_toArray, List.set_cons_zero, List.set_cons_succ, i64_w, i32_w]
                                      rfl
                                    refine pure_ (i := 13) (N := some 74) (v := ?_) (a' := ?_) #[true, true, true, true, true, true, true, true, true, true, true, true, true, true, false, false, false, false, false] rfl rfl (any_of HT_.out (by kernel_rfl)) (fun _ _ _ h => h) (Or.inl ⟨by rfl, ?_⟩) ?_ ?_
                                    rotate_left
                                    · intro w'
                                      go_simp
                                      first | with_reducible rfl | (rw [if_neg (by intro h_; simp only [ByteArray.size_append, ByteArray.size_extract, eq_iff_iff, iff_true, iff_false, decide_eq_true_eq] at *; omega)])
                                    rotate_left
                                    · simp only [Act.put, List.setIfInBounds_toArray, List.set_cons_zero, List.set_cons_succ, i64_w, i32_w]
                                      rfl
                                    refine pure_ (i := 14) (N := some 75) (v := ?_) (a' := ?_) #[true, true, true, true, true, true, true, true, true, true, true, true, true, true, true, false, false, false, false] rfl rfl (any_of HT_.out (by kernel_rfl)) (fun _ _ _ h => h) (Or.inl ⟨by rfl, ?_⟩) ?_ ?_
                                    rotate_left
                                    · intro w'
                                      go_simp
                                      first | with_reducible rfl | (rw [if_neg (by intro h_; simp only [ByteArray.size_append, ByteArray.size_extract, eq_iff_iff, iff_true, iff_false, decide_eq_true_eq] at *; omega)])
                                    rotate_left
                                    · simp only [Act.put, List.setIfInBounds_toArray, List.set_cons_zero, List.set_cons_succ, i64_w, i32_w]
                                      rfl
                                    refine pure_ (i := 15) (N := some 76) (v := ?_) (a' := ?_) #[true, true, true, true, true, true, true, true, true, true, true, true, true, true, true, true, false, false, false] rfl rfl (any_of HT_.out (by kernel_rfl)) (fun _ _ _ h => h) (Or.inl ⟨by rfl, ?_⟩) ?_ ?_
                                    rotate_left
                                    · intro w'
                                      go_simp
                                      first | with_reducible rfl | (rw [if_neg (by intro h_; simp only [ByteArray.size_append, ByteArray.size_extract, eq_iff_iff, iff_true, iff_false, decide_eq_true_eq] at *; omega)])
                                    rotate_left
                                    · simp only [Act.put, List.setIfInBounds_toArray, List.set_cons_zero, List.set_cons_succ, i64_w, i32_w]
                                      rfl
                                    refine pure_ (i := 16) (N := some 14) (v := ?_) (a' := ?_) #[true, true, true, true, true, true, true, true, true, true, true, true, true, true, true, true, true, false, false] rfl rfl (any_of HT_.out (by kernel_rfl)) (fun _ _ _ h => h) (Or.inl ⟨by rfl, ?_⟩) ?_ ?_
                                    rotate_left
                                    · intro w'
                                      go_simp
                                      first | with_reducible rfl | (rw [if_neg (by intro h_; simp only [ByteArray.size_append, ByteArray.size_extract, eq_iff_iff, iff_true, iff_false, decide_eq_true_eq] at *; omega)])
                                    rotate_left
                                    · simp only [Act.put, List.setIfInBounds_toArray, List.set_cons_zero, List.set_cons_succ, i64_w, i32_w]
                                      rfl
                                    refine pure_ (i := 17) (N := some 15) (v := ?_) (a' := ?_) #[true, true, true, true, true, true, true, true, true, true, true, true, true, true, true, true, true, true, false] rfl rfl (any_of HT_.out (by kernel_rfl)) (fun _ _ _ h => h) (Or.inl ⟨by rfl, ?_⟩) ?_ ?_
                                    rotate_left
                                    · intro w'
                                      go_simp
                                      first | with_reducible rfl | (rw [if_neg (by intro h_; simp only [ByteArray.size_append, ByteArray.size_extract, eq_iff_iff, iff_true, iff_false, decide_eq_true_eq] at *; omega)])
                                    rotate_left
                                    · simp only [Act.put, List.setIfInBounds_toArray, List.set_cons_zero, List.set_cons_succ, i64_w, i32_w]
                                      rfl
                                    refine pure_ (i := 18) (N := some 16) (v := ?_) (a' := ?_) #[true, true, true, true, true, true, true, true, true, true, true, true, true, true, true, true, true, true, true] rfl rfl (any_of HT_.out (by kernel_rfl)) (fun _ _ _ h => h) (Or.inl ⟨by rfl, ?_⟩) ?_ ?_
                                    rotate_left
                                    · intro w'
                                      go_simp
                                      first | with_reducible rfl | (rw [if_neg (by intro h_; simp only [ByteArray.size_append, ByteArray.size_extract, eq_iff_iff, iff_true, iff_false, decide_eq_true_eq] at *; omega)])
                                    rotate_left
                                    · simp only [Act.put, List.setIfInBounds_toArray, List.set_cons_zero, List.set_cons_succ, i64_w, i32_w]
                                      rfl
                                    refine done_ (done_of HT_.out (by kernel_rfl)) ?_
                                    try go_wp2_with (first | ((with_reducible refine gate_callee (f := 11) rfl ?_); refine goesL_ (some 81) rfl rfl Tryd.func11 (by kernel_rfl) rfl #[.string (t312.extract 0 ((ji18) : Int).toNat)] rfl (by (try simp only [List.map_toArray, List.map_cons, List.map_nil]); first | done | (simp only [hji18]; rfl) | rfl | (simp only [List.length_drop, List.length_take]; rfl)) ?_; (with_reducible refine (manifest_Parse.calls kj12 (t312.extract 0 ((ji18) : Int).toNat) t322 t323 t324 _ ?side1 A33.out).mono ?_); (case side1 => exact Glob.below hGA.out (by repeat (first | (with_reducible first | exact HB.out | apply below_alloc | apply pw_below_drewN | apply below_drew1) | exact HB.out))); rintro e w44 ⟨v325, rfl, ho0, hb⟩; refine ⟨_, rfl, ?_⟩; have n0_ := Aside0.mk (Kd.R_below (by (with_reducible repeat (first | apply Kd.R_alloc | apply Kd.R_drewN | apply Kd.R_drew)); exact HO316.out) hb); have n1_ := Aside0.mk (Kd.R_elder' (by (with_reducible repeat (first | apply Kd.R_alloc | apply Kd.R_drewN | apply Kd.R_drew)); exact HO321.out) (Kd.R_base ho0) hb); have n2_ := Aside0.mk (Kd.R_lower (Kd.R_new' ho0 (Kd.R_lt (by (with_reducible repeat (first | apply Kd.R_alloc | apply Kd.R_drewN | apply Kd.R_drew)); exact HO321.out))) (below_size (by repeat (first | (with_reducible first | exact HB.out | apply below_alloc | apply pw_below_drewN | apply below_drew1) | exact HB.out)))); have n3_ := Aside0.mk (below_step (by repeat (first | (with_reducible first | exact HB.out | apply below_alloc | apply pw_below_drewN | apply below_drew1) | exact HB.out)) hb); clear HO316; clear HO321; clear HB; have HO316 := n0_; have HO321 := n1_; have HO326 := n2_; have HB := n3_; clear n0_ n1_ n2_ n3_; (try clear hb); (try clear hb2); (try clear hk); (try clear hi); (try clear ho0)))
                                    go_ret
                                    exact ⟨by first | rfl | (simp [errW_none, errW_some] <;> rfl) | (simp only [← hji18, ← hji26]; first | rfl | (simp [errW_none, errW_some] <;> rfl)) | (simp [*, errW_none, errW_some] <;> rfl), by repeat (first | (with_reducible first | exact HB.out | apply below_alloc | apply pw_below_drewN | apply below_drew1) | exact HB.out)⟩
                                · rw [if_neg c29] at H
                                  exact absurd H (by simp)
                              · rw [if_neg c28] at H
                                exact absurd H (by simp)
                            · rw [if_neg c27] at H
                              exact absurd H (by simp)
                          · rw [if_neg c25] at H
                            exact absurd H (by simp)
                        · rw [if_neg c24] at H
                          exact absurd H (by simp)
                      · rw [if_neg c22] at H
                        exact absurd H (by simp)
                    · rw [if_neg c20] at H
                      exact absurd H (by simp)
                  · rw [if_neg c19] at H
                    exact absurd H (by simp)
  · replace c6 := Bool.eq_false_iff.mpr c6
    subst c6
    have H1 : (some false) = some r := by rw [if_neg (show ¬ (false = true) by decide)] at H; exact H
    clear H
    have H := H1
    clear H1
    obtain rfl := Option.some.inj H
    go_enter Tryd.func6, Tryd.ntmps6
    go_wp2_with (first | ((with_reducible refine gate_callee (f := 8) rfl ?_); refine goesL_ (some 20) rfl rfl Tryd.func8 (by kernel_rfl) rfl #[] rfl (by (try simp only [List.map_toArray, List.map_cons, List.map_nil]); first | done | rfl | (simp only [List.length_drop, List.length_take]; rfl)) ?_; (with_reducible refine (broadsheetlaw03_awake.calls k  false _ ?side1 A5.out).mono ?_); (case side1 => exact Glob.below hGA.out (by repeat (first | (with_reducible first | exact HB.out | apply below_alloc | apply pw_below_drewN | apply below_drew1) | exact HB.out))); rintro e w45 ⟨rfl, hb⟩; refine ⟨_, rfl, ?_⟩; have n0_ := Aside0.mk (below_step (by repeat (first | (with_reducible first | exact HB.out | apply below_alloc | apply pw_below_drewN | apply below_drew1) | exact HB.out)) hb); clear HB; have HB := n0_; clear n0_; (try clear hb); (try clear hb2); (try clear hk); (try clear hi)))
    go_ret
    exact ⟨by first | rfl | (simp [errW_none, errW_some] <;> rfl) | (simp [*, errW_none, errW_some] <;> rfl), by repeat (first | (with_reducible first | exact HB.out | apply below_alloc | apply pw_below_drewN | apply below_drew1) | exact HB.out)⟩

end Go.Proofs.YtmgabnodachboaaDoor.P

/- ManFd -/
namespace Go.Proofs.YtmgabnodachboaaDoor.Mn
open Go.RowKit Go.Proofs.YtmgabnodachboaaDoor.P Go.Proofs.YtmgabnodachboaaDoorW.PrintWords Go.Proofs.YtmgabnodachboaaDoorW.PrintLast Go.Proofs.YtmgabnodachboaaDoor.O Go.Proofs.YtmgabnodachboaaDoor.Ad
set_option linter.unusedVariables false
set_option linter.unusedSimpArgs false

theorem pr_zero_ {n : Int} {l : List S37} (h : (pr n l).2 = 0) : pr n l = ((pr n l).1, 0) := Prod.ext rfl h
/-! ### Torn texts -/
theorem cut_two (c : UInt8) (R : L) : ∀ A : L, cut c (A ++ c :: R) = cut c A ++ cut c R
  | [] => by simp [cut]
  | x :: A => by
    have ih := cut_two c R A
    by_cases h : x = c
    · subst h
      rw [List.cons_append, cut_eq, cut_eq, ih]
      rfl
    · obtain ⟨y, z, e1, e2⟩ := cut_other c x A h
      obtain ⟨y', z', e3, e4⟩ := cut_other c x (A ++ c :: R) h
      rw [List.cons_append, e4, e2]
      rw [ih, e1] at e3
      obtain ⟨rfl, rfl⟩ := List.cons.inj e3
      rfl
theorem cut_single {c : UInt8} {R : L} (h : cut c R = [[]]) : R = [] := by
  cases R with
  | nil => rfl
  | cons x r =>
    by_cases hx : x = c
    · subst hx
      rw [cut_eq] at h
      exact absurd (List.cons.inj h).2 (cut_ne _ _)
    · obtain ⟨y, z, e1, e2⟩ := cut_other c x r hx
      rw [e2] at h
      exact absurd (List.cons.inj h).1 (by simp)
theorem torn_pre {n n' : Int} {l l' : List S37} (h : rowsOk (mk []) l = true) (h' : rowsOk (mk []) l' = true) {R : L} (hR : R ≠ []) (e : fin (body n l) = fin (body n' l') ++ R) : False := by
  obtain ⟨x, ex, _⟩ := full_cut n l h
  obtain ⟨x', ex', hx'⟩ := full_cut n' l' h'
  have hf : fin (body n' l') = (body n' l' ++ (sumW ++ 32 :: dec (adl (body n' l')))) ++ 10 :: [] := by simp [fin]
  have hf2 : fin (body n' l') ++ R = (body n' l' ++ (sumW ++ 32 :: dec (adl (body n' l')))) ++ 10 :: R := by rw [hf]; simp
  rw [hf, cut_two] at ex'
  rw [e, hf2, cut_two] at ex
  generalize cut 10 (body n' l' ++ (sumW ++ 32 :: dec (adl (body n' l')))) = A at *
  have eA : A = (gen ++ 32 :: dec n') :: (l'.map rowL ++ [x']) := by
    have e1 : A ++ [[]] = ((gen ++ 32 :: dec n') :: (l'.map rowL ++ [x'])) ++ [[]] := by
      rw [show A ++ [[]] = A ++ cut 10 [] from rfl, ex']
      simp
    exact List.append_cancel_right e1
  have hC : cut 10 R ≠ [[]] := fun e => hR (cut_single e)
  have hC0 := cut_ne 10 R
  generalize cut 10 R = C at *
  rw [eA, List.cons_append] at ex
  have e2 := (List.cons.inj ex).2
  have hlen := congrArg List.length e2
  simp only [List.length_append, List.length_map, List.length_cons, List.length_nil] at hlen
  have hC2 : 2 ≤ C.length := by
    cases C with
    | nil => exact absurd rfl hC0
    | cons c0 C =>
      cases C with
      | nil =>
        exfalso
        have hl := congrArg List.getLast? e2
        simp only [List.getLast?_append, List.getLast?_singleton] at hl
        simp at hl
        exact hC (by rw [hl])
      | cons c1 C => simp
  have hlt : l'.length < l.length := by omega
  have hg := congrArg (fun z => z[l'.length]?) e2
  simp only [List.append_assoc] at hg
  rw [List.getElem?_append_right (by simp)] at hg
  simp only [List.length_map, Nat.sub_self, List.cons_append, List.nil_append, List.getElem?_cons_zero] at hg
  rw [List.getElem?_append_left (by simp; exact hlt), List.getElem?_map, List.getElem?_eq_getElem hlt] at hg
  have hg' : x' = rowL l[l'.length] := Option.some.inj hg
  have hrow : ∀ (l : List S37) (last : ByteArray), rowsOk last l = true → ∀ r ∈ l, ∃ last', rowOk last' r = true := by
    intro l
    induction l with
    | nil => intro _ _ r hr; exact absurd hr (by simp)
    | cons a l ih =>
      intro last hl r hr
      have hl' : (rowOk last a && rowsOk a.f0 l) = true := hl
      rw [Bool.and_eq_true] at hl'
      rcases List.mem_cons.1 hr with rfl | hr
      · exact ⟨_, hl'.1⟩
      · exact ih _ hl'.2 r hr
  obtain ⟨last', hok⟩ := hrow l _ h _ (List.getElem_mem hlt)
  have hc := (row_cut hok).2
  rw [← hg', hx', cut_app _ _ _ (by decide), cut_none _ _ (dec_not _).2] at hc
  simp at hc
theorem dec_inj {a b : Int} (ha : 0 ≤ a) (ha' : a < 9223372036854775808) (hb : 0 ≤ b) (hb' : b < 9223372036854775808) (h : dec a = dec b) : a = b := by
  have h1 := atoi_dec a.toNat (by omega)
  have h2 := atoi_dec b.toNat (by omega)
  unfold dec at h
  rw [h, h2] at h1
  have := (Prod.mk.inj h1).1
  omega
theorem bt_list (s : L) (i : Nat) (b : UInt8) (h : s[i]? = some b) : bt (mk s) i = b.toNat := by
  obtain ⟨hl, e⟩ := List.getElem?_eq_some_iff.1 h
  have := bt_getD (mk s) i (by rw [mk_size]; exact hl)
  rw [← this, mk_data, List.getD_eq_getElem?_getD, h]
  rfl
theorem bt_out (s : L) (i : Nat) (h : s.length ≤ i) : bt (mk s) i = 0 := by
  unfold bt
  rw [dif_neg (by rw [mk_size]; omega)]
theorem adl_one (s t : L) (k : Nat) (hlen : s.length = t.length) (hk : k < s.length) (hne : s[k]? ≠ t[k]?) (heq : ∀ i, i ≠ k → s[i]? = t[i]?) : adl s ≠ adl t := by
  intro h
  obtain ⟨c, hc⟩ : ∃ c, s[k]? = some c := ⟨_, List.getElem?_eq_getElem hk⟩
  obtain ⟨d, hd⟩ : ∃ d, t[k]? = some d := ⟨_, List.getElem?_eq_getElem (by omega)⟩
  have key := adS_one (mk s) (mk t) k c.toNat d.toNat (bt_list s k c hc) (bt_list t k d hd) (fun i hi => by
    have e := heq i hi
    by_cases hi2 : i < s.length
    · have e1 := List.getElem?_eq_getElem hi2
      rw [bt_list s i _ e1, bt_list t i _ (e ▸ e1)]
    · rw [bt_out s i (by omega), bt_out t i (by omega)]) (s.length - (k + 1))
  rw [show k + 1 + (s.length - (k + 1)) = s.length from by omega] at key
  unfold adl at h
  rw [mk_size, mk_size, ← hlen] at h
  obtain ⟨p1, p2, p3, p4⟩ := adS_bd (mk s) s.length
  obtain ⟨q1, q2, q3, q4⟩ := adS_bd (mk t) s.length
  have hcd : c ≠ d := fun e => hne (by rw [hc, hd, e])
  have hcd' : c.toNat ≠ d.toNat := fun e => hcd (UInt8.toNat_inj.1 e)
  have hc' := c.toNat_lt
  have hd' := d.toNat_lt
  generalize adS (mk s) s.length = S at *
  generalize adS (mk t) s.length = T at *
  omega
theorem fin_at (B : L) (j : Nat) : (fin B)[B.length + j]? = (sumW ++ 32 :: dec (adl B) ++ [10])[j]? := by
  unfold fin
  rw [List.getElem?_append_right (by omega)]
  congr 1
  omega
theorem fin_len (B : L) : (fin B).length = B.length + 5 + (dec (adl B)).length := by
  unfold fin
  simp only [List.length_append, List.length_cons, List.length_nil]
  have : sumW.length = 3 := rfl
  omega
theorem dig_at (x : Int) (j : Nat) (h : j < (dec x).length) (y : L) : ∃ c, (dec x ++ y)[j]? = some c ∧ 48 ≤ c.toNat := by
  rw [List.getElem?_append_left h, List.getElem?_eq_getElem h]
  exact ⟨_, rfl, (dec_mem _ _ (List.getElem_mem h)).1⟩
theorem torn_short (B B' : L) (hlen : (fin B).length = (fin B').length) (hlt : (dec (adl B')).length < (dec (adl B)).length) (k : Nat) (heq : ∀ i, i ≠ k → (fin B)[i]? = (fin B')[i]?) : False := by
  have l1 := fin_len B
  have l2 := fin_len B'
  generalize hD : dec (adl B) = D at *
  generalize hD' : dec (adl B') = D' at *
  have a3 : (fin B')[B'.length + 3]? = some 32 := by
    rw [fin_at, hD']
    rfl
  have a2 : (fin B')[B'.length + 2]? = some 109 := by
    rw [fin_at, hD']
    rfl
  have dg : ∀ j, j < D.length → ∃ c, (fin B)[B.length + (4 + j)]? = some c ∧ 48 ≤ c.toNat ∧ c.toNat ≤ 57 := by
    intro j hj
    rw [fin_at, hD]
    have e : sumW ++ 32 :: D ++ [10] = [115, 117, 109, 32] ++ (D ++ [10]) := by simp [sumW]
    rw [e, List.getElem?_append_right (by simp)]
    rw [show 4 + j - [115, 117, 109, (32 : UInt8)].length = j by simp]
    rw [List.getElem?_append_left hj, List.getElem?_eq_getElem hj]
    refine ⟨_, rfl, ?_⟩
    subst hD
    exact dec_mem _ _ (List.getElem_mem hj)
  have sp : (fin B)[B.length + 3]? = some 32 := by
    rw [fin_at, hD]
    rfl
  obtain ⟨m, hm⟩ : ∃ m, D.length = D'.length + 1 + m := ⟨D.length - D'.length - 1, by omega⟩
  have hB : B'.length = B.length + 1 + m := by omega
  have ne3 : (fin B)[B'.length + 3]? ≠ (fin B')[B'.length + 3]? := by
    rw [a3]
    obtain ⟨c, hc, hc1, hc2⟩ := dg m (by omega)
    rw [show B.length + (4 + m) = B'.length + 3 by omega] at hc
    rw [hc]
    intro e
    have : c = 32 := Option.some.inj e
    subst this
    revert hc1
    decide
  have ne2 : (fin B)[B'.length + 2]? ≠ (fin B')[B'.length + 2]? := by
    rw [a2]
    rcases Nat.eq_zero_or_pos m with rfl | hm0
    · rw [show B'.length + 2 = B.length + 3 by omega, sp]
      decide
    · obtain ⟨c, hc, hc1, hc2⟩ := dg (m - 1) (by omega)
      rw [show B.length + (4 + (m - 1)) = B'.length + 2 by omega] at hc
      rw [hc]
      intro e
      have : c = 109 := Option.some.inj e
      subst this
      revert hc2
      decide
  have k3 : k = B'.length + 3 := Classical.byContradiction fun h => ne3 (heq _ (fun e => h e.symm))
  have k2 : k = B'.length + 2 := Classical.byContradiction fun h => ne2 (heq _ (fun e => h e.symm))
  omega
theorem torn_one (B B' : L) (hlen : (fin B).length = (fin B').length) (k : Nat) (hk : k < (fin B).length) (hne : (fin B)[k]? ≠ (fin B')[k]?) (heq : ∀ i, i ≠ k → (fin B)[i]? = (fin B')[i]?) : False := by
  rcases Nat.lt_trichotomy (dec (adl B)).length (dec (adl B')).length with h | h | h
  · exact torn_short B' B hlen.symm h k (fun i hi => (heq i hi).symm)
  · have l1 := fin_len B
    have l2 := fin_len B'
    have hB : B.length = B'.length := by omega
    have hlow : ∀ i, i < B.length → (fin B)[i]? = B[i]? ∧ (fin B')[i]? = B'[i]? := by
      intro i hi
      unfold fin
      exact ⟨List.getElem?_append_left hi, List.getElem?_append_left (by omega)⟩
    by_cases hkB : k < B.length
    · have heq2 : ∀ i, i ≠ k → B[i]? = B'[i]? := by
        intro i hi
        by_cases h2 : i < B.length
        · rw [← (hlow i h2).1, ← (hlow i h2).2]; exact heq i hi
        · rw [List.getElem?_eq_none (by omega), List.getElem?_eq_none (by omega)]
      have hne2 : B[k]? ≠ B'[k]? := by
        rw [← (hlow k hkB).1, ← (hlow k hkB).2]; exact hne
      have hT : sumW ++ 32 :: dec (adl B) ++ [10] = sumW ++ 32 :: dec (adl B') ++ [10] := by
        apply List.ext_getElem?
        intro j
        rw [← fin_at, ← fin_at, ← hB]
        exact heq _ (by omega)
      have hdec : dec (adl B) = dec (adl B') := by
        simpa [sumW] using hT
      have b1 := adl_bd B
      have b2 := adl_bd B'
      exact adl_one B B' k hB hkB hne2 heq2 (dec_inj b1.1 b1.2 b2.1 b2.2 hdec)
    · have : B = B' := by
        apply List.ext_getElem?
        intro i
        by_cases h2 : i < B.length
        · rw [← (hlow i h2).1, ← (hlow i h2).2]; exact heq i (by omega)
        · rw [List.getElem?_eq_none (by omega), List.getElem?_eq_none (by omega)]
      subst this
      exact hne rfl
  · exact torn_short B B' hlen h k heq
theorem low20 (x : Int) : 0 ≤ Go.bits .and .i64 x 1048575 ∧ Go.bits .and .i64 x 1048575 < 1048576 := by
  unfold Go.bits
  simp only
  have h1 : (BitVec.ofInt IntKind.i64.bits x &&& BitVec.ofInt IntKind.i64.bits 1048575).toNat ≤ 1048575 := by
    rw [BitVec.toNat_and]
    exact Nat.and_le_right
  rw [IntKind.wrap_i64]
  omega
theorem xor_ne (c d : Int) (hc : 0 ≤ c) (hc' : c ≤ 255) (hd : 0 < d) (hd' : d ≤ 255) : Go.bits .xor .u8 c d ≠ c ∧ 0 ≤ Go.bits .xor .u8 c d ∧ Go.bits .xor .u8 c d ≤ 255 := by
  obtain ⟨a, rfl⟩ := Int.eq_ofNat_of_zero_le hc
  obtain ⟨b, rfl⟩ := Int.eq_ofNat_of_zero_le (Int.le_of_lt hd)
  have hb : (b : Nat) ≠ 0 := by omega
  have ha : a < 256 := by omega
  have hb2 : b < 256 := by omega
  have e : Go.bits .xor .u8 (a : Int) (b : Int) = ((a ^^^ b : Nat) : Int) := by
    have hx : a ^^^ b < 2 ^ 8 := Nat.xor_lt_two_pow (by omega) (by omega)
    unfold Go.bits
    simp only [BitVec.ofInt_natCast, BitVec.toNat_xor, BitVec.toNat_ofNat]
    rw [show a % 2 ^ IntKind.u8.bits = a from Nat.mod_eq_of_lt ha, show b % 2 ^ IntKind.u8.bits = b from Nat.mod_eq_of_lt hb2, IntKind.wrap_u8]
    omega
  rw [e]
  have hx : a ^^^ b < 2 ^ 8 := Nat.xor_lt_two_pow (by omega) (by omega)
  refine ⟨fun h => hb ?_, by omega, by omega⟩
  have h' : a ^^^ b = a := by omega
  have := congrArg (fun z => a ^^^ z) h'
  simpa [← Nat.xor_assoc] using this
theorem one_byte (c : Int) (h0 : 0 ≤ c) (h1 : c ≤ 255) : strOfNums [c] = mk [UInt8.ofNat c.toNat] := by
  obtain ⟨a, rfl⟩ := Int.eq_ofNat_of_zero_le h0
  have key : ∀ a : Fin 256, strOfNums [(a.val : Int)] = mk [UInt8.ofNat a.val] := by decide +kernel
  exact key ⟨a, by omega⟩
theorem torn_j1 (n : Int) (l : List S37) (a2 a3 : Int) (hl : l.length ≤ 100) (hp : pr n l = (mk (fin (body n l)), 0)) (h0 : 0 < a3) (h1 : a3 ≤ 255) (k : Nat) (hk : 2000000 ≤ k) :
    broadsheetlaw03_ManifestTorn.j1 (k + 1) a2 a3 true (mk (fin (body n l))) false = some true := by
  obtain ⟨q1, q2, _⟩ := pr_ok hp
  have hsz := pr_len (n := n) (l := l) (by omega)
  rw [hp, mk_size] at hsz
  have hpos : 0 < (fin (body n l)).length := by rw [fin_len]; omega
  rw [broadsheetlaw03_ManifestTorn.j1, if_neg (by decide)]
  generalize hs : fin (body n l) = s at *
  rw [mk_size, if_neg (by omega)]
  obtain ⟨x0, x1⟩ := low20 a2
  rw [tmod_pos x0]
  have m0 := Int.emod_nonneg (Go.bits .and .i64 a2 1048575) (b := (s.length : Int)) (by omega)
  have m1 := Int.emod_lt_of_pos (Go.bits .and .i64 a2 1048575) (b := (s.length : Int)) (by omega)
  generalize Go.bits .and .i64 a2 1048575 % (s.length : Int) = j at *
  obtain ⟨p, rfl⟩ := Int.eq_ofNat_of_zero_le m0
  have hpl : p < s.length := by omega
  obtain ⟨b, hb⟩ : ∃ b, s[p]? = some b := ⟨_, List.getElem?_eq_getElem hpl⟩
  have hbt := bt_list s p b hb
  have hb8 := b.toNat_lt
  rw [hbt]
  obtain ⟨y0, y1, y2⟩ := xor_ne (b.toNat : Int) a3 (by omega) (by omega) h0 h1
  generalize Go.bits .xor .u8 (b.toNat : Int) a3 = c at *
  rw [if_pos m0, if_pos m1, if_pos (by decide)]
  simp only [List.nil_append, Option.bind_some]
  rw [one_byte c y1 y2, wrap_id (x := (p : Int) + 1) (by omega) (by omega), ext_sub, ext_sub]
  have t1 : ((p : Int) + 1).toNat = p + 1 := by omega
  have hmks : (mk s).size = s.length := mk_size s
  simp only [mk_data, mk_append, hmks, mk_size, Int.toNat_natCast, List.drop_zero, Nat.sub_zero, t1]
  have hz : (s.drop (p + 1)).take (s.length - (p + 1)) = s.drop (p + 1) := List.take_of_length_le (by rw [List.length_drop]; omega)
  rw [hz]
  have hc : (UInt8.ofNat c.toNat).toNat = c.toNat := by rw [UInt8.toNat_ofNat']; omega
  have hcb : UInt8.ofNat c.toNat ≠ b := fun e => y0 (by rw [← e, hc]; omega)
  generalize UInt8.ofNat c.toNat = d at *
  have hlen2 : (s.take p ++ [d] ++ s.drop (p + 1)).length = s.length := by
    simp only [List.length_append, List.length_take, List.length_drop, List.length_cons, List.length_nil]
    omega
  have hlenp : (s.take p).length = p := by rw [List.length_take]; omega
  rw [if_pos (by omega), if_pos (by simp only [List.length_cons, List.length_nil]; omega), if_pos (by omega), if_pos (by omega), if_pos (by rw [List.length_append] at hlen2; omega)]
  obtain ⟨q, e1, e2⟩ := parse_eq (mk (s.take p ++ [d] ++ s.drop (p + 1))) (by rw [mk_size]; omega) k (by omega)
  obtain ⟨q', e1', e2'⟩ := parse_eq (mk (s.take p)) (by rw [mk_size]; omega) k (by omega)
  rw [e1, e1']
  simp only [Option.bind_some]
  have hq : q = err := by
    rcases e2.1 with e | ⟨n', l', _, e3⟩
    · exact e
    · exfalso
      obtain ⟨w1, w2, w3⟩ := pr_ok e3
      rw [mk_data] at w3
      refine torn_one (body n l) (body n' l') (by rw [hs, ← w3, hlen2]) p (by rw [hs]; exact hpl) ?_ ?_
      · rw [hs, ← w3, hb, List.getElem?_append_left (by simp only [List.length_append, hlenp, List.length_cons, List.length_nil]; omega), List.getElem?_append_right (by omega), hlenp, Nat.sub_self]
        intro e
        exact hcb (Option.some.inj e).symm
      · intro i hi
        rw [hs, ← w3]
        rcases Nat.lt_or_gt_of_ne hi with h | h
        · rw [List.append_assoc, List.getElem?_append_left (by omega), List.getElem?_take, if_pos h]
        · rw [List.getElem?_append_right (by simp only [List.length_append, hlenp, List.length_cons, List.length_nil]; omega), List.getElem?_drop]
          congr 1
          simp only [List.length_append, hlenp, List.length_cons, List.length_nil]
          omega
  have hq' : q' = err := by
    rcases e2'.1 with e | ⟨n', l', _, e3⟩
    · exact e
    · exfalso
      obtain ⟨w1, w2, w3⟩ := pr_ok e3
      rw [mk_data] at w3
      refine torn_pre (R := s.drop p) (n := n) (n' := n') q2 w2 ?_ ?_
      · intro e
        have := congrArg List.length e
        rw [List.length_drop] at this
        simp at this
        omega
      · rw [hs, ← w3, List.take_append_drop]
  rw [hq, hq']
  rfl
theorem torn (n : Int) (l : List S37) (a2 a3 : Int) (h0 : 0 ≤ a3) (h1 : a3 ≤ 255) : ∃ k, broadsheetlaw03_ManifestTorn.f k n l a2 a3 = some true := by
  refine ⟨2000000 + 2, ?_⟩
  unfold broadsheetlaw03_ManifestTorn.f
  rw [awake_ _ (by omega)]
  simp only [Option.bind_some]
  rw [if_pos trivial]
  obtain ⟨v, ev, hv⟩ := few_eq l (2000000 + 2) (by omega)
  rw [ev]
  simp only [Option.bind_some]
  cases v with
  | false => rw [if_neg (by decide), broadsheetlaw03_ManifestTorn.j0, if_pos rfl]
  | true =>
    have hl := hv rfl
    rw [if_pos rfl, broadsheetlaw03_ManifestTorn.j0]
    by_cases hz : a3 = 0
    · rw [if_pos (by simp [hz])]
    rw [if_neg (by simp [hz]), print_eq n l _ (by omega) (by omega)]
    simp only [Option.bind_some]
    by_cases h : (pr n l).2 = 0
    · rw [if_pos h]
      obtain ⟨q1, q2, q3⟩ := pr_ok (pr_zero_ h)
      have hp1 : (pr n l).1 = mk (fin (body n l)) := by rw [← mk_self (pr n l).1, q3]
      have hp : pr n l = (mk (fin (body n l)), 0) := by rw [← hp1]; exact pr_zero_ h
      have hne : ((pr n l).1.toList == ([] : List UInt8)) = false := by
        rw [tl, q3]
        have := fin_len (body n l)
        cases e : fin (body n l) with
        | nil => rw [e] at this; simp at this; omega
        | cons a r => rfl
      rw [hne, hp1]
      exact torn_j1 n l a2 a3 hl hp (by omega) h1 _ (by omega)
    · rw [if_neg h, broadsheetlaw03_ManifestTorn.j1, if_pos rfl, if_pos rfl]
      have : (pr n l).1 = mk [] := by
        unfold pr at h ⊢
        split at h
        · exact absurd rfl h
        · rename_i hc
          rw [if_neg hc]
      rw [this, tl, mk_data]
      rfl
theorem torn_u8 (n : Int) (l : List S37) (a2 a3 : Int) (h : (Lit.int .u8 a3).wf = true) : ∃ k, broadsheetlaw03_ManifestTorn.f k n l a2 a3 = some true := torn n l a2 a3 (wf_u8 h).1 (by have := (wf_u8 h).2; omega)
end Go.Proofs.YtmgabnodachboaaDoor.Mn
