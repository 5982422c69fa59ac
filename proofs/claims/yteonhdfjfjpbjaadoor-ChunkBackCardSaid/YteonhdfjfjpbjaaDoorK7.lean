/- Texts of this seat, joined: lemmas and walks that its statements' proofs use. -/
import Derived.Test.YteonhdfjfjpbjaaDoorK1
import Derived.Test.YteonhdfjfjpbjaaDoorK2
import Derived.Test.YteonhdfjfjpbjaaDoorK4
/- Px35 -/
namespace Go.Proofs.YteonhdfjfjpbjaaDoor.P
open Go.Proofs.YteonhdfjfjpbjaaDoor.B
open Go.RowKit Go.Proofs.YteonhdfjfjpbjaaDoorW.PrintWords Go.Proofs.YteonhdfjfjpbjaaDoorW.PrintLast Go.Proofs.YteonhdfjfjpbjaaDoorW.PrintMore
attribute [local go_sem] str_leq str_gtr str_geq max2_int min2_int max_two min_two max_three min_three max_four min_four   -- for this text's walks alone
set_option linter.unusedVariables false
set_option linter.unusedSimpArgs false

open Go.Proofs.YteonhdfjfjpbjaaDoor.O
/-! ### broadsheetlaw19_ChunkBack: function 5 -/
def broadsheetlaw19_ChunkBack.j0 : Nat → ByteArray → Int → ByteArray → Int → Bool → Bool → Option (Bool)
  | 0, _, _, _, _, _, _ => none
  | k + 1, x0, x1, x2, x3, x9, x29 => if x29 = true then (some x9) else ((chunk_Encode.f k x0 x1).bind fun bt276 => (if bt276.2 = 0 then (if bt276.1.size + x2.size ≤ 9223372036854775807 then ((chunk_Decode.f k (bt276.1 ++ x2)).bind fun bt278 => (if (mx 1 (bt276.1.size : Int)) = 0 then (none) else (if 0 ≤ (Int.tmod (wrap64 (x3)) (mx 1 (bt276.1.size : Int))) then (if (Int.tmod (wrap64 (x3)) (mx 1 (bt276.1.size : Int))) ≤ (bt276.1.size : Int) then ((chunk_Decode.f k (bt276.1.extract 0 ((Int.tmod (wrap64 (x3)) (mx 1 (bt276.1.size : Int))) : Int).toNat)).bind fun bt281 => (if x9 = true then (if bt278.2.2 = 0 then (if bt278.1.toList = x0.toList then (if bt278.2.1.toList = x2.toList then (if bt281.2.2 = 190 then (if bt281.1.toList = ([] : List UInt8) then (some (bt281.2.1.toList == ([] : List UInt8))) else (some false)) else (some false)) else (some false)) else (some false)) else (some false)) else (some false))) else (none)) else (none)))) else (none)) else (if x9 = true then (if x1 < 1 then (some (bt276.1.toList == ([] : List UInt8))) else (some false)) else (some false))))
def broadsheetlaw19_ChunkBack.f (k : Nat) (a0 : ByteArray) (a1 : Int) (a2 : ByteArray) (a3 : Int) : Option (Bool) := (broadsheetlaw19_awake.f k).bind fun t275 => (if t275 = true then (if (a0.size : Int) > 3000 then (broadsheetlaw19_ChunkBack.j0 k a0 a1 a2 a3 t275 true) else (broadsheetlaw19_ChunkBack.j0 k a0 a1 a2 a3 t275 (decide ((a2.size : Int) > 1000)))) else (some false))
theorem broadsheetlaw19_ChunkBack.mono_l : ∀ k, (∀ y0 y1 y2 y3 y4 y5, LeO (broadsheetlaw19_ChunkBack.j0 k y0 y1 y2 y3 y4 y5) (broadsheetlaw19_ChunkBack.j0 (k + 1) y0 y1 y2 y3 y4 y5))
  | 0 => fun _ _ _ _ _ _ r h => by simp [broadsheetlaw19_ChunkBack.j0] at h
  | k + 1 => by
    have ih0 := broadsheetlaw19_ChunkBack.mono_l k
    · intro y0 y1 y2 y3 y4 y5
      unfold broadsheetlaw19_ChunkBack.j0
      repeat' first
      | (with_reducible exact ih0 _ _ _ _ _ _)
      | (with_reducible exact broadsheetlaw19_awake.mono _)
      | (with_reducible exact chunk_Decode.mono _ _)
      | (with_reducible exact chunk_Encode.mono _ _ _)
      | (with_reducible exact LeO.refl _)
      | (with_reducible exact LeO.none _)
      | (with_reducible refine LeO.ite ?_ ?_)
      | (with_reducible refine LeO.bind ?_ (fun _ => ?_))
      | exact ih0 _ _ _ _ _ _
      | exact broadsheetlaw19_awake.mono _
      | exact chunk_Decode.mono _ _
      | exact chunk_Encode.mono _ _ _
      | exact LeO.none _
      | refine LeO.ite ?_ ?_
      | refine LeO.bind ?_ (fun _ => ?_)
theorem broadsheetlaw19_ChunkBack.mono : ∀ a0 a1 a2 a3 k, LeO (broadsheetlaw19_ChunkBack.f k a0 a1 a2 a3) (broadsheetlaw19_ChunkBack.f (k + 1) a0 a1 a2 a3) := by
  intro a0 a1 a2 a3 k
  have ih0 := broadsheetlaw19_ChunkBack.mono_l k
  unfold broadsheetlaw19_ChunkBack.f
  repeat' first
      | (with_reducible exact ih0 _ _ _ _ _ _)
      | (with_reducible exact broadsheetlaw19_awake.mono _)
      | (with_reducible exact chunk_Decode.mono _ _)
      | (with_reducible exact chunk_Encode.mono _ _ _)
      | (with_reducible exact LeO.refl _)
      | (with_reducible exact LeO.none _)
      | (with_reducible refine LeO.ite ?_ ?_)
      | (with_reducible refine LeO.bind ?_ (fun _ => ?_))
      | exact ih0 _ _ _ _ _ _
      | exact broadsheetlaw19_awake.mono _
      | exact chunk_Decode.mono _ _
      | exact chunk_Encode.mono _ _ _
      | exact LeO.none _
      | refine LeO.ite ?_ ?_
      | refine LeO.bind ?_ (fun _ => ?_)
set_option maxHeartbeats 8000000 in
set_option maxRecDepth 100000 in
theorem broadsheetlaw19_ChunkBack.calls (k : Nat) (a0 : ByteArray) (a1 : Int) (a2 : ByteArray) (a3 : Int) (r : Bool) (w : World) (hG : Glob w) (h : broadsheetlaw19_ChunkBack.f k a0 a1 a2 a3 = some r) :
    Calls Tryd.prog 5 #[.string a0, .int .i64 a1, .string a2, .int .u16 a3] w fun e w' => e = .returned (.bool r) ∧ Below w.heap.size w w' := by
  have HB := Aside0.mk (Below.refl w.heap.size w)
  have hGA := Aside0.mk hG
  clear hG
  have H : ((broadsheetlaw19_awake.f k).bind fun t275 => (if t275 = true then (if (a0.size : Int) > 3000 then (broadsheetlaw19_ChunkBack.j0 k a0 a1 a2 a3 t275 true) else (broadsheetlaw19_ChunkBack.j0 k a0 a1 a2 a3 t275 (decide ((a2.size : Int) > 1000)))) else (some false))) = some r := h
  clear h
  replace H := Option.bind_eq_some_iff.mp H
  obtain ⟨t275, A50, H⟩ := H
  replace H : (if t275 = true then (if (a0.size : Int) > 3000 then (broadsheetlaw19_ChunkBack.j0 k a0 a1 a2 a3 t275 true) else (broadsheetlaw19_ChunkBack.j0 k a0 a1 a2 a3 t275 (decide ((a2.size : Int) > 1000)))) else (some false)) = some r := H
  have A5 := Aside0.mk A50
  clear A50
  by_cases c6 : t275 = true
  · subst c6
    have H1 : (if (a0.size : Int) > 3000 then (broadsheetlaw19_ChunkBack.j0 k a0 a1 a2 a3 true true) else (broadsheetlaw19_ChunkBack.j0 k a0 a1 a2 a3 true (decide ((a2.size : Int) > 1000)))) = some r := by rw [if_pos rfl] at H; exact H
    clear H
    have H := H1
    clear H1
    have HC7 := Aside0.mk H
    clear H
    go_enter Tryd.func5, Tryd.ntmps5
    go_upto_region 4 with (first | ((with_reducible refine gate_callee (f := 6) rfl ?_); refine goesL_ (some 19) rfl rfl Tryd.func6 (by kernel_rfl) rfl #[] rfl (by (try simp only [List.map_toArray, List.map_cons, List.map_nil]); first | done | rfl | (simp only [List.length_drop, List.length_take]; rfl)) ?_; (with_reducible refine (broadsheetlaw19_awake.calls k  true _ ?side1 A5.out).mono ?_); (case side1 => exact Glob.below hGA.out (by repeat (first | (with_reducible first | exact HB.out | apply below_alloc | apply pw_below_drewN | apply below_drew1) | exact HB.out))); rintro e w8 ⟨rfl, hb⟩; refine ⟨_, rfl, ?_⟩; have n0_ := Aside0.mk (below_step (by repeat (first | (with_reducible first | exact HB.out | apply below_alloc | apply pw_below_drewN | apply below_drew1) | exact HB.out)) hb); clear HB; have HB := n0_; clear n0_; (try clear hb); (try clear hb2); (try clear hk); (try clear hi)))
    (try simp only [Act.put, List.setIfInBounds_toArray, List.set_cons_zero, List.set_cons_succ])
    go_cut [29] (fun v29 wc => ∃ (kq : Nat) (x29_6 : Bool), v29 = .bool x29_6 ∧ Aside0 (broadsheetlaw19_ChunkBack.j0 kq a0 a1 a2 a3 true x29_6 = some r) ∧ Aside0 (kq ≤ k) ∧ Aside0 (Below w.heap.size w wc))
    case first =>
      have H := HC7.out
      clear HC7
      by_cases c9 : (a0.size : Int) > 3000
      · rw [if_pos c9] at H
        have c9b0 : decide (3000 < (a0.size : Int)) = true := decide_eq_true c9
        have c9b1 : decide (3000 < a0.size) = true := decide_eq_true (by omega)
        clear c9
        (first | rw [c9b0] | (simp only [i64_w, i32_w]; rw [c9b0]) | skip)
        have H' := Aside0.mk H
        clear H
        go_wp2
        go_meet
        case rel => exact ⟨_, (true), (by first | rfl | (simp; done) | (simp [*]; done)), H', ⟨by first | omega | exact Nat.le_refl _⟩, ⟨by repeat (first | (with_reducible first | exact HB.out | apply below_alloc | apply pw_below_drewN | apply below_drew1) | exact HB.out)⟩⟩
      · rw [if_neg c9] at H
        have c9b0 : decide (3000 < (a0.size : Int)) = false := decide_eq_false c9
        have c9b1 : decide (3000 < a0.size) = false := decide_eq_false (by omega)
        clear c9
        (first | rw [c9b0] | (simp only [i64_w, i32_w]; rw [c9b0]) | skip)
        have H' := Aside0.mk H
        clear H
        go_wp2
        go_meet
        case rel => exact ⟨_, (decide ((a2.size : Int) > 1000)), (by first | rfl | (simp; done) | (simp [*]; done)), H', ⟨by first | omega | exact Nat.le_refl _⟩, ⟨by repeat (first | (with_reducible first | exact HB.out | apply below_alloc | apply pw_below_drewN | apply below_drew1) | exact HB.out)⟩⟩
    case rest =>
      clear HC7
      try clear p2
      try clear c5
      try clear c6
      try clear c9
      try clear c9b0
      try clear c9b1
      obtain ⟨kq, x29_6, rfl, HA, HJ6, HB⟩ := hcut
      cases kq with
      | zero => exact absurd HA.out (by simp [broadsheetlaw19_ChunkBack.j0])
      | succ kj6 =>
        have H := HA.out
        clear HA
        simp only [broadsheetlaw19_ChunkBack.j0] at H
        by_cases c10 : x29_6 = true
        · subst c10
          have H1 : (some true) = some r := by rw [if_pos rfl] at H; exact H
          clear H
          have H := H1
          clear H1
          obtain rfl := Option.some.inj H
          go_wp2
          go_ret
          exact ⟨by first | rfl | (simp [errW_none, errW_some, bne_nil_] <;> rfl) | (simp [*, errW_none, errW_some] <;> rfl), by repeat (first | (with_reducible first | exact HB.out | apply below_alloc | apply pw_below_drewN | apply below_drew1) | exact HB.out)⟩
        · replace c10 := Bool.eq_false_iff.mpr c10
          subst c10
          have H1 : ((chunk_Encode.f kj6 a0 a1).bind fun bt276 => (if bt276.2 = 0 then (if bt276.1.size + a2.size ≤ 9223372036854775807 then ((chunk_Decode.f kj6 (bt276.1 ++ a2)).bind fun bt278 => (if (mx 1 (bt276.1.size : Int)) = 0 then (none) else (if 0 ≤ (Int.tmod (wrap64 (a3)) (mx 1 (bt276.1.size : Int))) then (if (Int.tmod (wrap64 (a3)) (mx 1 (bt276.1.size : Int))) ≤ (bt276.1.size : Int) then ((chunk_Decode.f kj6 (bt276.1.extract 0 ((Int.tmod (wrap64 (a3)) (mx 1 (bt276.1.size : Int))) : Int).toNat)).bind fun bt281 => (if true = true then (if bt278.2.2 = 0 then (if bt278.1.toList = a0.toList then (if bt278.2.1.toList = a2.toList then (if bt281.2.2 = 190 then (if bt281.1.toList = ([] : List UInt8) then (some (bt281.2.1.toList == ([] : List UInt8))) else (some false)) else (some false)) else (some false)) else (some false)) else (some false)) else (some false))) else (none)) else (none)))) else (none)) else (if true = true then (if a1 < 1 then (some (bt276.1.toList == ([] : List UInt8))) else (some false)) else (some false)))) = some r := by rw [if_neg (show ¬ (false = true) by decide)] at H; exact H
          clear H
          have H := H1
          clear H1
          replace H := Option.bind_eq_some_iff.mp H
          obtain ⟨⟨t276, t277⟩, A110, H⟩ := H
          replace H : (if t277 = 0 then (if t276.size + a2.size ≤ 9223372036854775807 then ((chunk_Decode.f kj6 (t276 ++ a2)).bind fun bt278 => (if (mx 1 (t276.size : Int)) = 0 then (none) else (if 0 ≤ (Int.tmod (wrap64 (a3)) (mx 1 (t276.size : Int))) then (if (Int.tmod (wrap64 (a3)) (mx 1 (t276.size : Int))) ≤ (t276.size : Int) then ((chunk_Decode.f kj6 (t276.extract 0 ((Int.tmod (wrap64 (a3)) (mx 1 (t276.size : Int))) : Int).toNat)).bind fun bt281 => (if true = true then (if bt278.2.2 = 0 then (if bt278.1.toList = a0.toList then (if bt278.2.1.toList = a2.toList then (if bt281.2.2 = 190 then (if bt281.1.toList = ([] : List UInt8) then (some (bt281.2.1.toList == ([] : List UInt8))) else (some false)) else (some false)) else (some false)) else (some false)) else (some false)) else (some false))) else (none)) else (none)))) else (none)) else (if true = true then (if a1 < 1 then (some (t276.toList == ([] : List UInt8))) else (some false)) else (some false))) = some r := H
          have A11 := Aside0.mk A110
          clear A110
          by_cases c12 : t277 = 0
          · rw [if_pos c12] at H
            have c12b0 : (t277 == 0) = true := beq_iff_eq.mpr c12
            have c12b1 : (t277 != 0) = false := bne_eq_false_iff_eq.mpr c12
            clear c12
            by_cases c13 : t276.size + a2.size ≤ 9223372036854775807
            · rw [if_pos c13] at H
              have c13b0 := eq_true c13
              have c13b1 : decide (t276.size + a2.size ≤ 9223372036854775807) = true := decide_eq_true c13
              try have c13b2 : (9223372036854775807 < t276.size + a2.size) = False := eq_false (Nat.not_lt.2 c13)
              replace H := Option.bind_eq_some_iff.mp H
              obtain ⟨⟨t278, t279, t280⟩, A140, H⟩ := H
              replace H : (if (mx 1 (t276.size : Int)) = 0 then (none) else (if 0 ≤ (Int.tmod (wrap64 (a3)) (mx 1 (t276.size : Int))) then (if (Int.tmod (wrap64 (a3)) (mx 1 (t276.size : Int))) ≤ (t276.size : Int) then ((chunk_Decode.f kj6 (t276.extract 0 ((Int.tmod (wrap64 (a3)) (mx 1 (t276.size : Int))) : Int).toNat)).bind fun bt281 => (if true = true then (if t280 = 0 then (if t278.toList = a0.toList then (if t279.toList = a2.toList then (if bt281.2.2 = 190 then (if bt281.1.toList = ([] : List UInt8) then (some (bt281.2.1.toList == ([] : List UInt8))) else (some false)) else (some false)) else (some false)) else (some false)) else (some false)) else (some false))) else (none)) else (none))) = some r := H
              have A14 := Aside0.mk A140
              clear A140
              obtain ⟨ji15, hji15⟩ : ∃ j_ : Int, (mx 1 (t276.size : Int)) = j_ := ⟨_, rfl⟩
              replace H : (if (ji15) = 0 then (none) else (if 0 ≤ (Int.tmod (wrap64 (a3)) (ji15)) then (if (Int.tmod (wrap64 (a3)) (ji15)) ≤ (t276.size : Int) then ((chunk_Decode.f kj6 (t276.extract 0 ((Int.tmod (wrap64 (a3)) (ji15)) : Int).toNat)).bind fun bt281 => (if true = true then (if t280 = 0 then (if t278.toList = a0.toList then (if t279.toList = a2.toList then (if bt281.2.2 = 190 then (if bt281.1.toList = ([] : List UInt8) then (some (bt281.2.1.toList == ([] : List UInt8))) else (some false)) else (some false)) else (some false)) else (some false)) else (some false)) else (some false))) else (none)) else (none))) = some r := by first | (rw [hji15] at H; exact H) | (simp only [hji15] at H ⊢; exact H)
              (try rw [hji15] at A11)
              (try rw [hji15] at A14)
              (try (have hji15l : 1 ≤ ji15 := by (rw [← hji15]; unfold mx; (repeat' split) <;> omega)))
              (try (have hji15m : 0 ≤ ji15 := by omega))
              have hji15_ : (if 1 < (t276.size : Int) then (t276.size : Int) else 1) = ji15 := hji15
              by_cases c16 : (ji15) = 0
              · rw [if_pos c16] at H
                exact absurd H (by simp)
              · rw [if_neg c16] at H
                have c16b0 : ((ji15) == 0) = false := beq_eq_false_iff_ne.mpr c16
                have c16b1 : ((ji15) != 0) = true := bne_iff_ne.mpr c16
                obtain ⟨ji17, hji17⟩ : ∃ j_ : Int, (Int.tmod (wrap64 (a3)) (ji15)) = j_ := ⟨_, rfl⟩
                replace H : (if 0 ≤ (ji17) then (if (ji17) ≤ (t276.size : Int) then ((chunk_Decode.f kj6 (t276.extract 0 ((ji17) : Int).toNat)).bind fun bt281 => (if true = true then (if t280 = 0 then (if t278.toList = a0.toList then (if t279.toList = a2.toList then (if bt281.2.2 = 190 then (if bt281.1.toList = ([] : List UInt8) then (some (bt281.2.1.toList == ([] : List UInt8))) else (some false)) else (some false)) else (some false)) else (some false)) else (some false)) else (some false))) else (none)) else (none)) = some r := by first | (rw [hji17] at H; exact H) | (simp only [hji17] at H ⊢; exact H)
                (try rw [hji17] at A11)
                (try rw [hji17] at A14)
                by_cases c18 : 0 ≤ (ji17)
                · rw [if_pos c18] at H
                  have c18b0 := eq_true c18
                  have c18b1 : decide (0 ≤ (ji17)) = true := decide_eq_true c18
                  clear c18
                  by_cases c19 : (ji17) ≤ (t276.size : Int)
                  · rw [if_pos c19] at H
                    have c19b0 := eq_true c19
                    have c19b1 : decide ((ji17) ≤ (t276.size : Int)) = true := decide_eq_true c19
                    clear c19
                    replace H := Option.bind_eq_some_iff.mp H
                    obtain ⟨⟨t281, t282, t283⟩, A200, H⟩ := H
                    replace H : (if true = true then (if t280 = 0 then (if t278.toList = a0.toList then (if t279.toList = a2.toList then (if t283 = 190 then (if t281.toList = ([] : List UInt8) then (some (t282.toList == ([] : List UInt8))) else (some false)) else (some false)) else (some false)) else (some false)) else (some false)) else (some false)) = some r := H
                    have A20 := Aside0.mk A200
                    clear A200
                    have H1 : (if t280 = 0 then (if t278.toList = a0.toList then (if t279.toList = a2.toList then (if t283 = 190 then (if t281.toList = ([] : List UInt8) then (some (t282.toList == ([] : List UInt8))) else (some false)) else (some false)) else (some false)) else (some false)) else (some false)) = some r := by rw [if_pos rfl] at H; exact H
                    clear H
                    have H := H1
                    clear H1
                    by_cases c21 : t280 = 0
                    · rw [if_pos c21] at H
                      have c21b0 : (t280 == 0) = true := beq_iff_eq.mpr c21
                      have c21b1 : (t280 != 0) = false := bne_eq_false_iff_eq.mpr c21
                      clear c21
                      by_cases c22 : t278.toList = a0.toList
                      · rw [if_pos c22] at H
                        have c22b0 : (t278.toList == a0.toList) = true := beq_iff_eq.mpr c22
                        have c22b1 : (t278.toList != a0.toList) = false := bne_eq_false_iff_eq.mpr c22
                        clear c22
                        by_cases c23 : t279.toList = a2.toList
                        · rw [if_pos c23] at H
                          have c23b0 : (t279.toList == a2.toList) = true := beq_iff_eq.mpr c23
                          have c23b1 : (t279.toList != a2.toList) = false := bne_eq_false_iff_eq.mpr c23
                          clear c23
                          by_cases c24 : t283 = 190
                          · rw [if_pos c24] at H
                            have c24b0 : (t283 == 190) = true := beq_iff_eq.mpr c24
                            have c24b1 : (t283 != 190) = false := bne_eq_false_iff_eq.mpr c24
                            clear c24
                            by_cases c25 : t281.toList = ([] : List UInt8)
                            · rw [if_pos c25] at H
                              have c25b0 : (t281.toList == ([] : List UInt8)) = true := beq_iff_eq.mpr c25
                              have c25b1 : (t281.toList != ([] : List UInt8)) = false := bne_eq_false_iff_eq.mpr c25
                              clear c25
                              obtain rfl := Option.some.inj H
                              go_wp2_with (first | ((with_reducible refine gate_callee (f := 9) rfl ?_); refine goesL_ (some 34) rfl rfl Tryd.func9 (by kernel_rfl) rfl #[.string a0, .int .i64 a1] rfl (by (try simp only [List.map_toArray, List.map_cons, List.map_nil]); first | done | rfl | (simp only [List.length_drop, List.length_take]; rfl)) ?_; (with_reducible refine (chunk_Encode.calls kj6 a0 a1 t276 t277 _ ?side1 A11.out).mono ?_); (case side1 => exact Glob.below hGA.out (by repeat (first | (with_reducible first | exact HB.out | apply below_alloc | apply pw_below_drewN | apply below_drew1) | exact HB.out))); rintro e w26 ⟨rfl, hb⟩; refine ⟨_, rfl, ?_⟩; have n0_ := Aside0.mk (below_step (by repeat (first | (with_reducible first | exact HB.out | apply below_alloc | apply pw_below_drewN | apply below_drew1) | exact HB.out)) hb); clear HB; have HB := n0_; clear n0_; (try clear hb); (try clear hb2); (try clear hk); (try clear hi)) | ((with_reducible refine gate_callee (f := 7) rfl ?_); refine goesL_ (some 52) rfl rfl Tryd.func7 (by kernel_rfl) rfl #[.string (t276 ++ a2)] rfl (by (try simp only [List.map_toArray, List.map_cons, List.map_nil]); first | done | rfl | (simp only [List.length_drop, List.length_take]; rfl)) ?_; (with_reducible refine (chunk_Decode.calls kj6 (t276 ++ a2) t278 t279 t280 _ ?side1 A14.out).mono ?_); (case side1 => exact Glob.below hGA.out (by repeat (first | (with_reducible first | exact HB.out | apply below_alloc | apply pw_below_drewN | apply below_drew1) | exact HB.out))); rintro e w27 ⟨rfl, hb⟩; refine ⟨_, rfl, ?_⟩; have n0_ := Aside0.mk (below_step (by repeat (first | (with_reducible first | exact HB.out | apply below_alloc | apply pw_below_drewN | apply below_drew1) | exact HB.out)) hb); clear HB; have HB := n0_; clear n0_; (try clear hb); (try clear hb2); (try clear hk); (try clear hi)) | ((with_reducible refine gate_callee (f := 7) rfl ?_); refine goesL_ (some 66) rfl rfl Tryd.func7 (by kernel_rfl) rfl #[.string (t276.extract 0 ((ji17) : Int).toNat)] rfl (by (try simp only [List.map_toArray, List.map_cons, List.map_nil]); first | done | (simp only [hji17]; rfl) | rfl | (simp only [List.length_drop, List.length_take]; rfl)) ?_; (with_reducible refine (chunk_Decode.calls kj6 (t276.extract 0 ((ji17) : Int).toNat) t281 t282 t283 _ ?side1 A20.out).mono ?_); (case side1 => exact Glob.below hGA.out (by repeat (first | (with_reducible first | exact HB.out | apply below_alloc | apply pw_below_drewN | apply below_drew1) | exact HB.out))); rintro e w28 ⟨rfl, hb⟩; refine ⟨_, rfl, ?_⟩; have n0_ := Aside0.mk (below_step (by repeat (first | (with_reducible first | exact HB.out | apply below_alloc | apply pw_below_drewN | apply below_drew1) | exact HB.out)) hb); clear HB; have HB := n0_; clear n0_; (try clear hb); (try clear hb2); (try clear hk); (try clear hi)))
                              go_ret
                              exact ⟨by first | rfl | (simp [errW_none, errW_some, bne_nil_] <;> rfl) | (simp only [← hji15, ← hji17]; first | rfl | (simp [errW_none, errW_some, bne_nil_] <;> rfl)) | (simp [*, errW_none, errW_some] <;> rfl), by repeat (first | (with_reducible first | exact HB.out | apply below_alloc | apply pw_below_drewN | apply below_drew1) | exact HB.out)⟩
                            · rw [if_neg c25] at H
                              have c25b0 : (t281.toList == ([] : List UInt8)) = false := beq_eq_false_iff_ne.mpr c25
                              have c25b1 : (t281.toList != ([] : List UInt8)) = true := bne_iff_ne.mpr c25
                              obtain rfl := Option.some.inj H
                              go_wp2_with (first | ((with_reducible refine gate_callee (f := 9) rfl ?_); refine goesL_ (some 34) rfl rfl Tryd.func9 (by kernel_rfl) rfl #[.string a0, .int .i64 a1] rfl (by (try simp only [List.map_toArray, List.map_cons, List.map_nil]); first | done | rfl | (simp only [List.length_drop, List.length_take]; rfl)) ?_; (with_reducible refine (chunk_Encode.calls kj6 a0 a1 t276 t277 _ ?side1 A11.out).mono ?_); (case side1 => exact Glob.below hGA.out (by repeat (first | (with_reducible first | exact HB.out | apply below_alloc | apply pw_below_drewN | apply below_drew1) | exact HB.out))); rintro e w29 ⟨rfl, hb⟩; refine ⟨_, rfl, ?_⟩; have n0_ := Aside0.mk (below_step (by repeat (first | (with_reducible first | exact HB.out | apply below_alloc | apply pw_below_drewN | apply below_drew1) | exact HB.out)) hb); clear HB; have HB := n0_; clear n0_; (try clear hb); (try clear hb2); (try clear hk); (try clear hi)) | ((with_reducible refine gate_callee (f := 7) rfl ?_); refine goesL_ (some 52) rfl rfl Tryd.func7 (by kernel_rfl) rfl #[.string (t276 ++ a2)] rfl (by (try simp only [List.map_toArray, List.map_cons, List.map_nil]); first | done | rfl | (simp only [List.length_drop, List.length_take]; rfl)) ?_; (with_reducible refine (chunk_Decode.calls kj6 (t276 ++ a2) t278 t279 t280 _ ?side1 A14.out).mono ?_); (case side1 => exact Glob.below hGA.out (by repeat (first | (with_reducible first | exact HB.out | apply below_alloc | apply pw_below_drewN | apply below_drew1) | exact HB.out))); rintro e w30 ⟨rfl, hb⟩; refine ⟨_, rfl, ?_⟩; have n0_ := Aside0.mk (below_step (by repeat (first | (with_reducible first | exact HB.out | apply below_alloc | apply pw_below_drewN | apply below_drew1) | exact HB.out)) hb); clear HB; have HB := n0_; clear n0_; (try clear hb); (try clear hb2); (try clear hk); (try clear hi)) | ((with_reducible refine gate_callee (f := 7) rfl ?_); refine goesL_ (some 66) rfl rfl Tryd.func7 (by kernel_rfl) rfl #[.string (t276.extract 0 ((ji17) : Int).toNat)] rfl (by (try simp only [List.map_toArray, List.map_cons, List.map_nil]); first | done | (simp only [hji17]; rfl) | rfl | (simp only [List.length_drop, List.length_take]; rfl)) ?_; (with_reducible refine (chunk_Decode.calls kj6 (t276.extract 0 ((ji17) : Int).toNat) t281 t282 t283 _ ?side1 A20.out).mono ?_); (case side1 => exact Glob.below hGA.out (by repeat (first | (with_reducible first | exact HB.out | apply below_alloc | apply pw_below_drewN | apply below_drew1) | exact HB.out))); rintro e w31 ⟨rfl, hb⟩; refine ⟨_, rfl, ?_⟩; have n0_ := Aside0.mk (below_step (by repeat (first | (with_reducible first | exact HB.out | apply below_alloc | apply pw_below_drewN | apply below_drew1) | exact HB.out)) hb); clear HB; have HB := n0_; clear n0_; (try clear hb); (try clear hb2); (try clear hk); (try clear hi)))
                              go_ret
                              exact ⟨by first | rfl | (simp [errW_none, errW_some, bne_nil_] <;> rfl) | (simp only [← hji15, ← hji17]; first | rfl | (simp [errW_none, errW_some, bne_nil_] <;> rfl)) | (simp [*, errW_none, errW_some] <;> rfl), by repeat (first | (with_reducible first | exact HB.out | apply below_alloc | apply pw_below_drewN | apply below_drew1) | exact HB.out)⟩
                          · rw [if_neg c24] at H
                            have c24b0 : (t283 == 190) = false := beq_eq_false_iff_ne.mpr c24
                            have c24b1 : (t283 != 190) = true := bne_iff_ne.mpr c24
                            obtain rfl := Option.some.inj H
                            go_wp2_with (first | ((with_reducible refine gate_callee (f := 9) rfl ?_); refine goesL_ (some 34) rfl rfl Tryd.func9 (by kernel_rfl) rfl #[.string a0, .int .i64 a1] rfl (by (try simp only [List.map_toArray, List.map_cons, List.map_nil]); first | done | rfl | (simp only [List.length_drop, List.length_take]; rfl)) ?_; (with_reducible refine (chunk_Encode.calls kj6 a0 a1 t276 t277 _ ?side1 A11.out).mono ?_); (case side1 => exact Glob.below hGA.out (by repeat (first | (with_reducible first | exact HB.out | apply below_alloc | apply pw_below_drewN | apply below_drew1) | exact HB.out))); rintro e w32 ⟨rfl, hb⟩; refine ⟨_, rfl, ?_⟩; have n0_ := Aside0.mk (below_step (by repeat (first | (with_reducible first | exact HB.out | apply below_alloc | apply pw_below_drewN | apply below_drew1) | exact HB.out)) hb); clear HB; have HB := n0_; clear n0_; (try clear hb); (try clear hb2); (try clear hk); (try clear hi)) | ((with_reducible refine gate_callee (f := 7) rfl ?_); refine goesL_ (some 52) rfl rfl Tryd.func7 (by kernel_rfl) rfl #[.string (t276 ++ a2)] rfl (by (try simp only [List.map_toArray, List.map_cons, List.map_nil]); first | done | rfl | (simp only [List.length_drop, List.length_take]; rfl)) ?_; (with_reducible refine (chunk_Decode.calls kj6 (t276 ++ a2) t278 t279 t280 _ ?side1 A14.out).mono ?_); (case side1 => exact Glob.below hGA.out (by repeat (first | (with_reducible first | exact HB.out | apply below_alloc | apply pw_below_drewN | apply below_drew1) | exact HB.out))); rintro e w33 ⟨rfl, hb⟩; refine ⟨_, rfl, ?_⟩; have n0_ := Aside0.mk (below_step (by repeat (first | (with_reducible first | exact HB.out | apply below_alloc | apply pw_below_drewN | apply below_drew1) | exact HB.out)) hb); clear HB; have HB := n0_; clear n0_; (try clear hb); (try clear hb2); (try clear hk); (try clear hi)) | ((with_reducible refine gate_callee (f := 7) rfl ?_); refine goesL_ (some 66) rfl rfl Tryd.func7 (by kernel_rfl) rfl #[.string (t276.extract 0 ((ji17) : Int).toNat)] rfl (by (try simp only [List.map_toArray, List.map_cons, List.map_nil]); first | done | (simp only [hji17]; rfl) | rfl | (simp only [List.length_drop, List.length_take]; rfl)) ?_; (with_reducible refine (chunk_Decode.calls kj6 (t276.extract 0 ((ji17) : Int).toNat) t281 t282 t283 _ ?side1 A20.out).mono ?_); (case side1 => exact Glob.below hGA.out (by repeat (first | (with_reducible first | exact HB.out | apply below_alloc | apply pw_below_drewN | apply below_drew1) | exact HB.out))); rintro e w34 ⟨rfl, hb⟩; refine ⟨_, rfl, ?_⟩; have n0_ := Aside0.mk (below_step (by repeat (first | (with_reducible first | exact HB.out | apply below_alloc | apply pw_below_drewN | apply below_drew1) | exact HB.out)) hb); clear HB; have HB := n0_; clear n0_; (try clear hb); (try clear hb2); (try clear hk); (try clear hi)))
                            go_ret
                            exact ⟨by first | rfl | (simp [errW_none, errW_some, bne_nil_] <;> rfl) | (simp only [← hji15, ← hji17]; first | rfl | (simp [errW_none, errW_some, bne_nil_] <;> rfl)) | (simp [*, errW_none, errW_some] <;> rfl), by repeat (first | (with_reducible first | exact HB.out | apply below_alloc | apply pw_below_drewN | apply below_drew1) | exact HB.out)⟩
                        · rw [if_neg c23] at H
                          have c23b0 : (t279.toList == a2.toList) = false := beq_eq_false_iff_ne.mpr c23
                          have c23b1 : (t279.toList != a2.toList) = true := bne_iff_ne.mpr c23
                          obtain rfl := Option.some.inj H
                          go_wp2_with (first | ((with_reducible refine gate_callee (f := 9) rfl ?_); refine goesL_ (some 34) rfl rfl Tryd.func9 (by kernel_rfl) rfl #[.string a0, .int .i64 a1] rfl (by (try simp only [List.map_toArray, List.map_cons, List.map_nil]); first | done | rfl | (simp only [List.length_drop, List.length_take]; rfl)) ?_; (with_reducible refine (chunk_Encode.calls kj6 a0 a1 t276 t277 _ ?side1 A11.out).mono ?_); (case side1 => exact Glob.below hGA.out (by repeat (first | (with_reducible first | exact HB.out | apply below_alloc | apply pw_below_drewN | apply below_drew1) | exact HB.out))); rintro e w35 ⟨rfl, hb⟩; refine ⟨_, rfl, ?_⟩; have n0_ := Aside0.mk (below_step (by repeat (first | (with_reducible first | exact HB.out | apply below_alloc | apply pw_below_drewN | apply below_drew1) | exact HB.out)) hb); clear HB; have HB := n0_; clear n0_; (try clear hb); (try clear hb2); (try clear hk); (try clear hi)) | ((with_reducible refine gate_callee (f := 7) rfl ?_); refine goesL_ (some 52) rfl rfl Tryd.func7 (by kernel_rfl) rfl #[.string (t276 ++ a2)] rfl (by (try simp only [List.map_toArray, List.map_cons, List.map_nil]); first | done | rfl | (simp only [List.length_drop, List.length_take]; rfl)) ?_; (with_reducible refine (chunk_Decode.calls kj6 (t276 ++ a2) t278 t279 t280 _ ?side1 A14.out).mono ?_); (case side1 => exact Glob.below hGA.out (by repeat (first | (with_reducible first | exact HB.out | apply below_alloc | apply pw_below_drewN | apply below_drew1) | exact HB.out))); rintro e w36 ⟨rfl, hb⟩; refine ⟨_, rfl, ?_⟩; have n0_ := Aside0.mk (below_step (by repeat (first | (with_reducible first | exact HB.out | apply below_alloc | apply pw_below_drewN | apply below_drew1) | exact HB.out)) hb); clear HB; have HB := n0_; clear n0_; (try clear hb); (try clear hb2); (try clear hk); (try clear hi)) | ((with_reducible refine gate_callee (f := 7) rfl ?_); refine goesL_ (some 66) rfl rfl Tryd.func7 (by kernel_rfl) rfl #[.string (t276.extract 0 ((ji17) : Int).toNat)] rfl (by (try simp only [List.map_toArray, List.map_cons, List.map_nil]); first | done | (simp only [hji17]; rfl) | rfl | (simp only [List.length_drop, List.length_take]; rfl)) ?_; (with_reducible refine (chunk_Decode.calls kj6 (t276.extract 0 ((ji17) : Int).toNat) t281 t282 t283 _ ?side1 A20.out).mono ?_); (case side1 => exact Glob.below hGA.out (by repeat (first | (with_reducible first | exact HB.out | apply below_alloc | apply pw_below_drewN | apply below_drew1) | exact HB.out))); rintro e w37 ⟨rfl, hb⟩; refine ⟨_, rfl, ?_⟩; have n0_ := Aside0.mk (below_step (by repeat (first | (with_reducible first | exact HB.out | apply below_alloc | apply pw_below_drewN | apply below_drew1) | exact HB.out)) hb); clear HB; have HB := n0_; clear n0_; (try clear hb); (try clear hb2); (try clear hk); (try clear hi)))
                          go_ret
                          exact ⟨by first | rfl | (simp [errW_none, errW_some, bne_nil_] <;> rfl) | (simp only [← hji15, ← hji17]; first | rfl | (simp [errW_none, errW_some, bne_nil_] <;> rfl)) | (simp [*, errW_none, errW_some] <;> rfl), by repeat (first | (with_reducible first | exact HB.out | apply below_alloc | apply pw_below_drewN | apply below_drew1) | exact HB.out)⟩
                      · rw [if_neg c22] at H
                        have c22b0 : (t278.toList == a0.toList) = false := beq_eq_false_iff_ne.mpr c22
                        have c22b1 : (t278.toList != a0.toList) = true := bne_iff_ne.mpr c22
                        obtain rfl := Option.some.inj H
                        go_wp2_with (first | ((with_reducible refine gate_callee (f := 9) rfl ?_); refine goesL_ (some 34) rfl rfl Tryd.func9 (by kernel_rfl) rfl #[.string a0, .int .i64 a1] rfl (by (try simp only [List.map_toArray, List.map_cons, List.map_nil]); first | done | rfl | (simp only [List.length_drop, List.length_take]; rfl)) ?_; (with_reducible refine (chunk_Encode.calls kj6 a0 a1 t276 t277 _ ?side1 A11.out).mono ?_); (case side1 => exact Glob.below hGA.out (by repeat (first | (with_reducible first | exact HB.out | apply below_alloc | apply pw_below_drewN | apply below_drew1) | exact HB.out))); rintro e w38 ⟨rfl, hb⟩; refine ⟨_, rfl, ?_⟩; have n0_ := Aside0.mk (below_step (by repeat (first | (with_reducible first | exact HB.out | apply below_alloc | apply pw_below_drewN | apply below_drew1) | exact HB.out)) hb); clear HB; have HB := n0_; clear n0_; (try clear hb); (try clear hb2); (try clear hk); (try clear hi)) | ((with_reducible refine gate_callee (f := 7) rfl ?_); refine goesL_ (some 52) rfl rfl Tryd.func7 (by kernel_rfl) rfl #[.string (t276 ++ a2)] rfl (by (try simp only [List.map_toArray, List.map_cons, List.map_nil]); first | done | rfl | (simp only [List.length_drop, List.length_take]; rfl)) ?_; (with_reducible refine (chunk_Decode.calls kj6 (t276 ++ a2) t278 t279 t280 _ ?side1 A14.out).mono ?_); (case side1 => exact Glob.below hGA.out (by repeat (first | (with_reducible first | exact HB.out | apply below_alloc | apply pw_below_drewN | apply below_drew1) | exact HB.out))); rintro e w39 ⟨rfl, hb⟩; refine ⟨_, rfl, ?_⟩; have n0_ := Aside0.mk (below_step (by repeat (first | (with_reducible first | exact HB.out | apply below_alloc | apply pw_below_drewN | apply below_drew1) | exact HB.out)) hb); clear HB; have HB := n0_; clear n0_; (try clear hb); (try clear hb2); (try clear hk); (try clear hi)) | ((with_reducible refine gate_callee (f := 7) rfl ?_); refine goesL_ (some 66) rfl rfl Tryd.func7 (by kernel_rfl) rfl #[.string (t276.extract 0 ((ji17) : Int).toNat)] rfl (by (try simp only [List.map_toArray, List.map_cons, List.map_nil]); first | done | (simp only [hji17]; rfl) | rfl | (simp only [List.length_drop, List.length_take]; rfl)) ?_; (with_reducible refine (chunk_Decode.calls kj6 (t276.extract 0 ((ji17) : Int).toNat) t281 t282 t283 _ ?side1 A20.out).mono ?_); (case side1 => exact Glob.below hGA.out (by repeat (first | (with_reducible first | exact HB.out | apply below_alloc | apply pw_below_drewN | apply below_drew1) | exact HB.out))); rintro e w40 ⟨rfl, hb⟩; refine ⟨_, rfl, ?_⟩; have n0_ := Aside0.mk (below_step (by repeat (first | (with_reducible first | exact HB.out | apply below_alloc | apply pw_below_drewN | apply below_drew1) | exact HB.out)) hb); clear HB; have HB := n0_; clear n0_; (try clear hb); (try clear hb2); (try clear hk); (try clear hi)))
                        go_ret
                        exact ⟨by first | rfl | (simp [errW_none, errW_some, bne_nil_] <;> rfl) | (simp only [← hji15, ← hji17]; first | rfl | (simp [errW_none, errW_some, bne_nil_] <;> rfl)) | (simp [*, errW_none, errW_some] <;> rfl), by repeat (first | (with_reducible first | exact HB.out | apply below_alloc | apply pw_below_drewN | apply below_drew1) | exact HB.out)⟩
                    · rw [if_neg c21] at H
                      have c21b0 : (t280 == 0) = false := beq_eq_false_iff_ne.mpr c21
                      have c21b1 : (t280 != 0) = true := bne_iff_ne.mpr c21
                      obtain rfl := Option.some.inj H
                      go_wp2_with (first | ((with_reducible refine gate_callee (f := 9) rfl ?_); refine goesL_ (some 34) rfl rfl Tryd.func9 (by kernel_rfl) rfl #[.string a0, .int .i64 a1] rfl (by (try simp only [List.map_toArray, List.map_cons, List.map_nil]); first | done | rfl | (simp only [List.length_drop, List.length_take]; rfl)) ?_; (with_reducible refine (chunk_Encode.calls kj6 a0 a1 t276 t277 _ ?side1 A11.out).mono ?_); (case side1 => exact Glob.below hGA.out (by repeat (first | (with_reducible first | exact HB.out | apply below_alloc | apply pw_below_drewN | apply below_drew1) | exact HB.out))); rintro e w41 ⟨rfl, hb⟩; refine ⟨_, rfl, ?_⟩; have n0_ := Aside0.mk (below_step (by repeat (first | (with_reducible first | exact HB.out | apply below_alloc | apply pw_below_drewN | apply below_drew1) | exact HB.out)) hb); clear HB; have HB := n0_; clear n0_; (try clear hb); (try clear hb2); (try clear hk); (try clear hi)) | ((with_reducible refine gate_callee (f := 7) rfl ?_); refine goesL_ (some 52) rfl rfl Tryd.func7 (by kernel_rfl) rfl #[.string (t276 ++ a2)] rfl (by (try simp only [List.map_toArray, List.map_cons, List.map_nil]); first | done | rfl | (simp only [List.length_drop, List.length_take]; rfl)) ?_; (with_reducible refine (chunk_Decode.calls kj6 (t276 ++ a2) t278 t279 t280 _ ?side1 A14.out).mono ?_); (case side1 => exact Glob.below hGA.out (by repeat (first | (with_reducible first | exact HB.out | apply below_alloc | apply pw_below_drewN | apply below_drew1) | exact HB.out))); rintro e w42 ⟨rfl, hb⟩; refine ⟨_, rfl, ?_⟩; have n0_ := Aside0.mk (below_step (by repeat (first | (with_reducible first | exact HB.out | apply below_alloc | apply pw_below_drewN | apply below_drew1) | exact HB.out)) hb); clear HB; have HB := n0_; clear n0_; (try clear hb); (try clear hb2); (try clear hk); (try clear hi)) | ((with_reducible refine gate_callee (f := 7) rfl ?_); refine goesL_ (some 66) rfl rfl Tryd.func7 (by kernel_rfl) rfl #[.string (t276.extract 0 ((ji17) : Int).toNat)] rfl (by (try simp only [List.map_toArray, List.map_cons, List.map_nil]); first | done | (simp only [hji17]; rfl) | rfl | (simp only [List.length_drop, List.length_take]; rfl)) ?_; (with_reducible refine (chunk_Decode.calls kj6 (t276.extract 0 ((ji17) : Int).toNat) t281 t282 t283 _ ?side1 A20.out).mono ?_); (case side1 => exact Glob.below hGA.out (by repeat (first | (with_reducible first | exact HB.out | apply below_alloc | apply pw_below_drewN | apply below_drew1) | exact HB.out))); rintro e w43 ⟨rfl, hb⟩; refine ⟨_, rfl, ?_⟩; have n0_ := Aside0.mk (below_step (by repeat (first | (with_reducible first | exact HB.out | apply below_alloc | apply pw_below_drewN | apply below_drew1) | exact HB.out)) hb); clear HB; have HB := n0_; clear n0_; (try clear hb); (try clear hb2); (try clear hk); (try clear hi)))
                      go_ret
                      exact ⟨by first | rfl | (simp [errW_none, errW_some, bne_nil_] <;> rfl) | (simp only [← hji15, ← hji17]; first | rfl | (simp [errW_none, errW_some, bne_nil_] <;> rfl)) | (simp [*, errW_none, errW_some] <;> rfl), by repeat (first | (with_reducible first | exact HB.out | apply below_alloc | apply pw_below_drewN | apply below_drew1) | exact HB.out)⟩
                  · rw [if_neg c19] at H
                    exact absurd H (by simp)
                · rw [if_neg c18] at H
                  exact absurd H (by simp)
            · rw [if_neg c13] at H
              exact absurd H (by simp)
          · rw [if_neg c12] at H
            have c12b0 : (t277 == 0) = false := beq_eq_false_iff_ne.mpr c12
            have c12b1 : (t277 != 0) = true := bne_iff_ne.mpr c12
            have H1 : (if a1 < 1 then (some (t276.toList == ([] : List UInt8))) else (some false)) = some r := by rw [if_pos rfl] at H; exact H
            clear H
            have H := H1
            clear H1
            by_cases c44 : a1 < 1
            · rw [if_pos c44] at H
              have c44b0 : decide (a1 < 1) = true := decide_eq_true c44
              clear c44
              obtain rfl := Option.some.inj H
              go_wp2_with (first | ((with_reducible refine gate_callee (f := 9) rfl ?_); refine goesL_ (some 34) rfl rfl Tryd.func9 (by kernel_rfl) rfl #[.string a0, .int .i64 a1] rfl (by (try simp only [List.map_toArray, List.map_cons, List.map_nil]); first | done | rfl | (simp only [List.length_drop, List.length_take]; rfl)) ?_; (with_reducible refine (chunk_Encode.calls kj6 a0 a1 t276 t277 _ ?side1 A11.out).mono ?_); (case side1 => exact Glob.below hGA.out (by repeat (first | (with_reducible first | exact HB.out | apply below_alloc | apply pw_below_drewN | apply below_drew1) | exact HB.out))); rintro e w45 ⟨rfl, hb⟩; refine ⟨_, rfl, ?_⟩; have n0_ := Aside0.mk (below_step (by repeat (first | (with_reducible first | exact HB.out | apply below_alloc | apply pw_below_drewN | apply below_drew1) | exact HB.out)) hb); clear HB; have HB := n0_; clear n0_; (try clear hb); (try clear hb2); (try clear hk); (try clear hi)))
              go_ret
              exact ⟨by first | rfl | (simp [errW_none, errW_some, bne_nil_] <;> rfl) | (simp [*, errW_none, errW_some] <;> rfl), by repeat (first | (with_reducible first | exact HB.out | apply below_alloc | apply pw_below_drewN | apply below_drew1) | exact HB.out)⟩
            · rw [if_neg c44] at H
              have c44b0 : decide (a1 < 1) = false := decide_eq_false c44
              clear c44
              obtain rfl := Option.some.inj H
              go_wp2_with (first | ((with_reducible refine gate_callee (f := 9) rfl ?_); refine goesL_ (some 34) rfl rfl Tryd.func9 (by kernel_rfl) rfl #[.string a0, .int .i64 a1] rfl (by (try simp only [List.map_toArray, List.map_cons, List.map_nil]); first | done | rfl | (simp only [List.length_drop, List.length_take]; rfl)) ?_; (with_reducible refine (chunk_Encode.calls kj6 a0 a1 t276 t277 _ ?side1 A11.out).mono ?_); (case side1 => exact Glob.below hGA.out (by repeat (first | (with_reducible first | exact HB.out | apply below_alloc | apply pw_below_drewN | apply below_drew1) | exact HB.out))); rintro e w46 ⟨rfl, hb⟩; refine ⟨_, rfl, ?_⟩; have n0_ := Aside0.mk (below_step (by repeat (first | (with_reducible first | exact HB.out | apply below_alloc | apply pw_below_drewN | apply below_drew1) | exact HB.out)) hb); clear HB; have HB := n0_; clear n0_; (try clear hb); (try clear hb2); (try clear hk); (try clear hi)))
              go_ret
              exact ⟨by first | rfl | (simp [errW_none, errW_some, bne_nil_] <;> rfl) | (simp [*, errW_none, errW_some] <;> rfl), by repeat (first | (with_reducible first | exact HB.out | apply below_alloc | apply pw_below_drewN | apply below_drew1) | exact HB.out)⟩
  · replace c6 := Bool.eq_false_iff.mpr c6
    subst c6
    have H1 : (some false) = some r := by rw [if_neg (show ¬ (false = true) by decide)] at H; exact H
    clear H
    have H := H1
    clear H1
    obtain rfl := Option.some.inj H
    go_enter Tryd.func5, Tryd.ntmps5
    go_wp2_with (first | ((with_reducible refine gate_callee (f := 6) rfl ?_); refine goesL_ (some 19) rfl rfl Tryd.func6 (by kernel_rfl) rfl #[] rfl (by (try simp only [List.map_toArray, List.map_cons, List.map_nil]); first | done | rfl | (simp only [List.length_drop, List.length_take]; rfl)) ?_; (with_reducible refine (broadsheetlaw19_awake.calls k  false _ ?side1 A5.out).mono ?_); (case side1 => exact Glob.below hGA.out (by repeat (first | (with_reducible first | exact HB.out | apply below_alloc | apply pw_below_drewN | apply below_drew1) | exact HB.out))); rintro e w47 ⟨rfl, hb⟩; refine ⟨_, rfl, ?_⟩; have n0_ := Aside0.mk (below_step (by repeat (first | (with_reducible first | exact HB.out | apply below_alloc | apply pw_below_drewN | apply below_drew1) | exact HB.out)) hb); clear HB; have HB := n0_; clear n0_; (try clear hb); (try clear hb2); (try clear hk); (try clear hi)))
    go_ret
    exact ⟨by first | rfl | (simp [errW_none, errW_some, bne_nil_] <;> rfl) | (simp [*, errW_none, errW_some] <;> rfl), by repeat (first | (with_reducible first | exact HB.out | apply below_alloc | apply pw_below_drewN | apply below_drew1) | exact HB.out)⟩

/-- THE ONE PURE STATEMENT of broadsheetlaw19_ChunkBack: yours. -/
def broadsheetlaw19_ChunkBack.Pure : Prop := ∀ (a0 : ByteArray) (a1 : Int) (a2 : ByteArray) (a3 : Int), a0.size ≤ 140737488351232 → (Lit.int .i64 a1).wf = true → a2.size ≤ 140737488351232 → (Lit.int .u16 a3).wf = true → ∃ k, broadsheetlaw19_ChunkBack.f k a0 a1 a2 a3 = some true
theorem broadsheetlaw19_ChunkBack.walk (P : broadsheetlaw19_ChunkBack.Pure) (a0 : ByteArray) (a1 : Int) (a2 : ByteArray) (a3 : Int) (w : World) (hG : Glob w) (w0 : a0.size ≤ 140737488351232) (w1 : (Lit.int .i64 a1).wf = true) (w2 : a2.size ≤ 140737488351232) (w3 : (Lit.int .u16 a3).wf = true) :
    Calls Tryd.prog 5 #[.string a0, .int .i64 a1, .string a2, .int .u16 a3] w fun e w' => e = .returned (.bool true) ∧ Below w.heap.size w w' := by
  obtain ⟨k, h⟩ := P a0 a1 a2 a3 w0 w1 w2 w3
  refine (broadsheetlaw19_ChunkBack.calls k a0 a1 a2 a3 true w hG h).mono ?_
  rintro e w' ⟨rfl, hd⟩
  exact ⟨rfl, hd⟩

end Go.Proofs.YteonhdfjfjpbjaaDoor.P

/- SpBack -/
namespace Go.Proofs.YteonhdfjfjpbjaaDoor.Sp
open Go Go.RowKit Go.Proofs.YteonhdfjfjpbjaaDoorW.PrintWords Go.Proofs.YteonhdfjfjpbjaaDoorW.PrintLast Go.Proofs.YteonhdfjfjpbjaaDoor.O Go.Proofs.YteonhdfjfjpbjaaDoor.P
set_option linter.unusedVariables false
theorem back_all (s : ByteArray) (n : Int) (behind : ByteArray) (cut : Int) (hc0 : 0 ≤ cut) (hc1 : cut ≤ 65535) : ∃ k, broadsheetlaw19_ChunkBack.f k s n behind cut = some true := by
  refine ⟨10000000, ?_⟩
  rw [← mk_self s, ← mk_self behind]
  generalize s.data.toList = l
  generalize behind.data.toList = b
  unfold broadsheetlaw19_ChunkBack.f
  rw [awake19 _ (by omega), mk_size, mk_size]
  simp only [Option.bind_some, if_true]
  have hout : broadsheetlaw19_ChunkBack.j0 10000000 (mk l) n (mk b) cut true true = some true := by
    rw [broadsheetlaw19_ChunkBack.j0, if_pos rfl]
  by_cases h : (l.length : Int) > 3000
  · rw [if_pos h, hout]
  rw [if_neg h]
  by_cases hb : (b.length : Int) > 1000
  · rw [decide_eq_true hb, hout]
  rw [decide_eq_false hb, broadsheetlaw19_ChunkBack.j0, if_neg (by decide), encodeF l n _ (by omega)]
  simp only [Option.bind_some, if_true]
  by_cases h1 : n < 1
  · have eR : encR l n = ([], 1) := by unfold encR; rw [if_pos h1]
    rw [eR, if_neg (by decide), if_pos h1, tl_mk]
    rfl
  have eR : encR l n = (enc l n.toNat, 0) := by unfold encR; rw [if_neg h1, if_neg (by omega)]
  rw [eR]
  simp only [if_true]
  have hn : 1 ≤ n.toNat := by omega
  obtain ⟨g1, g2, g3⟩ := enc_len l n.toNat hn (by omega)
  have hmx : mx 1 (((mk (enc l n.toNat)).size : Nat) : Int) = (((enc l n.toNat).length : Nat) : Int) := by rw [mk_size]; unfold mx; omega
  have hm : Int.tmod (wrap64 cut) (((enc l n.toNat).length : Nat) : Int) = ((cut.toNat % (enc l n.toNat).length : Nat) : Int) := by
    rw [wrap_id (by omega) (by omega), Int.tmod_eq_emod_of_nonneg hc0]
    obtain ⟨c, rfl⟩ := Int.eq_ofNat_of_zero_le hc0
    first | rfl | simp
  have hlt : cut.toNat % (enc l n.toNat).length < (enc l n.toNat).length := Nat.mod_lt _ (by omega)
  have hle : (mk (enc l n.toNat)).size + (mk b).size ≤ 9223372036854775807 := by rw [mk_size, mk_size]; omega
  rw [if_pos hle, mk_append, decodeF _ _ (by rw [List.length_append]; omega) (by rw [List.length_append]; omega), dec_enc l b n.toNat hn (by omega)]
  simp only [Option.bind_some]
  rw [hmx, if_neg (by omega), hm, if_pos (by omega), if_pos (by rw [mk_size]; omega)]
  simp only [Int.toNat_natCast, ext_to]
  rw [decodeF _ _ (by rw [List.length_take]; omega) (by rw [List.length_take]; omega), dec_cut l n.toNat _ hn (by omega) hlt]
  simp only [Option.bind_some, txt3, tl_mk]
  simp
theorem wf_u16 {x : Int} (h : (Lit.int .u16 x).wf = true) : 0 ≤ x ∧ x ≤ 65535 := by
  have h' : IntKind.u16.min ≤ x ∧ x ≤ IntKind.u16.max := by simpa [Lit.wf] using h
  rw [show IntKind.u16.min = 0 from by decide, show IntKind.u16.max = 65535 from by decide] at h'
  omega
theorem back_u16 (s : ByteArray) (n : Int) (behind : ByteArray) (cut : Int) (h : (Lit.int .u16 cut).wf = true) : ∃ k, broadsheetlaw19_ChunkBack.f k s n behind cut = some true := back_all s n behind cut (wf_u16 h).1 (wf_u16 h).2
end Go.Proofs.YteonhdfjfjpbjaaDoor.Sp
